import PyProof.Rows.All
import Wide.All
import OpenK.AllK
import Wide.FinOn
import KE.KStateDown
import HandS.ForMost
import HandS.ForExc
import HandS.More
import HandS.Flow
import HandS.Deep
import HandS.Zip
import HandS.Sort
import HandS.SortRule
import HandS.SortInts
import HandS.SortOrd
import HandS.TupAny
import HandS.TupMul
import HandS.SetKeys
import HandS.ListItems
import HandS.SetFor
import HandS.IsInst
import HandS.Defaults
import HandS.Walk
import HandS.Head0
import HandS.Head1
import HandS.Head2
import HandS.HeadEnd
import HandS.HeadHook1
import HandS.HeadHook2
import HandS.Evl
import PySem.Challenge.RW_farshelf_k81_whole_mended_whatever
import KE.KDictList
import KE.KDictSum
import KE.KItemsList
import KE.SortData
import KE.KDictWalk
import HandS.DictTup
set_option Elab.async false
set_option linter.all false
set_option maxRecDepth 100000
set_option maxHeartbeats 4000000
namespace K81
open PySem PySem.Spec PyProof.Rows L2
/-! ### the text by places -/
def top (i : Nat) : Stmt := PySem.Challenge.pw_farshelf_k81_whole_mended_whatever.main.body.getD i (.Pass ⟨0, 0, 0, 0⟩)
abbrev s_is_name : Stmt := top 10
abbrev s_is_content : Stmt := top 11
abbrev s_names_of : Stmt := top 12
abbrev s_clash_name : Stmt := top 13
abbrev s_Shelf_init : Stmt := inClass (top 17) 0
abbrev s_Shelf_new_number : Stmt := inClass (top 17) 1
abbrev s_Shelf_is_node : Stmt := inClass (top 17) 2
abbrev s_Shelf_entry : Stmt := inClass (top 17) 3
abbrev s_Shelf_put_entry : Stmt := inClass (top 17) 4
abbrev s_Shelf_take_entry : Stmt := inClass (top 17) 5
abbrev s_Shelf_has_name : Stmt := inClass (top 17) 6
abbrev s_rows_of : Stmt := top 18
abbrev s_node_at : Stmt := top 19
abbrev s_paths_of : Stmt := top 20
abbrev s_nodes_fault : Stmt := top 21
abbrev s_is_beneath : Stmt := top 22
abbrev s_new_fault : Stmt := top 23
abbrev s_drop_fault : Stmt := top 24
abbrev s_move_fault : Stmt := top 25
abbrev s_put_fault : Stmt := top 26
abbrev s_fault_of : Stmt := top 27
abbrev s_made : Stmt := top 28
abbrev s_dropped : Stmt := top 29
abbrev s_put_into : Stmt := top 30
abbrev s_done : Stmt := top 31
abbrev s_twice_in : Stmt := top 36
abbrev s_Looking_init : Stmt := inClass (top 37) 0
abbrev s_Looking_has_root : Stmt := inClass (top 37) 1
abbrev s_Looking_is_misnamed : Stmt := inClass (top 37) 4
abbrev s_Looking_is_loose : Stmt := inClass (top 37) 5
abbrev s_Looking_first_same : Stmt := inClass (top 37) 8
abbrev s_Looking_first_blind : Stmt := inClass (top 37) 9
abbrev s_Looking_first_entry : Stmt := inClass (top 37) 10
abbrev s_ring_above : Stmt := top 38
abbrev s_a_ring : Stmt := top 39
abbrev s_fault_in : Stmt := top 40
abbrev s_looked : Stmt := top 41
abbrev s_shelf_of : Stmt := top 42
abbrev s_Mending_init : Stmt := inClass (top 45) 0
abbrev s_Mending_leads_now : Stmt := inClass (top 45) 1
abbrev s_Mending_leave_out : Stmt := inClass (top 45) 2
abbrev s_Mending_put_in : Stmt := inClass (top 45) 3
abbrev s_Mending_drop_blind : Stmt := inClass (top 45) 4
abbrev s_Mending_drop_more : Stmt := inClass (top 45) 5
abbrev s_Mending_put_lost : Stmt := inClass (top 45) 6
abbrev s_Mending_parents_now : Stmt := inClass (top 45) 7
abbrev s_Mending_open_rings : Stmt := inClass (top 45) 8
abbrev s_Mending_as_rows : Stmt := inClass (top 45) 9
abbrev s_mended : Stmt := top 46
abbrev s_l_mix : Stmt := top 48
abbrev s_l_left : Stmt := top 49
abbrev s_l_pick : Stmt := top 50
abbrev s_l_content : Stmt := top 51
abbrev s_l_number : Stmt := top 52
abbrev s_l_shuffled : Stmt := top 53
abbrev s_l_folders : Stmt := top 54
abbrev s_l_entries : Stmt := top 55
abbrev s_l_below : Stmt := top 56
abbrev s_l_first : Stmt := top 57
abbrev s_l_same : Stmt := top 58
abbrev s_l_beyond : Stmt := top 59
abbrev s_l_wild : Stmt := top 60
abbrev s_l_nodes : Stmt := top 61
abbrev s_l_deed : Stmt := top 62
abbrev s_l_right : Stmt := top 63
abbrev s_law : Stmt := top 64
def d_is_name : He.DefD := ⟨("is_name", none), "is_name", "is_name", defArgs s_is_name, defBody s_is_name, defScope s_is_name, [], []⟩
def d_is_content : He.DefD := ⟨("is_content", none), "is_content", "is_content", defArgs s_is_content, defBody s_is_content, defScope s_is_content, [], []⟩
def d_names_of : He.DefD := ⟨("names_of", none), "names_of", "names_of", defArgs s_names_of, defBody s_names_of, defScope s_names_of, [], []⟩
def d_clash_name : He.DefD := ⟨("clash_name", none), "clash_name", "clash_name", defArgs s_clash_name, defBody s_clash_name, defScope s_clash_name, [], []⟩
def d_Shelf_init : He.DefD := ⟨("Shelf", some "__init__"), "__init__", "Shelf.__init__", defArgs s_Shelf_init, defBody s_Shelf_init, defScope s_Shelf_init, [], []⟩
def d_Shelf_new_number : He.DefD := ⟨("Shelf", some "new_number"), "new_number", "Shelf.new_number", defArgs s_Shelf_new_number, defBody s_Shelf_new_number, defScope s_Shelf_new_number, [], []⟩
def d_Shelf_is_node : He.DefD := ⟨("Shelf", some "is_node"), "is_node", "Shelf.is_node", defArgs s_Shelf_is_node, defBody s_Shelf_is_node, defScope s_Shelf_is_node, [], []⟩
def d_Shelf_entry : He.DefD := ⟨("Shelf", some "entry"), "entry", "Shelf.entry", defArgs s_Shelf_entry, defBody s_Shelf_entry, defScope s_Shelf_entry, [], []⟩
def d_Shelf_put_entry : He.DefD := ⟨("Shelf", some "put_entry"), "put_entry", "Shelf.put_entry", defArgs s_Shelf_put_entry, defBody s_Shelf_put_entry, defScope s_Shelf_put_entry, [], []⟩
def d_Shelf_take_entry : He.DefD := ⟨("Shelf", some "take_entry"), "take_entry", "Shelf.take_entry", defArgs s_Shelf_take_entry, defBody s_Shelf_take_entry, defScope s_Shelf_take_entry, [], []⟩
def d_Shelf_has_name : He.DefD := ⟨("Shelf", some "has_name"), "has_name", "Shelf.has_name", defArgs s_Shelf_has_name, defBody s_Shelf_has_name, defScope s_Shelf_has_name, [], []⟩
def d_rows_of : He.DefD := ⟨("rows_of", none), "rows_of", "rows_of", defArgs s_rows_of, defBody s_rows_of, defScope s_rows_of, [], []⟩
def d_node_at : He.DefD := ⟨("node_at", none), "node_at", "node_at", defArgs s_node_at, defBody s_node_at, defScope s_node_at, [], []⟩
def d_paths_of : He.DefD := ⟨("paths_of", none), "paths_of", "paths_of", defArgs s_paths_of, defBody s_paths_of, defScope s_paths_of, [], []⟩
def d_nodes_fault : He.DefD := ⟨("nodes_fault", none), "nodes_fault", "nodes_fault", defArgs s_nodes_fault, defBody s_nodes_fault, defScope s_nodes_fault, [], []⟩
def d_is_beneath : He.DefD := ⟨("is_beneath", none), "is_beneath", "is_beneath", defArgs s_is_beneath, defBody s_is_beneath, defScope s_is_beneath, [], []⟩
def d_new_fault : He.DefD := ⟨("new_fault", none), "new_fault", "new_fault", defArgs s_new_fault, defBody s_new_fault, defScope s_new_fault, [], []⟩
def d_drop_fault : He.DefD := ⟨("drop_fault", none), "drop_fault", "drop_fault", defArgs s_drop_fault, defBody s_drop_fault, defScope s_drop_fault, [], []⟩
def d_move_fault : He.DefD := ⟨("move_fault", none), "move_fault", "move_fault", defArgs s_move_fault, defBody s_move_fault, defScope s_move_fault, [], []⟩
def d_put_fault : He.DefD := ⟨("put_fault", none), "put_fault", "put_fault", defArgs s_put_fault, defBody s_put_fault, defScope s_put_fault, [], []⟩
def d_fault_of : He.DefD := ⟨("fault_of", none), "fault_of", "fault_of", defArgs s_fault_of, defBody s_fault_of, defScope s_fault_of, [], []⟩
def d_made : He.DefD := ⟨("made", none), "made", "made", defArgs s_made, defBody s_made, defScope s_made, [], []⟩
def d_dropped : He.DefD := ⟨("dropped", none), "dropped", "dropped", defArgs s_dropped, defBody s_dropped, defScope s_dropped, [], []⟩
def d_put_into : He.DefD := ⟨("put_into", none), "put_into", "put_into", defArgs s_put_into, defBody s_put_into, defScope s_put_into, [], []⟩
def d_done : He.DefD := ⟨("done", none), "done", "done", defArgs s_done, defBody s_done, defScope s_done, [], []⟩
def d_twice_in : He.DefD := ⟨("twice_in", none), "twice_in", "twice_in", defArgs s_twice_in, defBody s_twice_in, defScope s_twice_in, [], []⟩
def d_Looking_init : He.DefD := ⟨("Looking", some "__init__"), "__init__", "Looking.__init__", defArgs s_Looking_init, defBody s_Looking_init, defScope s_Looking_init, [], []⟩
def d_Looking_has_root : He.DefD := ⟨("Looking", some "has_root"), "has_root", "Looking.has_root", defArgs s_Looking_has_root, defBody s_Looking_has_root, defScope s_Looking_has_root, [], []⟩
def d_Looking_is_misnamed : He.DefD := ⟨("Looking", some "is_misnamed"), "is_misnamed", "Looking.is_misnamed", defArgs s_Looking_is_misnamed, defBody s_Looking_is_misnamed, defScope s_Looking_is_misnamed, [], []⟩
def d_Looking_is_loose : He.DefD := ⟨("Looking", some "is_loose"), "is_loose", "Looking.is_loose", defArgs s_Looking_is_loose, defBody s_Looking_is_loose, defScope s_Looking_is_loose, [], []⟩
def d_Looking_first_same : He.DefD := ⟨("Looking", some "first_same"), "first_same", "Looking.first_same", defArgs s_Looking_first_same, defBody s_Looking_first_same, defScope s_Looking_first_same, [], []⟩
def d_Looking_first_blind : He.DefD := ⟨("Looking", some "first_blind"), "first_blind", "Looking.first_blind", defArgs s_Looking_first_blind, defBody s_Looking_first_blind, defScope s_Looking_first_blind, [], []⟩
def d_Looking_first_entry : He.DefD := ⟨("Looking", some "first_entry"), "first_entry", "Looking.first_entry", defArgs s_Looking_first_entry, defBody s_Looking_first_entry, defScope s_Looking_first_entry, [], []⟩
def d_ring_above : He.DefD := ⟨("ring_above", none), "ring_above", "ring_above", defArgs s_ring_above, defBody s_ring_above, defScope s_ring_above, [], []⟩
def d_a_ring : He.DefD := ⟨("a_ring", none), "a_ring", "a_ring", defArgs s_a_ring, defBody s_a_ring, defScope s_a_ring, [], []⟩
def d_fault_in : He.DefD := ⟨("fault_in", none), "fault_in", "fault_in", defArgs s_fault_in, defBody s_fault_in, defScope s_fault_in, [], []⟩
def d_looked : He.DefD := ⟨("looked", none), "looked", "looked", defArgs s_looked, defBody s_looked, defScope s_looked, [], []⟩
def d_shelf_of : He.DefD := ⟨("shelf_of", none), "shelf_of", "shelf_of", defArgs s_shelf_of, defBody s_shelf_of, defScope s_shelf_of, [], []⟩
def d_Mending_init : He.DefD := ⟨("Mending", some "__init__"), "__init__", "Mending.__init__", defArgs s_Mending_init, defBody s_Mending_init, defScope s_Mending_init, [], []⟩
def d_Mending_leads_now : He.DefD := ⟨("Mending", some "leads_now"), "leads_now", "Mending.leads_now", defArgs s_Mending_leads_now, defBody s_Mending_leads_now, defScope s_Mending_leads_now, [], []⟩
def d_Mending_leave_out : He.DefD := ⟨("Mending", some "leave_out"), "leave_out", "Mending.leave_out", defArgs s_Mending_leave_out, defBody s_Mending_leave_out, defScope s_Mending_leave_out, [], []⟩
def d_Mending_put_in : He.DefD := ⟨("Mending", some "put_in"), "put_in", "Mending.put_in", defArgs s_Mending_put_in, defBody s_Mending_put_in, defScope s_Mending_put_in, [], []⟩
def d_Mending_drop_blind : He.DefD := ⟨("Mending", some "drop_blind"), "drop_blind", "Mending.drop_blind", defArgs s_Mending_drop_blind, defBody s_Mending_drop_blind, defScope s_Mending_drop_blind, [], []⟩
def d_Mending_drop_more : He.DefD := ⟨("Mending", some "drop_more"), "drop_more", "Mending.drop_more", defArgs s_Mending_drop_more, defBody s_Mending_drop_more, defScope s_Mending_drop_more, [], []⟩
def d_Mending_put_lost : He.DefD := ⟨("Mending", some "put_lost"), "put_lost", "Mending.put_lost", defArgs s_Mending_put_lost, defBody s_Mending_put_lost, defScope s_Mending_put_lost, [], []⟩
def d_Mending_parents_now : He.DefD := ⟨("Mending", some "parents_now"), "parents_now", "Mending.parents_now", defArgs s_Mending_parents_now, defBody s_Mending_parents_now, defScope s_Mending_parents_now, [], []⟩
def d_Mending_open_rings : He.DefD := ⟨("Mending", some "open_rings"), "open_rings", "Mending.open_rings", defArgs s_Mending_open_rings, defBody s_Mending_open_rings, defScope s_Mending_open_rings, [], []⟩
def d_Mending_as_rows : He.DefD := ⟨("Mending", some "as_rows"), "as_rows", "Mending.as_rows", defArgs s_Mending_as_rows, defBody s_Mending_as_rows, defScope s_Mending_as_rows, [], []⟩
def d_mended : He.DefD := ⟨("mended", none), "mended", "mended", defArgs s_mended, defBody s_mended, defScope s_mended, [], []⟩
def d_l_mix : He.DefD := ⟨("_law_mix", none), "_law_mix", "_law_mix", defArgs s_l_mix, defBody s_l_mix, defScope s_l_mix, [], []⟩
def d_l_left : He.DefD := ⟨("_law_left", none), "_law_left", "_law_left", defArgs s_l_left, defBody s_l_left, defScope s_l_left, [], []⟩
def d_l_pick : He.DefD := ⟨("_law_pick", none), "_law_pick", "_law_pick", defArgs s_l_pick, defBody s_l_pick, defScope s_l_pick, [], []⟩
def d_l_content : He.DefD := ⟨("_law_content", none), "_law_content", "_law_content", defArgs s_l_content, defBody s_l_content, defScope s_l_content, [], []⟩
def d_l_number : He.DefD := ⟨("_law_number", none), "_law_number", "_law_number", defArgs s_l_number, defBody s_l_number, defScope s_l_number, [], []⟩
def d_l_shuffled : He.DefD := ⟨("_law_shuffled", none), "_law_shuffled", "_law_shuffled", defArgs s_l_shuffled, defBody s_l_shuffled, defScope s_l_shuffled, [], []⟩
def d_l_folders : He.DefD := ⟨("_law_folders", none), "_law_folders", "_law_folders", defArgs s_l_folders, defBody s_l_folders, defScope s_l_folders, [], []⟩
def d_l_entries : He.DefD := ⟨("_law_entries", none), "_law_entries", "_law_entries", defArgs s_l_entries, defBody s_l_entries, defScope s_l_entries, [], []⟩
def d_l_below : He.DefD := ⟨("_law_below", none), "_law_below", "_law_below", defArgs s_l_below, defBody s_l_below, defScope s_l_below, [], []⟩
def d_l_first : He.DefD := ⟨("_law_first", none), "_law_first", "_law_first", defArgs s_l_first, defBody s_l_first, defScope s_l_first, [], []⟩
def d_l_same : He.DefD := ⟨("_law_same", none), "_law_same", "_law_same", defArgs s_l_same, defBody s_l_same, defScope s_l_same, [], []⟩
def d_l_beyond : He.DefD := ⟨("_law_beyond", none), "_law_beyond", "_law_beyond", defArgs s_l_beyond, defBody s_l_beyond, defScope s_l_beyond, [], []⟩
def d_l_wild : He.DefD := ⟨("_law_wild", none), "_law_wild", "_law_wild", defArgs s_l_wild, defBody s_l_wild, defScope s_l_wild, [], []⟩
def d_l_nodes : He.DefD := ⟨("_law_nodes", none), "_law_nodes", "_law_nodes", defArgs s_l_nodes, defBody s_l_nodes, defScope s_l_nodes, [], []⟩
def d_l_deed : He.DefD := ⟨("_law_deed", none), "_law_deed", "_law_deed", defArgs s_l_deed, defBody s_l_deed, defScope s_l_deed, [], []⟩
def d_l_right : He.DefD := ⟨("_law_right", none), "_law_right", "_law_right", defArgs s_l_right, defBody s_l_right, defScope s_l_right, [], []⟩
def d_law : He.DefD := ⟨("law", none), "law", "law", defArgs s_law, defBody s_law, defScope s_law, [], []⟩
def fn0 : List He.DefD := [d_is_name,
  d_is_content,
  d_names_of,
  d_clash_name,
  d_Shelf_init,
  d_Shelf_new_number,
  d_Shelf_is_node,
  d_Shelf_entry,
  d_Shelf_put_entry,
  d_Shelf_take_entry,
  d_Shelf_has_name,
  d_rows_of,
  d_node_at,
  d_paths_of,
  d_nodes_fault,
  d_is_beneath,
  d_new_fault,
  d_drop_fault,
  d_move_fault,
  d_put_fault,
  d_fault_of,
  d_made,
  d_dropped,
  d_put_into,
  d_done,
  d_twice_in,
  d_Looking_init,
  d_Looking_has_root,
  d_Looking_is_misnamed,
  d_Looking_is_loose]
def fn1 : List He.DefD := [d_Looking_first_same,
  d_Looking_first_blind,
  d_Looking_first_entry,
  d_ring_above,
  d_a_ring,
  d_fault_in,
  d_looked,
  d_shelf_of,
  d_Mending_init,
  d_Mending_leads_now,
  d_Mending_leave_out,
  d_Mending_put_in,
  d_Mending_drop_blind,
  d_Mending_drop_more,
  d_Mending_put_lost,
  d_Mending_parents_now,
  d_Mending_open_rings,
  d_Mending_as_rows,
  d_mended,
  d_l_mix,
  d_l_left,
  d_l_pick,
  d_l_content,
  d_l_number,
  d_l_shuffled,
  d_l_folders,
  d_l_entries,
  d_l_below,
  d_l_first,
  d_l_same]
def fn2 : List He.DefD := [d_l_beyond,
  d_l_wild,
  d_l_nodes,
  d_l_deed,
  d_l_right,
  d_law]
def fn : List He.DefD := fn0 ++ fn1 ++ fn2
def fa0 : List He.Fa := [.glo "is_name",
  .glo "is_content",
  .glo "names_of",
  .glo "clash_name",
  .glo "rows_of",
  .glo "node_at",
  .glo "paths_of",
  .glo "nodes_fault",
  .glo "is_beneath",
  .glo "new_fault",
  .glo "drop_fault",
  .glo "move_fault",
  .glo "put_fault",
  .glo "fault_of",
  .glo "made",
  .glo "dropped",
  .glo "put_into",
  .glo "done",
  .glo "twice_in",
  .glo "ring_above",
  .glo "a_ring",
  .glo "fault_in",
  .glo "looked",
  .glo "shelf_of",
  .glo "mended",
  .glo "_law_mix",
  .glo "_law_left",
  .glo "_law_pick",
  .glo "_law_content",
  .glo "_law_number"]
def fa1 : List He.Fa := [.glo "_law_shuffled",
  .glo "_law_folders",
  .glo "_law_entries",
  .glo "_law_below",
  .glo "_law_first",
  .glo "_law_same",
  .glo "_law_beyond",
  .glo "_law_wild",
  .glo "_law_nodes",
  .glo "_law_deed",
  .glo "_law_right",
  .glo "law",
  .glo "Shelf",
  .glo "Looking",
  .glo "Mending",
  .glo "NoMend",
  .glo "CLASH_ENTRY",
  .glo "BEYOND_MENDING",
  .free "len",
  .free "sorted",
  .free "list",
  .free "dict",
  .free "tuple",
  .free "all",
  .free "any",
  .free "str",
  .free "zip",
  .free "range",
  .free "enumerate",
  .free "max"]
def fa2 : List He.Fa := [.free "min",
  .free "abs",
  .free "int",
  .free "isinstance",
  .free "bool",
  .int "MOST_SIGNS" 8,
  .int "MOST_CONTENT" 200,
  .int "ROOT_shelf" 0,
  .int "CLASH_shelf" 1,
  .int "ROOT_looker" 0,
  .int "CLASH_looker" 1,
  .str "LETTERS" "abcdefghijklmnopqrstuvwxyz",
  .str "SIGNS" "abcdefghijklmnopqrstuvwxyz0123456789",
  .cls "Shelf",
  .mkr "Shelf",
  .noat "Shelf" "folders",
  .noat "Shelf" "files",
  .noat "Shelf" "last",
  .meth "Shelf" "new_number",
  .meth "Shelf" "is_node",
  .meth "Shelf" "entry",
  .meth "Shelf" "put_entry",
  .meth "Shelf" "take_entry",
  .meth "Shelf" "has_name",
  .cls "Looking",
  .mkr "Looking",
  .noat "Looking" "entries",
  .noat "Looking" "files",
  .noat "Looking" "leading",
  .meth "Looking" "has_root"]
def fa3 : List He.Fa := [.meth "Looking" "is_misnamed",
  .meth "Looking" "is_loose",
  .meth "Looking" "first_same",
  .meth "Looking" "first_blind",
  .meth "Looking" "first_entry",
  .cls "Mending",
  .mkr "Mending",
  .noat "Mending" "folders",
  .noat "Mending" "files",
  .meth "Mending" "leads_now",
  .meth "Mending" "leave_out",
  .meth "Mending" "put_in",
  .meth "Mending" "drop_blind",
  .meth "Mending" "drop_more",
  .meth "Mending" "put_lost",
  .meth "Mending" "parents_now",
  .meth "Mending" "open_rings",
  .meth "Mending" "as_rows",
  .exc "NoMend",
  .exm "NoMend" "NoMend" true]
def fa : List He.Fa := fa0 ++ fa1 ++ fa2 ++ fa3
def loose0 : List Str := ["_wall",
  "ShelfError",
  "NoOrder",
  "NoMend",
  "LETTERS",
  "SIGNS",
  "MOST_SIGNS",
  "MOST_CONTENT",
  "is_name",
  "is_content",
  "names_of",
  "clash_name",
  "ROOT_shelf",
  "CLASH_shelf",
  "Shelf",
  "rows_of",
  "node_at",
  "paths_of",
  "nodes_fault",
  "is_beneath",
  "new_fault",
  "drop_fault",
  "move_fault",
  "put_fault",
  "fault_of",
  "made",
  "dropped",
  "put_into",
  "done",
  "ROOT_looker"]
def loose1 : List Str := ["CLASH_looker",
  "CLASH_ENTRY",
  "twice_in",
  "Looking",
  "ring_above",
  "a_ring",
  "fault_in",
  "looked",
  "shelf_of",
  "BEYOND_MENDING",
  "Mending",
  "mended",
  "_law_mix",
  "_law_left",
  "_law_pick",
  "_law_content",
  "_law_number",
  "_law_shuffled",
  "_law_folders",
  "_law_entries",
  "_law_below",
  "_law_first",
  "_law_same",
  "_law_beyond",
  "_law_wild",
  "_law_nodes",
  "_law_deed",
  "_law_right"]
def loose : List Str := loose0 ++ loose1
def ex (K : PySem.W.Frag) : Bool := He.tupB K "CLASH_ENTRY" [.str "clash", .int 1] && He.tupB K "BEYOND_MENDING" [.str "twice", .str "root", .str "same"]
/-! ### the hook -/
abbrev AlY : Type := He.AlD × Bool
def obsY (K : PySem.W.Frag) : AlY := (He.obsD fa fn K, ex K)
def valY : AlY := (He.valD fn, true)
structure SaysY (K : PySem.W.Frag) : Prop where
  d : He.SaysD fa fn K
  x : ex K = true
def obsYG (g : Addr → Option Obj) : AlY := obsY (He.frG g (He.asD g 5))
theorem saysY_of {K : PySem.W.Frag} (e : obsY K = valY) : SaysY K := ⟨congrArg (fun z : AlY => z.1) e, congrArg (fun z : AlY => z.2) e⟩
def hk : PySem.W.Hook where
  α := AlY
  obs := fun s => obsYG s.heap.get?
  val := fun _ => valY
  says := fun _ h => ∃ K : PySem.W.Frag, K.In h ∧ SaysY K
  of := fun _ _ e => ⟨_, He.frG_in, saysY_of e⟩
  keeps := fun _ _ _ ⟨K, hK, c⟩ k => ⟨K, PySem.W.Frag.In.keeps hK k, c⟩
theorem obsYG_eq {g : Addr → Option Obj} {s : Shared} (h : ∀ a, g a = s.heap.get? a) : obsYG g = hk.obs s := by
  have e : g = s.heap.get? := funext h
  rw [e] <;> rfl
end K81
set_option maxHeartbeats 4000000
namespace K81
open PySem PySem.Spec PyProof.Rows L2
/-! ### what the walk knows of the top -/
structure Tx (K : PySem.W.Frag) (mg : Str → Option Value) (base : Heap) : Prop where
  c : SaysY K
  X : K.In base
  G : base.Ns mainGlobals mg
section
variable {K : PySem.W.Frag} {mg : Str → Option Value} {base : Heap}
theorem Tx.g_is_name (T : Tx K mg base) : mg "is_name" = some (.ref (He.ga K "is_name")) := He.glo_ok T.X T.G (T.c.d.fact 0 (f := .glo "is_name") rfl)
theorem Tx.g_is_content (T : Tx K mg base) : mg "is_content" = some (.ref (He.ga K "is_content")) := He.glo_ok T.X T.G (T.c.d.fact 1 (f := .glo "is_content") rfl)
theorem Tx.g_names_of (T : Tx K mg base) : mg "names_of" = some (.ref (He.ga K "names_of")) := He.glo_ok T.X T.G (T.c.d.fact 2 (f := .glo "names_of") rfl)
theorem Tx.g_clash_name (T : Tx K mg base) : mg "clash_name" = some (.ref (He.ga K "clash_name")) := He.glo_ok T.X T.G (T.c.d.fact 3 (f := .glo "clash_name") rfl)
theorem Tx.g_rows_of (T : Tx K mg base) : mg "rows_of" = some (.ref (He.ga K "rows_of")) := He.glo_ok T.X T.G (T.c.d.fact 4 (f := .glo "rows_of") rfl)
theorem Tx.g_node_at (T : Tx K mg base) : mg "node_at" = some (.ref (He.ga K "node_at")) := He.glo_ok T.X T.G (T.c.d.fact 5 (f := .glo "node_at") rfl)
theorem Tx.g_paths_of (T : Tx K mg base) : mg "paths_of" = some (.ref (He.ga K "paths_of")) := He.glo_ok T.X T.G (T.c.d.fact 6 (f := .glo "paths_of") rfl)
theorem Tx.g_nodes_fault (T : Tx K mg base) : mg "nodes_fault" = some (.ref (He.ga K "nodes_fault")) := He.glo_ok T.X T.G (T.c.d.fact 7 (f := .glo "nodes_fault") rfl)
theorem Tx.g_is_beneath (T : Tx K mg base) : mg "is_beneath" = some (.ref (He.ga K "is_beneath")) := He.glo_ok T.X T.G (T.c.d.fact 8 (f := .glo "is_beneath") rfl)
theorem Tx.g_new_fault (T : Tx K mg base) : mg "new_fault" = some (.ref (He.ga K "new_fault")) := He.glo_ok T.X T.G (T.c.d.fact 9 (f := .glo "new_fault") rfl)
theorem Tx.g_drop_fault (T : Tx K mg base) : mg "drop_fault" = some (.ref (He.ga K "drop_fault")) := He.glo_ok T.X T.G (T.c.d.fact 10 (f := .glo "drop_fault") rfl)
theorem Tx.g_move_fault (T : Tx K mg base) : mg "move_fault" = some (.ref (He.ga K "move_fault")) := He.glo_ok T.X T.G (T.c.d.fact 11 (f := .glo "move_fault") rfl)
theorem Tx.g_put_fault (T : Tx K mg base) : mg "put_fault" = some (.ref (He.ga K "put_fault")) := He.glo_ok T.X T.G (T.c.d.fact 12 (f := .glo "put_fault") rfl)
theorem Tx.g_fault_of (T : Tx K mg base) : mg "fault_of" = some (.ref (He.ga K "fault_of")) := He.glo_ok T.X T.G (T.c.d.fact 13 (f := .glo "fault_of") rfl)
theorem Tx.g_made (T : Tx K mg base) : mg "made" = some (.ref (He.ga K "made")) := He.glo_ok T.X T.G (T.c.d.fact 14 (f := .glo "made") rfl)
theorem Tx.g_dropped (T : Tx K mg base) : mg "dropped" = some (.ref (He.ga K "dropped")) := He.glo_ok T.X T.G (T.c.d.fact 15 (f := .glo "dropped") rfl)
theorem Tx.g_put_into (T : Tx K mg base) : mg "put_into" = some (.ref (He.ga K "put_into")) := He.glo_ok T.X T.G (T.c.d.fact 16 (f := .glo "put_into") rfl)
theorem Tx.g_done (T : Tx K mg base) : mg "done" = some (.ref (He.ga K "done")) := He.glo_ok T.X T.G (T.c.d.fact 17 (f := .glo "done") rfl)
theorem Tx.g_twice_in (T : Tx K mg base) : mg "twice_in" = some (.ref (He.ga K "twice_in")) := He.glo_ok T.X T.G (T.c.d.fact 18 (f := .glo "twice_in") rfl)
theorem Tx.g_ring_above (T : Tx K mg base) : mg "ring_above" = some (.ref (He.ga K "ring_above")) := He.glo_ok T.X T.G (T.c.d.fact 19 (f := .glo "ring_above") rfl)
theorem Tx.g_a_ring (T : Tx K mg base) : mg "a_ring" = some (.ref (He.ga K "a_ring")) := He.glo_ok T.X T.G (T.c.d.fact 20 (f := .glo "a_ring") rfl)
theorem Tx.g_fault_in (T : Tx K mg base) : mg "fault_in" = some (.ref (He.ga K "fault_in")) := He.glo_ok T.X T.G (T.c.d.fact 21 (f := .glo "fault_in") rfl)
theorem Tx.g_looked (T : Tx K mg base) : mg "looked" = some (.ref (He.ga K "looked")) := He.glo_ok T.X T.G (T.c.d.fact 22 (f := .glo "looked") rfl)
theorem Tx.g_shelf_of (T : Tx K mg base) : mg "shelf_of" = some (.ref (He.ga K "shelf_of")) := He.glo_ok T.X T.G (T.c.d.fact 23 (f := .glo "shelf_of") rfl)
theorem Tx.g_mended (T : Tx K mg base) : mg "mended" = some (.ref (He.ga K "mended")) := He.glo_ok T.X T.G (T.c.d.fact 24 (f := .glo "mended") rfl)
theorem Tx.g_law_mix (T : Tx K mg base) : mg "_law_mix" = some (.ref (He.ga K "_law_mix")) := He.glo_ok T.X T.G (T.c.d.fact 25 (f := .glo "_law_mix") rfl)
theorem Tx.g_law_left (T : Tx K mg base) : mg "_law_left" = some (.ref (He.ga K "_law_left")) := He.glo_ok T.X T.G (T.c.d.fact 26 (f := .glo "_law_left") rfl)
theorem Tx.g_law_pick (T : Tx K mg base) : mg "_law_pick" = some (.ref (He.ga K "_law_pick")) := He.glo_ok T.X T.G (T.c.d.fact 27 (f := .glo "_law_pick") rfl)
theorem Tx.g_law_content (T : Tx K mg base) : mg "_law_content" = some (.ref (He.ga K "_law_content")) := He.glo_ok T.X T.G (T.c.d.fact 28 (f := .glo "_law_content") rfl)
theorem Tx.g_law_number (T : Tx K mg base) : mg "_law_number" = some (.ref (He.ga K "_law_number")) := He.glo_ok T.X T.G (T.c.d.fact 29 (f := .glo "_law_number") rfl)
theorem Tx.g_law_shuffled (T : Tx K mg base) : mg "_law_shuffled" = some (.ref (He.ga K "_law_shuffled")) := He.glo_ok T.X T.G (T.c.d.fact 30 (f := .glo "_law_shuffled") rfl)
theorem Tx.g_law_folders (T : Tx K mg base) : mg "_law_folders" = some (.ref (He.ga K "_law_folders")) := He.glo_ok T.X T.G (T.c.d.fact 31 (f := .glo "_law_folders") rfl)
theorem Tx.g_law_entries (T : Tx K mg base) : mg "_law_entries" = some (.ref (He.ga K "_law_entries")) := He.glo_ok T.X T.G (T.c.d.fact 32 (f := .glo "_law_entries") rfl)
theorem Tx.g_law_below (T : Tx K mg base) : mg "_law_below" = some (.ref (He.ga K "_law_below")) := He.glo_ok T.X T.G (T.c.d.fact 33 (f := .glo "_law_below") rfl)
theorem Tx.g_law_first (T : Tx K mg base) : mg "_law_first" = some (.ref (He.ga K "_law_first")) := He.glo_ok T.X T.G (T.c.d.fact 34 (f := .glo "_law_first") rfl)
theorem Tx.g_law_same (T : Tx K mg base) : mg "_law_same" = some (.ref (He.ga K "_law_same")) := He.glo_ok T.X T.G (T.c.d.fact 35 (f := .glo "_law_same") rfl)
theorem Tx.g_law_beyond (T : Tx K mg base) : mg "_law_beyond" = some (.ref (He.ga K "_law_beyond")) := He.glo_ok T.X T.G (T.c.d.fact 36 (f := .glo "_law_beyond") rfl)
theorem Tx.g_law_wild (T : Tx K mg base) : mg "_law_wild" = some (.ref (He.ga K "_law_wild")) := He.glo_ok T.X T.G (T.c.d.fact 37 (f := .glo "_law_wild") rfl)
theorem Tx.g_law_nodes (T : Tx K mg base) : mg "_law_nodes" = some (.ref (He.ga K "_law_nodes")) := He.glo_ok T.X T.G (T.c.d.fact 38 (f := .glo "_law_nodes") rfl)
theorem Tx.g_law_deed (T : Tx K mg base) : mg "_law_deed" = some (.ref (He.ga K "_law_deed")) := He.glo_ok T.X T.G (T.c.d.fact 39 (f := .glo "_law_deed") rfl)
theorem Tx.g_law_right (T : Tx K mg base) : mg "_law_right" = some (.ref (He.ga K "_law_right")) := He.glo_ok T.X T.G (T.c.d.fact 40 (f := .glo "_law_right") rfl)
theorem Tx.g_law (T : Tx K mg base) : mg "law" = some (.ref (He.ga K "law")) := He.glo_ok T.X T.G (T.c.d.fact 41 (f := .glo "law") rfl)
theorem Tx.g_Shelf (T : Tx K mg base) : mg "Shelf" = some (.ref (He.ga K "Shelf")) := He.glo_ok T.X T.G (T.c.d.fact 42 (f := .glo "Shelf") rfl)
theorem Tx.g_Looking (T : Tx K mg base) : mg "Looking" = some (.ref (He.ga K "Looking")) := He.glo_ok T.X T.G (T.c.d.fact 43 (f := .glo "Looking") rfl)
theorem Tx.g_Mending (T : Tx K mg base) : mg "Mending" = some (.ref (He.ga K "Mending")) := He.glo_ok T.X T.G (T.c.d.fact 44 (f := .glo "Mending") rfl)
theorem Tx.g_NoMend (T : Tx K mg base) : mg "NoMend" = some (.ref (He.ga K "NoMend")) := He.glo_ok T.X T.G (T.c.d.fact 45 (f := .glo "NoMend") rfl)
theorem Tx.g_CLASH_ENTRY (T : Tx K mg base) : mg "CLASH_ENTRY" = some (.ref (He.ga K "CLASH_ENTRY")) := He.glo_ok T.X T.G (T.c.d.fact 46 (f := .glo "CLASH_ENTRY") rfl)
theorem Tx.g_BEYOND_MENDING (T : Tx K mg base) : mg "BEYOND_MENDING" = some (.ref (He.ga K "BEYOND_MENDING")) := He.glo_ok T.X T.G (T.c.d.fact 47 (f := .glo "BEYOND_MENDING") rfl)
theorem Tx.z_len (T : Tx K mg base) : mg "len" = none := He.free_ok T.X T.G (T.c.d.fact 48 (f := .free "len") rfl)
theorem Tx.z_sorted (T : Tx K mg base) : mg "sorted" = none := He.free_ok T.X T.G (T.c.d.fact 49 (f := .free "sorted") rfl)
theorem Tx.z_list (T : Tx K mg base) : mg "list" = none := He.free_ok T.X T.G (T.c.d.fact 50 (f := .free "list") rfl)
theorem Tx.z_dict (T : Tx K mg base) : mg "dict" = none := He.free_ok T.X T.G (T.c.d.fact 51 (f := .free "dict") rfl)
theorem Tx.z_tuple (T : Tx K mg base) : mg "tuple" = none := He.free_ok T.X T.G (T.c.d.fact 52 (f := .free "tuple") rfl)
theorem Tx.z_all (T : Tx K mg base) : mg "all" = none := He.free_ok T.X T.G (T.c.d.fact 53 (f := .free "all") rfl)
theorem Tx.z_any (T : Tx K mg base) : mg "any" = none := He.free_ok T.X T.G (T.c.d.fact 54 (f := .free "any") rfl)
theorem Tx.z_str (T : Tx K mg base) : mg "str" = none := He.free_ok T.X T.G (T.c.d.fact 55 (f := .free "str") rfl)
theorem Tx.z_zip (T : Tx K mg base) : mg "zip" = none := He.free_ok T.X T.G (T.c.d.fact 56 (f := .free "zip") rfl)
theorem Tx.z_range (T : Tx K mg base) : mg "range" = none := He.free_ok T.X T.G (T.c.d.fact 57 (f := .free "range") rfl)
theorem Tx.z_enumerate (T : Tx K mg base) : mg "enumerate" = none := He.free_ok T.X T.G (T.c.d.fact 58 (f := .free "enumerate") rfl)
theorem Tx.z_max (T : Tx K mg base) : mg "max" = none := He.free_ok T.X T.G (T.c.d.fact 59 (f := .free "max") rfl)
theorem Tx.z_min (T : Tx K mg base) : mg "min" = none := He.free_ok T.X T.G (T.c.d.fact 60 (f := .free "min") rfl)
theorem Tx.z_abs (T : Tx K mg base) : mg "abs" = none := He.free_ok T.X T.G (T.c.d.fact 61 (f := .free "abs") rfl)
theorem Tx.z_int (T : Tx K mg base) : mg "int" = none := He.free_ok T.X T.G (T.c.d.fact 62 (f := .free "int") rfl)
theorem Tx.z_isinstance (T : Tx K mg base) : mg "isinstance" = none := He.free_ok T.X T.G (T.c.d.fact 63 (f := .free "isinstance") rfl)
theorem Tx.z_bool (T : Tx K mg base) : mg "bool" = none := He.free_ok T.X T.G (T.c.d.fact 64 (f := .free "bool") rfl)
theorem Tx.i_MOST_SIGNS (T : Tx K mg base) : ∃ t, mg "MOST_SIGNS" = some (.int 8 t) := He.int_ok T.X T.G (T.c.d.fact 65 (f := .int "MOST_SIGNS" 8) rfl)
theorem Tx.i_MOST_CONTENT (T : Tx K mg base) : ∃ t, mg "MOST_CONTENT" = some (.int 200 t) := He.int_ok T.X T.G (T.c.d.fact 66 (f := .int "MOST_CONTENT" 200) rfl)
theorem Tx.i_ROOT_shelf (T : Tx K mg base) : ∃ t, mg "ROOT_shelf" = some (.int 0 t) := He.int_ok T.X T.G (T.c.d.fact 67 (f := .int "ROOT_shelf" 0) rfl)
theorem Tx.i_CLASH_shelf (T : Tx K mg base) : ∃ t, mg "CLASH_shelf" = some (.int 1 t) := He.int_ok T.X T.G (T.c.d.fact 68 (f := .int "CLASH_shelf" 1) rfl)
theorem Tx.i_ROOT_looker (T : Tx K mg base) : ∃ t, mg "ROOT_looker" = some (.int 0 t) := He.int_ok T.X T.G (T.c.d.fact 69 (f := .int "ROOT_looker" 0) rfl)
theorem Tx.i_CLASH_looker (T : Tx K mg base) : ∃ t, mg "CLASH_looker" = some (.int 1 t) := He.int_ok T.X T.G (T.c.d.fact 70 (f := .int "CLASH_looker" 1) rfl)
theorem Tx.s_LETTERS (T : Tx K mg base) : ∃ t, mg "LETTERS" = some (.str "abcdefghijklmnopqrstuvwxyz" t) := He.str_ok T.X T.G (T.c.d.fact 71 (f := .str "LETTERS" "abcdefghijklmnopqrstuvwxyz") rfl)
theorem Tx.s_SIGNS (T : Tx K mg base) : ∃ t, mg "SIGNS" = some (.str "abcdefghijklmnopqrstuvwxyz0123456789" t) := He.str_ok T.X T.G (T.c.d.fact 72 (f := .str "SIGNS" "abcdefghijklmnopqrstuvwxyz0123456789") rfl)
theorem Tx.c_Shelf (T : Tx K mg base) : Cls K (He.ga K "Shelf") := He.cls_ok (T.c.d.fact 73 (f := .cls "Shelf") rfl)
theorem Tx.k_Shelf (T : Tx K mg base) : Mk K (He.ga K "Shelf") (He.ma K (He.ga K "Shelf") "__init__") := He.mkr_ok (T.c.d.fact 74 (f := .mkr "Shelf") rfl)
theorem Tx.n_Shelf_folders (T : Tx K mg base) : NoAttr K (He.ga K "Shelf") "folders" := He.noat_ok (T.c.d.fact 75 (f := .noat "Shelf" "folders") rfl)
theorem Tx.n_Shelf_files (T : Tx K mg base) : NoAttr K (He.ga K "Shelf") "files" := He.noat_ok (T.c.d.fact 76 (f := .noat "Shelf" "files") rfl)
theorem Tx.n_Shelf_last (T : Tx K mg base) : NoAttr K (He.ga K "Shelf") "last" := He.noat_ok (T.c.d.fact 77 (f := .noat "Shelf" "last") rfl)
theorem Tx.m_Shelf_new_number (T : Tx K mg base) : Meth K (He.ga K "Shelf") "new_number" (He.ma K (He.ga K "Shelf") "new_number") := He.meth_ok (T.c.d.fact 78 (f := .meth "Shelf" "new_number") rfl)
theorem Tx.m_Shelf_is_node (T : Tx K mg base) : Meth K (He.ga K "Shelf") "is_node" (He.ma K (He.ga K "Shelf") "is_node") := He.meth_ok (T.c.d.fact 79 (f := .meth "Shelf" "is_node") rfl)
theorem Tx.m_Shelf_entry (T : Tx K mg base) : Meth K (He.ga K "Shelf") "entry" (He.ma K (He.ga K "Shelf") "entry") := He.meth_ok (T.c.d.fact 80 (f := .meth "Shelf" "entry") rfl)
theorem Tx.m_Shelf_put_entry (T : Tx K mg base) : Meth K (He.ga K "Shelf") "put_entry" (He.ma K (He.ga K "Shelf") "put_entry") := He.meth_ok (T.c.d.fact 81 (f := .meth "Shelf" "put_entry") rfl)
theorem Tx.m_Shelf_take_entry (T : Tx K mg base) : Meth K (He.ga K "Shelf") "take_entry" (He.ma K (He.ga K "Shelf") "take_entry") := He.meth_ok (T.c.d.fact 82 (f := .meth "Shelf" "take_entry") rfl)
theorem Tx.m_Shelf_has_name (T : Tx K mg base) : Meth K (He.ga K "Shelf") "has_name" (He.ma K (He.ga K "Shelf") "has_name") := He.meth_ok (T.c.d.fact 83 (f := .meth "Shelf" "has_name") rfl)
theorem Tx.c_Looking (T : Tx K mg base) : Cls K (He.ga K "Looking") := He.cls_ok (T.c.d.fact 84 (f := .cls "Looking") rfl)
theorem Tx.k_Looking (T : Tx K mg base) : Mk K (He.ga K "Looking") (He.ma K (He.ga K "Looking") "__init__") := He.mkr_ok (T.c.d.fact 85 (f := .mkr "Looking") rfl)
theorem Tx.n_Looking_entries (T : Tx K mg base) : NoAttr K (He.ga K "Looking") "entries" := He.noat_ok (T.c.d.fact 86 (f := .noat "Looking" "entries") rfl)
theorem Tx.n_Looking_files (T : Tx K mg base) : NoAttr K (He.ga K "Looking") "files" := He.noat_ok (T.c.d.fact 87 (f := .noat "Looking" "files") rfl)
theorem Tx.n_Looking_leading (T : Tx K mg base) : NoAttr K (He.ga K "Looking") "leading" := He.noat_ok (T.c.d.fact 88 (f := .noat "Looking" "leading") rfl)
theorem Tx.m_Looking_has_root (T : Tx K mg base) : Meth K (He.ga K "Looking") "has_root" (He.ma K (He.ga K "Looking") "has_root") := He.meth_ok (T.c.d.fact 89 (f := .meth "Looking" "has_root") rfl)
theorem Tx.m_Looking_is_misnamed (T : Tx K mg base) : Meth K (He.ga K "Looking") "is_misnamed" (He.ma K (He.ga K "Looking") "is_misnamed") := He.meth_ok (T.c.d.fact 90 (f := .meth "Looking" "is_misnamed") rfl)
theorem Tx.m_Looking_is_loose (T : Tx K mg base) : Meth K (He.ga K "Looking") "is_loose" (He.ma K (He.ga K "Looking") "is_loose") := He.meth_ok (T.c.d.fact 91 (f := .meth "Looking" "is_loose") rfl)
theorem Tx.m_Looking_first_same (T : Tx K mg base) : Meth K (He.ga K "Looking") "first_same" (He.ma K (He.ga K "Looking") "first_same") := He.meth_ok (T.c.d.fact 92 (f := .meth "Looking" "first_same") rfl)
theorem Tx.m_Looking_first_blind (T : Tx K mg base) : Meth K (He.ga K "Looking") "first_blind" (He.ma K (He.ga K "Looking") "first_blind") := He.meth_ok (T.c.d.fact 93 (f := .meth "Looking" "first_blind") rfl)
theorem Tx.m_Looking_first_entry (T : Tx K mg base) : Meth K (He.ga K "Looking") "first_entry" (He.ma K (He.ga K "Looking") "first_entry") := He.meth_ok (T.c.d.fact 94 (f := .meth "Looking" "first_entry") rfl)
theorem Tx.c_Mending (T : Tx K mg base) : Cls K (He.ga K "Mending") := He.cls_ok (T.c.d.fact 95 (f := .cls "Mending") rfl)
theorem Tx.k_Mending (T : Tx K mg base) : Mk K (He.ga K "Mending") (He.ma K (He.ga K "Mending") "__init__") := He.mkr_ok (T.c.d.fact 96 (f := .mkr "Mending") rfl)
theorem Tx.n_Mending_folders (T : Tx K mg base) : NoAttr K (He.ga K "Mending") "folders" := He.noat_ok (T.c.d.fact 97 (f := .noat "Mending" "folders") rfl)
theorem Tx.n_Mending_files (T : Tx K mg base) : NoAttr K (He.ga K "Mending") "files" := He.noat_ok (T.c.d.fact 98 (f := .noat "Mending" "files") rfl)
theorem Tx.m_Mending_leads_now (T : Tx K mg base) : Meth K (He.ga K "Mending") "leads_now" (He.ma K (He.ga K "Mending") "leads_now") := He.meth_ok (T.c.d.fact 99 (f := .meth "Mending" "leads_now") rfl)
theorem Tx.m_Mending_leave_out (T : Tx K mg base) : Meth K (He.ga K "Mending") "leave_out" (He.ma K (He.ga K "Mending") "leave_out") := He.meth_ok (T.c.d.fact 100 (f := .meth "Mending" "leave_out") rfl)
theorem Tx.m_Mending_put_in (T : Tx K mg base) : Meth K (He.ga K "Mending") "put_in" (He.ma K (He.ga K "Mending") "put_in") := He.meth_ok (T.c.d.fact 101 (f := .meth "Mending" "put_in") rfl)
theorem Tx.m_Mending_drop_blind (T : Tx K mg base) : Meth K (He.ga K "Mending") "drop_blind" (He.ma K (He.ga K "Mending") "drop_blind") := He.meth_ok (T.c.d.fact 102 (f := .meth "Mending" "drop_blind") rfl)
theorem Tx.m_Mending_drop_more (T : Tx K mg base) : Meth K (He.ga K "Mending") "drop_more" (He.ma K (He.ga K "Mending") "drop_more") := He.meth_ok (T.c.d.fact 103 (f := .meth "Mending" "drop_more") rfl)
theorem Tx.m_Mending_put_lost (T : Tx K mg base) : Meth K (He.ga K "Mending") "put_lost" (He.ma K (He.ga K "Mending") "put_lost") := He.meth_ok (T.c.d.fact 104 (f := .meth "Mending" "put_lost") rfl)
theorem Tx.m_Mending_parents_now (T : Tx K mg base) : Meth K (He.ga K "Mending") "parents_now" (He.ma K (He.ga K "Mending") "parents_now") := He.meth_ok (T.c.d.fact 105 (f := .meth "Mending" "parents_now") rfl)
theorem Tx.m_Mending_open_rings (T : Tx K mg base) : Meth K (He.ga K "Mending") "open_rings" (He.ma K (He.ga K "Mending") "open_rings") := He.meth_ok (T.c.d.fact 106 (f := .meth "Mending" "open_rings") rfl)
theorem Tx.m_Mending_as_rows (T : Tx K mg base) : Meth K (He.ga K "Mending") "as_rows" (He.ma K (He.ga K "Mending") "as_rows") := He.meth_ok (T.c.d.fact 107 (f := .meth "Mending" "as_rows") rfl)
theorem Tx.e_NoMend (T : Tx K mg base) : PySem.W.excIn K (He.ga K "NoMend") He.veBase "ValueError.__new__" = true ∧ PySem.W.keepIn K (.ref (He.ga K "NoMend")) = true ∧ PySem.W.subIn K (.ref (He.ga K "NoMend")) (.type "BaseException") = some true ∧ PySem.W.typeIn K (.ref (He.ga K "NoMend")) = some (.type "type") := He.exc_ok (T.c.d.fact 108 (f := .exc "NoMend") rfl)
theorem Tx.x_NoMend (T : Tx K mg base) : PySem.W.exmOne K (.ref (He.ga K "NoMend")) (.ref (He.ga K "NoMend")) = some true := He.exm_ok (T.c.d.fact 109 (f := .exm "NoMend" "NoMend" true) rfl)
theorem Tx.t_CLASH_ENTRY (T : Tx K mg base) (H : Hp) : SqT K H (He.ga K "CLASH_ENTRY") [V.str "clash", V.int 1] := He.tupB_ok (vs := [.str "clash", .int 1]) (He.ba (show (He.tupB K "CLASH_ENTRY" [.str "clash", .int 1] && He.tupB K "BEYOND_MENDING" [.str "twice", .str "root", .str "same"]) = true from T.c.x)).1 H
theorem Tx.t_BEYOND_MENDING (T : Tx K mg base) (H : Hp) : SqT K H (He.ga K "BEYOND_MENDING") [V.str "twice", V.str "root", V.str "same"] := He.tupB_ok (vs := [.str "twice", .str "root", .str "same"]) (He.ba (show (He.tupB K "CLASH_ENTRY" [.str "clash", .int 1] && He.tupB K "BEYOND_MENDING" [.str "twice", .str "root", .str "same"]) = true from T.c.x)).2 H
theorem Tx.F_is_name (T : Tx K mg base) : ∃ fd, FunD K "is_name" "is_name" (defArgs s_is_name) (defBody s_is_name) (defScope s_is_name) [] [] (He.fAd K d_is_name.at_) fd := T.c.d.def_ 0 (d := d_is_name) rfl
theorem Tx.F_is_content (T : Tx K mg base) : ∃ fd, FunD K "is_content" "is_content" (defArgs s_is_content) (defBody s_is_content) (defScope s_is_content) [] [] (He.fAd K d_is_content.at_) fd := T.c.d.def_ 1 (d := d_is_content) rfl
theorem Tx.F_names_of (T : Tx K mg base) : ∃ fd, FunD K "names_of" "names_of" (defArgs s_names_of) (defBody s_names_of) (defScope s_names_of) [] [] (He.fAd K d_names_of.at_) fd := T.c.d.def_ 2 (d := d_names_of) rfl
theorem Tx.F_clash_name (T : Tx K mg base) : ∃ fd, FunD K "clash_name" "clash_name" (defArgs s_clash_name) (defBody s_clash_name) (defScope s_clash_name) [] [] (He.fAd K d_clash_name.at_) fd := T.c.d.def_ 3 (d := d_clash_name) rfl
theorem Tx.F_Shelf_init (T : Tx K mg base) : ∃ fd, FunD K "__init__" "Shelf.__init__" (defArgs s_Shelf_init) (defBody s_Shelf_init) (defScope s_Shelf_init) [] [] (He.fAd K d_Shelf_init.at_) fd := T.c.d.def_ 4 (d := d_Shelf_init) rfl
theorem Tx.F_Shelf_new_number (T : Tx K mg base) : ∃ fd, FunD K "new_number" "Shelf.new_number" (defArgs s_Shelf_new_number) (defBody s_Shelf_new_number) (defScope s_Shelf_new_number) [] [] (He.fAd K d_Shelf_new_number.at_) fd := T.c.d.def_ 5 (d := d_Shelf_new_number) rfl
theorem Tx.F_Shelf_is_node (T : Tx K mg base) : ∃ fd, FunD K "is_node" "Shelf.is_node" (defArgs s_Shelf_is_node) (defBody s_Shelf_is_node) (defScope s_Shelf_is_node) [] [] (He.fAd K d_Shelf_is_node.at_) fd := T.c.d.def_ 6 (d := d_Shelf_is_node) rfl
theorem Tx.F_Shelf_entry (T : Tx K mg base) : ∃ fd, FunD K "entry" "Shelf.entry" (defArgs s_Shelf_entry) (defBody s_Shelf_entry) (defScope s_Shelf_entry) [] [] (He.fAd K d_Shelf_entry.at_) fd := T.c.d.def_ 7 (d := d_Shelf_entry) rfl
theorem Tx.F_Shelf_put_entry (T : Tx K mg base) : ∃ fd, FunD K "put_entry" "Shelf.put_entry" (defArgs s_Shelf_put_entry) (defBody s_Shelf_put_entry) (defScope s_Shelf_put_entry) [] [] (He.fAd K d_Shelf_put_entry.at_) fd := T.c.d.def_ 8 (d := d_Shelf_put_entry) rfl
theorem Tx.F_Shelf_take_entry (T : Tx K mg base) : ∃ fd, FunD K "take_entry" "Shelf.take_entry" (defArgs s_Shelf_take_entry) (defBody s_Shelf_take_entry) (defScope s_Shelf_take_entry) [] [] (He.fAd K d_Shelf_take_entry.at_) fd := T.c.d.def_ 9 (d := d_Shelf_take_entry) rfl
theorem Tx.F_Shelf_has_name (T : Tx K mg base) : ∃ fd, FunD K "has_name" "Shelf.has_name" (defArgs s_Shelf_has_name) (defBody s_Shelf_has_name) (defScope s_Shelf_has_name) [] [] (He.fAd K d_Shelf_has_name.at_) fd := T.c.d.def_ 10 (d := d_Shelf_has_name) rfl
theorem Tx.F_rows_of (T : Tx K mg base) : ∃ fd, FunD K "rows_of" "rows_of" (defArgs s_rows_of) (defBody s_rows_of) (defScope s_rows_of) [] [] (He.fAd K d_rows_of.at_) fd := T.c.d.def_ 11 (d := d_rows_of) rfl
theorem Tx.F_node_at (T : Tx K mg base) : ∃ fd, FunD K "node_at" "node_at" (defArgs s_node_at) (defBody s_node_at) (defScope s_node_at) [] [] (He.fAd K d_node_at.at_) fd := T.c.d.def_ 12 (d := d_node_at) rfl
theorem Tx.F_paths_of (T : Tx K mg base) : ∃ fd, FunD K "paths_of" "paths_of" (defArgs s_paths_of) (defBody s_paths_of) (defScope s_paths_of) [] [] (He.fAd K d_paths_of.at_) fd := T.c.d.def_ 13 (d := d_paths_of) rfl
theorem Tx.F_nodes_fault (T : Tx K mg base) : ∃ fd, FunD K "nodes_fault" "nodes_fault" (defArgs s_nodes_fault) (defBody s_nodes_fault) (defScope s_nodes_fault) [] [] (He.fAd K d_nodes_fault.at_) fd := T.c.d.def_ 14 (d := d_nodes_fault) rfl
theorem Tx.F_is_beneath (T : Tx K mg base) : ∃ fd, FunD K "is_beneath" "is_beneath" (defArgs s_is_beneath) (defBody s_is_beneath) (defScope s_is_beneath) [] [] (He.fAd K d_is_beneath.at_) fd := T.c.d.def_ 15 (d := d_is_beneath) rfl
theorem Tx.F_new_fault (T : Tx K mg base) : ∃ fd, FunD K "new_fault" "new_fault" (defArgs s_new_fault) (defBody s_new_fault) (defScope s_new_fault) [] [] (He.fAd K d_new_fault.at_) fd := T.c.d.def_ 16 (d := d_new_fault) rfl
theorem Tx.F_drop_fault (T : Tx K mg base) : ∃ fd, FunD K "drop_fault" "drop_fault" (defArgs s_drop_fault) (defBody s_drop_fault) (defScope s_drop_fault) [] [] (He.fAd K d_drop_fault.at_) fd := T.c.d.def_ 17 (d := d_drop_fault) rfl
theorem Tx.F_move_fault (T : Tx K mg base) : ∃ fd, FunD K "move_fault" "move_fault" (defArgs s_move_fault) (defBody s_move_fault) (defScope s_move_fault) [] [] (He.fAd K d_move_fault.at_) fd := T.c.d.def_ 18 (d := d_move_fault) rfl
theorem Tx.F_put_fault (T : Tx K mg base) : ∃ fd, FunD K "put_fault" "put_fault" (defArgs s_put_fault) (defBody s_put_fault) (defScope s_put_fault) [] [] (He.fAd K d_put_fault.at_) fd := T.c.d.def_ 19 (d := d_put_fault) rfl
theorem Tx.F_fault_of (T : Tx K mg base) : ∃ fd, FunD K "fault_of" "fault_of" (defArgs s_fault_of) (defBody s_fault_of) (defScope s_fault_of) [] [] (He.fAd K d_fault_of.at_) fd := T.c.d.def_ 20 (d := d_fault_of) rfl
theorem Tx.F_made (T : Tx K mg base) : ∃ fd, FunD K "made" "made" (defArgs s_made) (defBody s_made) (defScope s_made) [] [] (He.fAd K d_made.at_) fd := T.c.d.def_ 21 (d := d_made) rfl
theorem Tx.F_dropped (T : Tx K mg base) : ∃ fd, FunD K "dropped" "dropped" (defArgs s_dropped) (defBody s_dropped) (defScope s_dropped) [] [] (He.fAd K d_dropped.at_) fd := T.c.d.def_ 22 (d := d_dropped) rfl
theorem Tx.F_put_into (T : Tx K mg base) : ∃ fd, FunD K "put_into" "put_into" (defArgs s_put_into) (defBody s_put_into) (defScope s_put_into) [] [] (He.fAd K d_put_into.at_) fd := T.c.d.def_ 23 (d := d_put_into) rfl
theorem Tx.F_done (T : Tx K mg base) : ∃ fd, FunD K "done" "done" (defArgs s_done) (defBody s_done) (defScope s_done) [] [] (He.fAd K d_done.at_) fd := T.c.d.def_ 24 (d := d_done) rfl
theorem Tx.F_twice_in (T : Tx K mg base) : ∃ fd, FunD K "twice_in" "twice_in" (defArgs s_twice_in) (defBody s_twice_in) (defScope s_twice_in) [] [] (He.fAd K d_twice_in.at_) fd := T.c.d.def_ 25 (d := d_twice_in) rfl
theorem Tx.F_Looking_init (T : Tx K mg base) : ∃ fd, FunD K "__init__" "Looking.__init__" (defArgs s_Looking_init) (defBody s_Looking_init) (defScope s_Looking_init) [] [] (He.fAd K d_Looking_init.at_) fd := T.c.d.def_ 26 (d := d_Looking_init) rfl
theorem Tx.F_Looking_has_root (T : Tx K mg base) : ∃ fd, FunD K "has_root" "Looking.has_root" (defArgs s_Looking_has_root) (defBody s_Looking_has_root) (defScope s_Looking_has_root) [] [] (He.fAd K d_Looking_has_root.at_) fd := T.c.d.def_ 27 (d := d_Looking_has_root) rfl
theorem Tx.F_Looking_is_misnamed (T : Tx K mg base) : ∃ fd, FunD K "is_misnamed" "Looking.is_misnamed" (defArgs s_Looking_is_misnamed) (defBody s_Looking_is_misnamed) (defScope s_Looking_is_misnamed) [] [] (He.fAd K d_Looking_is_misnamed.at_) fd := T.c.d.def_ 28 (d := d_Looking_is_misnamed) rfl
theorem Tx.F_Looking_is_loose (T : Tx K mg base) : ∃ fd, FunD K "is_loose" "Looking.is_loose" (defArgs s_Looking_is_loose) (defBody s_Looking_is_loose) (defScope s_Looking_is_loose) [] [] (He.fAd K d_Looking_is_loose.at_) fd := T.c.d.def_ 29 (d := d_Looking_is_loose) rfl
theorem Tx.F_Looking_first_same (T : Tx K mg base) : ∃ fd, FunD K "first_same" "Looking.first_same" (defArgs s_Looking_first_same) (defBody s_Looking_first_same) (defScope s_Looking_first_same) [] [] (He.fAd K d_Looking_first_same.at_) fd := T.c.d.def_ 30 (d := d_Looking_first_same) rfl
theorem Tx.F_Looking_first_blind (T : Tx K mg base) : ∃ fd, FunD K "first_blind" "Looking.first_blind" (defArgs s_Looking_first_blind) (defBody s_Looking_first_blind) (defScope s_Looking_first_blind) [] [] (He.fAd K d_Looking_first_blind.at_) fd := T.c.d.def_ 31 (d := d_Looking_first_blind) rfl
theorem Tx.F_Looking_first_entry (T : Tx K mg base) : ∃ fd, FunD K "first_entry" "Looking.first_entry" (defArgs s_Looking_first_entry) (defBody s_Looking_first_entry) (defScope s_Looking_first_entry) [] [] (He.fAd K d_Looking_first_entry.at_) fd := T.c.d.def_ 32 (d := d_Looking_first_entry) rfl
theorem Tx.F_ring_above (T : Tx K mg base) : ∃ fd, FunD K "ring_above" "ring_above" (defArgs s_ring_above) (defBody s_ring_above) (defScope s_ring_above) [] [] (He.fAd K d_ring_above.at_) fd := T.c.d.def_ 33 (d := d_ring_above) rfl
theorem Tx.F_a_ring (T : Tx K mg base) : ∃ fd, FunD K "a_ring" "a_ring" (defArgs s_a_ring) (defBody s_a_ring) (defScope s_a_ring) [] [] (He.fAd K d_a_ring.at_) fd := T.c.d.def_ 34 (d := d_a_ring) rfl
theorem Tx.F_fault_in (T : Tx K mg base) : ∃ fd, FunD K "fault_in" "fault_in" (defArgs s_fault_in) (defBody s_fault_in) (defScope s_fault_in) [] [] (He.fAd K d_fault_in.at_) fd := T.c.d.def_ 35 (d := d_fault_in) rfl
theorem Tx.F_looked (T : Tx K mg base) : ∃ fd, FunD K "looked" "looked" (defArgs s_looked) (defBody s_looked) (defScope s_looked) [] [] (He.fAd K d_looked.at_) fd := T.c.d.def_ 36 (d := d_looked) rfl
theorem Tx.F_shelf_of (T : Tx K mg base) : ∃ fd, FunD K "shelf_of" "shelf_of" (defArgs s_shelf_of) (defBody s_shelf_of) (defScope s_shelf_of) [] [] (He.fAd K d_shelf_of.at_) fd := T.c.d.def_ 37 (d := d_shelf_of) rfl
theorem Tx.F_Mending_init (T : Tx K mg base) : ∃ fd, FunD K "__init__" "Mending.__init__" (defArgs s_Mending_init) (defBody s_Mending_init) (defScope s_Mending_init) [] [] (He.fAd K d_Mending_init.at_) fd := T.c.d.def_ 38 (d := d_Mending_init) rfl
theorem Tx.F_Mending_leads_now (T : Tx K mg base) : ∃ fd, FunD K "leads_now" "Mending.leads_now" (defArgs s_Mending_leads_now) (defBody s_Mending_leads_now) (defScope s_Mending_leads_now) [] [] (He.fAd K d_Mending_leads_now.at_) fd := T.c.d.def_ 39 (d := d_Mending_leads_now) rfl
theorem Tx.F_Mending_leave_out (T : Tx K mg base) : ∃ fd, FunD K "leave_out" "Mending.leave_out" (defArgs s_Mending_leave_out) (defBody s_Mending_leave_out) (defScope s_Mending_leave_out) [] [] (He.fAd K d_Mending_leave_out.at_) fd := T.c.d.def_ 40 (d := d_Mending_leave_out) rfl
theorem Tx.F_Mending_put_in (T : Tx K mg base) : ∃ fd, FunD K "put_in" "Mending.put_in" (defArgs s_Mending_put_in) (defBody s_Mending_put_in) (defScope s_Mending_put_in) [] [] (He.fAd K d_Mending_put_in.at_) fd := T.c.d.def_ 41 (d := d_Mending_put_in) rfl
theorem Tx.F_Mending_drop_blind (T : Tx K mg base) : ∃ fd, FunD K "drop_blind" "Mending.drop_blind" (defArgs s_Mending_drop_blind) (defBody s_Mending_drop_blind) (defScope s_Mending_drop_blind) [] [] (He.fAd K d_Mending_drop_blind.at_) fd := T.c.d.def_ 42 (d := d_Mending_drop_blind) rfl
theorem Tx.F_Mending_drop_more (T : Tx K mg base) : ∃ fd, FunD K "drop_more" "Mending.drop_more" (defArgs s_Mending_drop_more) (defBody s_Mending_drop_more) (defScope s_Mending_drop_more) [] [] (He.fAd K d_Mending_drop_more.at_) fd := T.c.d.def_ 43 (d := d_Mending_drop_more) rfl
theorem Tx.F_Mending_put_lost (T : Tx K mg base) : ∃ fd, FunD K "put_lost" "Mending.put_lost" (defArgs s_Mending_put_lost) (defBody s_Mending_put_lost) (defScope s_Mending_put_lost) [] [] (He.fAd K d_Mending_put_lost.at_) fd := T.c.d.def_ 44 (d := d_Mending_put_lost) rfl
theorem Tx.F_Mending_parents_now (T : Tx K mg base) : ∃ fd, FunD K "parents_now" "Mending.parents_now" (defArgs s_Mending_parents_now) (defBody s_Mending_parents_now) (defScope s_Mending_parents_now) [] [] (He.fAd K d_Mending_parents_now.at_) fd := T.c.d.def_ 45 (d := d_Mending_parents_now) rfl
theorem Tx.F_Mending_open_rings (T : Tx K mg base) : ∃ fd, FunD K "open_rings" "Mending.open_rings" (defArgs s_Mending_open_rings) (defBody s_Mending_open_rings) (defScope s_Mending_open_rings) [] [] (He.fAd K d_Mending_open_rings.at_) fd := T.c.d.def_ 46 (d := d_Mending_open_rings) rfl
theorem Tx.F_Mending_as_rows (T : Tx K mg base) : ∃ fd, FunD K "as_rows" "Mending.as_rows" (defArgs s_Mending_as_rows) (defBody s_Mending_as_rows) (defScope s_Mending_as_rows) [] [] (He.fAd K d_Mending_as_rows.at_) fd := T.c.d.def_ 47 (d := d_Mending_as_rows) rfl
theorem Tx.F_mended (T : Tx K mg base) : ∃ fd, FunD K "mended" "mended" (defArgs s_mended) (defBody s_mended) (defScope s_mended) [] [] (He.fAd K d_mended.at_) fd := T.c.d.def_ 48 (d := d_mended) rfl
theorem Tx.F_l_mix (T : Tx K mg base) : ∃ fd, FunD K "_law_mix" "_law_mix" (defArgs s_l_mix) (defBody s_l_mix) (defScope s_l_mix) [] [] (He.fAd K d_l_mix.at_) fd := T.c.d.def_ 49 (d := d_l_mix) rfl
theorem Tx.F_l_left (T : Tx K mg base) : ∃ fd, FunD K "_law_left" "_law_left" (defArgs s_l_left) (defBody s_l_left) (defScope s_l_left) [] [] (He.fAd K d_l_left.at_) fd := T.c.d.def_ 50 (d := d_l_left) rfl
theorem Tx.F_l_pick (T : Tx K mg base) : ∃ fd, FunD K "_law_pick" "_law_pick" (defArgs s_l_pick) (defBody s_l_pick) (defScope s_l_pick) [] [] (He.fAd K d_l_pick.at_) fd := T.c.d.def_ 51 (d := d_l_pick) rfl
theorem Tx.F_l_content (T : Tx K mg base) : ∃ fd, FunD K "_law_content" "_law_content" (defArgs s_l_content) (defBody s_l_content) (defScope s_l_content) [] [] (He.fAd K d_l_content.at_) fd := T.c.d.def_ 52 (d := d_l_content) rfl
theorem Tx.F_l_number (T : Tx K mg base) : ∃ fd, FunD K "_law_number" "_law_number" (defArgs s_l_number) (defBody s_l_number) (defScope s_l_number) [] [] (He.fAd K d_l_number.at_) fd := T.c.d.def_ 53 (d := d_l_number) rfl
theorem Tx.F_l_shuffled (T : Tx K mg base) : ∃ fd, FunD K "_law_shuffled" "_law_shuffled" (defArgs s_l_shuffled) (defBody s_l_shuffled) (defScope s_l_shuffled) [] [] (He.fAd K d_l_shuffled.at_) fd := T.c.d.def_ 54 (d := d_l_shuffled) rfl
theorem Tx.F_l_folders (T : Tx K mg base) : ∃ fd, FunD K "_law_folders" "_law_folders" (defArgs s_l_folders) (defBody s_l_folders) (defScope s_l_folders) [] [] (He.fAd K d_l_folders.at_) fd := T.c.d.def_ 55 (d := d_l_folders) rfl
theorem Tx.F_l_entries (T : Tx K mg base) : ∃ fd, FunD K "_law_entries" "_law_entries" (defArgs s_l_entries) (defBody s_l_entries) (defScope s_l_entries) [] [] (He.fAd K d_l_entries.at_) fd := T.c.d.def_ 56 (d := d_l_entries) rfl
theorem Tx.F_l_below (T : Tx K mg base) : ∃ fd, FunD K "_law_below" "_law_below" (defArgs s_l_below) (defBody s_l_below) (defScope s_l_below) [] [] (He.fAd K d_l_below.at_) fd := T.c.d.def_ 57 (d := d_l_below) rfl
theorem Tx.F_l_first (T : Tx K mg base) : ∃ fd, FunD K "_law_first" "_law_first" (defArgs s_l_first) (defBody s_l_first) (defScope s_l_first) [] [] (He.fAd K d_l_first.at_) fd := T.c.d.def_ 58 (d := d_l_first) rfl
theorem Tx.F_l_same (T : Tx K mg base) : ∃ fd, FunD K "_law_same" "_law_same" (defArgs s_l_same) (defBody s_l_same) (defScope s_l_same) [] [] (He.fAd K d_l_same.at_) fd := T.c.d.def_ 59 (d := d_l_same) rfl
theorem Tx.F_l_beyond (T : Tx K mg base) : ∃ fd, FunD K "_law_beyond" "_law_beyond" (defArgs s_l_beyond) (defBody s_l_beyond) (defScope s_l_beyond) [] [] (He.fAd K d_l_beyond.at_) fd := T.c.d.def_ 60 (d := d_l_beyond) rfl
theorem Tx.F_l_wild (T : Tx K mg base) : ∃ fd, FunD K "_law_wild" "_law_wild" (defArgs s_l_wild) (defBody s_l_wild) (defScope s_l_wild) [] [] (He.fAd K d_l_wild.at_) fd := T.c.d.def_ 61 (d := d_l_wild) rfl
theorem Tx.F_l_nodes (T : Tx K mg base) : ∃ fd, FunD K "_law_nodes" "_law_nodes" (defArgs s_l_nodes) (defBody s_l_nodes) (defScope s_l_nodes) [] [] (He.fAd K d_l_nodes.at_) fd := T.c.d.def_ 62 (d := d_l_nodes) rfl
theorem Tx.F_l_deed (T : Tx K mg base) : ∃ fd, FunD K "_law_deed" "_law_deed" (defArgs s_l_deed) (defBody s_l_deed) (defScope s_l_deed) [] [] (He.fAd K d_l_deed.at_) fd := T.c.d.def_ 63 (d := d_l_deed) rfl
theorem Tx.F_l_right (T : Tx K mg base) : ∃ fd, FunD K "_law_right" "_law_right" (defArgs s_l_right) (defBody s_l_right) (defScope s_l_right) [] [] (He.fAd K d_l_right.at_) fd := T.c.d.def_ 64 (d := d_l_right) rfl
theorem Tx.F_law (T : Tx K mg base) : ∃ fd, FunD K "law" "law" (defArgs s_law) (defBody s_law) (defScope s_law) [] [] (He.fAd K d_law.at_) fd := T.c.d.def_ 65 (d := d_law) rfl
end

/-! ### a def's promise -/
/-- the def at at_ keeps sp, at level k -/
def OkD (P : Program) (w : World) (K : PySem.W.Frag) (mg : Str → Option Value) (base : Heap) (at_ : Str × Option Str) (k : Nat) (ps : List Str) (sp : Sp) : Prop :=
  ∃ fd, Binds K fd ps [] ∧ PySem.W.keepIn K (.ref (He.fAd K at_)) = true ∧ FnOk P w K mg base CX0 k (He.fAd K at_) fd ps sp
theorem OkD.imp {P : Program} {w : World} {K : PySem.W.Frag} {mg : Str → Option Value} {base : Heap} {at_ : Str × Option Str} {k : Nat} {ps : List Str} {sp sp' : Sp} (G : OkD P w K mg base at_ k ps sp) (h : ∀ vs H Q E, sp' vs H Q E → sp vs H Q E) : OkD P w K mg base at_ k ps sp' := by
  obtain ⟨fd, a, b, c⟩ := G
  exact ⟨fd, a, b, c.imp h⟩
theorem OkD.mono {P : Program} {w : World} {K : PySem.W.Frag} {mg : Str → Option Value} {base : Heap} {at_ : Str × Option Str} {j k : Nat} {ps : List Str} {sp : Sp} (G : OkD P w K mg base at_ j ps sp) (h : j ≤ k) : OkD P w K mg base at_ k ps sp := by
  obtain ⟨fd, a, b, c⟩ := G
  exact ⟨fd, a, b, c.mono h⟩
section
variable {P : Program} {w : World} {K : PySem.W.Frag} {mg : Str → Option Value} {base : Heap}
/-- from a def's body -/
theorem okD_of {at_ : Str × Option Str} {x qual : Str} {params : Arguments} {body : List Stmt} {scope : Scope} {N ps : List Str} {k : Nat} {sp : Sp} (F : ∃ fd, FunD K x qual params body scope [] [] (He.fAd K at_) fd) (S : FnScope N ps scope)
    (hb : ∀ (kV doc pm : Value) (an : Option Addr) (cdv ct : Value) (us : List Value), us.length = ps.length → bindArgs (PySem.W.fnOf x qual params body scope .none kV doc pm an cdv ct) ⟨us, []⟩ = pure (ps.zip us))
    (len : ∀ vs H Q E, sp vs H Q E → vs.length = ps.length)
    (hbody : ∀ (cdv : Value) (A : Around) (outer : List Env) (s : Shared) (H : Hp) (vs : List V) (Q : VK) (E : XK), Room k (A.deeper (envOfC qual scope s.heap.objs.size (He.fAd K at_) cdv)) → sp vs H Q E →
      ∃ t, PSs (cxOf CX0 P w K mg base N qual scope (He.fAd K at_) cdv A outer s H E).nox body t ∧ t { nx := fun _ H' => Q .non H', rt := Q } (start N vs) H) : OkD P w K mg base at_ (k + 1) ps sp := by
  obtain ⟨fd, F⟩ := F
  refine ⟨fd, FunD.bindsN F hb, F.kp, F.ok S len fun cdv A outer s H vs Q E hr h => ?_⟩
  obtain ⟨t, h1, h2⟩ := hbody cdv A outer s H vs Q E hr h
  exact ⟨t, h1.nox, h2⟩
end
section
variable {X : Cx} {at_ : Str × Option Str} {k j : Nat} {ps : List Str} {sp : Sp} {x m : Str} {p pos apos : Pos} {e o : Expr} {es : List Expr} {ta : TE} {t : TA}
theorem pe_callO (G : OkD X.prog X.w X.K X.mg X.base at_ k ps sp) (hr : Room j X.A) (hjk : k ≤ j) (hm : X.mg x = some (.ref (He.fAd X.K at_))) (ha : PA X (e :: es) t) (hg : Gl X x := by rfl)
    (hdb : (x == ("__debug__" : Str)) = false := by decide) (he : starEach (e :: es) X.env = (false, eval e X.env) :: starEach es X.env := by rfl) (hpl : (backTo pos (starEach es X.env)).any (·.1) = false := by rfl) :
    PE X (.Call (.Name x p) (e :: es) [] pos) (tCall sp [] E0 t) := by
  obtain ⟨fd, a, b, c⟩ := G
  exact pe_call c (hr.mono hjk) hg hm b a .nil pass0 ha hdb he hpl
theorem pe_methO {C : Addr} {pl : Sem Bool} (G : OkD X.prog X.w X.K X.mg X.base at_ k ps sp) (hr : Room j X.A) (hjk : k ≤ j) (c : Cls X.K C) (hm : Meth X.K C m (He.fAd X.K at_)) (ho : PE X o ta) (ha : PA X (e :: es) t)
    (hst : starEach (e :: es) X.env = (false, eval e X.env) :: starEach es X.env := by rfl) (hpl : (backTo pos (starEach es X.env)).any (·.1) = false := by rfl)
    (ht : eval (.Call (.Attribute o m apos) (e :: es) [] pos) X.env = (do
      let ov ← eval o X.env
      standAt apos.atName
      let (f, first) ← holding [ov] (getMethod ov m pl)
      callWith pos f first (backTo pos (starEach (e :: es) X.env)) (backToKw pos (keywordEach [] X.env))) := by rfl) :
    PE X (.Call (.Attribute o m apos) (e :: es) [] pos) (tMeth C m sp [] E0 ta t) := by
  obtain ⟨fd, a, b, d⟩ := G
  exact pe_meth ho c hm d (hr.mono hjk) a .nil pass0 ha hst hpl ht
theorem pe_methO0 {C : Addr} {pl : Sem Bool} (G : OkD X.prog X.w X.K X.mg X.base at_ k ps sp) (hr : Room j X.A) (hjk : k ≤ j) (c : Cls X.K C) (hm : Meth X.K C m (He.fAd X.K at_)) (ho : PE X o ta)
    (ht : eval (.Call (.Attribute o m apos) [] [] pos) X.env = (do
      let ov ← eval o X.env
      standAt apos.atName
      let (f, first) ← holding [ov] (getMethod ov m pl)
      callWith pos f first (backTo pos (starEach [] X.env)) (backToKw pos (keywordEach [] X.env))) := by rfl) :
    PE X (.Call (.Attribute o m apos) [] [] pos) (tMeth C m sp [] E0 ta tNil) := by
  obtain ⟨fd, a, b, d⟩ := G
  exact pe_meth0 ho c hm d (hr.mono hjk) a .nil pass0 ht
theorem pe_makeO {C : Addr} (G : OkD X.prog X.w X.K X.mg X.base at_ k ps sp) (hr : Room j X.A) (hjk : k + 1 ≤ j) (M : Mk X.K C (He.fAd X.K at_)) (hm : X.mg x = some (.ref C)) (ha : PA X (e :: es) t) (hg : Gl X x := by rfl)
    (hdb : (x == ("__debug__" : Str)) = false := by decide) (he : starEach (e :: es) X.env = (false, eval e X.env) :: starEach es X.env := by rfl) (hpl : (backTo pos (starEach es X.env)).any (·.1) = false := by rfl) :
    PE X (.Call (.Name x p) (e :: es) [] pos) (tMake C sp [] E0 t) := by
  obtain ⟨fd, a, b, d⟩ := G
  exact pe_make M d (hr.mono hjk) hg hm a .nil pass0 ha hdb he hpl
theorem pe_makeO0 {C : Addr} (G : OkD X.prog X.w X.K X.mg X.base at_ k ps sp) (hr : Room j X.A) (hjk : k + 1 ≤ j) (M : Mk X.K C (He.fAd X.K at_)) (hm : X.mg x = some (.ref C)) (hg : Gl X x := by rfl)
    (hdb : (x == ("__debug__" : Str)) = false := by decide) : PE X (.Call (.Name x p) [] [] pos) (tMake C sp [] E0 tNil) := by
  obtain ⟨fd, a, b, d⟩ := G
  exact pe_make0 M d (hr.mono hjk) hg hm a .nil pass0 hdb
theorem pe_gint {i : Int} (h : ∃ t, X.mg x = some (.int i t)) (hg : Gl X x := by rfl) (hd : (x == ("__debug__" : Str)) = false := by decide) : PE X (.Name x pos) (tC (.int i)) := by
  obtain ⟨t, h⟩ := h
  exact pe_glob hg h ⟨t, rfl⟩ hd
theorem pe_gstr {z : Str} (h : ∃ t, X.mg x = some (.str z t)) (hg : Gl X x := by rfl) (hd : (x == ("__debug__" : Str)) = false := by decide) : PE X (.Name x pos) (tC (.str z)) := by
  obtain ⟨t, h⟩ := h
  exact pe_glob hg h ⟨t, rfl⟩ hd
theorem pe_gref {a : Addr} (h : X.mg x = some (.ref a)) (hg : Gl X x := by rfl) (hd : (x == ("__debug__" : Str)) = false := by decide) : PE X (.Name x pos) (tC (.ref a)) := pe_glob hg h rfl hd
theorem pe_ty {n : String} (h : X.mg x = none) (hv : bootBuiltins x = some (.type n)) (hg : Gl X x := by rfl) (hn : x ≠ "__name__" := by decide) (hd : (x == ("__debug__" : Str)) = false := by decide) : PE X (.Name x pos) (tC (.ty n)) := pe_bltn hg h hv rfl hn hd
/-- a thing that is read, and from then on locked (a dict just made that a loop walks) -/
def tFrz (t : TE) : TE := fun σ H Q => t σ H fun x H1 => ∃ d u, x = .ref d ∧ H1 d = some u ∧ Mut (some u) ∧ ∀ od, Q x (upd H1 d (.frz od u))
theorem pe_frz {e : Expr} {t : TE} (h : PE X e t) : PE X e (tFrz t) := by
  refine ⟨fun pins s σ H Q I hw => ?_⟩
  refine thn (h.run pins s σ H _ I hw) fun v s1 ⟨x, H1, I1, r, d, u, ex, hd, mu, q⟩ => ?_
  obtain ⟨od, I2⟩ := I1.lock hd mu
  exact ⟨x, _, I2, r, q od⟩
end
end K81
set_option maxHeartbeats 0
namespace K81
open PySem PySem.Spec PyProof.Rows L2
abbrev RR : PySem.W.OpenRow := PySem.W.OpenLaw.row PySem.Challenge.rw_farshelf_k81_whole_mended_whatever
def ob (s : PySem.W.SharedT) : AlY := obsYG (HandSHeadRun.getT s)
theorem ob_eq (s : PySem.W.SharedT) : ob s = hk.obs s.abs := obsYG_eq (HandSHeadRun.getT_eq s)
theorem run (w : World) : HandSHeadRun.RunEq RR (PySem.W.view RR.prog [64]) hk ob 20000 loose w := by
  intro os
  kernel_rfl
end K81
set_option maxHeartbeats 4000000
namespace K81
open PySem PySem.Spec PyProof.Rows L2
theorem hu65 {A : Around} {k : Nat} (hr : Room k A) : A.units + 65 < cLine := by have := hr.un; omega
/-! ### heaps that grow -/
theorem same_new {H : Hp} {p : Addr} {o : HO} (h : H p = none) : Same H (upd H p o) := fun b u e => by rw [upd_ne (ne_of_none e h)]; exact e
theorem Same.upd {H H' : Hp} {p : Addr} {o : HO} (e : Same H H') (h : H' p = none) : Same H (upd H' p o) := e.trans (same_new h)
/-- a store at an address that the first heap does not have -/
theorem Same.off {H H' : Hp} {p : Addr} {o : HO} (e : Same H H') (h : H p = none) : Same H (L2.upd H' p o) := fun b u q => by
  rw [upd_ne (ne_of_none q h)]
  exact e b u q
theorem Same.tup {K : PySem.W.Frag} {H H' : Hp} {a : Addr} {xs : List V} (e : Same H H') (h : SqT K H a xs) : SqT K H' a xs := by
  rcases h with (h | ⟨o, h⟩) | h
  · exact .inl (.inl (e _ _ h))
  · exact .inl (.inr ⟨o, e _ _ h⟩)
  · exact .inr h
theorem Same.rd {H H' : Hp} {a : Addr} {u : HO} (e : Same H H') (h : Rd H a u) : Rd H' a u := by
  rcases h with h | ⟨o, h⟩
  · exact .inl (e _ _ h)
  · exact .inr ⟨o, e _ _ h⟩
mutual
theorem Same.dp {K : PySem.W.Frag} {H H' : Hp} (e : Same H H') : ∀ {v : V} {d : PyData}, Dp K H v d → Dp K H' v d
  | _, _, .non => .non
  | _, _, .bl b => .bl b
  | _, _, .int i => .int i
  | _, _, .str x => .str x
  | _, _, .lst h a => .lst (Same.seq e h) (Same.dpAll e a)
  | _, _, .tup h a => .tup (Same.tup e h) (Same.dpAll e a)
theorem Same.dpAll {K : PySem.W.Frag} {H H' : Hp} (e : Same H H') : ∀ {vs : List V} {ds : List PyData}, DpAll K H vs ds → DpAll K H' vs ds
  | _, _, .nil => .nil
  | _, _, .cons h a => .cons (Same.dp e h) (Same.dpAll e a)
end
/-- a frozen thing instead of a thing: Same up to that address -/
theorem paired_mono {α β : Type} {F G : α → β → Prop} {xs : List α} {ys : List β} (h : Paired F xs ys) (f : ∀ a b, F a b → G a b) : Paired G xs ys := Paired.mapP h f
theorem paired_len {α β : Type} {F : α → β → Prop} {xs : List α} {ys : List β} (h : Paired F xs ys) : xs.length = ys.length := Paired.length h
theorem paired_at {α β : Type} {F : α → β → Prop} : ∀ {xs : List α} {ys : List β} {i : Nat} {x : α}, Paired F xs ys → xs[i]? = some x → ∃ y, ys[i]? = some y ∧ F x y
  | _, _, _, _, .nil, e => by simp at e
  | _, _, 0, _, .cons r _, e => by simp at e; subst e; exact ⟨_, rfl, r⟩
  | _, _, i + 1, x, .cons _ t, e => by
    obtain ⟨u, h1, h2⟩ := paired_at (i := i) (x := x) t (by simpa using e)
    exact ⟨u, by simpa using h1, h2⟩
theorem paired_at' {α β : Type} {F : α → β → Prop} : ∀ {xs : List α} {ys : List β} {i : Nat} {y : β}, Paired F xs ys → ys[i]? = some y → ∃ x, xs[i]? = some x ∧ F x y
  | _, _, _, _, .nil, e => by simp at e
  | _, _, 0, _, .cons r _, e => by simp at e; subst e; exact ⟨_, rfl, r⟩
  | _, _, i + 1, x, .cons _ t, e => by
    obtain ⟨u, h1, h2⟩ := paired_at' (i := i) (y := x) t (by simpa using e)
    exact ⟨u, by simpa using h1, h2⟩
theorem paired_snoc {α β : Type} {F : α → β → Prop} : ∀ {xs : List α} {ys : List β} {x : α} {y : β}, Paired F xs ys → F x y → Paired F (xs ++ [x]) (ys ++ [y])
  | _, _, _, _, .nil, h => .cons h .nil
  | _, _, _, _, .cons r t, h => .cons r (paired_snoc t h)
theorem paired_take {α β : Type} {F : α → β → Prop} : ∀ {xs : List α} {ys : List β} (n : Nat), Paired F xs ys → Paired F (xs.take n) (ys.take n)
  | _, _, 0, _ => by simp; exact .nil
  | _, _, n + 1, .nil => by simp; exact .nil
  | _, _, n + 1, .cons r t => by simp only [List.take_succ_cons]; exact .cons r (paired_take n t)
theorem paired_map_left {α β γ : Type} {F : γ → β → Prop} {f : α → γ} : ∀ {xs : List α} {ys : List β}, Paired (fun x y => F (f x) y) xs ys → Paired F (xs.map f) ys
  | _, _, .nil => .nil
  | _, _, .cons r t => .cons r (paired_map_left t)
theorem paired_of_map {α β γ : Type} {F : γ → β → Prop} {f : α → γ} : ∀ {xs : List α} {ys : List β}, Paired F (xs.map f) ys → Paired (fun x y => F (f x) y) xs ys
  | [], [], _ => .nil
  | [], _ :: _, h => (nomatch h)
  | _ :: _, [], h => (nomatch h)
  | _ :: _, _ :: _, .cons r t => .cons r (paired_of_map t)
theorem paired_mem {α β : Type} {F : α → β → Prop} : ∀ {xs : List α} {ys : List β} {x : α}, Paired F xs ys → x ∈ xs → ∃ y, y ∈ ys ∧ F x y
  | _, _, _, .nil, h => by simp at h
  | _, _, x, .cons r t, h => by
    rcases List.mem_cons.mp h with e | h
    · subst e; exact ⟨_, List.mem_cons_self, r⟩
    · obtain ⟨y, h1, h2⟩ := paired_mem t h
      exact ⟨y, List.mem_cons_of_mem _ h1, h2⟩
theorem paired_mem' {α β : Type} {F : α → β → Prop} : ∀ {xs : List α} {ys : List β} {y : β}, Paired F xs ys → y ∈ ys → ∃ x, x ∈ xs ∧ F x y
  | _, _, _, .nil, h => by simp at h
  | _, _, x, .cons r t, h => by
    rcases List.mem_cons.mp h with e | h
    · subst e; exact ⟨_, List.mem_cons_self, r⟩
    · obtain ⟨y, h1, h2⟩ := paired_mem' t h
      exact ⟨y, List.mem_cons_of_mem _ h1, h2⟩
theorem take_get {α : Type} {l : List α} {i : Nat} {x : α} (h : l[i]? = some x) : l.take (i + 1) = l.take i ++ [x] := by
  obtain ⟨hi, e⟩ := List.getElem?_eq_some_iff.mp h
  rw [List.take_succ_eq_append_getElem hi, e]
theorem map_at {α β : Type} {f : α → β} {l : List α} {i : Nat} {y : β} (h : (l.map f)[i]? = some y) : ∃ x, l[i]? = some x ∧ f x = y := by
  rw [List.getElem?_map] at h
  exact Option.map_eq_some_iff.mp h
/-! ### comprehensions -/
theorem tyes {σ : L2.St} {H : Hp} {R S : Hp → Prop} (h : R H) : tYes σ H fun b H3 => if b = true then R H3 else S H3 := by
  show if true = true then R H else S H
  rw [if_pos rfl]
  exact h
/-- the end of a turn that keeps an item -/
theorem lc_end {H1 H4 : Hp} {D : Addr} {acc a' : List V} {y : V} (hD : H1 D = none) (s : Same H1 H4) (h : H4 D = some (.lst acc)) (z : acc.length < sizeLine) (e : a' = acc ++ [y]) :
    ∃ acc, H4 D = some (.lst acc) ∧ acc.length < sizeLine ∧ (Same H1 (upd H4 D (.lst (acc ++ [y]))) ∧ (upd H4 D (.lst (acc ++ [y]))) D = some (.lst a')) :=
  ⟨acc, h, z, Same.off s hD, by rw [upd_same, e]⟩
theorem sl {n : Nat} (h : n ≤ 100000) : n < sizeLine := by rw [sizeLine_eq]; omega
theorem sl' {n : Nat} (h : n ≤ 100000) : n ≤ sizeLine := Nat.le_of_lt (sl h)
end K81
set_option maxHeartbeats 4000000
namespace K81
open PySem PySem.Spec PyProof.Rows L2
/-! ### text * int -/
theorem op_mul_str {X : Cx} : OpR X (binaryOp .Mult) (fun x y H Q => ∃ (z : Str) (k : Int), x = .str z ∧ y = .int k ∧ z.length ≤ 1000 ∧ 0 ≤ k ∧ k ≤ 1000 ∧ Q (.str (Txt.mul z k)) H) := by
  intro pins s σ H x y v u Q I rx ry h
  obtain ⟨z, k, rfl, rfl, hz, h0, h1, q⟩ := h
  obtain ⟨t, rfl⟩ := rx
  obtain ⟨t', rfl⟩ := ry
  refine PySem.SB.mul (mulOk_of 1000 1000 hz (by omega) (by omega) (by omega) (by omega)) fun t2 k2 => ?_
  exact ⟨.str _, H, I.tok k2, ⟨t2, rfl⟩, q⟩
theorem txt_mul_len (z : Str) (k : Int) (h0 : 0 ≤ k) : (Txt.mul z k).length = z.length * k.toNat := by
  have e := len_mul z k
  rw [decide_eq_false (show ¬ k < 0 by omega), if_neg (by decide)] at e
  have h2 : ((z.length * k.toNat : Nat) : Int) = (z.length : Int) * k := by rw [Int.natCast_mul, Int.toNat_of_nonneg h0]
  omega
/-! ### tuple * 0, tuple * 1 -/
theorem tuple_mul1 (l : Addr) (items : Array Value) (n : Nat) (dd : Option Addr) (sl : Array (Option Value)) (u : Tok) :
    Meets (Builtin.«tuple.__mul__» ⟨[.ref l, .int 1 u], []⟩) (fun _ R s => s.heap.get? l = some { cls := .type "tuple", dict := dd, data := .seq items n, slots := sl } ∧
      R (.ok (.ret (Value.ref l))) s) :=
  .of_wp fun prog w A R s h => by
    obtain ⟨hp, g, d, tk, os⟩ := s
    obtain ⟨hl, h⟩ := h
    have f1 := AutoSeq1.idx_int
    have c1 : (items.isEmpty || (1 : Int) == 1) = true := by cases items.isEmpty <;> rfl
    wp_walk using wpAny_loadPart' hl
    exact ⟨_, rfl, h⟩
theorem tuple_mul0 (l : Addr) (items : Array Value) (n : Nat) (dd : Option Addr) (sl : Array (Option Value)) (u : Tok) (hi : items.isEmpty = false) :
    Meets (Builtin.«tuple.__mul__» ⟨[.ref l, .int 0 u], []⟩) (fun _ R s => s.heap.get? l = some { cls := .type "tuple", dict := dd, data := .seq items n, slots := sl } ∧
      R (.ok (.ret (Value.ref s.heap.objs.size))) { s with heap := s.heap.push { cls := Value.type "tuple", data := Data.seq #[] } }) :=
  .of_wp fun prog w A R s h => by
    obtain ⟨hp, g, d, tk, os⟩ := s
    obtain ⟨hl, h⟩ := h
    have f1 := AutoSeq1.idx_int
    have c1 : (items.isEmpty || (0 : Int) == 1) = false := by rw [hi] <;> rfl
    wp_walk using wpAny_loadPart' hl
    exact ⟨_, rfl, h⟩
/-- t * k, k nought or one -/
def rRepN (K : PySem.W.Frag) : R2 := fun x y H Q => ∃ l k xs, x = .ref l ∧ y = .int k ∧ SqT K H l xs ∧ xs ≠ [] ∧ (k = 0 ∨ k = 1) ∧ (k = 1 → Q (.ref l) H) ∧ (k = 0 → ∀ p, H p = none → Q (.ref p) (upd H p (.tup [])))
theorem op_repTn {X : Cx} : OpR X (binaryOp .Mult) (rRepN X.K) := by
  intro pins s σ H x y v u Q I rx ry h
  obtain ⟨l, k, xs, rfl, rfl, hT, hne, hk, q1, q0⟩ := h
  cases rx
  obtain ⟨t, rfl⟩ := ry
  obtain ⟨its, r, ⟨⟨cls, dd, data, sl⟩, ho, hc, n, hd⟩, hs⟩ := I.tuple hT
  simp only at hc hd
  subst hc hd
  have hle : its.length = xs.length := r.length.symm
  have hn : its ≠ [] := fun e => hne (by
    rw [e] at hle
    exact List.eq_nil_of_length_eq_zero hle.symm)
  have hi : its.toArray.isEmpty = false := by
    cases its with
    | nil => exact absurd rfl hn
    | cons a b => rfl
  rcases hk with rfl | rfl
  · refine wpAny_binaryOp_repeat_ref (T := "tuple") (U := "int") (by decide) ⟨_, ho, rfl⟩ (fun s' => typeIs_int s' 0 t) noFill_tuple_mul PySem.F.fills_int_mul PySem.F.slot_int_rmul repeat_tuple PySem.F.slot_int_index.lookup
      (call_meets PySem.F.slot_int_rmul (typeIs_int s 0 t) PySem.F.entry_int_rmul (PySem.F.args_int_rmul_2 _ _) (int_rmul_tuple 0 t l its.toArray n dd sl)
        ⟨ho, rfl, ⟨_, ho, rfl⟩, call_meets PySem.F.slot_tuple_mul ⟨_, ho, rfl⟩ PySem.F.entry_tuple_mul (PySem.F.args_tuple_mul_2 _ _) (tuple_mul0 l its.toArray n dd sl t hi) ⟨ho, ?_⟩⟩)
    refine ⟨.ref s.heap.objs.size, _, I.laid (t' := s.toks) (o := .tup []) (fun b ob q => Heap.get?_push_of_some _ q) (Nat.le_refl _) ?_, rfl, q0 rfl _ (I.hok.fresh (Nat.le_refl _))⟩
    exact ⟨Nat.zero_le _, [], .nil, IsTup.new _ _⟩
  · refine wpAny_binaryOp_repeat_ref (T := "tuple") (U := "int") (by decide) ⟨_, ho, rfl⟩ (fun s' => typeIs_int s' 1 t) noFill_tuple_mul PySem.F.fills_int_mul PySem.F.slot_int_rmul repeat_tuple PySem.F.slot_int_index.lookup
      (call_meets PySem.F.slot_int_rmul (typeIs_int s 1 t) PySem.F.entry_int_rmul (PySem.F.args_int_rmul_2 _ _) (int_rmul_tuple 1 t l its.toArray n dd sl)
        ⟨ho, rfl, ⟨_, ho, rfl⟩, call_meets PySem.F.slot_tuple_mul ⟨_, ho, rfl⟩ PySem.F.entry_tuple_mul (PySem.F.args_tuple_mul_2 _ _) (tuple_mul1 l its.toArray n dd sl t) ⟨ho, ?_⟩⟩)
    exact ⟨.ref l, H, I, rfl, q1 rfl⟩
end K81
set_option maxHeartbeats 4000000
namespace K81
open PySem PySem.Spec PyProof.Rows L2
section
variable {X : Cx} {e : Expr} {te : TE} {p apos cpos pos : Pos}
theorem kv_snd : ∀ {κ : Type} {kvs : List (κ × V)} {vs : List (κ × Value)}, KV kvs vs → Vals (kvs.map (·.2)) (vs.map (·.2))
  | _, _, _, .nil => .nil
  | _, _, _, .cons r t => .cons r.2 (kv_snd t)
/-! ### list(d.values()) -/
def tListVals (te : TE) : TE := fun σ H Q => te σ H fun x H1 => ∃ (d : Addr) (kvs : List (Key × V)), x = .ref d ∧ Rd H1 d (.dK kvs) ∧ ∀ p, H1 p = none → Q (.ref p) (upd H1 p (.lst (kvs.map (·.2))))
theorem pe_listValues (hc : X.calm = true) (he : PE X e te) (hg : Gl X "list") (hm : X.mg "list" = none) (hv : bootBuiltins "list" = some (.type "list")) (hbase : attributeBase e "values" X.env (eval e X.env) = eval e X.env := by rfl) (hline : (apos.endLine == cpos.line) = true := by rfl)
    (hs : starEach [.Call (.Attribute e "values" apos) [] [] cpos] X.env = (false, eval (.Call (.Attribute e "values" apos) [] [] cpos) X.env) :: starEach [] X.env := by rfl) :
    PE X (.Call (.Name "list" p) [.Call (.Attribute e "values" apos) [] [] cpos] [] pos) (tListVals te) := by
  refine ⟨fun pins s σ H Q I hq => ?_⟩
  refine wpAny_Call_Name_kw (ld_blt I hg hm hv ?_)
  refine PyProof.Rows.callWith_type1 ?_ hs rfl
  rw [hs]
  show wpAny _ _ (spliced ((false, eval (.Call (.Attribute e "values" apos) [] [] cpos) X.env) :: backTo pos (starEach [] X.env))) _ _ s
  refine Calls.spliced_cons ?_
  refine wpAny_Call_method (T := "dict") (id := "dict.values") hbase rfl hline F.plainAttrs_dict F.slot_dict_values F.type_dict_values (thn (he.run pins s σ H _ I hq) fun u s1 ⟨x, H1, I1, rx, d, kvs, ex, hd, q⟩ => ?_)
  subst ex
  obtain rfl : u = Value.ref d := rx
  obtain ⟨hz, hs0, vs, kv, hdo⟩ := dk_rd I1.hok hd
  obtain ⟨ep, hat⟩ := hdo.dictAt
  have lk : kvs.length = vs.length := Paired.length kv
  have I2 : Inv X pins σ H1 { s1 with heap := s1.heap.push { cls := .type "dict_values", data := .fields #[.ref d] } } := I1.kept (t' := s1.toks) fun b ob q => Heap.get?_push_of_some _ q
  refine ⟨hdo.typeIs, hdo.mapOf.noDict, ?_⟩
  show wpAny _ _ (callWith cpos (.builtin "dict.values") [.ref d] [] []) _ X.xe s1
  refine method_meetsIn F.slot_dict_values F.entry_dict_values rfl (PySem.evalArgs_none ⟨rfl, hdo.typeIs, F.args_dict_values_1 _, _, meets_dict_values (mixKind X.prog X.w) d hs0, ⟨vs, hdo⟩, ?_⟩)
  refine Calls.spliced_nil ?_
  have hlt : s1.heap.objs.size < (s1.heap.push { cls := .type "dict_values", data := .fields #[.ref d] }).objs.size := by rw [Heap.size_push]; exact Nat.lt_succ_self _
  refine PySem.W.kdl_call (s := { s1 with heap := s1.heap.push { cls := .type "dict_values", data := .fields #[.ref d] } }) (PySem.W.kdl_values (knd := mixKind X.prog X.w) (kvs := vs) (ep := ep) (d := d) (r := s1.heap.objs.size)) (I1.ok.hd hc) ⟨⟨_, Heap.get?_push_size _ rfl, rfl, rfl⟩, hat.push _⟩ (by omega) fun h' tk acc c hk hS hacc => ?_
  have ev : acc.toList = vs.map (·.2) := PySem.W.kdl_vals_eq acc.toList (by rw [Array.length_toList]; exact hacc.1) fun j v e => hacc.2 j v (by rw [← Array.getElem?_toList]; exact e)
  refine ⟨.ref _, _, I2.laid (t' := tk) (o := .lst (kvs.map (·.2))) hk (Nat.le_refl _) ⟨by rw [List.length_map]; exact hz, acc.toList, c, by rw [ev]; exact kv_snd kv, by rw [Array.toArray_toList]; exact hS⟩, rfl, q _ (I2.hok.fresh (Nat.le_refl _))⟩
end
end K81
set_option maxHeartbeats 4000000
namespace K81
open PySem PySem.Spec PyProof.Rows L2
/-! ### sorted of data, any length -/
abbrev dle (a b : PyData) : Bool := PySem.W.dataLe false (fun d : PyData => d) a b
def rSortD (K : PySem.W.Frag) : List V → Hp → VK → Prop := fun vs H Q => ∃ (a : Addr) (xs : List V) (ds : List PyData), vs = [V.ref a] ∧ SqL K H a xs ∧ DpAll K H xs ds ∧ PySem.W.AllAlike ds ∧ PySem.W.Sortable ds ∧ (∀ d ∈ ds, d.depth ≤ 8) ∧
  ∀ (ys : List V) (p : Addr), DpAll K H ys (ds.mergeSort dle) → H p = none → Q (.ref p) (upd H p (.lst ys))
theorem dpAll_len {K : PySem.W.Frag} {H : Hp} : ∀ {xs : List V} {ds : List PyData}, DpAll K H xs ds → xs.length = ds.length
  | _, _, .nil => rfl
  | _, _, .cons _ t => congrArg Nat.succ (dpAll_len t)
theorem each_dp {K : PySem.W.Frag} {H : Hp} : ∀ {xs : List V} {us : List Value} {ds : List PyData}, Vals xs us → DpAll K H xs ds → PySem.W.EachIs (fun v d => ∃ x, RelV x v ∧ Dp K H x d) us ds
  | _, _, _, .nil, .nil => .nil
  | _, _, _, .cons r t, .cons h a => .cons ⟨_, r, h⟩ (each_dp t a)
theorem dp_each {K : PySem.W.Frag} {H : Hp} : ∀ {us : List Value} {ds : List PyData}, PySem.W.EachIs (fun v d => ∃ x, RelV x v ∧ Dp K H x d) us ds → ∃ xs, Vals xs us ∧ DpAll K H xs ds
  | _, _, .nil => ⟨[], .nil, .nil⟩
  | _, _, .cons ⟨x, r, h⟩ t => by
    obtain ⟨xs, r2, h2⟩ := dp_each t
    exact ⟨x :: xs, .cons r r2, .cons h h2⟩
theorem map_id' {α : Type} (l : List α) : l.map (fun d => d) = l := List.map_id' l
theorem cr_sortedK {X : Cx} (hu : X.A.units + 64 < cLine) : CallR X (.builtin "sorted") (rSortD X.K) := by
  intro pins s σ H vs us Q I r h
  obtain ⟨a, xs, ds, rfl, hs, hd, hal, hk, hdep, q⟩ := h
  obtain ⟨its, rv, hl, hz⟩ := I.list hs
  rw [Vals.ref1 r]
  refine PySem.W.sorted_data (bs := ds) (enc := fun d => d) (R := fun v d => ∃ x, RelV x v ∧ Dp X.K H x d) hl.isList (each_dp rv hd) ((each_dp rv hd).mono fun v d ⟨x, r1, h1⟩ => Dp.reads I d x v h1 r1) (by rw [map_id']; exact hal) (by rw [map_id']; exact hk) (by rw [← dpAll_len hd]; exact hz)
    (fun b hb => by have := hdep b hb; omega) fun out hlen eo => ?_
  obtain ⟨ys, r2, h2⟩ := dp_each eo
  obtain ⟨ep, he'⟩ := PyProof.Rows.sortedAll_at s.heap its out.toArray
  have hlen2 : ys.length ≤ sizeLine := by rw [r2.length, hlen, ← dpAll_len hd]; exact hz
  exact ⟨.ref _, upd H (s.heap.objs.size + 1) (.lst ys), I.laid (t' := s.toks) (fun _ _ => PyProof.Rows.sortedAll_old) (Nat.le_succ _) ⟨hlen2, out, ep, r2, he'⟩, rfl, q _ _ h2 (I.hok.fresh (Nat.le_succ _))⟩
/-! ### sorted(d.items()), text keys, ints -/
def encI (e : Str × Int) : PyData := .tuple [.str e.1, .int e.2]
abbrev ile (a b : Str × Int) : Bool := PySem.W.dataLe false encI a b
def dkI (l : List (Str × Int)) : List (Key × V) := l.map fun e => (Sum.inr e.1, V.int e.2)
def tSortItems (te : TE) : TE := fun σ H Q => te σ H fun x H1 => ∃ (d : Addr) (l : List (Str × Int)), x = .ref d ∧ Rd H1 d (.dK (dkI l)) ∧
  ∀ (H' : Hp) (p : Addr) (ts : List Addr), Same H1 H' → H1 p = none → H' p = some (.lst (ts.map V.ref)) → Paired (fun (t : Addr) (e : Str × Int) => H1 t = none ∧ H' t = some (.tup [.str e.1, .int e.2])) ts (l.mergeSort ile) → Q (.ref p) H'
section
variable {X : Cx} {e : Expr} {te : TE} {p apos cpos pos : Pos}
theorem pe_sortedItems (hc : X.calm = true) (hu : X.A.units + 64 < cLine) (he : PE X e te) (hg : Gl X "sorted") (hm : X.mg "sorted" = none) (hv : bootBuiltins "sorted" = some (.builtin "sorted")) (hbase : attributeBase e "items" X.env (eval e X.env) = eval e X.env := by rfl) (hline : (apos.endLine == cpos.line) = true := by rfl)
    (hs : starEach [.Call (.Attribute e "items" apos) [] [] cpos] X.env = (false, eval (.Call (.Attribute e "items" apos) [] [] cpos) X.env) :: starEach [] X.env := by rfl) :
    PE X (.Call (.Name "sorted" p) [.Call (.Attribute e "items" apos) [] [] cpos] [] pos) (tSortItems te) := by
  refine ⟨fun pins s σ H Q I hq => ?_⟩
  refine wpAny_Call_Name_kw (ld_blt I hg hm hv ?_)
  refine PyProof.Rows.callWith_builtin1 ?_ hs rfl
  rw [hs]
  show wpAny _ _ (spliced ((false, eval (.Call (.Attribute e "items" apos) [] [] cpos) X.env) :: backTo pos (starEach [] X.env))) _ _ s
  refine Calls.spliced_cons ?_
  refine wpAny_Call_method (T := "dict") (id := "dict.items") hbase rfl hline F.plainAttrs_dict F.slot_dict_items F.type_dict_items (thn (he.run pins s σ H _ I hq) fun u s1 ⟨x, H1, I1, rx, d, l, ex, hd, q⟩ => ?_)
  subst ex
  obtain rfl : u = Value.ref d := rx
  obtain ⟨hz, hs0, vs, kv, hdo⟩ := dk_rd I1.hok hd
  obtain ⟨es, ep, raw, hsz, hent⟩ := PySem.Heap.DictOf.raw hdo
  have lk : (dkI l).length = vs.length := Paired.length kv
  have ll : (dkI l).length = l.length := List.length_map _
  have I2 : Inv X pins σ H1 { s1 with heap := s1.heap.push { cls := .type "dict_items", data := .fields #[.ref d] } } := I1.kept (t' := s1.toks) fun b ob q => Heap.get?_push_of_some _ q
  refine ⟨hdo.typeIs, hdo.mapOf.noDict, ?_⟩
  show wpAny _ _ (callWith cpos (.builtin "dict.items") [.ref d] [] []) _ X.xe s1
  refine method_meetsIn F.slot_dict_items F.entry_dict_items rfl (PySem.evalArgs_none ⟨rfl, hdo.typeIs, F.args_dict_items_1 _, _, meets_dict_items (mixKind X.prog X.w) d hs0, ⟨vs, hdo⟩, ?_⟩)
  refine Calls.spliced_nil ?_
  generalize hs2 : ({ s1 with heap := s1.heap.push { cls := .type "dict_items", data := .fields #[.ref d] } } : Shared) = s2 at I2
  have hview : s2.heap.IsItemsView s1.heap.objs.size d := by rw [← hs2]; exact ⟨_, Heap.get?_push_size _ rfl, rfl, rfl⟩
  have raw2 : DT.Raw s2.heap d es ep := by rw [← hs2]; exact DT.Raw.push raw _
  show wpAny _ _ _ _ _ s2
  refine DT.sortedI (es := es) (ep := ep) (I1.ok.hd hc) hview raw2 (by omega) fun h' tk as hk hlt hl hG => ?_
  have lal : as.length = l.length := by omega
  have nd : as.Nodup := List.Pairwise.imp (fun h => Nat.ne_of_lt h) hG.rise
  have pr : ∀ (j : Nat) (b : Addr) (en : Str × Int), as[j]? = some b → l[j]? = some en → ∃ t u, h'.get? b = some { cls := .type "tuple", data := .seq #[Value.str en.1 t, Value.int en.2 u] } := by
    intro j b en hj hlj
    obtain ⟨e0, he0, hg⟩ := hG.pairs j b hj
    have hk1 : (dkI l)[j]? = some (Sum.inr en.1, V.int en.2) := by
      unfold dkI
      rw [List.getElem?_map, hlj] <;> rfl
    obtain ⟨u, hvs, ru⟩ := kv_get kv hk1
    obtain ⟨hji, ee⟩ := Array.getElem?_eq_some_iff.mp he0
    obtain ⟨k1, k2⟩ := hent j hji _ _ hvs
    rw [ee] at k1 k2
    obtain ⟨t, et⟩ := (show RelV (kV (Sum.inr en.1)) e0.key from relV_key k1)
    obtain ⟨t2, et2⟩ := (show RelV (V.int en.2) u from ru)
    exact ⟨t, t2, by rw [hg, et, k2, et2]⟩
  have hob : (h'.push { cls := .type "list", data := .seq (as.map Value.ref).toArray }).get? h'.objs.size = some (seqObj "list" (as.map Value.ref).toArray 0) := Heap.get?_push_size _ rfl
  have kb : ∀ b o, s2.heap.get? b = some o → (h'.push { cls := .type "list", data := .seq (as.map Value.ref).toArray }).get? b = some o := fun b o e => Heap.get?_push_of_some _ (hk b o e)
  have ne0 : ∀ b o, h'.get? b = some o → b ≠ h'.objs.size := fun b o e => Nat.ne_of_lt (Heap.lt_size e)
  generalize hh2 : h'.push { cls := .type "list", data := .seq (as.map Value.ref).toArray } = h2 at hob kb ⊢
  have ka : ∀ b o, h'.get? b = some o → h2.get? b = some o := fun b o e => by rw [← hh2]; exact Heap.get?_push_of_some _ e
  have zz : ∀ q ∈ (as.map Value.ref).zip l, ∃ (j : Nat) (b : Addr), q.1 = Value.ref b ∧ as[j]? = some b ∧ l[j]? = some q.2 := by
    intro q hq
    obtain ⟨j, hj⟩ := List.mem_iff_getElem?.mp hq
    obtain ⟨h1, h2⟩ := List.getElem?_zip_eq_some.mp hj
    rw [List.getElem?_map] at h1
    obtain ⟨b, hb, eb⟩ := Option.map_eq_some_iff.mp h1
    exact ⟨j, b, eb.symm, hb, h2⟩
  refine PySem.W.list_sort_data (s := { s2 with heap := h2, toks := tk }) (bs := l) (enc := encI) (R := fun v en => ∃ (j : Nat) (b : Addr), v = Value.ref b ∧ as[j]? = some b ∧ l[j]? = some en) hob
    (PySem.W.EachIs.of_zip (by rw [List.length_map]; exact lal) zz) (PySem.W.EachIs.of_zip (by rw [List.length_map]; exact lal) fun q hq => ?_) (PySem.W.AllAlike.of fun b b' => by simp [encI, PySem.W.alike, PySem.W.alikeAll]) (PySem.W.Sortable.tuples fun b => ⟨_, _, rfl⟩) (by omega)
    (fun b hb => by show X.A.units + 1 + 1 + (PyData.tuple [.str b.1, .int b.2]).depth < cLine; simp [PyData.depth, PyData.depthAll]; omega) fun out hlen eo => ?_
  · obtain ⟨j, b, e1, e2, e3⟩ := zz q hq
    obtain ⟨t, u, hg⟩ := pr j b q.2 e2 e3
    exact ⟨_, by rw [e1]; exact Reads.tuple (ka _ _ hg) rfl rfl (ReadsAll.cons (Reads.str _ _) (ReadsAll.cons (Reads.int _ _) ReadsAll.nil)), by simp⟩
  · -- behind the sort
    have kF : ∀ b o, b ≠ h'.objs.size → h2.get? b = some o → (sortedHeap h2 h'.objs.size (as.map Value.ref) out.toArray).get? b = some o := fun b o hb e => (PyProof.Rows.sortedHeap_old hb (Heap.lt_size e)).trans e
    have kS : ∀ b o, s2.heap.get? b = some o → (sortedHeap h2 h'.objs.size (as.map Value.ref) out.toArray).get? b = some o := fun b o e => kF b o (ne0 _ _ (hk b o e)) (kb b o e)
    obtain ⟨eF, heF⟩ := PyProof.Rows.sortedHeap_at (vs := as.map Value.ref) (out := out.toArray) hob
    have back : ∀ {out : List Value} {l' : List (Str × Int)}, PySem.W.EachIs (fun v en => ∃ (j : Nat) (b : Addr), v = Value.ref b ∧ as[j]? = some b ∧ l[j]? = some en) out l' → ∃ ts : List Addr, out = ts.map Value.ref ∧ Paired (fun t en => ∃ j : Nat, as[j]? = some t ∧ l[j]? = some en) ts l' := by
      intro out l' h
      induction h with
      | nil => exact ⟨[], rfl, .nil⟩
      | cons h t ih =>
        obtain ⟨j, b, rfl, e2, e3⟩ := h
        obtain ⟨ts, rfl, pp⟩ := ih
        exact ⟨b :: ts, rfl, .cons ⟨j, e2, e3⟩ pp⟩
    obtain ⟨ts, eout, pts⟩ := back eo
    have hlen2 : ts.length = l.length := by
      have := hlen
      rw [eout, List.length_map] at this
      exact this
    have I3 : Inv X pins σ H1 { s2 with heap := sortedHeap h2 h'.objs.size (as.map Value.ref) out.toArray, toks := tk } := I2.kept (t' := tk) kS
    have hn0 : H1 h'.objs.size = none := I2.hok.fresh (Nat.le_of_lt hlt)
    have I4 : Inv X pins σ (upd H1 h'.objs.size (.lst (ts.map V.ref))) { s2 with heap := sortedHeap h2 h'.objs.size (as.map Value.ref) out.toArray, toks := tk } :=
      I3.take (h' := sortedHeap h2 h'.objs.size (as.map Value.ref) out.toArray) (t' := tk) (fun b ob _ e => e) (I2.fpOk (Nat.le_of_lt hlt) hn0) ⟨by rw [List.length_map]; omega, out, eF, by rw [eout]; exact LiI.vals_refs ts, heF⟩
    obtain ⟨H2, I5, g, qt⟩ := L2.DX.takeT (P := fun b vs => ∃ (j : Nat) (en : Str × Int), as[j]? = some b ∧ l[j]? = some en ∧ vs = [V.str en.1, V.int en.2]) I2 as _ I4 nd fun b hb => by
      obtain ⟨j, hj⟩ := List.mem_iff_getElem?.mp hb
      have hjl : j < l.length := by have := (List.getElem?_eq_some_iff.mp hj).1; omega
      obtain ⟨t, u, hg⟩ := pr j b l[j] hj (List.getElem?_eq_getElem hjl)
      have hbl : s2.heap.objs.size ≤ b := Nat.le_of_lt (hG.above b hb)
      refine ⟨hbl, ?_, [V.str l[j].1, V.int l[j].2], ⟨j, l[j], hj, List.getElem?_eq_getElem hjl, rfl⟩, fun H3 => ⟨(by rw [sizeLine_eq]; show 2 ≤ 16777216; omega), [Value.str l[j].1 t, Value.int l[j].2 u], .cons ⟨t, rfl⟩ (.cons ⟨u, rfl⟩ .nil), ⟨_, kF _ _ (ne0 _ _ hg) (ka _ _ hg), rfl, 0, rfl⟩⟩⟩
      rw [upd_ne (ne0 _ _ hg)]
      exact I2.hok.fresh hbl
    have gr : Same H1 H2 := fun b o e => g b o (by rw [upd_ne (ne_of_none e hn0)]; exact e)
    refine ⟨.ref h'.objs.size, H2, I5, rfl, q H2 h'.objs.size ts gr hn0 (g _ _ upd_same) (paired_mono pts fun t en ⟨j, e2, e3⟩ => ?_)⟩
    obtain ⟨vs', ⟨j2, en2, j1, j3, ev⟩, hH⟩ := qt t (List.mem_of_getElem? e2)
    have eij : j = j2 := (List.getElem?_inj (List.getElem?_eq_some_iff.mp e2).1 nd).mp (e2.trans j1.symm)
    subst eij
    have ee : en2 = en := Option.some.inj (j3.symm.trans e3)
    rw [ev, ee] at hH
    exact ⟨I2.hok.fresh (Nat.le_of_lt (hG.above t (List.mem_of_getElem? e2))), hH⟩
end
end K81
set_option maxHeartbeats 4000000
namespace K81
open PySem PySem.Spec PyProof.Rows L2
theorem entry_contains_iter : entryFor table "proto.contains_iter" = some Builtin.«proto.contains_iter» := entryFor_of_fast (by kernel_rfl)
theorem plain_contains_iter : plainId "proto.contains_iter" = true := by decide +kernel
theorem lookup_values_contains : typeLookup (.type "dict_values") "__contains__" = pure none := by rw [typeLookup_type, builtinLookup_eq_fast]; kernel_rfl
section
variable {prog : Program} {w : World} {A : Around} {R : Result → Shared → Prop} {I : Addr} {fp wr : List Addr} {n : Nat} {P : Nat → Value → Prop} {St : Nat → Heap → Prop}
theorem codeAny_contains_loop (W : Walks prog w A.in1 I fp wr n P St) (x : Value) (tr : Nat → Bool) (htr : ∀ i v (s : Shared) (Q : Bool → Shared → Prop) (E : Value → Shared → Prop), P i v → Q (tr i) s → wpAny (model prog w) A.in1 (eqBool v x) Q E s) : ∀ (k i : Nat) (s : Shared), n - i = k → i ≤ n → St i s.heap →
    (∀ h' tk, (∀ b o, b ∉ wr → s.heap.get? b = some o → h'.get? b = some o) → R (.ok (.ret (.bool (((List.range n).drop i).any tr)))) { s with heap := h', toks := tk }) →
    codeAny (model prog w) A (.builtin "proto.contains_iter" ⟨[.ref I, x], []⟩) R s := by
  intro k
  induction k with
  | zero =>
    intro i s hk hi hst hR
    have hin : i = n := by omega
    subst hin
    refine codeAny_builtin entry_contains_iter ?_
    rw [Around.under_plainId plain_contains_iter _]
    show wpAny _ A.in1 (pyNext (.ref I) >>= _) _ _ s
    refine wpAny_bind (W.done s _ _ hst fun h' tk hk' => ?_)
    refine wpAny_bind (wpAny_rule (wpAny_pure ?_))
    have := hR h' tk hk'
    rw [List.drop_of_length_le (by simp)] at this
    exact this
  | succ k ih =>
    intro i s hk hi hst hR
    have hlt : i < n := by omega
    have hd : (List.range n).drop i = i :: (List.range n).drop (i + 1) := by
      rw [List.drop_eq_getElem_cons (by simpa using hlt)]; simp
    refine codeAny_builtin entry_contains_iter ?_
    rw [Around.under_plainId plain_contains_iter _]
    show wpAny _ A.in1 (pyNext (.ref I) >>= _) _ _ s
    refine wpAny_bind (W.item i s _ _ hlt hst fun v h' tk hP hst' hk' => ?_)
    refine wpAny_bind (htr i v _ _ _ hP ?_)
    cases hb : tr i with
    | false =>
      simp only [Bool.false_eq_true, if_false]
      refine wpAny_pure ⟨plainId_quiet plain_contains_iter _, ih (i + 1) _ (by omega) hlt hst' fun h'' tk'' hk'' => ?_⟩
      have := hR h'' tk'' fun b o hbw e => hk'' b o hbw (hk' b o hbw e)
      rw [hd, List.any_cons, hb, Bool.false_or] at this
      exact this
    | true =>
      simp only [if_true]
      refine wpAny_bind (wpAny_rule (wpAny_pure ?_))
      have := hR h' tk hk'
      rw [hd, List.any_cons, hb, Bool.true_or] at this
      exact this
end
section
variable {prog : Program} {w : World} {A : Around} {E : Value → Shared → Prop} {s : Shared}
theorem contains_values {v d : Addr} {vs : List (Key × Value)} {ep : Nat} {x : Value} {tr : Nat → Bool} {Q : Bool → Shared → Prop} (hh : A.handled = none) (hv : s.heap.IsValuesView v d) (hd : s.heap.DictAt (mixKind prog w) d vs ep)
    (htr : ∀ i u (s : Shared) (Q : Bool → Shared → Prop) (E : Value → Shared → Prop), (∃ k, vs[i]? = some (k, u)) → Q (tr i) s → wpAny (model prog w) A.in1 (eqBool u x) Q E s)
    (h : ∀ h' tk, (∀ b o, s.heap.get? b = some o → h'.get? b = some o) → Q ((List.range vs.length).any tr) { s with heap := h', toks := tk }) :
    wpAny (model prog w) A (contains (.ref v) x) Q E s := by
  have hT : s.TypeIs (.ref v) "dict_values" := let ⟨o, ho, hc, _⟩ := hv; ⟨o, ho, hc⟩
  have hnone : stdlibNamesSay? (.ref v) x = none := by cases x <;> rfl
  unfold contains
  try with_reducible refine wpAny_holding ?_
  rw [hnone]
  refine wpAny_bind (wpAny_specialOf hT lookup_values_contains ?_)
  rw [if_neg (by simp)]
  refine wpAny_bind (wpAny_callSpecialUnlessNone?_none hT lookup_values_contains ?_)
  show wpAny _ _ (rule "in.by-iteration" >>= _) _ _ s
  refine wpAny_bind (wpAny_rule ?_)
  refine wpAny_bind (wpAny_tryCatch (wpAny_pyIter_values hv hd ?_))
  have hlt : d < s.heap.objs.size := hd.lt_size
  refine wpAny_bind (wpAny_runValue (codeAny_contains_loop (s := { s with heap := s.heap.push { cls := .type "dict_valueiterator", data := .fields #[.ref d, .int 0 0, .int vs.length 0, .int ep 0] } })
    (Walks.dictValues (knd := mixKind prog w) (A := A.in1) hh s.heap.objs.size d (Nat.ne_of_lt hlt) vs ep) x tr htr vs.length 0 rfl (Nat.zero_le _) ⟨⟨_, Heap.get?_push_size _ rfl, rfl, rfl⟩, hd.push _⟩ fun h' tk hk => ?_))
  rw [List.drop_zero]
  refine wpAny_pure (h h' tk fun b o e => hk b o ?_ (Heap.get?_push_of_some _ e))
  intro z
  exact absurd (Heap.lt_size e) (by rw [List.mem_singleton.mp z]; exact Nat.lt_irrefl _)
end
section
variable {X : Cx} {e i : Expr} {te ti : TE} {apos cpos : Pos}
/-- x in d.values(), ints -/
def tInVals (ti td : TE) : TE := fun σ H Q => ti σ H fun y H1 => td σ H1 fun x H2 => ∃ (d : Addr) (kvs : List (Key × V)) (ns : List Int) (n : Int), x = .ref d ∧ y = .int n ∧ Rd H2 d (.dK kvs) ∧ kvs.map (·.2) = ns.map V.int ∧ Q (.bl (decide (n ∈ ns))) H2
theorem pc_inValues (hc : X.calm = true) (hi : PE X i ti) (he : PE X e te) (hbase : attributeBase e "values" X.env (eval e X.env) = eval e X.env := by rfl) (hline : (apos.endLine == cpos.line) = true := by rfl) :
    PC X .In i (.Call (.Attribute e "values" apos) [] [] cpos) (tInVals ti te) := by
  refine ⟨fun pins s σ H Q I h => ?_⟩
  refine thn (hi.run pins s σ H _ I h) fun iv s0 ⟨y, H0, I0, ry, q0⟩ => ?_
  refine wpAny_Call_method (T := "dict") (id := "dict.values") hbase rfl hline F.plainAttrs_dict F.slot_dict_values F.type_dict_values (thn (he.run pins s0 σ H0 _ I0 q0) fun u s1 ⟨x, H1, I1, rx, d, kvs, ns, n, ex, ey, hd, hv, q⟩ => ?_)
  subst ex ey
  obtain rfl : u = Value.ref d := rx
  obtain ⟨t, rfl⟩ := ry
  obtain ⟨hz, hs0, vs, kv, hdo⟩ := dk_rd I1.hok hd
  obtain ⟨ep, hat⟩ := hdo.dictAt
  have I2 : Inv X pins σ H1 { s1 with heap := s1.heap.push { cls := .type "dict_values", data := .fields #[.ref d] } } := I1.kept (t' := s1.toks) fun b ob q => Heap.get?_push_of_some _ q
  refine ⟨hdo.typeIs, hdo.mapOf.noDict, ?_⟩
  show wpAny _ _ (callWith cpos (.builtin "dict.values") [.ref d] [] []) _ X.xe s1
  refine method_meetsIn F.slot_dict_values F.entry_dict_values rfl (PySem.evalArgs_none ⟨rfl, hdo.typeIs, F.args_dict_values_1 _, _, meets_dict_values (mixKind X.prog X.w) d hs0, ⟨vs, hdo⟩, ?_⟩)
  generalize hs2 : ({ s1 with heap := s1.heap.push { cls := .type "dict_values", data := .fields #[.ref d] } } : Shared) = s2 at I2
  have hview : s2.heap.IsValuesView s1.heap.objs.size d := by rw [← hs2]; exact ⟨_, Heap.get?_push_size _ rfl, rfl, rfl⟩
  have hat2 : s2.heap.DictAt (mixKind X.prog X.w) d vs ep := by rw [← hs2]; exact hat.push _
  have hlv : vs.length = ns.length := by
    have e1 := congrArg List.length hv
    rw [List.length_map, List.length_map] at e1
    rw [← e1]
    exact (KV.length kv).symm
  have hval : ∀ (j : Nat) (u : Value), (∃ k, vs[j]? = some (k, u)) → ∃ t, u = Value.int (ns.getD j 0) t := fun j u ⟨k, hk⟩ => by
    obtain ⟨x, h1, h2⟩ := paired_at' kv hk
    have e1 : (kvs.map (·.2))[j]? = some x.2 := by rw [List.getElem?_map, h1] <;> rfl
    rw [hv, List.getElem?_map] at e1
    obtain ⟨m, hm, e2⟩ := Option.map_eq_some_iff.mp e1
    have h3 : RelV x.2 u := h2.2
    rw [← e2] at h3
    obtain ⟨t, e3⟩ := h3
    refine ⟨t, ?_⟩
    rw [e3, List.getD_eq_getElem?_getD, hm] <;> rfl
  show wpAny _ _ (contains (.ref s1.heap.objs.size) (.int n t) >>= fun b => pure (Value.bool b)) _ _ s2
  refine wpAny_bind (contains_values (tr := fun j => ns.getD j 0 == n) (I1.ok.hd hc) hview hat2 (fun j u s Q E hP hQ => ?_) fun h' tk hk => wpAny_pure ?_)
  · obtain ⟨t2, rfl⟩ := hval j u hP
    exact SeqAt.EqAt.int_int _ t2 n t _ _ _ _ hQ
  · have e : ((List.range vs.length).any fun j => ns.getD j 0 == n) = decide (n ∈ ns) := by
      rw [Bool.eq_iff_iff, List.any_eq_true, decide_eq_true_eq]
      constructor
      · rintro ⟨j, hj, ej⟩
        have hj2 : j < ns.length := by rw [← hlv]; exact List.mem_range.mp hj
        rw [List.getD_eq_getElem?_getD, List.getElem?_eq_getElem hj2] at ej
        have e2 : ns[j] = n := by simpa using ej
        rw [← e2]
        exact List.getElem_mem hj2
      · intro hm
        obtain ⟨j, hj, ej⟩ := List.mem_iff_getElem.mp hm
        refine ⟨j, List.mem_range.mpr (by rw [hlv]; exact hj), ?_⟩
        rw [List.getD_eq_getElem?_getD, List.getElem?_eq_getElem hj, ej]
        simp
    exact ⟨.bl (decide (n ∈ ns)), H1, I2.kept (t' := tk) hk, by rw [e]; rfl, q⟩
end
end K81
set_option maxHeartbeats 4000000
namespace K81
open PySem PySem.Spec PyProof.Rows L2
section
variable {X : Cx} (K : PySem.W.Frag)
theorem ix_tupK (h : X.K = K := by rfl) : IxR X (rIxT K) := by subst h; exact ix_tup
theorem ix_listK (h : X.K = K := by rfl) : IxR X (rIxL K) := by subst h; exact ix_list
theorem call_tupleTK (h : X.K = K := by rfl) : CallR X (.type "tuple") (fun xs H Q => ∃ a ys, xs = [.ref a] ∧ SqT K H a ys ∧ Q (.ref a) H) := by subst h; exact call_tupleT
theorem op_repTnK (h : X.K = K := by rfl) : OpR X (binaryOp .Mult) (rRepN K) := by subst h; exact op_repTn
theorem op_catAK (h : X.K = K := by rfl) : OpR X (binaryOp .Add) (rCatA K) := by subst h; exact op_catA
theorem sl_tupAK (h : X.K = K := by rfl) : SlR X (rSlA K) := by subst h; exact sl_tupA
theorem pg_tupK {es : List Expr} {k : Nat} {pos : Pos} {t : TGs} {n : Nat} (hc : X.calm = true) (h : PGs X es t) (hK : X.K = K := by rfl)
    (hn : (assignEach es X.env).length = n := by rfl) (hst : (assignEach es X.env).findIdx? (·.1) = none := by rfl) : PG X (.Tuple es k pos) (gTup K n t) := by subst hK; exact pg_tup hc h hn hst
theorem pe_fldK {e : Expr} {ta : TE} {f : Str} {pos : Pos} (he : PE X e ta) (hb : attributeBase e f X.env (eval e X.env) = eval e X.env) (hK : X.K = K := by rfl) : PE X (.Attribute e f pos) (tFld K ta f) := by subst hK; exact pe_fld he hb
end
end K81
set_option maxHeartbeats 4000000
namespace K81
open PySem PySem.Spec PyProof.Rows L2
/-! ### the sorts' orders -/
theorem tot_of {α : Type} (k : α → PyData) : PySem.W.TotalLe (PySem.W.dataLe false k) := PySem.W.sortLe_total _ _ _
theorem srt_pw {α : Type} (k : α → PyData) (l : List α) : (l.mergeSort (PySem.W.dataLe false k)).Pairwise (fun a b => PySem.W.dataLe false k a b = true) := PySem.W.sort_pairwise (tot_of k) l
theorem srt_perm {α : Type} (k : α → PyData) (l : List α) : (l.mergeSort (PySem.W.dataLe false k)).Perm l := List.mergeSort_perm _ _
abbrev sle (a b : Str) : Prop := a.cps.toList ≤ b.cps.toList
abbrev slt (a b : Str) : Prop := a.cps.toList < b.cps.toList
theorem sle_refl (a : Str) : sle a a := fun h => List.lt_irrefl _ h
theorem slt_irrefl (a : Str) : ¬ slt a a := List.lt_irrefl _
theorem slt_trans {a b c : Str} (h : slt a b) (h2 : slt b c) : slt a c := List.lt_trans h h2
theorem sle_antisymm {a b : Str} (h : sle a b) (h2 : sle b a) : a = b := PySem.W.str_of_cps (List.le_antisymm h h2)
theorem sle_trans {a b c : Str} (h : sle a b) (h2 : sle b c) : sle a c := List.le_trans h h2
theorem slt_of_le_ne {a b : Str} (h : sle a b) (h2 : a ≠ b) : slt a b := by
  by_cases q : slt a b
  · exact q
  · exact absurd (sle_antisymm h (List.not_lt.mp q)) h2
theorem sle_of_lt {a b : Str} (h : slt a b) : sle a b := fun q => slt_irrefl _ (slt_trans h q)
theorem slt_ne {a b : Str} (h : slt a b) : a ≠ b := fun e => slt_irrefl b (by rw [e] at h; exact h)
theorem ile_iff {a b : Str × Int} : ile a b = true ↔ (a.1 = b.1 ∧ a.2 ≤ b.2) ∨ slt a.1 b.1 := by
  show (!PySem.W.dataLt (encI b) (encI a)) = true ↔ _
  unfold encI
  rw [PySem.W.dataLt_pair (by simp [PySem.W.alike]) (by simp [PySem.W.alike]), PySem.W.dataLt_int, PySem.W.dataLt_str]
  simp only [PyData.eqv, beq_iff_eq]
  by_cases h1 : b.1 = a.1
  · rw [if_pos h1]
    have h4 : ¬ slt a.1 b.1 := by rw [h1]; exact slt_irrefl _
    by_cases h2 : b.2 = a.2
    · rw [if_pos h2]
      simp [h1, h2]
    · rw [if_neg h2]
      have h3 : (!decide (b.2 < a.2)) = true ↔ a.2 ≤ b.2 := by simp
      rw [h3]
      constructor
      · intro q
        exact .inl ⟨h1.symm, q⟩
      · rintro (⟨_, q⟩ | q)
        · exact q
        · exact absurd q h4
  · rw [if_neg h1]
    simp only [Bool.not_eq_true', decide_eq_false_iff_not]
    constructor
    · intro q
      exact .inr (slt_of_le_ne (List.not_lt.mp q) fun e => h1 e.symm)
    · rintro (⟨e, _⟩ | q)
      · exact absurd e.symm h1
      · exact fun z => slt_irrefl _ (slt_trans q z)
theorem ile_antisymm {a b : Str × Int} (h : ile a b = true) (h2 : ile b a = true) : a = b := by
  rcases ile_iff.mp h with ⟨e, q⟩ | q
  · rcases ile_iff.mp h2 with ⟨e', q'⟩ | q'
    · exact Prod.ext e (by omega)
    · exact absurd e.symm (slt_ne q')
  · rcases ile_iff.mp h2 with ⟨e', q'⟩ | q'
    · exact absurd e'.symm (slt_ne q)
    · exact absurd (slt_trans q q') (slt_irrefl _)
/-- two sorted arrangements of the same entries are one -/
theorem isort_perm {l m : List (Str × Int)} (h : l.Perm m) : l.mergeSort ile = m.mergeSort ile :=
  List.Perm.eq_of_pairwise (fun a b _ _ h1 h2 => ile_antisymm h1 h2) (srt_pw encI l) (srt_pw encI m) (((srt_perm encI l).trans h).trans (srt_perm encI m).symm)
/-- names rise strictly where none is there twice -/
theorem isort_strict {l : List (Str × Int)} (h : (l.map (·.1)).Nodup) : (l.mergeSort ile).Pairwise fun a b => slt a.1 b.1 := by
  have hn : ((l.mergeSort ile).map (·.1)).Nodup := ((srt_perm encI l).map (·.1)).nodup_iff.mpr h
  have hn' := List.pairwise_map.mp hn
  refine ((srt_pw encI l).and hn').imp ?_
  rintro a b ⟨h1, h2⟩
  rcases ile_iff.mp h1 with ⟨e, _⟩ | q
  · exact absurd e h2
  · exact q
/-! ### rows and tables -/
inductive Row where
  | fold (n : Int) (es : List (Str × Int))
  | file (n k : Int) (c : Str)
  deriving DecidableEq
def Row.num : Row → Int
  | .fold n _ => n
  | .file n _ _ => n
section
variable (K : PySem.W.Frag) (H : Hp)
/-- an entry (name, number) -/
def EntAt (v : V) (e : Str × Int) : Prop := ∃ t, v = .ref t ∧ SqT K H t [.str e.1, .int e.2]
def EntsAt (v : V) (es : List (Str × Int)) : Prop := ∃ l xs, v = .ref l ∧ SqL K H l xs ∧ Paired (EntAt K H) xs es
def RowAt (v : V) : Row → Prop
  | .fold n es => ∃ t u, v = .ref t ∧ SqT K H t [.str "folder", .int n, u] ∧ EntsAt K H u es
  | .file n k c => ∃ t, v = .ref t ∧ SqT K H t [.str "file", .int n, .int k, .str c]
def TabAt (v : V) (t : List Row) : Prop := ∃ l xs, v = .ref l ∧ SqL K H l xs ∧ Paired (RowAt K H) xs t
end
section
variable {K : PySem.W.Frag} {H H' : Hp}
theorem EntAt.same {v : V} {e : Str × Int} (s : Same H H') (h : EntAt K H v e) : EntAt K H' v e := let ⟨t, a, b⟩ := h; ⟨t, a, Same.tup s b⟩
theorem EntsAt.same {v : V} {es : List (Str × Int)} (s : Same H H') (h : EntsAt K H v es) : EntsAt K H' v es := let ⟨l, xs, a, b, c⟩ := h; ⟨l, xs, a, Same.seq s b, paired_mono c fun _ _ q => q.same s⟩
theorem RowAt.same {v : V} : ∀ {r : Row}, Same H H' → RowAt K H v r → RowAt K H' v r
  | .fold _ _, s, h => let ⟨t, u, a, b, c⟩ := h; ⟨t, u, a, Same.tup s b, c.same s⟩
  | .file _ _ _, s, h => let ⟨t, a, b⟩ := h; ⟨t, a, Same.tup s b⟩
theorem TabAt.same {v : V} {t : List Row} (s : Same H H') (h : TabAt K H v t) : TabAt K H' v t := let ⟨l, xs, a, b, c⟩ := h; ⟨l, xs, a, Same.seq s b, paired_mono c fun _ _ q => q.same s⟩
end
/-! ### a table as plain data -/
def fo : List Row → List (Int × List (Str × Int))
  | [] => []
  | .fold n es :: t => (n, es) :: fo t
  | .file _ _ _ :: t => fo t
def fi : List Row → List (Int × Int × Str)
  | [] => []
  | .fold _ _ :: t => fi t
  | .file n k c :: t => (n, k, c) :: fi t
theorem fo_app : ∀ t u : List Row, fo (t ++ u) = fo t ++ fo u
  | [], _ => rfl
  | .fold n es :: t, u => by simp [fo, fo_app t u]
  | .file _ _ _ :: t, u => by simp [fo, fo_app t u]
theorem fi_app : ∀ t u : List Row, fi (t ++ u) = fi t ++ fi u
  | [], _ => rfl
  | .fold n es :: t, u => by simp [fi, fi_app t u]
  | .file _ _ _ :: t, u => by simp [fi, fi_app t u]
theorem mem_fo {n : Int} {es : List (Str × Int)} : ∀ {t : List Row}, (n, es) ∈ fo t ↔ Row.fold n es ∈ t
  | [] => by simp [fo]
  | .fold m fs :: t => by simp [fo, mem_fo (t := t)]
  | .file _ _ _ :: t => by simp [fo, mem_fo (t := t)]
theorem mem_fi {n k : Int} {c : Str} : ∀ {t : List Row}, (n, k, c) ∈ fi t ↔ Row.file n k c ∈ t
  | [] => by simp [fi]
  | .fold m fs :: t => by simp [fi, mem_fi (t := t)]
  | .file _ _ _ :: t => by simp [fi, mem_fi (t := t)]
theorem fo_len : ∀ t : List Row, (fo t).length + (fi t).length = t.length
  | [] => rfl
  | .fold _ _ :: t => by have := fo_len t; simp only [fo, fi, List.length_cons]; omega
  | .file _ _ _ :: t => by have := fo_len t; simp only [fo, fi, List.length_cons]; omega
def nums (t : List Row) : List Int := t.map Row.num
theorem nums_mem {n : Int} {t : List Row} : n ∈ nums t ↔ (∃ es, (n, es) ∈ fo t) ∨ ∃ k c, (n, k, c) ∈ fi t := by
  unfold nums
  rw [List.mem_map]
  constructor
  · rintro ⟨r, hr, e⟩
    cases r with
    | fold m es => exact .inl ⟨es, mem_fo.mpr (by rw [← e]; exact hr)⟩
    | file m k c => exact .inr ⟨k, c, mem_fi.mpr (by rw [← e]; exact hr)⟩
  · rintro (⟨es, h⟩ | ⟨k, c, h⟩)
    · exact ⟨_, mem_fo.mp h, rfl⟩
    · exact ⟨_, mem_fi.mp h, rfl⟩
/-- the entries, folder by folder -/
def flat (F : List (Int × List (Str × Int))) : List (Int × Str × Int) := F.flatMap fun x => x.2.map fun e => (x.1, e.1, e.2)
theorem mem_flat {F : List (Int × List (Str × Int))} {w n : Int} {a : Str} : (w, a, n) ∈ flat F ↔ ∃ es, (w, es) ∈ F ∧ (a, n) ∈ es := by
  unfold flat
  rw [List.mem_flatMap]
  constructor
  · rintro ⟨⟨m, es⟩, h1, h2⟩
    obtain ⟨⟨b, k⟩, h3, h4⟩ := List.mem_map.mp h2
    simp only [Prod.mk.injEq] at h4
    obtain ⟨rfl, rfl, rfl⟩ := h4
    exact ⟨es, h1, h3⟩
  · rintro ⟨es, h1, h2⟩
    exact ⟨(w, es), h1, List.mem_map.mpr ⟨(a, n), h2, rfl⟩⟩
/-! ### shelves as relations -/
structure Sh where
  fk : Int → Prop
  en : Int → Str → Int → Prop
  fi : Int → Int → Str → Prop
def shT (t : List Row) : Sh := ⟨fun n => ∃ es, (n, es) ∈ fo t, fun w a n => (w, a, n) ∈ flat (fo t), fun n k c => (n, k, c) ∈ fi t⟩
/-- what a shelf in order is, beside that nothing is there twice -/
structure Ord (s : Sh) : Prop where
  root : s.fk 0
  clash : s.fk 1
  ce : s.en 0 "clash" 1
  node : ∀ w a n, s.en w a n → s.fk n ∨ ∃ k c, s.fi n k c
  top : ∀ w a, ¬ s.en w a 0
  one : ∀ n, s.fk n → n ≠ 0 → ∃ w a, s.en w a n ∧ ∀ w' a', s.en w' a' n → w' = w ∧ a' = a
  loose : ∀ n k c, s.fi n k c → ∃ w a, s.en w a n
  rk : ∃ rk : Int → Nat, ∀ w a n, s.en w a n → s.fk n → rk w < rk n
/-- beyond mending -/
def Beyond (t : List Row) : Prop := ¬ (nums t).Nodup ∨ ¬ ((shT t).fk 0 ∧ (shT t).fk 1 ∧ (shT t).en 0 "clash" 1) ∨ ∃ w es, (w, es) ∈ fo t ∧ ¬ (es.map (·.1)).Nodup
def InOrder (t : List Row) : Prop := ¬ Beyond t ∧ Ord (shT t)
/-- nothing is there twice -/
structure Once (t : List Row) : Prop where
  nums : (nums t).Nodup
  names : ∀ w es, (w, es) ∈ fo t → (es.map (·.1)).Nodup
theorem once_of {t : List Row} (h : ¬ Beyond t) : Once t := by
  refine ⟨Classical.not_not.mp fun q => h (.inl q), fun w es hm => Classical.not_not.mp fun q => h (.inr (.inr ⟨w, es, hm, q⟩))⟩
theorem beyond_root {t : List Row} (h : ¬ Beyond t) : (shT t).fk 0 ∧ (shT t).fk 1 ∧ (shT t).en 0 "clash" 1 := Classical.not_not.mp fun q => h (.inr (.inl q))
/-- sizes -/
structure Small (a b : Nat) (t : List Row) : Prop where
  rows : t.length ≤ a
  ents : ∀ w es, (w, es) ∈ fo t → es.length ≤ b
theorem Small.mono {a b c d : Nat} {t : List Row} (h : Small a b t) (h1 : a ≤ c) (h2 : b ≤ d) : Small c d t := ⟨Nat.le_trans h.rows h1, fun w es m => Nat.le_trans (h.ents w es m) h2⟩
theorem Small.fo {a b : Nat} {t : List Row} (h : Small a b t) : (K81.fo t).length ≤ a := by have := fo_len t; have := h.rows; omega
theorem Small.fi {a b : Nat} {t : List Row} (h : Small a b t) : (K81.fi t).length ≤ a := by have := fo_len t; have := h.rows; omega
theorem fo_nums : ∀ t : List Row, ((fo t).map (·.1)).Sublist (nums t)
  | [] => List.Sublist.slnil
  | .fold n es :: t => List.Sublist.cons_cons _ (fo_nums t)
  | .file n _ _ :: t => List.Sublist.cons _ (fo_nums t)
theorem fi_nums : ∀ t : List Row, ((fi t).map (·.1)).Sublist (nums t)
  | [] => List.Sublist.slnil
  | .fold n es :: t => List.Sublist.cons _ (fi_nums t)
  | .file n _ _ :: t => List.Sublist.cons_cons _ (fi_nums t)
theorem Once.fo {t : List Row} (h : Once t) : ((K81.fo t).map (·.1)).Nodup := h.nums.sublist (fo_nums t)
theorem Once.fi {t : List Row} (h : Once t) : ((K81.fi t).map (·.1)).Nodup := h.nums.sublist (fi_nums t)
end K81
set_option maxHeartbeats 4000000
namespace K81
open PySem PySem.Spec PyProof.Rows L2
theorem zl {xs : List V} (h : Nat.ble xs.length 1000 = true) : xs.length ≤ sizeLine := sl' (Nat.le_trans (Nat.le_of_ble_eq_true h) (by decide))
/-- the heap without one address -/
def del (H : Hp) (D : Addr) : Hp := fun b => if b = D then none else H b
theorem del_same (H : Hp) (D : Addr) : Same (del H D) H := fun b o h => by
  unfold del at h
  by_cases e : b = D
  · rw [if_pos e] at h; cases h
  · rw [if_neg e] at h; exact h
theorem del_mono {H H' : Hp} {D : Addr} (s : Same H H') : Same (del H D) (del H' D) := fun b o h => by
  unfold del at h ⊢
  by_cases e : b = D
  · rw [if_pos e] at h; cases h
  · rw [if_neg e] at h ⊢; exact s b o h
theorem del_upd (H : Hp) (D : Addr) (o : HO) : del (upd H D o) D = del H D := by
  funext b
  unfold del
  by_cases e : b = D
  · rw [if_pos e, if_pos e]
  · rw [if_neg e, if_neg e, upd_ne e]
theorem del_of {H : Hp} {D : Addr} (h : H D = none) : Same H (del H D) := fun b o e => by
  unfold del
  rw [if_neg (ne_of_none e h)]
  exact e
theorem del_at {H : Hp} {D p : Addr} {o : HO} (h : H p = some o) (n : p ≠ D) : del H D p = some o := by
  unfold del
  rw [if_neg n]
  exact h
theorem ne_of_some_none {H : Hp} {p D : Addr} {o : HO} (h : H D = some o) (hp : H p = none) : p ≠ D := fun e => by rw [e, h] at hp; cases hp
def PvR {α β : Type} (H1 : Hp) (D : Addr) (src : List α) (u : α → Option β) (R : Hp → V → β → Prop) (i : Nat) (H : Hp) : Prop :=
  Same H1 H ∧ ∃ ys, H D = some (.lst ys) ∧ Paired (R (del H D)) ys ((src.take i).filterMap u)
section
variable {α β : Type} {H1 H H4 : Hp} {D : Addr} {src : List α} {u : α → Option β} {R : Hp → V → β → Prop} {i : Nat} {a : α} {y : V} {z : β}
theorem PvR.init (hD : H1 D = none) : PvR H1 D src u R 0 (upd H1 D (.lst [])) := ⟨same_new hD, [], by rw [upd_same], by simp; exact .nil⟩
theorem PvR.yes (mono : ∀ H H' v b, Same H H' → R H v b → R H' v b) (hD : H1 D = none) (hz : src.length ≤ 100000) (p : PvR H1 D src u R i H) (e : src[i]? = some a) (s : Same H H4) (hu : u a = some z) (r : R (del H4 D) y z) :
    ∃ acc, H4 D = some (.lst acc) ∧ acc.length < sizeLine ∧ PvR H1 D src u R (i + 1) (upd H4 D (.lst (acc ++ [y]))) := by
  obtain ⟨s1, ys, h1, h2⟩ := p
  refine ⟨ys, s _ _ h1, sl ?_, Same.off (s1.trans s) hD, ys ++ [y], by rw [upd_same], ?_⟩
  · rw [paired_len h2]
    have : ((src.take i).filterMap u).length ≤ (src.take i).length := List.length_filterMap_le _ _
    have h3 : (src.take i).length ≤ src.length := by rw [List.length_take]; exact Nat.min_le_right _ _
    omega
  · rw [del_upd, take_get e, List.filterMap_append, List.filterMap_cons, hu]
    exact paired_snoc (paired_mono h2 fun v b q => mono _ _ _ _ (del_mono s) q) r
theorem PvR.no (mono : ∀ H H' v b, Same H H' → R H v b → R H' v b) (p : PvR H1 D src u R i H) (e : src[i]? = some a) (s : Same H H4) (hu : u a = none) : PvR H1 D src u R (i + 1) H4 := by
  obtain ⟨s1, ys, h1, h2⟩ := p
  refine ⟨s1.trans s, ys, s _ _ h1, ?_⟩
  rw [take_get e, List.filterMap_append, List.filterMap_cons, hu, List.filterMap_nil, List.append_nil]
  exact paired_mono h2 fun v b q => mono _ _ _ _ (del_mono s) q
theorem PvR.done {n : Nat} (hn : n = src.length) (mono : ∀ H H' v b, Same H H' → R H v b → R H' v b) (p : PvR H1 D src u R n H) : Same H1 H ∧ ∃ ys, H D = some (.lst ys) ∧ Paired (R (del H D)) ys (src.filterMap u) := by
  obtain ⟨s1, ys, h1, h2⟩ := p
  rw [hn, List.take_length] at h2
  exact ⟨s1, ys, h1, h2⟩
end
section
variable {J : It} {n : Nat} {G : Hp → Prop} {Y : Nat → Hp → V → Hp → Prop} {α β : Type}
/-- a comprehension over a walk: each item a of src gives u a, an item of the new list stands for it by R -/
theorem lc_rel (w : Walk J n G Y) {g : TG} {tt : TT} {te : TE} {vs : List Nat} {σ : L2.St} {H1 : Hp} {D : Addr} {Qd : Hp → Prop} (src : List α) (hn : n = src.length) (u : α → Option β) (R : Hp → V → β → Prop) (mono : ∀ H H' v b, Same H H' → R H v b → R H' v b)
    (hD : H1 D = none) (hG : ∀ H, Same H1 H → G H)
    (hs : ∀ i a x H H', src[i]? = some a → PvR H1 D src u R i H → Same H1 H → Y i H x H' → g x (wipe σ vs) H' fun σ2 H2 => wipe σ2 vs = wipe σ vs ∧ tt σ2 H2 fun b H3 =>
      if b = true then te σ2 H3 fun y H4 => ∃ acc, H4 D = some (.lst acc) ∧ acc.length < sizeLine ∧ PvR H1 D src u R (i + 1) (upd H4 D (.lst (acc ++ [y]))) else PvR H1 D src u R (i + 1) H3)
    (hd : ∀ H ys, Same H1 H → H D = some (.lst ys) → Paired (R (del H D)) ys (src.filterMap u) → Qd H) :
    ∃ W : Nat → Nat → Hp → Prop, (∃ m, W 0 m (upd H1 D (.lst []))) ∧ ∀ i m H, W i m H →
      (J.stop i H ∧ Qd H) ∨ (J.go i H ∧ ∃ Nx : Hp → Prop, (∀ H', Nx H' → ∃ m', m' < m ∧ W (i + 1) m' H') ∧ ∀ x H', J.yld i H x H' → g x (wipe σ vs) H' fun σ2 H2 => wipe σ2 vs = wipe σ vs ∧ tt σ2 H2 fun b H3 =>
        if b = true then te σ2 H3 fun y H4 => ∃ acc, H4 D = some (.lst acc) ∧ acc.length < sizeLine ∧ Nx (upd H4 D (.lst (acc ++ [y]))) else Nx H3) := by
  refine lc_it w (PvR H1 D src u R) (PvR.init hD) (fun i H _ p => hG H p.1) (fun i x H H' hi p y => ?_) (fun H p => ?_)
  · have hi' : i < src.length := by rw [← hn]; exact hi
    exact hs i src[i] x H H' (by simp [hi']) p p.1 y
  · obtain ⟨s, ys, h1, h2⟩ := p.done hn mono
    exact hd H ys s h1 h2
end
/-- plain results -/
abbrev REq : Hp → V → V → Prop := fun _ v z => v = z
theorem monoEq : ∀ H H' v b, Same H H' → REq H v b → REq H' v b := fun _ _ _ _ _ h => h
theorem paired_eq {H : Hp} : ∀ {ys zs : List V}, Paired (REq H) ys zs → ys = zs
  | _, _, .nil => rfl
  | _, _, .cons r t => by rw [show _ = _ from r, paired_eq t]
theorem paired_map {β : Type} {f : β → V} : ∀ {ys : List V} {l : List β}, Paired (fun v b => v = f b) ys l → ys = l.map f
  | _, _, .nil => rfl
  | _, _, .cons r t => by rw [r, paired_map t]; rfl
theorem filterMap_some {α β : Type} (f : α → β) : ∀ l : List α, l.filterMap (fun a => some (f a)) = l.map f
  | [] => rfl
  | a :: l => by simp
theorem cut1 (x : V) (xs : List V) : cutV (x :: xs) (some 1) none = xs := by
  have e1 : HT.sIx (xs.length + 1) (xs.length + 1) none = xs.length + 1 := rfl
  have e2 : HT.sIx (xs.length + 1) 0 (some 1) = 1 := (HT.sIx_nat (xs.length + 1) 0 1).trans (by omega)
  simp [cutV, e1, e2]
theorem tyL {K : PySem.W.Frag} {H : Hp} {p : Addr} {xs : List V} (h : SqL K H p xs) : tyV K "list" (.ref p) H := .inl ⟨rfl, xs, h⟩
theorem tyS {K : PySem.W.Frag} {H : Hp} {z : Str} : tyV K "str" (.str z) H := rfl
theorem atI_at {α : Type} {xs : List α} {j : Nat} {v : α} (h : xs[j]? = some v) : atI xs (j : Int) = some v := atI_nat h
theorem at0 {α : Type} {v : α} {xs : List α} : atI (v :: xs) 0 = some v := atI_at (j := 0) rfl
theorem at1 {α : Type} {v u : α} {xs : List α} : atI (v :: u :: xs) 1 = some u := atI_at (j := 1) rfl
theorem at2 {α : Type} {v u w : α} {xs : List α} : atI (v :: u :: w :: xs) 2 = some w := atI_at (j := 2) rfl
theorem at3 {α : Type} {v u w x : α} {xs : List α} : atI (v :: u :: w :: x :: xs) 3 = some x := atI_at (j := 3) rfl
theorem at4 {α : Type} {v u w x y : α} {xs : List α} : atI (v :: u :: w :: x :: y :: xs) 4 = some y := atI_at (j := 4) rfl
theorem yAt {xs : List V} {i : Nat} {H H' : Hp} {x : V} (y : YAt xs i H x H') : H' = H ∧ xs[i]? = some x := y
end K81
set_option maxHeartbeats 4000000
namespace K81
open PySem PySem.Spec PyProof.Rows L2
/-! ### words of the program -/
def signs : Str := "abcdefghijklmnopqrstuvwxyz0123456789"
def isName (z : Str) : Bool := (decide (1 ≤ z.length) && decide (z.length ≤ 8)) && z.cps.toList.all fun c => decide (c ∈ signs.cps.toList)
def spIsName : Sp := fun vs H Q _ => ∃ z : Str, vs = [.str z] ∧ z.length ≤ sizeLine ∧ ∀ H', Same H H' → Q (.bl (isName z)) H'
section
variable {P : Program} {w : World} {K : PySem.W.Frag} {mg : Str → Option Value} {base : Heap}
abbrev N_is_name : List Str := ["text", "sign"]
theorem sc_is_name : FnScope N_is_name ["text"] (defScope s_is_name) := ⟨rfl, rfl, rfl, by decide +kernel, rfl, by decide +kernel, by decide +kernel⟩
theorem ok_is_name (T : Tx K mg base) : OkD P w K mg base d_is_name.at_ 1 ["text"] spIsName := by
  refine okD_of T.F_is_name sc_is_name (fun _ _ _ _ _ _ us hl => match us, hl with | [_], _ => rfl) (fun vs H Q E h => ?_) (fun cdv A outer s H vs Q E hr h => ?_)
  · obtain ⟨z, rfl, _⟩ := h
    rfl
  · obtain ⟨z, rfl, hz, k⟩ := h
    have hu := hu_of hr
    refine ⟨_, (pss_one (ps_ret (pe_and (pe_chain op_le op_le pe_int (pe_callB call_len_str (by rfl) T.z_len (show bootBuiltins "len" = some (.builtin "len") by decide +kernel) (pa_cons (pv 0) pa_nil)) (pe_gint T.i_MOST_SIGNS)) (pe_one (pe_callB (cr_all rfl) (by rfl) T.z_all (show bootBuiltins "all" = some (.builtin "all") by decide +kernel) (pa_cons (pe_lc (own := [("sign", 1)]) rfl sc_is_name.nd (pi_str (pv 0)) (blkOk_by (N := N_is_name) (sc := defScope s_is_name) (by decide +kernel)) (fun _ _ _ _ _ => (pg_name (i := 1) sc_is_name.nd rfl (Or.inl rfl))) (fun _ _ _ _ _ => pts_nil) (fun _ _ _ _ _ => (pe_cmpR op_in_sign (pv 1) (pe_gstr T.s_SIGNS) rfl))) pa_nil)))))), ?_⟩
    refine ⟨_, rfl, z, rfl, hz, _, _, rfl, rfl, _, rfl, ite2 (fun h1 => ?_) (fun h1 => ?_)⟩
    · refine ⟨_, _, rfl, rfl, _, rfl, ite2 (fun h2 => ?_) (fun h2 => ?_)⟩
      · refine ⟨_, rfl, z, rfl, fun D hD => lc_it walk_str (fun i H1 => Same H H1 ∧ H1 D = some (.lst ((z.cps.toList.take i).map fun c => V.bl (decide (c ∈ signs.cps.toList))))) ⟨same_new hD, by rw [upd_same] <;> rfl⟩ (fun _ _ _ _ => trivial) ?_ ?_⟩
        · rintro i x H1 H' hi ⟨s1, h3⟩ ⟨rfl, c, hc, rfl⟩
          refine ⟨rfl, tyes ⟨_, rfl, c, _, rfl, rfl, lc_end hD s1 h3 ?_ ?_⟩⟩
          · rw [List.length_map, List.length_take]
            exact Nat.lt_of_le_of_lt (Nat.min_le_left _ _) (Nat.lt_of_lt_of_le hi hz)
          · have e : (z.cps.toList)[i]? = some c := by simpa using hc
            rw [take_get e, List.map_append] <;> rfl
        · rintro H1 ⟨s1, h3⟩
          have e0 : z.cps.toList.take z.cps.size = z.cps.toList := List.take_of_length_le (by simp)
          rw [e0] at h3
          refine ⟨D, z.cps.toList.map fun c => decide (c ∈ signs.cps.toList), rfl, SqL.of (by rw [List.map_map]; exact h3), ?_⟩
          have e : isName z = ((z.cps.toList.map fun c => decide (c ∈ signs.cps.toList)).all id) := by
            unfold isName
            have a1 : (1 : Int) ≤ (z.length : Int) := of_decide_eq_true h1
            have a2 : (z.length : Int) ≤ 8 := of_decide_eq_true h2
            rw [decide_eq_true (show 1 ≤ z.length by omega), decide_eq_true (show z.length ≤ 8 by omega), List.all_map]
            rfl
          rw [← e]
          exact k H1 s1
      · have e : isName z = false := by
          unfold isName
          have a2 : ¬ ((z.length : Int) ≤ 8) := fun q => h2 (decide_eq_true q)
          rw [decide_eq_false (show ¬ z.length ≤ 8 by omega), Bool.and_false, Bool.false_and]
        rw [← e]
        exact k H (Same.refl H)
    · have e : isName z = false := by
        unfold isName
        have a2 : ¬ ((1 : Int) ≤ (z.length : Int)) := fun q => h1 (decide_eq_true q)
        rw [decide_eq_false (show ¬ 1 ≤ z.length by omega), Bool.false_and, Bool.false_and]
      refine ⟨_, rfl, iteF ?_⟩
      rw [← e]
      exact k H (Same.refl H)
end
end K81
set_option maxHeartbeats 4000000
namespace K81
open PySem PySem.Spec PyProof.Rows L2
def spIsContent : Sp := fun vs H Q _ => ∃ z : Str, vs = [.str z] ∧ z.length ≤ sizeLine ∧ ∀ b H', Same H H' → Q (.bl b) H'
section
variable {P : Program} {w : World} {K : PySem.W.Frag} {mg : Str → Option Value} {base : Heap}
abbrev N_is_content : List Str := ["text", "sign"]
theorem sc_is_content : FnScope N_is_content ["text"] (defScope s_is_content) := ⟨rfl, rfl, rfl, by decide +kernel, rfl, by decide +kernel, by decide +kernel⟩
theorem ok_is_content (T : Tx K mg base) : OkD P w K mg base d_is_content.at_ 1 ["text"] spIsContent := by
  refine okD_of T.F_is_content sc_is_content (fun _ _ _ _ _ _ us hl => match us, hl with | [_], _ => rfl) (fun vs H Q E h => ?_) (fun cdv A outer s H vs Q E hr h => ?_)
  · obtain ⟨z, rfl, _⟩ := h
    rfl
  · obtain ⟨z, rfl, hz, k⟩ := h
    have hu := hu_of hr
    refine ⟨_, (pss_one (ps_ret (pe_and (pe_cmpR op_le (pe_callB call_len_str (by rfl) T.z_len (show bootBuiltins "len" = some (.builtin "len") by decide +kernel) (pa_cons (pv 0) pa_nil)) (pe_gint T.i_MOST_CONTENT) (nomark _)) (pe_one (pe_callB (cr_all rfl) (by rfl) T.z_all (show bootBuiltins "all" = some (.builtin "all") by decide +kernel) (pa_cons (pe_lc (own := [("sign", 1)]) rfl sc_is_content.nd (pi_str (pv 0)) (blkOk_by (N := N_is_content) (sc := defScope s_is_content) (by decide +kernel)) (fun _ _ _ _ _ => (pg_name (i := 1) sc_is_content.nd rfl (Or.inl rfl))) (fun _ _ _ _ _ => pts_nil) (fun _ _ _ _ _ => (pe_or (pe_cmpR op_in_sign (pv 1) (pe_gstr T.s_SIGNS) rfl) (pe_one (pe_cmpR op_eq (pv 1) pe_str (nomark _)))))) pa_nil)))))), ?_⟩
    refine ⟨_, rfl, z, rfl, hz, _, _, rfl, rfl, _, rfl, ite2 (fun h1 => ?_) (fun h1 => k _ _ (Same.refl H))⟩
    have hz2 : z.cps.toList.length ≤ 100000 := by
      have a : (z.length : Int) ≤ 200 := of_decide_eq_true h1
      have b : z.cps.toList.length = z.length := by simp [PySem.Str.length]
      omega
    refine ⟨_, rfl, z, rfl, fun D hD => lc_rel walk_str z.cps.toList (by simp) (fun c => some (if c ∈ signs.cps.toList then true else decide (V.str ⟨#[c]⟩ = V.str "."))) (fun _ v b => v = .bl b) (fun _ _ _ _ _ q => q) hD (fun _ _ => trivial) ?_ ?_⟩
    · rintro i c x H1 H' hc pv _ ⟨rfl, c', hc', rfl⟩
      obtain rfl : c = c' := by
        rw [Array.getElem?_toList, hc'] at hc
        exact (Option.some.inj hc).symm
      refine ⟨rfl, tyes ⟨_, rfl, c, _, rfl, rfl, _, rfl, ite2 (fun hb => ?_) (fun hb => ⟨_, rfl, rfl, ?_⟩)⟩⟩
      · exact pv.yes (fun _ _ _ _ _ q => q) hD hz2 hc (Same.refl _) (congrArg some (if_pos (of_decide_eq_true hb))) rfl
      · exact pv.yes (fun _ _ _ _ _ q => q) hD hz2 hc (Same.refl _) (congrArg some (if_neg (fun q => hb (decide_eq_true q)))) rfl
    · intro H1 ys s h3 h4
      obtain rfl := paired_map h4
      exact ⟨_, _, rfl, SqL.of h3, k _ _ s⟩
end
end K81
set_option maxHeartbeats 4000000
namespace K81
open PySem PySem.Spec PyProof.Rows L2
/-! ### ways: /a/b/c -/
def wayL (ns : List Str) : List Nat := ns.flatMap fun n => 47 :: n.cps.toList
def wy (ns : List Str) : Str := ⟨(wayL ns).toArray⟩
def pathOf (ns : List Str) : Str := if ns = [] then "/" else wy ns
theorem tl_wy (ns : List Str) : TL.tl (wy ns) = wayL ns := by simp [TL.tl, wy]
theorem wy_snoc (ns : List Str) (n : Str) : wy (ns ++ [n]) = wy ns ++ "/" ++ n := by
  refine TL.ext_tl ?_
  rw [TL.tl_append, TL.tl_append, tl_wy, tl_wy]
  simp [wayL, TL.tl]
  rfl
theorem wy_ne {ns : List Str} (h : ns ≠ []) : wy ns ≠ "" := fun e => by
  have e2 := congrArg TL.tl e
  rw [tl_wy] at e2
  cases ns with
  | nil => exact h rfl
  | cons a b => cases e2
theorem signs_no47 : 47 ∉ signs.cps.toList := by decide +kernel
theorem isName_len {z : Str} (h : isName z = true) : 1 ≤ z.length ∧ z.length ≤ 8 := by
  unfold isName at h
  simp only [Bool.and_eq_true, decide_eq_true_eq] at h
  exact h.1
theorem isName_signs {z : Str} (h : isName z = true) : ∀ c ∈ z.cps.toList, c ∈ signs.cps.toList := by
  unfold isName at h
  simp only [Bool.and_eq_true, decide_eq_true_eq, List.all_eq_true] at h
  exact h.2
theorem isName_of {z : Str} (h1 : 1 ≤ z.length) (h2 : z.length ≤ 8) (h : ∀ c ∈ z.cps.toList, c ∈ signs.cps.toList) : isName z = true := by
  unfold isName
  simp only [Bool.and_eq_true, decide_eq_true_eq, List.all_eq_true]
  exact ⟨⟨h1, h2⟩, h⟩
theorem isName_no47 {z : Str} (h : isName z = true) : 47 ∉ TL.tl z := fun q => signs_no47 (isName_signs h _ q)
theorem len_tl (z : Str) : (TL.tl z).length = z.length := by simp [TL.tl, PySem.Str.length]
theorem wy_len {ns : List Str} (h : ∀ n ∈ ns, isName n = true) : (wy ns).length ≤ 9 * ns.length := by
  rw [← len_tl, tl_wy]
  induction ns with
  | nil => simp [wayL]
  | cons a b ih =>
    have h1 := ih fun n m => h n (List.mem_cons_of_mem _ m)
    have h2 := (isName_len (h a List.mem_cons_self)).2
    have h3 : a.cps.toList.length = a.length := len_tl a
    simp only [wayL, List.flatMap_cons, List.length_append, List.length_cons] at h1 ⊢
    omega
theorem joinL_way : ∀ (p : List Nat) (ns : List Str), TL.joinL [47] (p :: ns.map TL.tl) = p ++ wayL ns
  | p, [] => by simp [TL.joinL, wayL]
  | p, a :: b => by
    show p ++ ([47] ++ TL.joinL [47] (TL.tl a :: b.map TL.tl)) = _
    rw [joinL_way (TL.tl a) b]
    simp [wayL, TL.tl]
theorem split_wy {ns : List Str} (hn : ns ≠ []) (h : ∀ n ∈ ns, isName n = true) : Txt.split (wy ns) "/" = ("" : Str) :: ns := by
  have e : wy ns = Txt.join "/" (("" : Str) :: ns) := by
    rw [TL.join_eq]
    refine TL.ext_tl ?_
    rw [tl_wy, TL.tl_join]
    exact (joinL_way [] ns).symm
  rw [e]
  refine TL.split_join (s := 47) (S := []) (by decide +kernel) (by decide +kernel) (by simp) ?_
  intro p hp
  rcases List.mem_cons.mp hp with e | hp
  · rw [e]; decide
  · exact isName_no47 (h p hp)
theorem starts_wy {ns : List Str} (hn : ns ≠ []) : Txt.startswith (wy ns) "/" = true := by
  cases ns with
  | nil => exact absurd rfl hn
  | cons a b =>
    have e : (wy (a :: b)).cps.toList = 47 :: (a.cps.toList ++ wayL b) := by simp [wy, wayL]
    have l : 1 ≤ (wy (a :: b)).length := by rw [← len_tl, tl_wy]; simp [wayL]
    unfold Txt.startswith
    rw [PySem.StrLaws.subAt_eq, e]
    simp only [Bool.and_eq_true, decide_eq_true_eq]
    refine ⟨?_, ?_⟩
    · show 0 + 1 ≤ _
      omega
    · show (List.take 1 _ == _) = true
      simp
      decide +kernel
def spNamesOf : Sp := fun vs H Q _ => ∃ ns : List Str, vs = [.str (pathOf ns)] ∧ (∀ n ∈ ns, isName n = true) ∧ ns.length ≤ 1000 ∧ ∀ p H', Same H H' → H' p = some (.lst (ns.map V.str)) → Q (.ref p) H'
section
variable {P : Program} {w : World} {K : PySem.W.Frag} {mg : Str → Option Value} {base : Heap}
abbrev N_names_of : List Str := ["text", "names", "name"]
theorem sc_names_of : FnScope N_names_of ["text"] (defScope s_names_of) := ⟨rfl, rfl, rfl, by decide +kernel, rfl, by decide +kernel, by decide +kernel⟩
theorem ok_names_of (T : Tx K mg base) : OkD P w K mg base d_names_of.at_ 2 ["text"] spNamesOf := by
  have G_is_name := ok_is_name (P := P) (w := w) T
  refine okD_of T.F_names_of sc_names_of (fun _ _ _ _ _ _ us hl => match us, hl with | [_], _ => rfl) (fun vs H Q E h => ?_) (fun cdv A outer s H vs Q E hr h => ?_)
  · obtain ⟨ns, rfl, _⟩ := h
    rfl
  · obtain ⟨ns, rfl, hns, hl, k⟩ := h
    have hu := hu_of hr
    refine ⟨_, (pss_cons (ps_if (pt_cmpR op_eq (pv 0) pe_str (nomark _)) (pss_one (ps_ret (pe_lst pa_nil))) pss_nil)
      (pss_cons (ps_if (pt_not (pt_val (pe_m1 PySem.F.slot_str_startswith PySem.F.type_str_startswith mt_startswith (pv 0) pe_str))) (pss_one (ps_ret pe_non)) pss_nil)
      (pss_cons (ps_set (i := 1) sc_names_of.nd rfl (by first | exact Or.inl rfl | exact Or.inr rfl) (pe_slice sl_list (pe_split (pv 0) pe_str) (po_some pe_int) po_none))
      (pss_cons (ps_if (pt_not (pt_val (pe_callB (cr_all rfl) (by rfl) T.z_all (show bootBuiltins "all" = some (.builtin "all") by decide +kernel) (pa_cons (pe_lc (own := [("name", 2)]) rfl sc_names_of.nd (pi_list (pv 1)) (blkOk_by (N := N_names_of) (sc := defScope s_names_of) (by decide +kernel)) (fun _ _ _ _ _ => (pg_name (i := 2) sc_names_of.nd rfl (Or.inl rfl))) (fun _ _ _ _ _ => pts_nil) (fun _ _ _ _ _ => (pe_callO G_is_name hr (by decide) T.g_is_name (pa_cons (pv 2) pa_nil)))) pa_nil)))) (pss_one (ps_ret pe_non)) pss_nil)
      (pss_one (ps_ret (pv 1))))))), ?_⟩
    by_cases hn : ns = []
    · refine ⟨_, rfl, rfl, _, rfl, ite2 (fun h1 => ⟨zl rfl, fun p hp => ?_⟩) (fun h1 => ?_)⟩
      · exact k p _ (same_new hp) (by rw [upd_same, hn]; rfl)
      · exact absurd (decide_eq_true (by rw [pathOf, if_pos hn])) h1
    · have ep : pathOf ns = wy ns := by rw [pathOf, if_neg hn]
      rw [ep]
      have hlen : (wy ns).length ≤ 9000 := by have := wy_len hns; omega
      refine ⟨_, rfl, rfl, _, rfl, ite2 (fun h1 => ?_) (fun h1 => ?_)⟩
      · exfalso
        have e := V.str.inj (of_decide_eq_true h1)
        have e2 := congrArg TL.tl e
        rw [tl_wy] at e2
        cases ns with
        | nil => exact hn rfl
        | cons a b =>
          have l1 := (isName_len (hns a List.mem_cons_self)).1
          have l2 : a.cps.toList.length = a.length := len_tl a
          have e3 := congrArg List.length e2
          simp only [wayL, List.flatMap_cons, List.length_append, List.length_cons] at e3
          rw [show (TL.tl "/").length = 1 from rfl] at e3
          omega
      · refine ⟨_, rfl, ⟨_, rfl⟩, _, _, rfl, rfl, _, rfl, ite2 (fun h2 => ?_) (fun h2 => ?_)⟩
        · rw [starts_wy hn] at h2; cases h2
        · refine ⟨_, rfl, ⟨_, rfl⟩, _, _, rfl, rfl, rfl, sl' (by omega), fun p hp => ⟨_, rfl, _, _, rfl, SqL.of (upd_same ..), fun q hq => ?_⟩⟩
          rw [split_wy hn hns] at hq ⊢
          have e : cutV ((("" : Str) :: ns).map V.str) (some 1) none = ns.map V.str := by
            exact cut1 _ _
          rw [e]
          generalize hH : upd (upd H p _) q _ = H0
          have s0 : Same H H0 := by rw [← hH]; exact (same_new hp).trans (same_new hq)
          have hq0 : H0 q = some (.lst (ns.map V.str)) := by rw [← hH, upd_same]
          refine ⟨_, rfl, _, rfl, ⟨_, SqL.of hq0⟩, fun D hD => lc_rel walk_list (ns.map V.str) rfl (fun _ => some true) (fun _ v b => v = .bl b) (fun _ _ _ _ _ q => q) hD (fun _ s => SqL.of (s _ _ hq0)) ?_ ?_⟩
          · rintro i a x H1 H' ha pv s1 ⟨rfl, hx⟩
            rw [hx] at ha
            obtain rfl := Option.some.inj ha
            obtain ⟨n, hn1, rfl⟩ := map_at hx
            have hnn := hns n (List.mem_of_getElem? hn1)
            refine ⟨rfl, tyes ⟨_, rfl, n, rfl, sl' (by have := (isName_len hnn).2; omega), fun H3 s3 => ?_⟩⟩
            exact pv.yes (fun _ _ _ _ _ q => q) hD (by rw [List.length_map]; omega) hx s3 rfl (congrArg V.bl hnn)
          · intro H1 ys s1 h3 h4
            obtain rfl := paired_map h4
            refine ⟨_, _, rfl, SqL.of h3, _, rfl, ite2 (fun h5 => ?_) (fun h5 => ?_)⟩
            · exfalso
              simp at h5
            · exact ⟨_, rfl, k q _ (s0.trans s1) (s1 _ _ hq0)⟩
end
end K81
set_option maxHeartbeats 4000000
namespace K81
open PySem PySem.Spec PyProof.Rows L2
/-! ### the ends of a clash name -/
theorem nodup_len {α : Type} [DecidableEq α] : ∀ {l m : List α}, l.Nodup → (∀ x ∈ l, x ∈ m) → l.length ≤ m.length
  | [], _, _, _ => Nat.zero_le _
  | a :: l, m, hn, hs => by
    have h1 : a ∈ m := hs a List.mem_cons_self
    have hn' := List.nodup_cons.mp hn
    have h2 := nodup_len (l := l) (m := m.erase a) hn'.2 fun x hx => (List.mem_erase_of_ne (fun e => hn'.1 (by rw [← e]; exact hx))).mpr (hs x (List.mem_cons_of_mem _ hx))
    rw [List.length_erase_of_mem h1] at h2
    have h3 : 0 < m.length := List.length_pos_of_mem h1
    simp only [List.length_cons]
    omega
def lets : List Nat := ("abcdefghijklmnopqrstuvwxyz" : Str).cps.toList
def endsL (i : Nat) : List (List Nat) := [] :: (lets.map fun c => [c]) ++ (lets.take i).flatMap fun a => lets.map fun b => [a, b]
def sL (l : List Nat) : Str := ⟨l.toArray⟩
theorem tl_sL (l : List Nat) : TL.tl (sL l) = l := by simp [TL.tl, sL]
def codeL (l : List Nat) : Nat := l.foldl (fun a c => 27 * a + (c - 96)) 0
def incr : List Nat → Bool
  | [] => true
  | a :: l => (match l with | [] => true | b :: _ => decide (a < b)) && incr l
theorem incr_pw : ∀ {l : List Nat}, incr l = true → l.Pairwise (· < ·)
  | [], _ => .nil
  | [a], _ => List.pairwise_singleton _ _
  | a :: b :: l, h => by
    unfold incr at h
    simp only [Bool.and_eq_true, decide_eq_true_eq] at h
    have ih := incr_pw h.2
    refine List.pairwise_cons.mpr ⟨fun x hx => ?_, ih⟩
    rcases List.mem_cons.mp hx with e | hx
    · rw [e]; exact h.1
    · exact Nat.lt_trans h.1 ((List.pairwise_cons.mp ih).1 x hx)
theorem ends_nodup : (endsL 26).Nodup := by
  have h : incr ((endsL 26).map codeL) = true := by decide +kernel
  have h2 := incr_pw h
  rw [List.pairwise_map] at h2
  refine h2.imp fun {a b} q => ?_
  intro e
  rw [e] at q
  exact Nat.lt_irrefl _ q
theorem ends_len : (endsL 26).length = 703 := by decide +kernel
theorem ends_small : ((endsL 26).all fun l => decide (l.length ≤ 2) && l.all fun c => decide (c ∈ signs.cps.toList)) = true := by decide +kernel
theorem lets_len : lets.length = 26 := by decide +kernel
theorem endsL_len (i : Nat) : (endsL i).length ≤ 703 := by
  have : (endsL i).length = 27 + 26 * (lets.take i).length := by
    simp only [endsL, List.length_append, List.length_cons, List.length_map, List.length_flatMap, lets_len]
    induction (lets.take i) with
    | nil => rfl
    | cons a b ih => simp only [List.map_cons, List.sum_cons, List.length_cons] at ih ⊢; omega
  have h2 : (lets.take i).length ≤ 26 := by rw [List.length_take, lets_len]; exact Nat.min_le_right _ _
  omega
theorem endsL_succ {i c : Nat} (h : lets[i]? = some c) : endsL (i + 1) = endsL i ++ lets.map fun b => [c, b] := by
  unfold endsL
  rw [take_get h, List.flatMap_append]
  simp
def wordL (n : Nat) : List Nat := 99 :: TL.numL n
theorem word_len {n : Nat} (h : n < 100000) : (wordL n).length ≤ 6 := by
  have h1 : (Str.ofString (toString ((n : Nat) : Int))).length ≤ 5 := toString_length_le (by omega) (by decide) (by omega)
  have h2 : (TL.tl (Str.ofString (toString ((n : Nat) : Int)))).length = (TL.numL n).length := by rw [TL.tl_num]
  rw [len_tl] at h2
  simp only [wordL, List.length_cons]
  omega
theorem digit_sign {c : Char} (h : c.isDigit = true) : c.toNat ∈ signs.cps.toList := by
  have h1 : 48 ≤ c.toNat ∧ c.toNat ≤ 57 := by
    simp only [Char.isDigit, Bool.and_eq_true, decide_eq_true_eq] at h
    exact h
  have key : ∀ k, k < 10 → 48 + k ∈ signs.cps.toList := by decide +kernel
  have := key (c.toNat - 48) (by omega)
  rw [show 48 + (c.toNat - 48) = c.toNat by omega] at this
  exact this
theorem word_signs (n : Nat) : ∀ c ∈ wordL n, c ∈ signs.cps.toList := by
  intro c hc
  rcases List.mem_cons.mp hc with e | hc
  · rw [e]; decide +kernel
  · obtain ⟨d, hd, rfl⟩ := List.mem_map.mp hc
    exact digit_sign (Nat.isDigit_of_mem_toDigits (by decide) (by decide) hd)
def clashOf (n : Nat) (e : List Nat) : Str := sL (wordL n ++ e)
theorem clash_isName {n : Nat} (h : n < 100000) {e : List Nat} (he : e ∈ endsL 26) : isName (clashOf n e) = true := by
  have h1 := List.all_eq_true.mp ends_small e he
  simp only [Bool.and_eq_true, decide_eq_true_eq, List.all_eq_true] at h1
  have h2 := word_len h
  have h3 : (clashOf n e).length = (wordL n).length + e.length := by rw [← len_tl, clashOf, tl_sL, List.length_append]
  refine isName_of ?_ (by omega) fun c hc => ?_
  · rw [h3]; simp [wordL]; omega
  · have hc' : c ∈ wordL n ++ e := by
      have := tl_sL (wordL n ++ e)
      unfold TL.tl at this
      rw [clashOf, this] at hc
      exact hc
    rcases List.mem_append.mp hc' with q | q
    · exact word_signs n c q
    · exact h1.2 c q
theorem sL_inj {a b : List Nat} (h : sL a = sL b) : a = b := by
  have := congrArg TL.tl h
  rwa [tl_sL, tl_sL] at this
/-- one of them is free -/
theorem clash_free (n : Nat) {ks : List Key} (h : ks.length < 703) : ∃ e, e ∈ endsL 26 ∧ (Sum.inr (clashOf n e) : Key) ∉ ks := by
  apply Classical.byContradiction
  intro q
  have q2 : ∀ e ∈ endsL 26, (Sum.inr (clashOf n e) : Key) ∈ ks := fun e he => Classical.byContradiction fun z => q ⟨e, he, z⟩
  have h1 : ((endsL 26).map fun e => (Sum.inr (clashOf n e) : Key)).Nodup := by
    refine List.pairwise_map.mpr (ends_nodup.imp fun {a b} ne e => ne ?_)
    exact List.append_cancel_left (sL_inj (Sum.inr.inj e))
  have h2 := nodup_len h1 (m := ks) fun x hx => by
    obtain ⟨e, he, rfl⟩ := List.mem_map.mp hx
    exact q2 e he
  rw [List.length_map, ends_len] at h2
  omega
def spClashName : Sp := fun vs H Q _ => ∃ (d : Addr) (kvs : List (Key × V)) (n : Nat), vs = [.ref d, .int n] ∧ Rd H d (.dK kvs) ∧ n < 100000 ∧ kvs.length < 703 ∧ ∀ z H', Same H H' → isName z = true → valV kvs (.inr z) = none → Q (.str z) H'
theorem app_sL (a b : List Nat) : sL a ++ sL b = sL (a ++ b) := TL.ext_tl (by rw [TL.tl_append, tl_sL, tl_sL, tl_sL])
theorem len_sL (l : List Nat) : (sL l).length = l.length := by rw [← len_tl, tl_sL]
theorem word_eq (n : Nat) : ("c" : Str) ++ (Str.ofString (toString ((n : Nat) : Int))) = sL (wordL n) := TL.ext_tl (by rw [TL.tl_append, TL.tl_num, tl_sL]; rfl)
section
variable {P : Program} {w : World} {K : PySem.W.Frag} {mg : Str → Option Value} {base : Heap}
abbrev N_clash_name : List Str := ["names", "number", "word", "ends", "letter", "end", "other"]
theorem sc_clash_name : FnScope N_clash_name ["names", "number"] (defScope s_clash_name) := ⟨rfl, rfl, rfl, by decide +kernel, rfl, by decide +kernel, by decide +kernel⟩
theorem ok_clash_name (T : Tx K mg base) : OkD P w K mg base d_clash_name.at_ 1 ["names", "number"] spClashName := by
  refine okD_of T.F_clash_name sc_clash_name (fun _ _ _ _ _ _ us hl => match us, hl with | [_, _], _ => rfl) (fun vs H Q E h => ?_) (fun cdv A outer s H vs Q E hr h => ?_)
  · obtain ⟨d, kvs, n, rfl, _⟩ := h
    rfl
  · obtain ⟨d, kvs, n, rfl, hd, hn, hk, k⟩ := h
    have hu := hu_of hr
    refine ⟨_, (pss_cons (ps_set (i := 2) sc_clash_name.nd rfl (by first | exact Or.inl rfl | exact Or.inr rfl) (pe_op op_add_str pe_str (pe_callTy call_str_int (by rfl) T.z_str (show bootBuiltins "str" = some (.type "str") by decide +kernel) (pa_cons (pv 1) pa_nil))))
      (pss_cons (ps_set (i := 3) sc_clash_name.nd rfl (by first | exact Or.inl rfl | exact Or.inr rfl) (pe_op op_cat (pe_lst (pa_cons pe_str pa_nil)) (pe_lc (own := [("letter", 4)]) rfl sc_clash_name.nd (pi_str (pe_gstr T.s_LETTERS)) (blkOk_by (N := N_clash_name) (sc := defScope s_clash_name) (by decide +kernel)) (fun _ _ _ _ _ => (pg_name (i := 4) sc_clash_name.nd rfl (Or.inl rfl))) (fun _ _ _ _ _ => pts_nil) (fun _ _ _ _ _ => (pv 4)))))
      (pss_cons (ps_for PassesOwn.never rfl (pi_str (pe_gstr T.s_LETTERS)) (pg_name (i := 4) sc_clash_name.nd rfl (by first | exact Or.inl rfl | exact Or.inr rfl)) (pss_one (ps_expr (pe_bm PySem.F.plainAttrs_list PySem.F.slot_list_extend PySem.F.type_list_extend mt_extend (pv 3) (pa_cons (pe_lc (own := [("other", 6)]) rfl sc_clash_name.nd (pi_str (pe_gstr T.s_LETTERS)) (blkOk_by (N := N_clash_name) (sc := defScope s_clash_name) (by decide +kernel)) (fun _ _ _ _ _ => (pg_name (i := 6) sc_clash_name.nd rfl (Or.inl rfl))) (fun _ _ _ _ _ => pts_nil) (fun _ _ _ _ _ => (pe_op op_add_str (pv 4) (pv 6)))) pa_nil)))))
      (pss_one (ps_ret (pe_ix (ix_listK K) (pe_lc (own := [("end", 5)]) rfl sc_clash_name.nd (pi_list (pv 3)) (blkOk_by (N := N_clash_name) (sc := defScope s_clash_name) (by decide +kernel)) (fun _ _ _ _ _ => (pg_name (i := 5) sc_clash_name.nd rfl (Or.inl rfl))) (fun _ _ _ _ _ => (pts_one (pt_cmp (pc_dnotin hu (pe_op op_add_str (pv 2) (pv 5)) (pv 0))))) (fun _ _ _ _ _ => (pe_op op_add_str (pv 2) (pv 5)))) pe_int (fun _ _ => rfl))))))), ?_⟩
    have hlog : ((n : Nat) : Int).natAbs.log2 < 1920 := by
      rw [Int.natAbs_natCast]
      by_cases h0 : n = 0
      · rw [h0]; decide
      · exact (Nat.log2_lt h0).mpr (Nat.lt_of_lt_of_le hn (Nat.le_trans (by decide : 100000 ≤ 2 ^ 17) (Nat.pow_le_pow_right (by decide) (by decide))))
    have hw5 : (Str.ofString (toString ((n : Nat) : Int))).length ≤ 5 := toString_length_le (by omega) (by decide) (by omega)
    refine ⟨_, rfl, _, rfl, hlog, _, _, rfl, rfl, sl' (by rw [show ("c" : Str).length = 1 from rfl]; omega), zl rfl, fun p0 hp0 => ⟨_, rfl, fun D hD => lc_rel walk_str lets (by decide +kernel) (fun c => some [c]) (fun _ v b => v = .str (sL b)) (fun _ _ _ _ _ q => q) hD (fun _ _ => trivial) ?_ ?_⟩⟩
    · rintro i c x H1 H' hc pv _ ⟨rfl, c', hc', rfl⟩
      obtain rfl : c = c' := by
        have : lets[i]? = some c' := by unfold lets; rw [Array.getElem?_toList]; exact hc'
        rw [hc] at this
        exact Option.some.inj this
      exact ⟨rfl, tyes ⟨_, rfl, pv.yes (fun _ _ _ _ _ q => q) hD (by rw [lets_len]; omega) hc (Same.refl _) rfl rfl⟩⟩
    intro H1 ys s1 h3 h4
    obtain rfl := paired_map h4
    rw [filterMap_some] at h3
    have hp0' : H1 p0 = some (.lst [.str ""]) := s1 _ _ (upd_same ..)
    refine ⟨_, _, _, _, rfl, rfl, hp0', h3, sl' (by simp [lets_len]), fun p hp => ⟨_, rfl, ?_⟩⟩
    generalize hH : upd H1 p _ = H2
    have s2 : Same H H2 := by rw [← hH]; exact ((same_new hp0).trans s1).trans (same_new hp)
    have hpf : H p = none := (same_new hp0 |>.trans s1).free hp
    have hp2 : H2 p = some (.lst ((endsL 0).map fun e => V.str (sL e))) := by
      rw [← hH, upd_same]
      simp [endsL]
      rfl
    rw [word_eq]
    refine for_it walk_str (fun i σ H' => Same H H' ∧ H' p = some (.lst ((endsL i).map fun e => V.str (sL e))) ∧ ∃ x y z, σ = [some (.ref d), some (.int n), some (.str (sL (wordL n))), some (.ref p), x, y, z]) ⟨s2, hp2, _, _, _, rfl⟩ (fun _ _ _ _ _ => trivial) ?_ ?_
    · rintro i x σ H' H'' hi ⟨s3, h5, _, _, _, rfl⟩ ⟨rfl, c, hc, rfl⟩
      have hcl : lets[i]? = some c := by unfold lets; rw [Array.getElem?_toList]; exact hc
      refine ⟨_, rfl, ?_, _, rfl, fun D hD => lc_rel walk_str lets (by decide +kernel) (fun b => some [c, b]) (fun _ v b => v = .str (sL b)) (fun _ _ _ _ _ q => q) hD (fun _ _ => trivial) ?_ ?_⟩
      · exact tyL (SqL.of h5)
      · rintro j b x H1 H' hb pv _ ⟨rfl, c', hc', rfl⟩
        obtain rfl : b = c' := by
          have : lets[j]? = some c' := by unfold lets; rw [Array.getElem?_toList]; exact hc'
          rw [hb] at this
          exact Option.some.inj this
        exact ⟨rfl, tyes ⟨_, rfl, _, rfl, _, _, rfl, rfl, sl' (show 1 + 1 ≤ 100000 by decide), pv.yes (fun _ _ _ _ _ q => q) hD (by rw [lets_len]; omega) hb (Same.refl _) rfl (congrArg V.str (app_sL [c] [b]))⟩⟩
      · intro H3 ys s4 h6 h7
        obtain rfl := paired_map h7
        rw [filterMap_some] at h6
        refine ⟨_, _, _, _, rfl, rfl, s4 _ _ h5, h6, sl' ?_, Same.off (s3.trans s4) hpf, ?_, _, _, _, rfl⟩
        · have := endsL_len i; simp [lets_len]; omega
        · rw [upd_same, endsL_succ hcl, List.map_append, List.map_map]
    · rintro σ H' ⟨s3, h5, _, _, _, rfl⟩
      rw [show ("abcdefghijklmnopqrstuvwxyz" : Str).cps.size = 26 from rfl] at h5
      refine ⟨_, rfl, _, rfl, ⟨_, SqL.of h5⟩, fun D hD => lc_rel walk_list (endsL 26) (by rw [List.length_map]) (fun e => if valV kvs (.inr (clashOf n e)) = none then some (clashOf n e) else none) (fun _ v b => v = .str b) (fun _ _ _ _ _ q => q) hD (fun _ s => SqL.of (s _ _ h5)) ?_ ?_⟩
      · rintro i e x H1 H2 he pv s4 ⟨rfl, hx⟩
        obtain ⟨e', he', rfl⟩ := map_at hx
        rw [he] at he'
        obtain rfl := Option.some.inj he'
        have hem : e ∈ endsL 26 := List.mem_of_getElem? he
        have hel := List.all_eq_true.mp ends_small e hem
        simp only [Bool.and_eq_true, decide_eq_true_eq] at hel
        have hwl := word_len hn
        have hz : (sL (wordL n)).length + (sL e).length ≤ sizeLine := sl' (by rw [len_sL, len_sL]; omega)
        have hdd : Rd H2 d (.dK kvs) := Same.rd (s3.trans s4) hd
        refine ⟨rfl, _, rfl, _, rfl, _, _, rfl, rfl, hz, _, rfl, _, _, rfl, .inl ⟨kvs, .inr _, hdd, rfl, rfl⟩, _, rfl, ite2 (fun h => ?_) (fun h => ?_)⟩
        · refine ⟨_, rfl, _, rfl, _, _, rfl, rfl, hz, pv.yes (fun _ _ _ _ _ q => q) hD (by rw [ends_len]; omega) he (Same.refl _) (if_pos ?_) (congrArg V.str (app_sL _ _))⟩
          have h' : (!(valV kvs (.inr (sL (wordL n) ++ sL e))).isSome) = true := h
          rw [app_sL] at h'
          simpa [clashOf] using h'
        · refine pv.no (fun _ _ _ _ _ q => q) he (Same.refl _) (if_neg ?_)
          have h' : ¬ (!(valV kvs (.inr (sL (wordL n) ++ sL e))).isSome) = true := h
          rw [app_sL] at h'
          simpa [clashOf] using h'
      · intro H1 ys s4 h6 h7
        obtain rfl := paired_map h7
        generalize hl : (endsL 26).filterMap _ = l at h6
        obtain ⟨e, he, hno⟩ := clash_free n (ks := kvs.map (·.1)) (by rw [List.length_map]; exact hk)
        have hall : ∀ z ∈ l, isName z = true ∧ valV kvs (.inr z) = none := by
          intro z hz
          rw [← hl] at hz
          obtain ⟨e, he, h⟩ := List.mem_filterMap.mp hz
          by_cases q : valV kvs (.inr (clashOf n e)) = none
          · rw [if_pos q] at h
            obtain rfl := Option.some.inj h
            exact ⟨clash_isName hn he, q⟩
          · rw [if_neg q] at h; cases h
        have hne : l ≠ [] := by
          intro q
          have hv : valV kvs (.inr (clashOf n e)) = none := by
            cases hv : valV kvs (.inr (clashOf n e)) with
            | none => rfl
            | some v => exact absurd (valV_in hv) hno
          have : clashOf n e ∈ l := by rw [← hl]; exact List.mem_filterMap.mpr ⟨e, he, if_pos hv⟩
          rw [q] at this
          cases this
        cases l with
        | nil => exact absurd rfl hne
        | cons z l =>
          have hz := hall z List.mem_cons_self
          exact ⟨_, _, _, _, rfl, rfl, SqL.of h6, at0, k z _ (s3.trans s4) hz.1 hz.2⟩
end
end K81
set_option maxHeartbeats 4000000
namespace K81
open PySem PySem.Spec PyProof.Rows L2
/-! ### parents: climbing -/
def parOf (ps : List (Int × Int)) (x : Int) : Option Int := (ps.find? fun p => decide (p.1 = x)).map (·.2)
def pI (ps : List (Int × Int)) : List (Key × V) := ps.map fun p => (Sum.inl p.1, V.int p.2)
theorem valV_pI (ps : List (Int × Int)) (x : Int) : valV (pI ps) (Sum.inl x) = (parOf ps x).map V.int := by
  induction ps with
  | nil => rfl
  | cons p r ih =>
    by_cases e : p.1 = x
    · rw [show pI (p :: r) = (Sum.inl p.1, V.int p.2) :: pI r from rfl, valV_pos (congrArg Sum.inl e)]
      simp [parOf, e]
    · rw [show pI (p :: r) = (Sum.inl p.1, V.int p.2) :: pI r from rfl, valV_neg (fun q => e (Sum.inl.inj q)), ih]
      simp [parOf, List.find?_cons, e]
theorem parOf_mem {ps : List (Int × Int)} {x y : Int} (h : parOf ps x = some y) : x ∈ ps.map (·.1) := by
  unfold parOf at h
  obtain ⟨p, hp, _⟩ := Option.map_eq_some_iff.mp h
  have h1 := List.mem_of_find?_eq_some hp
  have h2 := List.find?_some hp
  exact List.mem_map.mpr ⟨p, h1, of_decide_eq_true h2⟩
theorem parOf_none {ps : List (Int × Int)} {x : Int} (h : parOf ps x = none) : x ∉ ps.map (·.1) := by
  unfold parOf at h
  intro hx
  obtain ⟨p, hp, e⟩ := List.mem_map.mp hx
  have := List.find?_eq_none.mp (Option.map_eq_none_iff.mp h) p hp
  simp [e] at this
theorem parOf_pair {ps : List (Int × Int)} {x y : Int} (h : parOf ps x = some y) : (x, y) ∈ ps := by
  unfold parOf at h
  obtain ⟨p, hp, e⟩ := Option.map_eq_some_iff.mp h
  have h1 := List.mem_of_find?_eq_some hp
  have h2 : p.1 = x := of_decide_eq_true (List.find?_some (p := fun p : Int × Int => decide (p.1 = x)) hp)
  rw [show (x, y) = p from Prod.ext h2.symm e.symm]
  exact h1
theorem parOf_of {ps : List (Int × Int)} {x y : Int} (hn : (ps.map (·.1)).Nodup) (h : (x, y) ∈ ps) : parOf ps x = some y := by
  cases e : parOf ps x with
  | none => exact absurd (List.mem_map.mpr ⟨_, h, rfl⟩) (parOf_none e)
  | some z =>
    have h2 := parOf_pair e
    have : y = z := by
      induction ps with
      | nil => cases h
      | cons p r ih =>
        have hn' := List.nodup_cons.mp hn
        rcases List.mem_cons.mp h with h | h
        · rcases List.mem_cons.mp h2 with h2 | h2
          · rw [← h2] at h; exact (Prod.mk.inj h).2
          · exact absurd (List.mem_map.mpr ⟨_, h2, by rw [← h]⟩) hn'.1
        · rcases List.mem_cons.mp h2 with h2 | h2
          · exact absurd (List.mem_map.mpr ⟨_, h, by rw [← h2]⟩) hn'.1
          · refine ih hn'.2 h ?_ h2
            rw [← e]
            unfold parOf
            rw [List.find?_cons]
            have : ¬ p.1 = x := fun q => hn'.1 (List.mem_map.mpr ⟨_, h, q.symm⟩)
            simp [this]
    rw [this]
section
variable (par : Int → Option Int)
inductive Out : Int → Prop
  | here {x : Int} : par x = none → Out x
  | step {x y : Int} : par x = some y → Out y → Out x
inductive Plus : Int → Int → Prop
  | one {x y : Int} : par x = some y → Plus x y
  | more {x y z : Int} : par x = some y → Plus y z → Plus x z
end
section
variable {par : Int → Option Int}
theorem Plus.trans {x y z : Int} (h : Plus par x y) (h2 : Plus par y z) : Plus par x z := by
  induction h with
  | one e => exact .more e h2
  | more e _ ih => exact .more e (ih h2)
theorem Plus.snoc {x y z : Int} (h : Plus par x y) (e : par y = some z) : Plus par x z := h.trans (.one e)
theorem Plus.first {x z : Int} (h : Plus par x z) : ∃ y, par x = some y := by
  cases h with
  | one e => exact ⟨_, e⟩
  | more e _ => exact ⟨_, e⟩
theorem Plus.rot {x y : Int} (h : Plus par x x) (e : par x = some y) : Plus par y y := by
  cases h with
  | one e2 =>
    rw [e] at e2
    obtain rfl := Option.some.inj e2
    exact .one e
  | more e2 h2 =>
    rw [e] at e2
    obtain rfl := Option.some.inj e2
    exact h2.snoc e
theorem Out.no_ring {x : Int} (h : Out par x) : ¬ Plus par x x := by
  induction h with
  | here e => exact fun q => by obtain ⟨y, e2⟩ := q.first; rw [e] at e2; cases e2
  | step e _ ih => exact fun q => ih (q.rot e)
theorem rank_no_ring {rk : Int → Nat} (h : ∀ x y, par x = some y → rk y < rk x) {x y : Int} (p : Plus par x y) : rk y < rk x := by
  induction p with
  | one e => exact h _ _ e
  | more e _ ih => exact Nat.lt_trans ih (h _ _ e)
/-- a rank, where all climb out -/
theorem rank_of_out (h : ∀ x, Out par x) : ∃ rk : Int → Nat, ∀ x y, par x = some y → rk y < rk x := by
  have h1 : ∀ x, ∃ n : Nat, ∃ f : Nat → Option Int, f 0 = some x ∧ (∀ i, f (i + 1) = (f i).bind par) ∧ f n = none ∧ (∀ m, m < n → f m ≠ none) := by
    intro x
    induction h x with
    | @here x e => exact ⟨1, fun i => match i with | 0 => some x | _ + 1 => none, rfl, fun i => by cases i <;> simp [e], rfl, fun m hm => by
        have : m = 0 := by omega
        subst this; simp⟩
    | @step x y e _ ih =>
      obtain ⟨n, f, f0, fs, fn, fm⟩ := ih
      refine ⟨n + 1, fun i => match i with | 0 => some x | i + 1 => f i, rfl, fun i => ?_, fn, fun m hm => ?_⟩
      · cases i with
        | zero => simp [e, f0]
        | succ i => exact fs i
      · cases m with
        | zero => simp
        | succ m => exact fm m (by omega)
  refine ⟨fun x => Classical.choose (h1 x), fun x y e => ?_⟩
  obtain ⟨f, f0, fs, fn, fm⟩ := Classical.choose_spec (h1 x)
  obtain ⟨g, g0, gs, gn, gm⟩ := Classical.choose_spec (h1 y)
  have key : ∀ i, f (i + 1) = g i := by
    intro i
    induction i with
    | zero => rw [fs, f0, g0]; exact e
    | succ i ih => rw [fs, ih, gs]
  show Classical.choose (h1 y) < Classical.choose (h1 x)
  apply Classical.byContradiction
  intro q
  cases hx : Classical.choose (h1 x) with
  | zero => rw [hx, f0] at fn; cases fn
  | succ n =>
    rw [hx] at fn q
    rw [key] at fn
    exact gm n (by omega) fn
end
/-! ### flat lists of ints -/
theorem flat_ints : ∀ ns : List Int, (ns.map V.int).all flatV = true
  | [] => rfl
  | _ :: r => flat_ints r
theorem inV_int (n : Int) : ∀ ns : List Int, inV (.int n) (ns.map V.int) = decide (n ∈ ns)
  | [] => by simp [inV]
  | m :: r => by
    have ih := inV_int n r
    unfold inV at ih ⊢
    rw [List.map_cons, List.any_cons, ih]
    by_cases h : m = n
    · subst h; simp [eqV]
    · have h' : ¬ n = m := fun e => h e.symm
      simp [eqV, h, h']
theorem cut_from (xs : List V) (j : Nat) (hj : j ≤ xs.length) : cutV xs (some (j : Int)) none = xs.drop j := by
  have e1 : HT.sIx xs.length xs.length none = xs.length := rfl
  have e2 : HT.sIx xs.length 0 (some (j : Int)) = j := (HT.sIx_nat xs.length 0 j).trans (by omega)
  unfold cutV
  rw [e1, e2]
  exact List.take_of_length_le (by rw [List.length_drop]; exact Nat.le_refl _)
theorem lay_ints : ∀ ns : List Int, PyData.canLayAll0 (ns.map PyData.int) = true
  | [] => rfl
  | _ :: r => lay_ints r
theorem depth_ints : ∀ ns : List Int, PyData.depthAll (ns.map PyData.int) = 0
  | [] => rfl
  | _ :: r => by simp only [List.map_cons, PyData.depthAll, PyData.depth, depth_ints r]; rfl
theorem shaped_ints (ns : List Int) : SeqAt.shaped (.list (ns.map PyData.int)) = true := by
  show (PyData.canLay0 (.list (ns.map PyData.int)) && decide (PyData.depth (.list (ns.map PyData.int)) ≤ 64)) = true
  simp only [PyData.canLay0, PyData.depth, lay_ints, depth_ints]
  rfl
theorem dp_ints {K : PySem.W.Frag} {H : Hp} : ∀ ns : List Int, DpAll K H (ns.map V.int) (ns.map PyData.int)
  | [] => .nil
  | n :: r => .cons (.int n) (dp_ints r)
theorem eqv_nil_ints (ns : List Int) : PyData.eqv (.list (ns.map PyData.int)) (.list []) = decide (ns = []) := by
  cases ns with
  | nil => rfl
  | cons a b => rfl
/-! ### ring_above -/
def spRing : Sp := fun vs H Q _ => ∃ (d : Addr) (ps : List (Int × Int)) (f : Int), vs = [.ref d, .int f] ∧ Rd H d (.dK (pI ps)) ∧ ps.length ≤ 1000 ∧
  ∀ (q : Addr) (r : List Int) (H' : Hp), Same H H' → H' q = some (.lst (r.map V.int)) → (r = [] → Out (parOf ps) f) → (∀ x ∈ r, x ∈ ps.map (·.1) ∧ Plus (parOf ps) x x) → Q (.ref q) H'
def spARing : Sp := fun vs H Q _ => ∃ (d : Addr) (ps : List (Int × Int)), vs = [.ref d] ∧ Rd H d (.dK (pI ps)) ∧ ps.length < 64 ∧
  ∀ (q : Addr) (r : List Int) (H' : Hp), Same H H' → H' q = some (.lst (r.map V.int)) → (r = [] → ∀ f, Out (parOf ps) f) → (∀ x ∈ r, x ∈ ps.map (·.1) ∧ Plus (parOf ps) x x) → Q (.ref q) H'
section
variable {P : Program} {w : World} {K : PySem.W.Frag} {mg : Str → Option Value} {base : Heap}
abbrev N_ring_above : List Str := ["parents", "folder", "way", "ring"]
theorem sc_ring_above : FnScope N_ring_above ["parents", "folder"] (defScope s_ring_above) := ⟨rfl, rfl, rfl, by decide +kernel, rfl, by decide +kernel, by decide +kernel⟩
theorem ok_ring_above (T : Tx K mg base) : OkD P w K mg base d_ring_above.at_ 1 ["parents", "folder"] spRing := by
  refine okD_of T.F_ring_above sc_ring_above (fun _ _ _ _ _ _ us hl => match us, hl with | [_, _], _ => rfl) (fun vs H Q E h => ?_) (fun cdv A outer s H vs Q E hr h => ?_)
  · obtain ⟨d, ps, f, rfl, _⟩ := h
    rfl
  · obtain ⟨d, ps, f, rfl, hd, hl, k⟩ := h
    have hu := hu_of hr
    refine ⟨_, (pss_cons (ps_set (i := 2) sc_ring_above.nd rfl (by first | exact Or.inl rfl | exact Or.inr rfl) (pe_lst pa_nil))
      (pss_cons (ps_while PassesOwn.never (PW.pt (pw_and (pt_cmp (pc_din hu (pv 1) (pv 0))) (pw_and1 (pt_cmpR op_notIn_seq (pv 1) (pv 2) rfl)))) (pss_cons (ps_expr (pe_bm PySem.F.plainAttrs_list PySem.F.slot_list_append PySem.F.type_list_append mt_append (pv 2) (pa_cons (pv 1) pa_nil)))
      (pss_one (ps_set (i := 1) sc_ring_above.nd rfl (by first | exact Or.inl rfl | exact Or.inr rfl) (pe_dget hu (pv 0) (pv 1) (fun _ _ => rfl))))))
      (pss_cons (ps_if (pt_cmpR op_notIn_seq (pv 1) (pv 2) rfl) (pss_one (ps_ret (pe_lst pa_nil))) pss_nil)
      (pss_cons (ps_set (i := 3) sc_ring_above.nd rfl (by first | exact Or.inl rfl | exact Or.inr rfl) (pe_slice sl_list (pv 2) (po_some (pe_bm PySem.F.plainAttrs_list PySem.F.slot_list_index PySem.F.type_list_index mt_index (pv 2) (pa_cons (pv 1) pa_nil))) po_none))
      (pss_cons (ps_expr (pe_bm0 PySem.F.plainAttrs_list PySem.F.slot_list_reverse PySem.F.type_list_reverse mt_reverse (pv 3)))
      (pss_one (ps_ret (pv 3)))))))), ?_⟩
    refine ⟨zl rfl, fun p hp => ?_⟩
    have hdn : d ≠ p := fun e => by subst e; rcases hd with q | ⟨_, q⟩ <;> rw [q] at hp <;> cases hp
    refine ⟨fun m σ H' => ∃ (way : List Int) (g : Int), σ = [some (.ref d), some (.int g), some (.ref p), none] ∧ Same H H' ∧ H' p = some (.lst (way.map V.int)) ∧ m + way.length = ps.length ∧ way.Nodup ∧ (∀ x ∈ way, x ∈ ps.map (·.1)) ∧
      way.Pairwise (Plus (parOf ps)) ∧ (∀ x ∈ way, Plus (parOf ps) x g) ∧ (Out (parOf ps) g → Out (parOf ps) f), ⟨ps.length, [], f, rfl, same_new hp, by rw [upd_same]; rfl, rfl, .nil, (fun x hx => by cases hx), .nil, (fun x hx => by cases hx), id⟩, ?_⟩
    rintro m σ H' ⟨way, g, rfl, s1, h1, hm, hnd, hkeys, hpw, hplus, hout⟩
    have hd' : Rd H' d (.dK (pI ps)) := Same.rd s1 hd
    have hwl : way.length ≤ ps.length := by omega
    refine ⟨_, rfl, _, rfl, _, _, rfl, .inl ⟨_, .inl g, hd', rfl, rfl⟩, _, rfl, ?_⟩
    rw [valV_pI]
    refine' (fun (fin : (g ∉ way → parOf ps g = none) → (_ : Prop)) => ?main) ?fin
    case main =>
      refine ite2 (fun h2 => ?_) (fun h2 => ?_)
      · cases hg : parOf ps g with
        | none => rw [hg] at h2; cases h2
        | some y =>
          refine ⟨_, rfl, _, rfl, _, _, rfl, .inl (SqL.of h1), rfl, flat_ints way, _, rfl, ?_⟩
          rw [if_pos rfl, inV_int]
          refine ite2 (fun h3 => ?_) (fun h3 => ?_)
          · have h3' : g ∉ way := by simpa using h3
            have hgk := parOf_mem hg
            have hlt : way.length < ps.length := by
              have := nodup_len (l := g :: way) (m := ps.map (·.1)) (List.nodup_cons.mpr ⟨h3', hnd⟩) (fun x hx => by
                rcases List.mem_cons.mp hx with e | hx
                · rw [e]; exact hgk
                · exact hkeys x hx)
              rw [List.length_map, List.length_cons] at this
              omega
            refine ⟨fun σ' H'' => ∃ (m' : Nat), m' < m ∧ ∃ (way : List Int) (g : Int), σ' = [some (.ref d), some (.int g), some (.ref p), none] ∧ Same H H'' ∧ H'' p = some (.lst (way.map V.int)) ∧ m' + way.length = ps.length ∧ way.Nodup ∧ (∀ x ∈ way, x ∈ ps.map (·.1)) ∧
              way.Pairwise (Plus (parOf ps)) ∧ (∀ x ∈ way, Plus (parOf ps) x g) ∧ (Out (parOf ps) g → Out (parOf ps) f), fun σ' H'' h => h, ?_⟩
            refine ⟨_, rfl, tyL (SqL.of h1), _, rfl, _, _, _, rfl, rfl, h1, sl (by rw [List.length_map]; omega), ?_⟩
            have s2 : Same H (upd H' p (.lst (way.map V.int ++ [.int g]))) := Same.off s1 hp
            refine ⟨_, rfl, _, rfl, _, _, rfl, .inl ⟨_, .inl g, Same.rd s2 hd, rfl, (by rw [valV_pI, hg]; rfl)⟩, m - 1, by omega, way ++ [g], y, rfl, s2, by rw [upd_same, List.map_append]; rfl, by rw [List.length_append, List.length_singleton]; omega, ?_, ?_, ?_, ?_, ?_⟩
            · exact List.nodup_append.mpr ⟨hnd, by simp, fun a ha b hb e => by
                rw [List.mem_singleton.mp hb] at e; rw [e] at ha; exact h3' ha⟩
            · intro x hx
              rcases List.mem_append.mp hx with hx | hx
              · exact hkeys x hx
              · rw [List.mem_singleton.mp hx]; exact hgk
            · exact List.pairwise_append.mpr ⟨hpw, List.pairwise_singleton _ _, fun a ha b hb => by rw [List.mem_singleton.mp hb]; exact hplus a ha⟩
            · intro x hx
              rcases List.mem_append.mp hx with hx | hx
              · exact (hplus x hx).snoc hg
              · rw [List.mem_singleton.mp hx]; exact .one hg
            · exact fun o => hout (.step hg o)
          · exact fin fun q => absurd (by simpa using h3) q
      · refine fin fun _ => ?_
        cases hg : parOf ps g with
        | none => rfl
        | some y => rw [hg] at h2; exact absurd rfl h2
    case fin =>
      intro hno
      refine ⟨_, rfl, _, rfl, _, _, rfl, .inl (SqL.of h1), rfl, flat_ints way, _, rfl, ?_⟩
      rw [if_pos rfl, inV_int]
      refine ite2 (fun h2 => ⟨zl rfl, fun q hq => ?_⟩) (fun h2 => ?_)
      · have h2' : g ∉ way := by simpa using h2
        exact k q [] _ (s1.trans (same_new hq)) (by rw [upd_same]; rfl) (fun _ => hout (.here (hno h2'))) (fun x hx => by cases hx)
      · have h2' : g ∈ way := by simpa using h2
        obtain ⟨j, hj, hfirst⟩ : ∃ j, way[j]? = some g ∧ ∀ m z, m < j → way[m]? = some z → z ≠ g := by
          obtain ⟨j, hj, e⟩ := List.getElem_of_mem h2'
          refine ⟨j, by rw [List.getElem?_eq_getElem hj, e], fun m z hmj hz ez => ?_⟩
          subst ez
          obtain ⟨hm1, hm2⟩ := List.getElem?_eq_some_iff.mp hz
          exact List.pairwise_iff_getElem.mp hnd m j hm1 hj hmj (by rw [hm2, e])
        have hjl : j < way.length := (List.getElem?_eq_some_iff.mp hj).1
        refine ⟨_, rfl, _, rfl, tyL (SqL.of h1), _, rfl, _, _, _, j, .int g, rfl, rfl, SqL.of h1, rfl, flat_ints way, by rw [List.getElem?_map, hj]; rfl, by simp [eqV], fun m z hmj hz => ?_, _, rfl, _, _, rfl, SqL.of h1, fun q hq => ?_⟩
        · obtain ⟨z', hz', rfl⟩ := map_at hz
          have := hfirst m z' hmj hz'
          simp [eqV, this]
        · rw [cut_from _ _ (by rw [List.length_map]; omega)]
          refine ⟨_, rfl, tyL (SqL.of (upd_same ..)), _, _, rfl, rfl, upd_same .., _, rfl, ?_⟩
          rw [L2.upd_upd]
          refine k q (way.drop j).reverse _ (s1.trans (same_new hq)) (by rw [upd_same, ← List.map_drop, ← List.map_reverse]) (fun e => ?_) (fun x hx => ?_)
          · exfalso
            have e2 := congrArg List.length e
            rw [List.length_reverse, List.length_drop] at e2
            simp at e2
            omega
          · have hx1 : x ∈ way.drop j := List.mem_reverse.mp hx
            have hx2 : x ∈ way := List.mem_of_mem_drop hx1
            refine ⟨hkeys x hx2, ?_⟩
            by_cases e : x = g
            · subst e; exact hplus x hx2
            · refine (hplus x hx2).trans ?_
              have hd1 : way.drop j = g :: way.drop (j + 1) := by
                obtain ⟨hj1, hj2⟩ := List.getElem?_eq_some_iff.mp hj
                rw [List.drop_eq_getElem_cons hj1, hj2]
              have hpw2 := hpw.sublist (List.drop_sublist j way)
              rw [hd1] at hpw2 hx1
              rcases List.mem_cons.mp hx1 with q | q
              · exact absurd q e
              · exact (List.pairwise_cons.mp hpw2).1 x q
end
end K81
set_option maxHeartbeats 4000000
namespace K81
open PySem PySem.Spec PyProof.Rows L2
theorem pI_keys (ps : List (Int × Int)) : (pI ps).map (·.1) = (ps.map (·.1)).map Sum.inl := by simp [pI]
theorem dp_list {K : PySem.W.Frag} {H : Hp} {q : Addr} {ns : List Int} (h : H q = some (.lst (ns.map V.int))) : Dp K H (.ref q) (.list (ns.map PyData.int)) := .lst (SqL.of h) (dp_ints ns)
theorem dp_nil {K : PySem.W.Frag} {H : Hp} {q : Addr} (h : H q = some (.lst [])) : Dp K H (.ref q) (.list []) := .lst (SqL.of h) .nil
section
variable {P : Program} {w : World} {K : PySem.W.Frag} {mg : Str → Option Value} {base : Heap}
abbrev N_a_ring : List Str := ["parents", "folder", "ring"]
theorem sc_a_ring : FnScope N_a_ring ["parents"] (defScope s_a_ring) := ⟨rfl, rfl, rfl, by decide +kernel, rfl, by decide +kernel, by decide +kernel⟩
theorem ok_a_ring (T : Tx K mg base) : OkD P w K mg base d_a_ring.at_ 2 ["parents"] spARing := by
  have G_ring_above := ok_ring_above (P := P) (w := w) T
  refine okD_of T.F_a_ring sc_a_ring (fun _ _ _ _ _ _ us hl => match us, hl with | [_], _ => rfl) (fun vs H Q E h => ?_) (fun cdv A outer s H vs Q E hr h => ?_)
  · obtain ⟨d, ps, rfl, _⟩ := h
    rfl
  · obtain ⟨d, ps, rfl, hd, hl, k⟩ := h
    have hu := hu_of hr
    refine ⟨_, (pss_cons (ps_for PassesOwn.never rfl (pi_list (pe_callB (call_sortedDI rfl) (by rfl) T.z_sorted (show bootBuiltins "sorted" = some (.builtin "sorted") by decide +kernel) (pa_cons (pv 0) pa_nil))) (pg_name (i := 1) sc_a_ring.nd rfl (by first | exact Or.inl rfl | exact Or.inr rfl)) (pss_cons (ps_set (i := 2) sc_a_ring.nd rfl (by first | exact Or.inl rfl | exact Or.inr rfl) (pe_callO G_ring_above hr (by decide) T.g_ring_above (pa_cons (pv 0) (pa_cons (pv 1) pa_nil))))
      (pss_one (ps_if (pt_cmpR (op_neD hr.units) (pv 2) (pe_lst pa_nil) (nomark _)) (pss_one (ps_ret (pv 2))) pss_nil))))
      (pss_one (ps_ret (pe_lst pa_nil)))), ?_⟩
    refine ⟨_, rfl, _, _, ps.map (·.1), rfl, hd, pI_keys ps, by rw [List.length_map]; exact hl, fun ys p perm pw hp => ⟨_, rfl, ⟨_, SqL.of (upd_same ..)⟩, ?_⟩⟩
    refine for_it (walk_list (xs := ys.map V.int)) (fun i σ H' => ∃ x y, σ = [some (.ref d), x, y] ∧ Same H H' ∧ H' p = some (.lst (ys.map V.int)) ∧ ∀ f ∈ ys.take i, Out (parOf ps) f) ⟨_, _, rfl, same_new hp, upd_same .., fun f hf => by simp at hf⟩ (fun i σ H' hi hp => ?_) ?_ ?_
    · obtain ⟨_, _, _, _, h, _⟩ := hp
      exact SqL.of h
    · rintro i v σ H1 H' hi ⟨_, _, rfl, s1, h1, hout⟩ ⟨rfl, hv⟩
      obtain ⟨f, hf, rfl⟩ := map_at hv
      refine ⟨_, rfl, _, rfl, d, ps, f, rfl, Same.rd s1 hd, by omega, fun q r H2 s2 hq hr1 hr2 => ?_⟩
      refine ⟨_, rfl, zl rfl, fun e he => ⟨_, _, dp_list (same_new he _ _ hq), dp_nil (upd_same ..), shaped_ints r, rfl, _, rfl, ?_⟩⟩
      rw [eqv_nil_ints]
      refine ite2 (fun h2 => ?_) (fun h2 => ?_)
      · exact ⟨_, rfl, k q r _ ((s1.trans s2).trans (same_new he)) (same_new he _ _ hq) (fun e => absurd e (by simpa using h2)) hr2⟩
      · refine ⟨_, _, rfl, (s1.trans s2).trans (same_new he), same_new he _ _ (s2 _ _ h1), fun g hg => ?_⟩
        rw [take_get hf] at hg
        rcases List.mem_append.mp hg with hg | hg
        · exact hout g hg
        · rw [List.mem_singleton.mp hg]; exact hr1 (by simpa using h2)
    · rintro σ H' ⟨_, _, rfl, s1, h1, hout⟩
      refine ⟨zl rfl, fun q hq => k q [] _ (s1.trans (same_new hq)) (by rw [upd_same]; rfl) (fun _ f => ?_) (fun x hx => by cases hx)⟩
      cases e : parOf ps f with
      | none => exact .here e
      | some y =>
        refine hout f ?_
        rw [List.length_map, List.take_length]
        exact perm.symm.subset (parOf_mem e)
end
end K81
set_option maxHeartbeats 4000000
namespace K81
open PySem PySem.Spec PyProof.Rows L2
/-! ### dicts by numbers -/
def Dik {α : Type} (f : α → Int) (P : V → α → Prop) (kvs : List (Key × V)) (l : List α) : Prop := Paired (fun kv x => kv.1 = Sum.inl (f x) ∧ P kv.2 x) kvs l
section
variable {α : Type} {f : α → Int} {P P' : V → α → Prop}
theorem Dik.len {kvs : List (Key × V)} {l : List α} (h : Dik f P kvs l) : kvs.length = l.length := paired_len h
theorem Dik.mono {kvs : List (Key × V)} {l : List α} (h : Dik f P kvs l) (hp : ∀ v x, P v x → P' v x) : Dik f P' kvs l := paired_mono h fun _ _ q => ⟨q.1, hp _ _ q.2⟩
theorem Dik.keys : ∀ {kvs : List (Key × V)} {l : List α}, Dik f P kvs l → kvs.map (·.1) = (l.map f).map Sum.inl
  | _, _, .nil => rfl
  | _, _, .cons r t => by simp only [List.map_cons]; rw [r.1, Dik.keys t]
theorem Dik.get {n : Int} {v : V} : ∀ {kvs : List (Key × V)} {l : List α}, Dik f P kvs l → valV kvs (Sum.inl n) = some v → ∃ x, x ∈ l ∧ f x = n ∧ P v x
  | _, _, .nil, e => by cases e
  | kv :: r, x :: l, .cons q t, e => by
    by_cases h : f x = n
    · rw [valV_pos (q.1.trans (congrArg Sum.inl h))] at e
      obtain rfl := Option.some.inj e
      exact ⟨x, List.mem_cons_self, h, q.2⟩
    · rw [valV_neg (fun z => h (Sum.inl.inj (q.1.symm.trans z)))] at e
      obtain ⟨y, h1, h2⟩ := Dik.get t e
      exact ⟨y, List.mem_cons_of_mem _ h1, h2⟩
theorem Dik.non {n : Int} : ∀ {kvs : List (Key × V)} {l : List α}, Dik f P kvs l → (valV kvs (Sum.inl n) = none ↔ n ∉ l.map f)
  | _, _, .nil => by simp [valV_nil]
  | kv :: r, x :: l, .cons q t => by
    by_cases h : f x = n
    · rw [valV_pos (q.1.trans (congrArg Sum.inl h))]
      simp [h]
    · rw [valV_neg (fun z => h (Sum.inl.inj (q.1.symm.trans z))), Dik.non t]
      have h' : ¬ n = f x := fun e => h e.symm
      simp [h']
theorem Dik.isSome {n : Int} {kvs : List (Key × V)} {l : List α} (h : Dik f P kvs l) : (valV kvs (Sum.inl n)).isSome = decide (n ∈ l.map f) := by
  cases e : valV kvs (Sum.inl n) with
  | none => rw [decide_eq_false (h.non.mp e)]; rfl
  | some v => rw [decide_eq_true (Classical.byContradiction fun q => by rw [h.non.mpr q] at e; cases e)]; rfl
theorem nodup_key {l : List α} (hn : (l.map f).Nodup) {x y : α} (hx : x ∈ l) (hy : y ∈ l) (e : f x = f y) : x = y := by
  induction l with
  | nil => cases hx
  | cons a l ih =>
    have hn' := List.nodup_cons.mp hn
    rcases List.mem_cons.mp hx with hx | hx
    · rcases List.mem_cons.mp hy with hy | hy
      · rw [hx, hy]
      · exact absurd (List.mem_map.mpr ⟨y, hy, by rw [← e, hx]⟩) hn'.1
    · rcases List.mem_cons.mp hy with hy | hy
      · exact absurd (List.mem_map.mpr ⟨x, hx, by rw [e, hy]⟩) hn'.1
      · exact ih hn'.2 hx hy
theorem Dik.of {kvs : List (Key × V)} {l : List α} (h : Dik f P kvs l) (hn : (l.map f).Nodup) {x : α} (hx : x ∈ l) : ∃ v, valV kvs (Sum.inl (f x)) = some v ∧ P v x := by
  cases e : valV kvs (Sum.inl (f x)) with
  | none => exact absurd (List.mem_map.mpr ⟨x, hx, rfl⟩) (h.non.mp e)
  | some v =>
    obtain ⟨y, h1, h2, h3⟩ := h.get e
    rw [← nodup_key hn hx h1 h2.symm] at h3
    exact ⟨v, rfl, h3⟩
theorem Dik.snoc {kvs : List (Key × V)} {l : List α} (h : Dik f P kvs l) {x : α} {v : V} (hn : f x ∉ l.map f) (hp : P v x) : Dik f P (putK kvs (Sum.inl (f x)) v) (l ++ [x]) := by
  have e : putK kvs (Sum.inl (f x)) v = kvs ++ [(Sum.inl (f x), v)] := by
    unfold putK
    rw [valV_any, h.non.mpr hn]
    rfl
  rw [e]
  exact paired_snoc h ⟨rfl, hp⟩
end
/-! ### entries as data -/
theorem entsAt_dp {K : PySem.W.Frag} {H : Hp} : ∀ {xs : List V} {es : List (Str × Int)}, Paired (EntAt K H) xs es → DpAll K H xs (es.map encI)
  | _, _, .nil => .nil
  | _, _, .cons ⟨t, e, h⟩ r => .cons (by rw [e]; exact .tup h (.cons (.str _) (.cons (.int _) .nil))) (entsAt_dp r)
theorem entAt_of_dp {K : PySem.W.Frag} {H : Hp} {v : V} {e : Str × Int} (h : Dp K H v (encI e)) : EntAt K H v e := by
  cases h with
  | tup hs ha =>
    cases ha with
    | cons h1 ha =>
      cases ha with
      | cons h2 ha =>
        cases ha
        cases h1
        cases h2
        exact ⟨_, rfl, hs⟩
theorem entsAt_of_dp {K : PySem.W.Frag} {H : Hp} : ∀ {xs : List V} {es : List (Str × Int)}, DpAll K H xs (es.map encI) → Paired (EntAt K H) xs es
  | [], [], _ => .nil
  | x :: xs, e :: es, h => by
    cases h with
    | cons h1 h2 => exact .cons (entAt_of_dp h1) (entsAt_of_dp h2)
  | [], _ :: _, h => by cases h
  | _ :: _, [], h => by cases h
theorem sort_encI (es : List (Str × Int)) : (es.map encI).mergeSort dle = (es.mergeSort ile).map encI := (List.map_mergeSort (r := ile) (s := dle) (f := encI) (l := es) (fun a _ b _ => rfl)).symm
theorem alike_encI (es : List (Str × Int)) : PySem.W.AllAlike (es.map encI) := fun d hd d' hd' => by
  obtain ⟨a, _, rfl⟩ := List.mem_map.mp hd
  obtain ⟨b, _, rfl⟩ := List.mem_map.mp hd'
  simp [encI, PySem.W.alike, PySem.W.alikeAll]
theorem sortable_encI (es : List (Str × Int)) : PySem.W.Sortable (es.map encI) := .inl fun d hd => by
  obtain ⟨a, _, rfl⟩ := List.mem_map.mp hd
  exact ⟨_, _, rfl⟩
theorem depth_encI (es : List (Str × Int)) : ∀ d ∈ es.map encI, d.depth ≤ 8 := fun d hd => by
  obtain ⟨a, _, rfl⟩ := List.mem_map.mp hd
  simp [encI, PyData.depth, PyData.depthAll]
/-! ### the leading entries -/
def ledOf (E : List (Int × Str × Int)) (n : Int) : List (Int × Str) := (E.filter fun x => decide (x.2.2 = n)).map fun x => (x.1, x.2.1)
theorem ledOf_mem {E : List (Int × Str × Int)} {n w : Int} {a : Str} : (w, a) ∈ ledOf E n ↔ (w, a, n) ∈ E := by
  unfold ledOf
  rw [List.mem_map]
  constructor
  · rintro ⟨⟨w', a', n'⟩, h, e⟩
    obtain ⟨h1, h2⟩ := List.mem_filter.mp h
    simp only [Prod.mk.injEq] at e
    obtain ⟨rfl, rfl⟩ := e
    obtain rfl := of_decide_eq_true h2
    exact h1
  · exact fun h => ⟨(w, a, n), List.mem_filter.mpr ⟨h, by simp⟩, rfl⟩
theorem ledOf_snoc (E : List (Int × Str × Int)) (w n m : Int) (a : Str) : ledOf (E ++ [(w, a, n)]) m = if n = m then ledOf E m ++ [(w, a)] else ledOf E m := by
  unfold ledOf
  by_cases h : n = m
  · rw [if_pos h]; simp [List.filter_cons, h]
  · rw [if_neg h]; simp [List.filter_cons, h]
theorem ledOf_perm {E E' : List (Int × Str × Int)} (h : E.Perm E') (n : Int) : (ledOf E n).Perm (ledOf E' n) := (h.filter _).map _
def PairAt (K : PySem.W.Frag) (H : Hp) (v : V) (e : Int × Str) : Prop := ∃ t, v = .ref t ∧ SqT K H t [.int e.1, .str e.2]
theorem PairAt.same {K : PySem.W.Frag} {H H' : Hp} {v : V} {e : Int × Str} (s : Same H H') (h : PairAt K H v e) : PairAt K H' v e := let ⟨t, a, b⟩ := h; ⟨t, a, Same.tup s b⟩
def LedAt (K : PySem.W.Frag) (H : Hp) (ls : List (Key × V)) (E : List (Int × Str × Int)) : Prop := ∃ ns : List Int, ls.map (·.1) = ns.map Sum.inl ∧ ns.Nodup ∧ (∀ n, n ∈ ns ↔ ledOf E n ≠ []) ∧
  ∀ n v, (Sum.inl n, v) ∈ ls → ∃ a xs, v = .ref a ∧ SqL K H a xs ∧ Paired (PairAt K H) xs (ledOf E n)
/-- while it grows -/
def LedM (K : PySem.W.Frag) (R H : Hp) (ls : List (Key × V)) (E : List (Int × Str × Int)) : Prop := ∃ ns : List Int, ls.map (·.1) = ns.map Sum.inl ∧ ns.Nodup ∧ (∀ n, n ∈ ns ↔ ledOf E n ≠ []) ∧
  (∀ n v, (Sum.inl n, v) ∈ ls → ∃ a xs, v = .ref a ∧ H a = some (.lst xs) ∧ R a = none ∧ Paired (PairAt K H) xs (ledOf E n)) ∧ ∀ n m v, (Sum.inl n, v) ∈ ls → (Sum.inl m, v) ∈ ls → n = m
section
variable {K : PySem.W.Frag} {R H H' : Hp} {ls : List (Key × V)} {E : List (Int × Str × Int)}
theorem valV_mem {κ : Type} [DecidableEq κ] {kvs : List (κ × V)} {k : κ} {v : V} (h : valV kvs k = some v) : (k, v) ∈ kvs := by
  unfold valV at h
  obtain ⟨p, hp, e⟩ := Option.map_eq_some_iff.mp h
  have h1 := List.mem_of_find?_eq_some hp
  have h2 : p.1 = k := of_decide_eq_true (List.find?_some (p := fun kv : κ × V => decide (kv.1 = k)) hp)
  rw [show (k, v) = p from Prod.ext h2.symm e.symm]
  exact h1
theorem valV_of {κ : Type} [DecidableEq κ] {kvs : List (κ × V)} {k : κ} {v : V} (hn : (kvs.map (·.1)).Nodup) (h : (k, v) ∈ kvs) : valV kvs k = some v := by
  induction kvs with
  | nil => cases h
  | cons p r ih =>
    have hn' := List.nodup_cons.mp hn
    rcases List.mem_cons.mp h with h | h
    · rw [← h, valV_pos rfl]
    · rw [valV_neg fun e => hn'.1 (List.mem_map.mpr ⟨_, h, e.symm⟩)]
      exact ih hn'.2 h
theorem nodup_inl {ns : List Int} (h : ns.Nodup) : (ns.map (Sum.inl : Int → Key)).Nodup := List.pairwise_map.mpr (h.imp fun ne e => ne (Sum.inl.inj e))
theorem LedAt.same (s : Same H H') (h : LedAt K H ls E) : LedAt K H' ls E := by
  obtain ⟨ns, h1, h2, h3, h4⟩ := h
  refine ⟨ns, h1, h2, h3, fun n v m => ?_⟩
  obtain ⟨a, xs, e, q1, q2⟩ := h4 n v m
  exact ⟨a, xs, e, Same.seq s q1, paired_mono q2 fun _ _ q => q.same s⟩
theorem LedAt.get (h : LedAt K H ls E) {n : Int} {v : V} (e : valV ls (Sum.inl n) = some v) : ∃ a xs, v = .ref a ∧ SqL K H a xs ∧ Paired (PairAt K H) xs (ledOf E n) ∧ ledOf E n ≠ [] := by
  obtain ⟨ns, h1, h2, h3, h4⟩ := h
  obtain ⟨a, xs, q1, q2, q3⟩ := h4 n v (valV_mem e)
  refine ⟨a, xs, q1, q2, q3, (h3 n).mp ?_⟩
  have := valV_in e
  rw [h1] at this
  obtain ⟨m, hm, e2⟩ := List.mem_map.mp this
  obtain rfl := Sum.inl.inj e2
  exact hm
theorem LedAt.non (h : LedAt K H ls E) {n : Int} (e : valV ls (Sum.inl n) = none) : ledOf E n = [] := by
  obtain ⟨ns, h1, h2, h3, h4⟩ := h
  apply Classical.byContradiction
  intro q
  refine valV_not e ?_
  rw [h1]
  exact List.mem_map.mpr ⟨n, (h3 n).mpr q, rfl⟩
theorem LedAt.isSome (h : LedAt K H ls E) (n : Int) : (valV ls (Sum.inl n)).isSome = decide (ledOf E n ≠ []) := by
  cases e : valV ls (Sum.inl n) with
  | none => rw [decide_eq_false (fun q => q (h.non e))]; rfl
  | some v => obtain ⟨_, _, _, _, _, q⟩ := h.get e; rw [decide_eq_true q]; rfl
theorem LedM.at_ (h : LedM K R H ls E) : LedAt K H ls E := by
  obtain ⟨ns, h1, h2, h3, h4, h5⟩ := h
  refine ⟨ns, h1, h2, h3, fun n v m => ?_⟩
  obtain ⟨a, xs, e, q1, q2, q3⟩ := h4 n v m
  exact ⟨a, xs, e, SqL.of q1, q3⟩
theorem LedM.ref (h : LedM K R H ls E) {n : Int} {v : V} (hm : (Sum.inl n, v) ∈ ls) : ∃ a xs, v = .ref a ∧ H a = some (.lst xs) ∧ R a = Option.none ∧ xs.length = (ledOf E n).length := by
  obtain ⟨ns, h1, h2, h3, h4, h5⟩ := h
  obtain ⟨a, xs, e, q1, q2, q3⟩ := h4 n v hm
  exact ⟨a, xs, e, q1, q2, paired_len q3⟩
theorem LedM.nil : LedM K R H [] [] := ⟨[], rfl, .nil, fun n => by simp [ledOf], fun _ _ h => (nomatch h), fun _ _ _ h => (nomatch h)⟩
theorem LedM.same (s : Same H H') (h : LedM K R H ls E) : LedM K R H' ls E := by
  obtain ⟨ns, h1, h2, h3, h4, h5⟩ := h
  refine ⟨ns, h1, h2, h3, fun n v m => ?_, h5⟩
  obtain ⟨a, xs, e, q1, q2, q3⟩ := h4 n v m
  exact ⟨a, xs, e, s _ _ q1, q2, paired_mono q3 fun _ _ q => q.same s⟩
/-- a tuple stays where another kind of thing is changed -/
theorem sqT_upd {t p : Addr} {xs : List V} {o o' : HO} (h : SqT K H t xs) (hp : H p = some o') (h1 : ∀ ys, o' ≠ .tup ys) (h2 : ∀ od ys, o' ≠ .frz od (.tup ys)) : SqT K (upd H p o) t xs := by
  rcases h with (h | ⟨od, h⟩) | h
  · refine .inl (.inl ?_)
    rw [upd_ne (fun e => by subst e; rw [hp] at h; exact h1 xs (Option.some.inj h))]
    exact h
  · refine .inl (.inr ⟨od, ?_⟩)
    rw [upd_ne (fun e => by subst e; rw [hp] at h; exact h2 od xs (Option.some.inj h))]
    exact h
  · exact .inr h
theorem PairAt.upd {v : V} {e : Int × Str} {p : Addr} {o o' : HO} (h : PairAt K H v e) (hp : H p = some o') (h1 : ∀ ys, o' ≠ .tup ys) (h2 : ∀ od ys, o' ≠ .frz od (.tup ys)) : PairAt K (L2.upd H p o) v e := let ⟨t, a, b⟩ := h; ⟨t, a, sqT_upd b hp h1 h2⟩
theorem LedM.dict {p : Addr} {kvs kvs' : List (Key × V)} (h : LedM K R H ls E) (hp : H p = some (.dK kvs)) : LedM K R (upd H p (.dK kvs')) ls E := by
  obtain ⟨ns, h1, h2, h3, h4, h5⟩ := h
  refine ⟨ns, h1, h2, h3, fun n v m => ?_, h5⟩
  obtain ⟨a, xs, e, q1, q2, q3⟩ := h4 n v m
  refine ⟨a, xs, e, ?_, q2, paired_mono q3 fun _ _ q => q.upd hp (fun _ z => by cases z) (fun _ _ z => by cases z)⟩
  rw [upd_ne (fun z => by subst z; rw [hp] at q1; cases q1)]
  exact q1
theorem LedM.old {n w : Int} {s : Str} {a q : Addr} (h : LedM K R H ls E) (hm : (Sum.inl n, V.ref a) ∈ ls) (hq : H q = some (.tup [.int w, .str s])) :
    ∃ xs, H a = some (.lst xs) ∧ R a = none ∧ xs.length = (ledOf E n).length ∧ LedM K R (upd H a (.lst (xs ++ [.ref q]))) ls (E ++ [(w, s, n)]) := by
  obtain ⟨ns, h1, h2, h3, h4, h5⟩ := h
  obtain ⟨a', xs, e, q1, q2, q3⟩ := h4 n _ hm
  obtain rfl := V.ref.inj e
  refine ⟨xs, q1, q2, paired_len q3, ns, h1, h2, fun m => ?_, fun m v hv => ?_, h5⟩
  · rw [ledOf_snoc]
    by_cases e : n = m
    · subst e
      rw [if_pos rfl]
      have : n ∈ ns := by
        have : (Sum.inl n : Key) ∈ ls.map (·.1) := List.mem_map.mpr ⟨_, hm, rfl⟩
        rw [h1] at this
        obtain ⟨k, hk, e2⟩ := List.mem_map.mp this
        obtain rfl := Sum.inl.inj e2
        exact hk
      simp [this]
    · rw [if_neg e]; exact h3 m
  · obtain ⟨a2, ys, e2, p1, p2, p3⟩ := h4 m v hv
    subst e2
    have up : ∀ {v e}, PairAt K H v e → PairAt K (upd H a (.lst (xs ++ [.ref q]))) v e := fun z => z.upd q1 (fun _ z => by cases z) (fun _ _ z => by cases z)
    by_cases ea : a2 = a
    · subst ea
      obtain rfl := h5 _ _ _ hm hv
      rw [q1] at p1
      obtain rfl := HO.lst.inj (Option.some.inj p1)
      refine ⟨a2, xs ++ [.ref q], rfl, upd_same .., p2, ?_⟩
      rw [ledOf_snoc, if_pos rfl]
      refine paired_snoc (paired_mono p3 fun _ _ z => up z) ⟨q, rfl, SqT.of ?_⟩
      rw [upd_ne (fun z => by subst z; rw [q1] at hq; cases hq)]
      exact hq
    · have nm : ¬ n = m := fun e => by
        subst e
        have n1 := valV_of (kvs := ls) (by rw [h1]; exact nodup_inl h2) hm
        have n2 := valV_of (kvs := ls) (by rw [h1]; exact nodup_inl h2) hv
        rw [n1] at n2
        exact ea (V.ref.inj (Option.some.inj n2)).symm
      refine ⟨a2, ys, rfl, by rw [upd_ne ea]; exact p1, p2, ?_⟩
      rw [ledOf_snoc, if_neg nm]
      exact paired_mono p3 fun _ _ z => up z
theorem LedM.new {n w : Int} {s : Str} {a q : Addr} (h : LedM K R H ls E) (hno : valV ls (Sum.inl n) = Option.none) (ha : H a = some (.lst [])) (hR : R a = Option.none) (hfr : ∀ m, (Sum.inl m, V.ref a) ∉ ls) (hq : H q = some (.tup [.int w, .str s])) :
    LedM K R (upd H a (.lst [.ref q])) (putK ls (Sum.inl n) (.ref a)) (E ++ [(w, s, n)]) := by
  have hl0 := h.at_.non hno
  obtain ⟨ns, h1, h2, h3, h4, h5⟩ := h
  have e : putK ls (Sum.inl n) (.ref a) = ls ++ [(Sum.inl n, .ref a)] := by
    unfold putK
    rw [valV_any, hno]
    rfl
  have nin : n ∉ ns := fun q => (h3 n).mp q hl0
  have up : ∀ {v e}, PairAt K H v e → PairAt K (upd H a (.lst [.ref q])) v e := fun z => z.upd ha (fun _ z => by cases z) (fun _ _ z => by cases z)
  rw [e]
  refine ⟨ns ++ [n], by rw [List.map_append, List.map_append, h1]; rfl, List.nodup_append.mpr ⟨h2, by simp, fun x hx y hy e => nin (by rw [List.mem_singleton.mp hy] at e; rw [← e]; exact hx)⟩, fun m => ?_, fun m v hv => ?_, fun m m' v hv hv' => ?_⟩
  · rw [ledOf_snoc, List.mem_append, List.mem_singleton, h3 m]
    by_cases e : n = m
    · subst e; simp [hl0]
    · rw [if_neg e]
      have : ¬ m = n := fun z => e z.symm
      simp [this]
  · rcases List.mem_append.mp hv with hv1 | hv
    · obtain ⟨a2, ys, e2, p1, p2, p3⟩ := h4 m v hv1
      subst e2
      have nm : ¬ n = m := fun e => by
        subst e
        refine valV_not hno (List.mem_map.mpr ⟨_, hv1, rfl⟩)
      refine ⟨a2, ys, rfl, ?_, p2, ?_⟩
      · rw [upd_ne (fun z => by subst z; exact hfr m hv1)]
        exact p1
      · rw [ledOf_snoc, if_neg nm]
        exact paired_mono p3 fun _ _ z => up z
    · have e := List.mem_singleton.mp hv
      obtain rfl := Sum.inl.inj (Prod.mk.inj e).1
      obtain rfl := (Prod.mk.inj e).2
      refine ⟨a, _, rfl, upd_same .., hR, ?_⟩
      rw [ledOf_snoc, if_pos rfl, hl0]
      refine .cons ⟨q, rfl, SqT.of ?_⟩ .nil
      rw [upd_ne (fun z => by subst z; rw [ha] at hq; cases hq)]
      exact hq
  · rcases List.mem_append.mp hv with hv | hv <;> rcases List.mem_append.mp hv' with hv' | hv'
    · exact h5 _ _ _ hv hv'
    · have e := List.mem_singleton.mp hv'
      rw [(Prod.mk.inj e).2] at hv
      exact absurd hv (hfr m)
    · have e := List.mem_singleton.mp hv
      rw [(Prod.mk.inj e).2] at hv'
      exact absurd hv' (hfr m')
    · have e := List.mem_singleton.mp hv
      have e' := List.mem_singleton.mp hv'
      rw [Sum.inl.inj (Prod.mk.inj e).1, Sum.inl.inj (Prod.mk.inj e').1]
end
/-! ### a Looking -/
def FilV (K : PySem.W.Frag) (H : Hp) (v : V) (x : Int × Int × Str) : Prop := ∃ t, v = .ref t ∧ SqT K H t [.int x.2.1, .str x.2.2]
def EntsV (K : PySem.W.Frag) (H : Hp) (v : V) (x : Int × List (Str × Int)) : Prop := EntsAt K H v (x.2.mergeSort ile)
theorem FilV.same {K : PySem.W.Frag} {H H' : Hp} {v : V} {x : Int × Int × Str} (s : Same H H') (h : FilV K H v x) : FilV K H' v x := let ⟨t, a, b⟩ := h; ⟨t, a, Same.tup s b⟩
def LookAt (K : PySem.W.Frag) (H : Hp) (x : Addr) (t : List Row) : Prop := ∃ dx e f l es fs ls E, H x = some (.ins (He.ga K "Looking") dx [("entries", .ref e), ("files", .ref f), ("leading", .ref l)]) ∧
  H e = some (.dK es) ∧ H f = some (.dK fs) ∧ H l = some (.dK ls) ∧ Dik (·.1) (EntsV K H) es (fo t) ∧ Dik (·.1) (FilV K H) fs (fi t) ∧ E.Perm (flat (fo t)) ∧ LedAt K H ls E
theorem LookAt.same {K : PySem.W.Frag} {H H' : Hp} {x : Addr} {t : List Row} (s : Same H H') (h : LookAt K H x t) : LookAt K H' x t := by
  obtain ⟨dx, e, f, l, es, fs, ls, E, h1, h2, h3, h4, h5, h6, h7, h8⟩ := h
  exact ⟨dx, e, f, l, es, fs, ls, E, s _ _ h1, s _ _ h2, s _ _ h3, s _ _ h4, h5.mono fun _ _ q => EntsAt.same s q, h6.mono fun _ _ q => q.same s, h7, h8.same s⟩
/-- the heap without some addresses -/
def dels (H : Hp) (M : List Addr) : Hp := fun b => if b ∈ M then none else H b
section
variable {H H' : Hp} {M : List Addr} {p : Addr} {o : HO}
theorem dels_same (H : Hp) (M : List Addr) : Same (dels H M) H := fun b o h => by
  unfold dels at h
  by_cases e : b ∈ M
  · rw [if_pos e] at h; cases h
  · rw [if_neg e] at h; exact h
theorem dels_mono (s : Same H H') : Same (dels H M) (dels H' M) := fun b o h => by
  unfold dels at h ⊢
  by_cases e : b ∈ M
  · rw [if_pos e] at h; cases h
  · rw [if_neg e] at h ⊢; exact s b o h
theorem dels_upd (h : p ∈ M) : dels (upd H p o) M = dels H M := by
  funext b
  unfold dels
  by_cases e : b ∈ M
  · rw [if_pos e, if_pos e]
  · rw [if_neg e, if_neg e, upd_ne (fun z => e (by rw [z]; exact h))]
theorem dels_in (h : p ∈ M) : dels H M p = none := by unfold dels; rw [if_pos h]
theorem dels_out (h : p ∉ M) : dels H M p = H p := by unfold dels; rw [if_neg h]
end
end K81
set_option maxHeartbeats 4000000
namespace K81
open PySem PySem.Spec PyProof.Rows L2
/-! ### all that is no dict stays -/
def SameD (H H' : Hp) : Prop := ∀ b o, H b = some o → (∀ kvs, o ≠ .dK kvs) → H' b = some o
theorem _root_.L2.Same.d {H H' : Hp} (s : Same H H') : SameD H H' := fun b o h _ => s b o h
theorem SameD.refl (H : Hp) : SameD H H := fun _ _ h _ => h
theorem SameD.trans {H H1 H2 : Hp} (a : SameD H H1) (b : SameD H1 H2) : SameD H H2 := fun c o h n => b c o (a c o h n) n
theorem SameD.upd {H : Hp} {p : Addr} {kvs : List (Key × V)} {o : HO} (h : H p = some (.dK kvs)) : SameD H (L2.upd H p o) := fun b u q n => by
  rw [upd_ne (fun e => by subst e; rw [h] at q; exact n kvs (Option.some.inj q).symm)]
  exact q
section
variable {K : PySem.W.Frag} {H H' : Hp}
theorem SameD.rd {a : Addr} {u : HO} (e : SameD H H') (hu : ∀ kvs, u ≠ .dK kvs) (h : Rd H a u) : Rd H' a u := by
  rcases h with h | ⟨o, h⟩
  · exact .inl (e _ _ h hu)
  · exact .inr ⟨o, e _ _ h (fun _ z => by cases z)⟩
theorem SameD.tup {a : Addr} {xs : List V} (e : SameD H H') (h : SqT K H a xs) : SqT K H' a xs := by
  rcases h with h | h
  · exact .inl (e.rd (fun _ z => by cases z) h)
  · exact .inr h
theorem SameD.seq {a : Addr} {xs : List V} (e : SameD H H') (h : SqL K H a xs) : SqL K H' a xs := by
  rcases h with h | h
  · exact .inl (e.rd (fun _ z => by cases z) h)
  · exact .inr h
mutual
theorem SameD.dp (e : SameD H H') : ∀ {v : V} {d : PyData}, Dp K H v d → Dp K H' v d
  | _, _, .non => .non
  | _, _, .bl b => .bl b
  | _, _, .int i => .int i
  | _, _, .str x => .str x
  | _, _, .lst h a => .lst (SameD.seq e h) (SameD.dpAll e a)
  | _, _, .tup h a => .tup (SameD.tup e h) (SameD.dpAll e a)
theorem SameD.dpAll (e : SameD H H') : ∀ {vs : List V} {ds : List PyData}, DpAll K H vs ds → DpAll K H' vs ds
  | _, _, .nil => .nil
  | _, _, .cons h a => .cons (SameD.dp e h) (SameD.dpAll e a)
end
theorem EntAt.sd {v : V} {e : Str × Int} (s : SameD H H') (h : EntAt K H v e) : EntAt K H' v e := let ⟨t, a, b⟩ := h; ⟨t, a, s.tup b⟩
theorem EntsAt.sd {v : V} {es : List (Str × Int)} (s : SameD H H') (h : EntsAt K H v es) : EntsAt K H' v es := let ⟨l, xs, a, b, c⟩ := h; ⟨l, xs, a, s.seq b, paired_mono c fun _ _ q => q.sd s⟩
theorem RowAt.sd {v : V} : ∀ {r : Row}, SameD H H' → RowAt K H v r → RowAt K H' v r
  | .fold _ _, s, h => let ⟨t, u, a, b, c⟩ := h; ⟨t, u, a, s.tup b, c.sd s⟩
  | .file _ _ _, s, h => let ⟨t, a, b⟩ := h; ⟨t, a, s.tup b⟩
theorem TabAt.sd {v : V} {t : List Row} (s : SameD H H') (h : TabAt K H v t) : TabAt K H' v t := let ⟨l, xs, a, b, c⟩ := h; ⟨l, xs, a, s.seq b, paired_mono c fun _ _ q => q.sd s⟩
theorem FilV.sd {v : V} {x : Int × Int × Str} (s : SameD H H') (h : FilV K H v x) : FilV K H' v x := let ⟨t, a, b⟩ := h; ⟨t, a, s.tup b⟩
theorem EntsV.sd {v : V} {x : Int × List (Str × Int)} (s : SameD H H') (h : EntsV K H v x) : EntsV K H' v x := EntsAt.sd s h
theorem PairAt.sd {v : V} {e : Int × Str} (s : SameD H H') (h : PairAt K H v e) : PairAt K H' v e := let ⟨t, a, b⟩ := h; ⟨t, a, s.tup b⟩
end
theorem ne_of_none' {H : Hp} {a b : Addr} {o : HO} (h' : H a = none) (h : H b = some o) : a ≠ b := (ne_of_none h h').symm
theorem del_none {H : Hp} {a x : Addr} (h : H a = none) : del H x a = none := by
  unfold del
  by_cases e : a = x
  · rw [if_pos e]
  · rw [if_neg e]; exact h
theorem del_self (H : Hp) (x : Addr) : del H x x = none := by simp [del]
theorem upd_at_ne {H : Hp} {a b : Addr} {o u : HO} (h : H b = some u) (n : b ≠ a) : upd H a o b = some u := by rw [upd_ne n]; exact h
/-! ### walked entries -/
def esOf (l : List (Int × List (Str × Int))) (n : Int) : List (Str × Int) := ((l.find? fun x => decide (x.1 = n)).map (·.2)).getD []
theorem esOf_eq {l : List (Int × List (Str × Int))} (hn : (l.map (·.1)).Nodup) {n : Int} {es : List (Str × Int)} (h : (n, es) ∈ l) : esOf l n = es := by
  unfold esOf
  cases e : l.find? fun x => decide (x.1 = n) with
  | none =>
    have := List.find?_eq_none.mp e _ h
    simp at this
  | some y =>
    have h1 := List.mem_of_find?_eq_some e
    have h2 : y.1 = n := of_decide_eq_true (List.find?_some (p := fun x : Int × List (Str × Int) => decide (x.1 = n)) e)
    have := nodup_key (f := (·.1)) hn h1 h h2
    rw [this]; rfl
/-- the entries in the order of a walk: folders as ks tells, names rising -/
def walkE (l : List (Int × List (Str × Int))) (ks : List Int) : List (Int × Str × Int) := ks.flatMap fun n => ((esOf l n).mergeSort ile).map fun e => (n, e.1, e.2)
theorem perm_flatMap {α β : Type} {f g : α → List β} : ∀ (l : List α), (∀ a ∈ l, (f a).Perm (g a)) → (l.flatMap f).Perm (l.flatMap g)
  | [], _ => List.Perm.refl _
  | a :: l, h => by
    rw [List.flatMap_cons, List.flatMap_cons]
    exact (h a List.mem_cons_self).append (perm_flatMap l fun b m => h b (List.mem_cons_of_mem _ m))
theorem walkE_perm {l : List (Int × List (Str × Int))} (hn : (l.map (·.1)).Nodup) {ks : List Int} (hk : ks.Perm (l.map (·.1))) : (walkE l ks).Perm (flat l) := by
  unfold walkE flat
  refine (hk.flatMap_right _).trans ?_
  rw [List.flatMap_map]
  refine perm_flatMap _ fun x hx => ?_
  rw [esOf_eq hn (show (x.1, x.2) ∈ l from hx)]
  exact ((srt_perm encI x.2).map _)
theorem walkE_take (l : List (Int × List (Str × Int))) {ks : List Int} {i : Nat} {n : Int} (h : ks[i]? = some n) : walkE l (ks.take (i + 1)) = walkE l (ks.take i) ++ ((esOf l n).mergeSort ile).map fun e => (n, e.1, e.2) := by
  unfold walkE
  rw [take_get h, List.flatMap_append]
  simp
theorem walkE_len {l : List (Int × List (Str × Int))} {b : Nat} (hb : ∀ n, (esOf l n).length ≤ b) : ∀ ks : List Int, (walkE l ks).length ≤ ks.length * b
  | [] => by simp [walkE]
  | n :: r => by
    have ih := walkE_len hb r
    have h1 := hb n
    have h2 : ((esOf l n).mergeSort ile).length = (esOf l n).length := List.length_mergeSort _
    unfold walkE at ih ⊢
    rw [List.flatMap_cons, List.length_append, List.length_map, h2, List.length_cons, Nat.succ_mul]
    omega
theorem esOf_len {l : List (Int × List (Str × Int))} {b : Nat} (hb : ∀ x ∈ l, x.2.length ≤ b) (n : Int) : (esOf l n).length ≤ b := by
  unfold esOf
  cases e : l.find? fun x => decide (x.1 = n) with
  | none => exact Nat.zero_le _
  | some y => exact hb y (List.mem_of_find?_eq_some e)
end K81
set_option maxHeartbeats 4000000
namespace K81
open PySem PySem.Spec PyProof.Rows L2
def spLookingInit (K : PySem.W.Frag) : Sp := fun vs H Q _ => ∃ (x : Addr) (tab : V) (t : List Row) (dx : Addr), vs = [.ref x, tab] ∧ H x = some (.ins (He.ga K "Looking") dx []) ∧ TabAt K (del H x) tab t ∧ (nums t).Nodup ∧ Small 63 1000 t ∧
  ∀ H', Same (del H x) H' → LookAt K H' x t → Q .non H'
theorem fo_take_snoc {t : List Row} {i : Nat} {n : Int} {es : List (Str × Int)} (h : t[i]? = some (.fold n es)) : fo (t.take (i + 1)) = fo (t.take i) ++ [(n, es)] ∧ fi (t.take (i + 1)) = fi (t.take i) := by
  rw [take_get h, fo_app, fi_app]
  exact ⟨rfl, by simp [fi]⟩
theorem fi_take_snoc {t : List Row} {i : Nat} {n k : Int} {c : Str} (h : t[i]? = some (.file n k c)) : fi (t.take (i + 1)) = fi (t.take i) ++ [(n, k, c)] ∧ fo (t.take (i + 1)) = fo (t.take i) := by
  rw [take_get h, fo_app, fi_app]
  exact ⟨rfl, by simp [fo]⟩
theorem nums_take_not {t : List Row} (hn : (nums t).Nodup) {i : Nat} {r : Row} (h : t[i]? = some r) : r.num ∉ nums (t.take i) := by
  intro hm
  have h1 : nums (t.take (i + 1)) = nums (t.take i) ++ [r.num] := by rw [take_get h]; simp [nums]
  have h2 : (nums (t.take (i + 1))).Nodup := by
    unfold nums at hn ⊢
    rw [List.map_take]
    exact hn.sublist (List.take_sublist _ _)
  rw [h1] at h2
  exact (List.nodup_append.mp h2).2.2 _ hm _ (List.mem_singleton.mpr rfl) rfl
theorem fo_take_not {t : List Row} (hn : (nums t).Nodup) {i : Nat} {r : Row} (h : t[i]? = some r) : r.num ∉ (fo (t.take i)).map (·.1) := fun q => nums_take_not hn h ((fo_nums _).subset q)
theorem fi_take_not {t : List Row} (hn : (nums t).Nodup) {i : Nat} {r : Row} (h : t[i]? = some r) : r.num ∉ (fi (t.take i)).map (·.1) := fun q => nums_take_not hn h ((fi_nums _).subset q)
theorem fo_take_le (t : List Row) (i : Nat) : (fo (t.take i)).length ≤ t.length := by
  have := fo_len (t.take i)
  have h2 : (t.take i).length ≤ t.length := by rw [List.length_take]; exact Nat.min_le_right _ _
  omega
theorem fi_take_le (t : List Row) (i : Nat) : (fi (t.take i)).length ≤ t.length := by
  have := fo_len (t.take i)
  have h2 : (t.take i).length ≤ t.length := by rw [List.length_take]; exact Nat.min_le_right _ _
  omega
theorem ne_of_kinds {H : Hp} {a b : Addr} {o u : HO} (h : H a = some o) (h2 : H b = some u) (n : o ≠ u) : a ≠ b := fun e => by subst e; rw [h] at h2; exact n (Option.some.inj h2)
section
variable {P : Program} {w : World} {K : PySem.W.Frag} {mg : Str → Option Value} {base : Heap}
abbrev N_Looking_init : List Str := ["self", "table", "row", "folder", "name", "number", "entry"]
theorem sc_Looking_init : FnScope N_Looking_init ["self", "table"] (defScope s_Looking_init) := ⟨rfl, rfl, rfl, by decide +kernel, rfl, by decide +kernel, by decide +kernel⟩
theorem ok_Looking_init (T : Tx K mg base) : OkD P w K mg base d_Looking_init.at_ 1 ["self", "table"] (spLookingInit K) := by
  refine okD_of T.F_Looking_init sc_Looking_init (fun _ _ _ _ _ _ us hl => match us, hl with | [_, _], _ => rfl) (fun vs H Q E h => ?_) (fun cdv A outer s H vs Q E hr h => ?_)
  · obtain ⟨x, tab, t, dx, rfl, _⟩ := h
    rfl
  · obtain ⟨x, tab, t, dx, rfl, hx, ht, hn, hsm, k⟩ := h
    have hu := hu_of hr
    have hrows := hsm.rows
    refine ⟨_, (pss_cons (ps_fld (pv 0) pe_dnewK rfl)
      (pss_cons (ps_fld (pv 0) pe_dnewK rfl)
      (pss_cons (ps_fld (pv 0) pe_dnewK rfl)
      (pss_cons (ps_for PassesOwn.never rfl (pi_list (pv 1)) (pg_name (i := 2) sc_Looking_init.nd rfl (by first | exact Or.inl rfl | exact Or.inr rfl)) (pss_one (ps_if (pt_cmpR op_eq (pe_ix (ix_tupK K) (pv 2) pe_int (fun _ _ => rfl)) pe_str (nomark _)) (pss_one (ps_dput hu (pe_fldK K (pv 0) rfl) (pe_ix (ix_tupK K) (pv 2) pe_int (fun _ _ => rfl)) (pe_callB (cr_sortedK hr.units) (by rfl) T.z_sorted (show bootBuiltins "sorted" = some (.builtin "sorted") by decide +kernel) (pa_cons (pe_lc (own := [("entry", 6)]) rfl sc_Looking_init.nd (pi_list (pe_ix (ix_tupK K) (pv 2) pe_int (fun _ _ => rfl))) (blkOk_by (N := N_Looking_init) (sc := defScope s_Looking_init) (by decide +kernel)) (fun _ _ _ _ _ => (pg_name (i := 6) sc_Looking_init.nd rfl (Or.inl rfl))) (fun _ _ _ _ _ => pts_nil) (fun _ _ _ _ _ => (pe_callTy (call_tupleTK K) (by rfl) T.z_tuple (show bootBuiltins "tuple" = some (.type "tuple") by decide +kernel) (pa_cons (pv 6) pa_nil)))) pa_nil)) rfl)) (pss_one (ps_dput hu (pe_fldK K (pv 0) rfl) (pe_ix (ix_tupK K) (pv 2) pe_int (fun _ _ => rfl)) (pe_tup (pa_cons (pe_ix (ix_tupK K) (pv 2) pe_int (fun _ _ => rfl)) (pa_cons (pe_ix (ix_tupK K) (pv 2) pe_int (fun _ _ => rfl)) pa_nil))) rfl)))))
      (pss_one (ps_for PassesOwn.never rfl (pi_list (pe_callB (call_sortedDI rfl) (by rfl) T.z_sorted (show bootBuiltins "sorted" = some (.builtin "sorted") by decide +kernel) (pa_cons (pe_fldK K (pv 0) rfl) pa_nil))) (pg_name (i := 3) sc_Looking_init.nd rfl (by first | exact Or.inl rfl | exact Or.inr rfl)) (pss_one (ps_for PassesOwn.never rfl (pi_list (pe_dget hu (pe_fldK K (pv 0) rfl) (pv 3) (fun _ _ => rfl))) (pg_tupK K (n := 2) rfl (pgs_cons (pg_name (i := 4) sc_Looking_init.nd rfl (by first | exact Or.inl rfl | exact Or.inr rfl)) (pgs_cons (pg_name (i := 5) sc_Looking_init.nd rfl (by first | exact Or.inl rfl | exact Or.inr rfl)) pgs_nil))) (pss_one (ps_expr (pe_bm PySem.F.plainAttrs_list PySem.F.slot_list_append PySem.F.type_list_append mt_append (pe_dsetd (pe_fldK K (pv 0) rfl) (pv 5) (pe_lst pa_nil) ⟨rfl, rfl, rfl, rfl⟩) (pa_cons (pe_tup (pa_cons (pv 3) (pa_cons (pv 4) pa_nil))) pa_nil)))))))))))), ?_⟩
    -- the three fields
    intro e he
    have hex : e ≠ x := ne_of_none' he hx
    refine ⟨_, rfl, _, _, _, _, rfl, (same_new he) _ _ hx, T.c_Looking, T.n_Looking_entries, by decide, ?_⟩
    generalize hH1 : upd (upd H e (.dK [])) x _ = H1
    have x1 : H1 x = some (.ins (He.ga K "Looking") dx [("entries", .ref e)]) := by rw [← hH1, upd_same]; rfl
    have e1 : H1 e = some (.dK []) := by rw [← hH1, upd_ne hex, upd_same]
    have s1 : Same (del H x) H1 := by rw [← hH1]; exact Same.off ((del_same H x).trans (same_new he)) (by simp [del])
    intro f hf
    have hfx : f ≠ x := ne_of_none' hf x1
    have hfe : f ≠ e := ne_of_none' hf e1
    refine ⟨_, rfl, _, _, _, _, rfl, (same_new hf) _ _ x1, T.c_Looking, T.n_Looking_files, by show 1 < 1000; decide, ?_⟩
    generalize hH2 : upd (upd H1 f (.dK [])) x _ = H2
    have x2 : H2 x = some (.ins (He.ga K "Looking") dx [("entries", .ref e), ("files", .ref f)]) := by rw [← hH2, upd_same]; rfl
    have e2 : H2 e = some (.dK []) := by rw [← hH2, upd_ne hex, upd_ne hfe.symm]; exact e1
    have f2 : H2 f = some (.dK []) := by rw [← hH2, upd_ne hfx, upd_same]
    have s2 : Same (del H x) H2 := by rw [← hH2]; exact Same.off (s1.trans (same_new hf)) (by simp [del])
    intro l hl
    have hlx : l ≠ x := ne_of_none' hl x2
    have hle : l ≠ e := ne_of_none' hl e2
    have hlf : l ≠ f := ne_of_none' hl f2
    refine ⟨_, rfl, _, _, _, _, rfl, (same_new hl) _ _ x2, T.c_Looking, T.n_Looking_leading, by show 2 < 1000; decide, ?_⟩
    generalize hH3 : upd (upd H2 l (.dK [])) x _ = H3
    have x3 : H3 x = some (.ins (He.ga K "Looking") dx [("entries", .ref e), ("files", .ref f), ("leading", .ref l)]) := by rw [← hH3, upd_same]; rfl
    have e3 : H3 e = some (.dK []) := by rw [← hH3, upd_ne hex, upd_ne hle.symm]; exact e2
    have f3 : H3 f = some (.dK []) := by rw [← hH3, upd_ne hfx, upd_ne hlf.symm]; exact f2
    have l3 : H3 l = some (.dK []) := by rw [← hH3, upd_ne hlx, upd_same]
    have s3 : Same (del H x) H3 := by rw [← hH3]; exact Same.off (s2.trans (same_new hl)) (by simp [del])
    have d0e : del H x e = none := del_none he
    have d0f : del H x f = none := s1.free hf
    have d0l : del H x l = none := s2.free hl
    clear hH1 hH2 hH3 x1 e1 x2 e2 f2 s1 s2 he hf hl
    have ht3 := ht.same s3
    obtain ⟨la, rows, rfl, hla, hrw⟩ := ht3
    -- the rows
    refine ⟨_, rfl, _, rfl, ⟨_, hla⟩, ?_⟩
    refine for_it (walk_list (xs := rows)) (fun i σ H' => ∃ rv es fs, σ = [some (.ref x), some (.ref la), rv, none, none, none, none] ∧ Same (del H x) H' ∧ SameD H3 H' ∧ H' e = some (.dK es) ∧ H' f = some (.dK fs) ∧ H' l = some (.dK []) ∧
      Dik (·.1) (EntsV K H') es (fo (t.take i)) ∧ Dik (·.1) (FilV K H') fs (fi (t.take i))) ⟨_, _, _, rfl, s3, SameD.refl _, e3, f3, l3, .nil, .nil⟩ (fun i σ H' _ hp => ?_) ?_ ?_
    · obtain ⟨_, _, _, _, _, sd, _⟩ := hp
      exact sd.seq hla
    · rintro i rv σ H1 H' hi ⟨_, es, fs, rfl, s1, sd, e1, f1, l1, hE, hF⟩ ⟨rfl, hv⟩
      obtain ⟨r, hr1, hr2⟩ := paired_at hrw hv
      have x1 := sd _ _ x3 (fun _ z => by cases z)
      have hz1 : (fo (t.take i)).length ≤ 63 := Nat.le_trans (fo_take_le t i) hrows
      have hz2 : (fi (t.take i)).length ≤ 63 := Nat.le_trans (fi_take_le t i) hrows
      cases r with
      | fold n en =>
        obtain ⟨tp, u, rfl, htp, hen⟩ := hr2.sd sd
        obtain ⟨lu, xs, rfl, hlu, hxs⟩ := hen
        have henl : en.length ≤ 1000 := hsm.ents n en (mem_fo.mpr (List.mem_of_getElem? hr1))
        refine ⟨_, rfl, _, _, _, _, rfl, rfl, htp, at0, rfl, _, rfl, ite2 (fun _ => ?_) (fun q => absurd (by decide) q)⟩
        refine ⟨_, rfl, _, _, _, _, rfl, rfl, htp, at2, _, rfl, ⟨_, hlu⟩, fun D hD => lc_rel walk_list xs rfl (fun v => some v) REq monoEq hD (fun _ s => Same.seq s hlu) ?_ ?_⟩
        · rintro j v v' H2 H2' hj pv s2 ⟨rfl, hv'⟩
          rw [hj] at hv'
          obtain rfl := Option.some.inj hv'
          obtain ⟨en1, _, ta, rfl, hta⟩ := paired_at hxs hj
          exact ⟨rfl, tyes ⟨_, rfl, _, _, rfl, Same.tup s2 hta, pv.yes monoEq hD (by rw [paired_len hxs]; omega) hj (Same.refl _) rfl rfl⟩⟩
        intro H2 ys s2 hD2 hys
        obtain rfl := paired_eq hys
        rw [filterMap_some, List.map_id'] at hD2
        refine ⟨_, _, _, rfl, SqL.of hD2, Same.dpAll s2 (entsAt_dp hxs), alike_encI en, sortable_encI en, depth_encI en, fun ys p hys hp => ?_⟩
        rw [sort_encI] at hys
        have hpe : p ≠ e := ne_of_none' hp (s2 _ _ e1)
        have hpf : p ≠ f := ne_of_none' hp (s2 _ _ f1)
        have hpl : p ≠ l := ne_of_none' hp (s2 _ _ l1)
        generalize hH4 : upd H2 p (.lst ys) = H4
        have s3' : Same H' H4 := by rw [← hH4]; exact s2.trans (same_new hp)
        have p4 : H4 p = some (.lst ys) := by rw [← hH4, upd_same]
        have hys4 : DpAll K H4 ys ((en.mergeSort ile).map encI) := by rw [← hH4]; exact Same.dpAll (same_new hp) hys
        have hlen : es.length < sizeLine := sl (by rw [hE.len]; omega)
        refine ⟨_, rfl, _, _, _, _, _, rfl, s3' _ _ x1, T.c_Looking, T.n_Looking_entries, rfl, _, rfl, _, _, _, _, rfl, rfl, Same.tup s3' htp, at1, _, _, rfl, .inl ⟨es, .inl n, s3' _ _ e1, rfl, hlen, rfl⟩, ?_⟩
        have sd5 : SameD H4 (upd H4 e (.dK (putK es (.inl n) (.ref p)))) := SameD.upd (s3' _ _ e1)
        obtain ⟨q1, q2⟩ := fo_take_snoc hr1
        refine ⟨_, _, _, rfl, Same.off (s1.trans s3') d0e, (sd.trans s3'.d).trans sd5, upd_same .., upd_at_ne (s3' _ _ f1) hfe, upd_at_ne (s3' _ _ l1) hle, ?_, ?_⟩
        · rw [q1]
          refine Dik.snoc (f := (·.1)) (x := (n, en)) (hE.mono fun _ _ q => q.sd (s3'.d.trans sd5)) (fo_take_not hn hr1) ?_
          exact ⟨p, ys, rfl, sd5.seq (SqL.of p4), entsAt_of_dp (sd5.dpAll hys4)⟩
        · rw [q2]
          exact hF.mono fun _ _ q => q.sd (s3'.d.trans sd5)
      | file n kk c =>
        obtain ⟨tp, rfl, htp⟩ := hr2.sd sd
        refine ⟨_, rfl, _, _, _, _, rfl, rfl, htp, at0, rfl, _, rfl, ite2 (fun q => absurd q (by decide)) (fun _ => ?_)⟩
        refine ⟨_, rfl, _, _, _, _, rfl, rfl, htp, at2, _, rfl, _, _, _, _, rfl, rfl, htp, at3, zl rfl, fun p hp => ?_⟩
        generalize hH4 : upd H' p (.tup [.int kk, .str c]) = H4
        have s3' : Same H' H4 := by rw [← hH4]; exact same_new hp
        have p4 : H4 p = some (.tup [.int kk, .str c]) := by rw [← hH4, upd_same]
        have hlen : fs.length < sizeLine := sl (by rw [hF.len]; omega)
        refine ⟨_, rfl, _, _, _, _, _, rfl, s3' _ _ x1, T.c_Looking, T.n_Looking_files, rfl, _, rfl, _, _, _, _, rfl, rfl, Same.tup s3' htp, at1, _, _, rfl, .inl ⟨fs, .inl n, s3' _ _ f1, rfl, hlen, rfl⟩, ?_⟩
        have sd5 : SameD H4 (upd H4 f (.dK (putK fs (.inl n) (.ref p)))) := SameD.upd (s3' _ _ f1)
        obtain ⟨q1, q2⟩ := fi_take_snoc hr1
        refine ⟨_, _, _, rfl, Same.off (s1.trans s3') d0f, (sd.trans s3'.d).trans sd5, upd_at_ne (s3' _ _ e1) hfe.symm, upd_same .., upd_at_ne (s3' _ _ l1) hlf, ?_, ?_⟩
        · rw [q2]
          exact hE.mono fun _ _ q => q.sd (s3'.d.trans sd5)
        · rw [q1]
          refine Dik.snoc (f := (·.1)) (x := (n, kk, c)) (hF.mono fun _ _ q => q.sd (s3'.d.trans sd5)) (fi_take_not hn hr1) ?_
          exact ⟨p, rfl, sd5.tup (SqT.of p4)⟩
    -- the leading entries
    rintro σ H4 ⟨rv, es, fs, rfl, s4, sd4, e4, f4, l4, hE, hF⟩
    have x4 := sd4 _ _ x3 (fun _ z => by cases z)
    rw [show rows.length = t.length from paired_len hrw, List.take_length] at hE hF
    have hfol : (fo t).length ≤ 63 := hsm.fo
    have hnf : ((fo t).map (·.1)).Nodup := hn.sublist (fo_nums t)
    have hes : ∀ n, (esOf (fo t) n).length ≤ 1000 := esOf_len fun y hy => hsm.ents y.1 y.2 hy
    refine ⟨_, rfl, _, _, _, _, _, rfl, x4, T.c_Looking, T.n_Looking_entries, rfl, _, _, (fo t).map (·.1), rfl, .inl e4, hE.keys, by rw [List.length_map]; omega, fun ks p perm pw hp => ⟨_, rfl, ⟨_, SqL.of (upd_same ..)⟩, ?_⟩⟩
    generalize hH5 : upd H4 p _ = H5
    have s45 : Same H4 H5 := by rw [← hH5]; exact same_new hp
    have p5 : H5 p = some (.lst (ks.map V.int)) := by rw [← hH5, upd_same]
    generalize hR : del H5 l = R
    have Rl : R l = none := by rw [← hR]; exact del_self _ _
    have sR5 : Same R H5 := by rw [← hR]; exact del_same _ _
    have Ra : ∀ {a o}, H5 a = some o → a ≠ l → R a = some o := fun h n => by rw [← hR]; exact del_at h n
    have x5 := Ra (s45 _ _ x4) hlx.symm
    have e5 := Ra (s45 _ _ e4) hle.symm
    have f5 := Ra (s45 _ _ f4) hlf.symm
    have p5' := Ra p5 (ne_of_none' hp l4)
    have sdR : SameD H4 R := fun b o h n => Ra (s45 _ _ h) (fun z => by subst z; rw [l4] at h; exact n _ (Option.some.inj h).symm)
    have hE5 : Dik (·.1) (EntsV K R) es (fo t) := hE.mono fun _ _ q => q.sd sdR
    have hF5 : Dik (·.1) (FilV K R) fs (fi t) := hF.mono fun _ _ q => q.sd sdR
    have s0R : Same (del H x) R := fun b o h => Ra (s45 _ _ (s4 _ _ h)) (fun z => by subst z; rw [d0l] at h; cases h)
    have hksl : ks.length ≤ 63 := by have := perm.length_eq; rw [List.length_map] at this; omega
    refine for_it (walk_list (xs := ks.map V.int)) (fun i σ H' => ∃ a b c d ls, σ = [some (.ref x), some (.ref la), a, b, c, d, none] ∧ Same R H' ∧ H' l = some (.dK ls) ∧ LedM K R H' ls (walkE (fo t) (ks.take i)) ∧ ls.length ≤ (walkE (fo t) (ks.take i)).length)
      ⟨_, _, _, _, [], rfl, sR5, s45 _ _ l4, LedM.nil, Nat.le_refl _⟩ (fun i σ H' _ hp => ?_) ?_ ?_
    · obtain ⟨_, _, _, _, _, _, sR, _⟩ := hp
      exact SqL.of (sR _ _ p5')
    · rintro i v σ H1 H' hi ⟨ra, _, _, _, ls, rfl, sR, l1, M, hls⟩ ⟨rfl, hv⟩
      obtain ⟨n, hn1, rfl⟩ := map_at hv
      have hnk : n ∈ (fo t).map (·.1) := perm.subset (List.mem_of_getElem? hn1)
      obtain ⟨⟨n', en⟩, hen, rfl⟩ := List.mem_map.mp hnk
      obtain ⟨v, hv1, hv2⟩ := hE5.of hnf hen
      obtain ⟨lu, xs, rfl, hlu, hxs⟩ := hv2
      rw [walkE_take _ hn1]
      rw [esOf_eq hnf hen]
      have hW : (walkE (fo t) (ks.take i)).length ≤ 63000 := by
        have := walkE_len hes (ks.take i)
        have h2 : (ks.take i).length ≤ ks.length := by rw [List.length_take]; exact Nat.min_le_right _ _
        have h3 : (ks.take i).length * 1000 ≤ 63 * 1000 := Nat.mul_le_mul_right _ (by omega)
        omega
      have hel : (en.mergeSort ile).length ≤ 1000 := by rw [List.length_mergeSort]; exact hsm.ents _ _ hen
      have hxl : xs.length ≤ 1000 := by rw [paired_len hxs]; exact hel
      refine ⟨_, rfl, _, _, _, _, _, rfl, sR _ _ x5, T.c_Looking, T.n_Looking_entries, rfl, _, rfl, _, _, rfl, .inl ⟨es, .inl n', .inl (sR _ _ e5), rfl, hv1.symm⟩, _, rfl, ⟨_, Same.seq sR hlu⟩, ?_⟩
      refine for_it (walk_list (xs := xs)) (fun j σ H' => ∃ c d ls, σ = [some (.ref x), some (.ref la), ra, some (.int n'), c, d, none] ∧ Same R H' ∧ H' l = some (.dK ls) ∧ LedM K R H' ls (walkE (fo t) (ks.take i) ++ ((en.mergeSort ile).take j).map fun e => (n', e.1, e.2)) ∧ ls.length ≤ (walkE (fo t) (ks.take i)).length + j)
        ⟨_, _, ls, rfl, sR, l1, by simpa using M, by omega⟩ (fun j σ H' _ hp => ?_) ?_ ?_
      · obtain ⟨_, _, _, _, sR, _⟩ := hp
        exact Same.seq sR hlu
      · rintro j v σ H1 H' hj ⟨_, _, ls, rfl, sR, l1, M, hls⟩ ⟨rfl, hv⟩
        obtain ⟨⟨a, m⟩, hm1, tq, rfl, htq⟩ := paired_at hxs hv
        refine ⟨_, _, rfl, Same.tup sR htq, rfl, _, _, rfl, _, _, rfl, rfl, ?_⟩
        refine ⟨_, rfl, _, _, _, _, _, rfl, sR _ _ x5, T.c_Looking, T.n_Looking_leading, rfl, _, rfl, .inl ⟨_, .inl l1⟩, _, rfl, zl rfl, fun p hp => ⟨ls, .inl m, (same_new hp) _ _ l1, rfl, sl (by omega), fun v hv => ?_, fun hv => ?_⟩⟩
        · -- the number leads already
          have hm := valV_mem hv
          obtain ⟨a0, _, rfl, _⟩ := M.ref hm
          generalize hH3 : upd H' p (.lst []) = H3
          have s3 : Same H' H3 := by rw [← hH3]; exact same_new hp
          obtain ⟨_, xs3, ea, ha3, _, _⟩ := (M.same s3).ref hm
          obtain rfl := V.ref.inj ea
          refine ⟨tyL (SqL.of ha3), _, rfl, _, rfl, zl rfl, fun q hq => ?_⟩
          have s4 : Same H' (upd H3 q (.tup [.int n', .str a])) := s3.trans (same_new hq)
          obtain ⟨xs0, ha4, hRa, hlen, M5⟩ := (M.same s4).old (w := n') (s := a) hm (upd_same ..)
          refine ⟨_, _, _, rfl, rfl, ha4, sl ?_, _, _, ls, rfl, Same.off (sR.trans s4) hRa, upd_at_ne (s4 _ _ l1) (ne_of_kinds (s4 _ _ l1) ha4 (fun z => by cases z)), ?_, by omega⟩
          · have h1 := hlen
            have h2 : (ledOf (walkE (fo t) (ks.take i) ++ ((en.mergeSort ile).take j).map fun e => (n', e.1, e.2)) m).length ≤ (walkE (fo t) (ks.take i) ++ ((en.mergeSort ile).take j).map fun e => (n', e.1, e.2)).length := by
              unfold ledOf
              rw [List.length_map]
              exact List.length_filter_le _ _
            rw [List.length_append, List.length_map, List.length_take] at h2
            omega
          · rw [take_get hm1, List.map_append, ← List.append_assoc]
            exact M5
        · -- it leads for the first time
          generalize hH3 : upd H' p (.lst []) = H3
          have s3 : Same H' H3 := by rw [← hH3]; exact same_new hp
          have p3 : H3 p = some (.lst []) := by rw [← hH3, upd_same]
          have hpl : p ≠ l := ne_of_none' hp l1
          generalize hH4 : upd H3 l (.dK (putK ls (.inl m) (.ref p))) = H4
          have p4 : H4 p = some (.lst []) := by rw [← hH4]; exact upd_at_ne p3 hpl
          have l4 : H4 l = some (.dK (putK ls (.inl m) (.ref p))) := by rw [← hH4, upd_same]
          have M4 : LedM K R H4 ls (walkE (fo t) (ks.take i) ++ ((en.mergeSort ile).take j).map fun e => (n', e.1, e.2)) := by rw [← hH4]; exact (M.same s3).dict (s3 _ _ l1)
          have sR4 : Same R H4 := by rw [← hH4]; exact Same.off (sR.trans s3) Rl
          refine ⟨tyL (SqL.of p4), _, rfl, _, rfl, zl rfl, fun q hq => ?_⟩
          have s5 := same_new (H := H4) (p := q) (o := .tup [.int n', .str a]) hq
          have hfr : ∀ z, (Sum.inl z, V.ref p) ∉ ls := fun z hz => by
            obtain ⟨_, _, e, h1, _⟩ := M.ref hz
            obtain rfl := V.ref.inj e
            rw [hp] at h1; cases h1
          have M5 := (M4.same s5).new (w := n') (s := a) hv (s5 _ _ p4) (sR.free hp) hfr (upd_same ..)
          have hll : (putK ls (Sum.inl m) (V.ref p)).length ≤ ls.length + 1 := by
            unfold putK
            split
            · rw [List.length_map]; omega
            · rw [List.length_append]; exact Nat.le_refl _
          refine ⟨_, _, _, rfl, rfl, s5 _ _ p4, sl (Nat.zero_le _), _, _, _, rfl, Same.off (sR4.trans s5) (sR.free hp), upd_at_ne (s5 _ _ l4) hpl.symm, ?_, by omega⟩
          rw [take_get hm1, List.map_append, ← List.append_assoc]
          exact M5
      · rintro σ H1 ⟨_, _, ls, rfl, sR, l1, M, hls⟩
        rw [show xs.length = (en.mergeSort ile).length from paired_len hxs, List.take_length] at M
        exact ⟨_, _, _, _, ls, rfl, sR, l1, M, by rw [List.length_append, List.length_map, ← paired_len hxs]; exact hls⟩
    · rintro σ H1 ⟨_, _, _, _, ls, rfl, sR, l1, M, hls⟩
      rw [show (ks.map V.int).length = ks.length from List.length_map _, List.take_length] at M
      exact k H1 (s0R.trans sR) ⟨dx, e, f, l, es, fs, ls, _, sR _ _ x5, sR _ _ e5, sR _ _ f5, l1, hE5.mono fun _ _ q => EntsV.sd sR.d q, hF5.mono fun _ _ q => q.same sR, walkE_perm hnf perm, M.at_⟩
end
end K81
set_option maxHeartbeats 4000000
namespace K81
open PySem PySem.Spec PyProof.Rows L2
/-! ### locked and back -/
theorem frz_back {H H' : Hp} {d : Addr} {u : HO} {od : Obj} (hd : H d = some u) (s : Same (upd H d (.frz od u)) H') : Same H (upd H' d u) := fun b o h => by
  by_cases e : b = d
  · subst e; rw [hd] at h; rw [upd_same, h]
  · rw [upd_ne e]; exact s b o (by rw [upd_ne e]; exact h)
theorem frz_rd {H : Hp} {d : Addr} {u : HO} {od : Obj} (hd : H d = some u) (hm : Mut (some u)) {b : Addr} {o : HO} (h : Rd H b o) : Rd (upd H d (.frz od u)) b o := by
  by_cases e : b = d
  · subst e
    rcases h with h | ⟨o', h⟩
    · rw [hd] at h
      obtain rfl := Option.some.inj h
      exact .inr ⟨od, upd_same ..⟩
    · rw [hd] at h
      rw [h] at hm
      exact False.elim hm
  · rcases h with h | ⟨o', h⟩
    · exact .inl (by rw [upd_ne e]; exact h)
    · exact .inr ⟨o', by rw [upd_ne e]; exact h⟩
/-! ### counts -/
theorem parOf_put {ps ps' : List (Int × Int)} {n v : Int} (e : putK (pI ps) (Sum.inl n) (.int v) = pI ps') (m : Int) : parOf ps' m = if m = n then some v else parOf ps m := by
  have h := valV_put (pI ps) (Sum.inl n) (Sum.inl m) (.int v)
  rw [e, valV_pI, valV_pI] at h
  have inj : ∀ {a b : Option Int}, a.map V.int = b.map V.int → a = b := fun {a b} q => by
    cases a <;> cases b <;> simp at q ⊢
    exact q
  by_cases q : m = n
  · rw [if_pos q]
    rw [if_pos (congrArg Sum.inl q)] at h
    exact inj h
  · rw [if_neg q]
    rw [if_neg (fun z => q (Sum.inl.inj z))] at h
    exact inj h
theorem putI (ps : List (Int × Int)) (n v : Int) : ∃ ps', putK (pI ps) (Sum.inl n) (.int v) = pI ps' ∧ (∀ m, parOf ps' m = if m = n then some v else parOf ps m) ∧ ((ps.map (·.1)).Nodup → (ps'.map (·.1)).Nodup) ∧ ps'.length ≤ ps.length + 1 := by
  by_cases h : n ∈ ps.map (·.1)
  · have e1 : putK (pI ps) (Sum.inl n) (.int v) = pI (ps.map fun p => if p.1 = n then (p.1, v) else p) := by
      unfold putK
      rw [valV_any, valV_pI, if_pos ?_]
      · simp only [pI, List.map_map]
        refine List.map_congr_left fun p _ => ?_
        by_cases e : p.1 = n
        · simp [e]
        · simp [e]
      · cases q : parOf ps n with
        | none => exact absurd h (parOf_none q)
        | some _ => rfl
    refine ⟨_, e1, parOf_put e1, fun hn => ?_, by rw [List.length_map]; omega⟩
    rw [List.map_map]
    have : ((·.1) ∘ fun p : Int × Int => if p.1 = n then (p.1, v) else p) = (·.1) := by
      funext p; by_cases e : p.1 = n <;> simp [e]
    rw [this]; exact hn
  · have e1 : putK (pI ps) (Sum.inl n) (.int v) = pI (ps ++ [(n, v)]) := by
      unfold putK
      have : valV (pI ps) (Sum.inl n) = none := by
        rw [valV_pI]
        cases q : parOf ps n with
        | none => rfl
        | some _ => exact absurd (parOf_mem q) h
      rw [valV_any, this]
      simp [pI]
    refine ⟨_, e1, parOf_put e1, fun hn => ?_, by simp⟩
    rw [List.map_append]
    exact List.nodup_append.mpr ⟨hn, by simp, fun a ha b hb e => by
      rw [List.map_singleton, List.mem_singleton] at hb
      rw [e, hb] at ha; exact h ha⟩
/-! ### twice_in -/
def spTwice (K : PySem.W.Frag) : Sp := fun vs H Q _ => ∃ (tab : V) (t : List Row), vs = [tab] ∧ TabAt K H tab t ∧ t.length ≤ 1000 ∧
  ∀ (q : Addr) (r : List Int) (H' : Hp), Same H H' → H' q = some (.lst (r.map V.int)) → (r = [] ↔ (nums t).Nodup) → Q (.ref q) H'
theorem rowAt_num {K : PySem.W.Frag} {H : Hp} {v : V} : ∀ {r : Row}, RowAt K H v r → ∃ tp k rest, v = .ref tp ∧ SqT K H tp (.str k :: .int r.num :: rest)
  | .fold _ _, h => let ⟨tp, _, e, q, _⟩ := h; ⟨tp, _, _, e, q⟩
  | .file _ _ _, h => let ⟨tp, e, q⟩ := h; ⟨tp, _, _, e, q⟩
section
variable {P : Program} {w : World} {K : PySem.W.Frag} {mg : Str → Option Value} {base : Heap}
abbrev N_twice_in : List Str := ["table", "seen", "row", "number", "many"]
theorem sc_twice_in : FnScope N_twice_in ["table"] (defScope s_twice_in) := ⟨rfl, rfl, rfl, by decide +kernel, rfl, by decide +kernel, by decide +kernel⟩
theorem ok_twice_in (T : Tx K mg base) : OkD P w K mg base d_twice_in.at_ 1 ["table"] (spTwice K) := by
  refine okD_of T.F_twice_in sc_twice_in (fun _ _ _ _ _ _ us hl => match us, hl with | [_], _ => rfl) (fun vs H Q E h => ?_) (fun cdv A outer s H vs Q E hr h => ?_)
  · obtain ⟨tab, t, rfl, _⟩ := h
    rfl
  · obtain ⟨tab, t, rfl, ht, hl, k⟩ := h
    have hu := hu_of hr
    refine ⟨_, (pss_cons (ps_set (i := 1) sc_twice_in.nd rfl (by first | exact Or.inl rfl | exact Or.inr rfl) pe_dnewK)
      (pss_cons (ps_for PassesOwn.never rfl (pi_list (pv 0)) (pg_name (i := 2) sc_twice_in.nd rfl (by first | exact Or.inl rfl | exact Or.inr rfl)) (pss_one (ps_dput hu (pv 1) (pe_ix (ix_tupK K) (pv 2) pe_int (fun _ _ => rfl)) (pe_op op_add (pe_dget2 hu (pv 1) (pe_ix (ix_tupK K) (pv 2) pe_int (fun _ _ => rfl)) pe_int ⟨rfl, rfl, rfl, rfl⟩) pe_int) rfl)))
      (pss_one (ps_ret (pe_callB cr_sortedI (by rfl) T.z_sorted (show bootBuiltins "sorted" = some (.builtin "sorted") by decide +kernel) (pa_cons (pe_lock (pe_lc (own := [("number", 3), ("many", 4)]) rfl sc_twice_in.nd (pi_items (pv 1)) (blkOk_by (N := N_twice_in) (sc := defScope s_twice_in) (by decide +kernel)) (fun _ _ _ _ _ => (pg_tupK K (n := 2) rfl (pgs_cons (pg_name (i := 3) sc_twice_in.nd rfl (Or.inl rfl)) (pgs_cons (pg_name (i := 4) sc_twice_in.nd rfl (Or.inl rfl)) pgs_nil)))) (fun _ _ _ _ _ => (pts_one (pt_cmpR op_gt (pv 4) pe_int (nomark _)))) (fun _ _ _ _ _ => (pv 3)))) pa_nil)))))), ?_⟩
    intro d hd
    have ht1 := ht.same (same_new (o := .dK []) hd)
    obtain ⟨la, rows, rfl, hla, hrw⟩ := ht1
    generalize hH0 : upd H d (.dK []) = H0 at hla hrw
    have s0 : Same H H0 := by rw [← hH0]; exact same_new hd
    have d0 : H0 d = some (.dK []) := by rw [← hH0, upd_same]
    refine ⟨_, rfl, _, rfl, ⟨_, hla⟩, ?_⟩
    refine for_it (walk_list (xs := rows)) (fun i σ H' => ∃ rv ps, σ = [some (.ref la), some (.ref d), rv, none, none] ∧ Same H H' ∧ SameD H0 H' ∧ H' d = some (.dK (pI ps)) ∧ (ps.map (·.1)).Nodup ∧ ps.length ≤ i ∧ ∀ n, parOf ps n = if (nums (t.take i)).count n = 0 then none else some (((nums (t.take i)).count n : Nat) : Int))
      ⟨_, [], rfl, s0, SameD.refl _, d0, .nil, Nat.le_refl _, fun n => rfl⟩ (fun i σ H' _ hp => ?_) ?_ ?_
    · obtain ⟨_, _, _, _, sd, _⟩ := hp
      exact sd.seq hla
    · rintro i rv σ H1 H' hi ⟨_, ps, rfl, s1, sd, d1, hnd, hpl, hc⟩ ⟨rfl, hv⟩
      obtain ⟨r, hr1, hr2⟩ := paired_at hrw hv
      obtain ⟨tp, kk, rest, rfl, htp⟩ := rowAt_num (hr2.sd sd)
      have hcn : (valV (pI ps) (Sum.inl r.num)).getD (.int 0) = .int ((nums (t.take i)).count r.num : Nat) := by
        rw [valV_pI, hc]
        by_cases z : (nums (t.take i)).count r.num = 0
        · rw [if_pos z, z]; rfl
        · rw [if_neg z]; rfl
      have hil : i < t.length := (List.getElem?_eq_some_iff.mp hr1).1
      obtain ⟨ps', e1, e2, e3, e4⟩ := putI ps r.num ((nums (t.take i)).count r.num + 1 : Nat)
      refine ⟨_, rfl, _, rfl, .inl ⟨_, .inl d1⟩, _, rfl, _, _, _, _, rfl, rfl, htp, at1, _, .inl ⟨_, .inl _, .inl d1, rfl, rfl⟩, _, _, hcn, rfl, _, rfl, _, rfl, _, _, _, _, rfl, rfl, htp, at1, _, _, rfl, .inl ⟨_, .inl _, d1, rfl, sl (by unfold pI; rw [List.length_map]; omega), rfl⟩, ?_⟩
      have e1' : putK (pI ps) (Sum.inl r.num) (.int (((nums (t.take i)).count r.num : Nat) + (1 : Int))) = pI ps' := e1
      rw [e1']
      refine ⟨_, ps', rfl, Same.off s1 hd, sd.trans (SameD.upd d1), upd_same .., e3 hnd, by omega, fun n => ?_⟩
      have h1 : nums (t.take (i + 1)) = nums (t.take i) ++ [r.num] := by rw [take_get hr1]; simp [nums]
      rw [e2, h1, List.count_append]
      by_cases z : n = r.num
      · subst z
        rw [if_pos rfl]
        simp
      · have z' : ¬ r.num = n := fun q => z q.symm
        rw [if_neg z, hc]
        simp [List.count_singleton, z']
    · rintro σ H1 ⟨rv, ps, rfl, s1, sd, d1, hnd, hpl, hc⟩
      rw [show rows.length = t.length from paired_len hrw, List.take_length] at hc
      refine ⟨d, _, d1, trivial, fun od => ⟨_, rfl, d, od, _, rfl, upd_same .., fun D hD => ?_⟩⟩
      generalize hHf : upd H1 d (.frz od (.dK (pI ps))) = Hf at hD
      have df : Hf d = some (.frz od (.dK (pI ps))) := by rw [← hHf, upd_same]
      refine lc_rel walk_items ps (by unfold pI; rw [List.length_map]) (fun p => if 1 < p.2 then some p.1 else none) (fun _ v z => v = .int z) (fun _ _ _ _ _ q => q) hD (fun _ s => s _ _ df) ?_ ?_
      · rintro i p x H2 H2' hp pv s2 ⟨tq, a, b, rfl, hq, rfl, ha, hb⟩
        have hk : (pI ps)[i]? = some (Sum.inl p.1, .int p.2) := by unfold pI; rw [List.getElem?_map, hp]; rfl
        replace ha : ((pI ps)[i]?.map fun kv => kV kv.1) = some a := ha
        replace hb : ((pI ps)[i]?.map Prod.snd) = some b := hb
        rw [hk] at ha hb
        obtain rfl := Option.some.inj ha
        obtain rfl := Option.some.inj hb
        refine ⟨_, _, rfl, SqT.of (upd_same ..), rfl, _, _, rfl, _, _, rfl, rfl, rfl, _, rfl, _, _, rfl, rfl, _, rfl, ite2 (fun h => ?_) (fun h => ?_)⟩
        · exact ⟨_, rfl, pv.yes (fun _ _ _ _ _ q => q) hD (by rw [paired_len hrw] at hpl; omega) hp (same_new hq) (if_pos (of_decide_eq_true h)) rfl⟩
        · exact pv.no (fun _ _ _ _ _ q => q) hp (same_new hq) (if_neg fun z => h (decide_eq_true z))
      · intro H2 ys s2 hD2 hys
        obtain rfl := paired_map hys
        refine ⟨s2 _ _ df, ?_⟩
        have hDd : D ≠ d := ne_of_none' hD df
        have sb : Same H1 (upd H2 d (.dK (pI ps))) := frz_back d1 (by rw [hHf]; exact s2)
        refine ⟨_, _, rfl, SqL.of (upd_at_ne hD2 hDd), fun r q perm pw hq => ?_⟩
        refine k q r _ ((s1.trans sb).trans (same_new hq)) (upd_same ..) ?_
        rw [List.nodup_iff_count]
        constructor
        · intro e a
          rw [e] at perm
          have e2 := perm.symm.eq_nil
          apply Classical.byContradiction
          intro q
          have hca := hc a
          rw [if_neg (by omega)] at hca
          have hm := parOf_pair hca
          have : a ∈ ps.filterMap fun p => if 1 < p.2 then some p.1 else none := List.mem_filterMap.mpr ⟨_, hm, if_pos (by show (1 : Int) < ((nums t).count a : Nat); omega)⟩
          rw [e2] at this
          cases this
        · intro hle
          apply List.eq_nil_iff_forall_not_mem.mpr
          intro a ha
          have ha2 := perm.subset ha
          obtain ⟨p, hp, e⟩ := List.mem_filterMap.mp ha2
          by_cases z : 1 < p.2
          · have h1 := parOf_of hnd (show (p.1, p.2) ∈ ps from hp)
            rw [hc] at h1
            have h2 := hle p.1
            by_cases y : (nums t).count p.1 = 0
            · rw [if_pos y] at h1; cases h1
            · rw [if_neg y] at h1
              have := Option.some.inj h1
              omega
          · rw [if_neg z] at e; cases e
end
end K81
set_option maxHeartbeats 4000000
namespace K81
open PySem PySem.Spec PyProof.Rows L2
/-! ### good names, numbers, texts -/
structure Fine (t : List Row) : Prop where
  ents : ∀ w es, (w, es) ∈ fo t → ∀ e ∈ es, isName e.1 = true ∧ 0 ≤ e.2 ∧ e.2 < 100000
  nums : ∀ n ∈ nums t, 0 ≤ n ∧ n < 100000
  text : ∀ n k c, (n, k, c) ∈ fi t → PyData.strOk c = true ∧ c.length ≤ 1000
theorem sign_small : ∀ c ∈ signs.cps.toList, c < 0x110000 := by decide +kernel
theorem isName_ok {z : Str} (h : isName z = true) : PyData.strOk z = true := by
  unfold PyData.strOk
  rw [← Array.all_toList, List.all_eq_true]
  exact fun c hc => decide_eq_true (sign_small c (isName_signs h c hc))
theorem lay_encI {es : List (Str × Int)} (h : ∀ e ∈ es, isName e.1 = true) : PyData.canLayAll0 (es.map encI) = true := by
  induction es with
  | nil => rfl
  | cons a l ih =>
    have h1 := isName_ok (h a List.mem_cons_self)
    have h2 := ih fun e m => h e (List.mem_cons_of_mem _ m)
    simp only [List.map_cons, PyData.canLayAll0, encI, PyData.canLay0, h1, h2]
    rfl
theorem depth_encIs : ∀ es : List (Str × Int), PyData.depthAll (es.map encI) ≤ 1
  | [] => by simp [PyData.depthAll]
  | a :: l => by
    have := depth_encIs l
    simp only [List.map_cons, PyData.depthAll, encI, PyData.depth]
    omega
theorem shaped_encIs {es : List (Str × Int)} (h : ∀ e ∈ es, isName e.1 = true) : SeqAt.shaped (.list (es.map encI)) = true := by
  have h1 := depth_encIs es
  show (PyData.canLay0 (.list (es.map encI)) && decide (PyData.depth (.list (es.map encI)) ≤ 64)) = true
  rw [Bool.and_eq_true]
  refine ⟨by simp only [PyData.canLay0]; exact lay_encI h, decide_eq_true ?_⟩
  simp only [PyData.depth]
  omega
theorem eqv_encI (a b : Str × Int) : PyData.eqv (encI a) (encI b) = decide (a = b) := by
  obtain ⟨a1, a2⟩ := a
  obtain ⟨b1, b2⟩ := b
  simp only [encI, PyData.eqv, PyData.eqvAll, Bool.and_true]
  by_cases h1 : a1 = b1
  · subst h1
    by_cases h2 : a2 = b2
    · subst h2; simp
    · simp [h2]
  · simp [h1]
theorem any_encI (es : List (Str × Int)) (a : Str × Int) : ((es.map encI).any fun z => PyData.eqv z (encI a)) = decide (a ∈ es) := by
  induction es with
  | nil => rfl
  | cons b l ih =>
    rw [List.map_cons, List.any_cons, ih, eqv_encI]
    by_cases h : b = a
    · subst h; simp
    · have h' : ¬ a = b := fun e => h e.symm
      simp [h, h']
theorem fk_iff {t : List Row} {n : Int} : (shT t).fk n ↔ n ∈ (fo t).map (·.1) := by
  constructor
  · rintro ⟨es, h⟩
    exact List.mem_map.mpr ⟨_, h, rfl⟩
  · intro h
    obtain ⟨⟨m, es⟩, h1, rfl⟩ := List.mem_map.mp h
    exact ⟨es, h1⟩
theorem en_iff {t : List Row} (hn : ((fo t).map (·.1)).Nodup) {w n : Int} {a : Str} {es : List (Str × Int)} (hw : (w, es) ∈ fo t) : (shT t).en w a n ↔ (a, n) ∈ es := by
  show (w, a, n) ∈ flat (fo t) ↔ _
  rw [mem_flat]
  constructor
  · rintro ⟨es', h1, h2⟩
    have := nodup_key (f := (·.1)) hn hw h1 rfl
    rw [(Prod.mk.inj this).2]
    exact h2
  · exact fun h => ⟨es, hw, h⟩
theorem en_fk {t : List Row} {w n : Int} {a : Str} (h : (shT t).en w a n) : (shT t).fk w := by
  obtain ⟨es, h1, _⟩ := mem_flat.mp h
  exact ⟨es, h1⟩
/-! ### Looking's methods -/
def spHasRoot (K : PySem.W.Frag) : Sp := fun vs H Q _ => ∃ (x : Addr) (t : List Row), vs = [.ref x] ∧ LookAt K H x t ∧ ((fo t).map (·.1)).Nodup ∧ Fine t ∧ ∀ b, (b = true ↔ (shT t).fk 0 ∧ (shT t).fk 1 ∧ (shT t).en 0 "clash" 1) → Q (.bl b) H
def spMisnamed (K : PySem.W.Frag) : Sp := fun vs H Q _ => ∃ (x : Addr) (t : List Row) (n : Int), vs = [.ref x, .int n] ∧ LookAt K H x t ∧ (shT t).fk n ∧
  ∀ b H', Same H H' → (∀ E, E.Perm (flat (fo t)) → (b = false ↔ (ledOf E n).length = if n = 0 then 0 else 1)) → Q (.bl b) H'
def spLoose (K : PySem.W.Frag) : Sp := fun vs H Q _ => ∃ (x : Addr) (t : List Row) (n : Int), vs = [.ref x, .int n] ∧ LookAt K H x t ∧ n ∈ (fi t).map (·.1) ∧
  ∀ b, (∀ E, E.Perm (flat (fo t)) → (b = false ↔ ledOf E n ≠ [])) → Q (.bl b) H
section
variable {P : Program} {w : World} {K : PySem.W.Frag} {mg : Str → Option Value} {base : Heap}
abbrev N_Looking_has_root : List Str := ["self"]
theorem sc_Looking_has_root : FnScope N_Looking_has_root ["self"] (defScope s_Looking_has_root) := ⟨rfl, rfl, rfl, by decide +kernel, rfl, by decide +kernel, by decide +kernel⟩
theorem ok_Looking_has_root (T : Tx K mg base) : OkD P w K mg base d_Looking_has_root.at_ 1 ["self"] (spHasRoot K) := by
  refine okD_of T.F_Looking_has_root sc_Looking_has_root (fun _ _ _ _ _ _ us hl => match us, hl with | [_], _ => rfl) (fun vs H Q E h => ?_) (fun cdv A outer s H vs Q E hr h => ?_)
  · obtain ⟨x, t, rfl, _⟩ := h
    rfl
  · obtain ⟨x, t, rfl, hx, hn, hf, k⟩ := h
    have hu := hu_of hr
    refine ⟨_, (pss_one (ps_ret (pe_and (pe_cmp (pc_din hu (pe_gint T.i_ROOT_looker) (pe_fldK K (pv 0) rfl)) rfl) (pe_and (pe_cmp (pc_din hu (pe_gint T.i_CLASH_looker) (pe_fldK K (pv 0) rfl)) rfl) (pe_one (pe_cmpR (op_inD (hu65 hr)) (pe_gref T.g_CLASH_ENTRY) (pe_dget hu (pe_fldK K (pv 0) rfl) (pe_gint T.i_ROOT_looker) (fun _ _ => rfl)) rfl)))))), ?_⟩
    obtain ⟨dx, e, f, l, es, fs, ls, E, hx, he, hff, hl, hE, hF, hEp, hL⟩ := hx
    refine ⟨_, rfl, _, _, _, _, _, rfl, hx, T.c_Looking, T.n_Looking_entries, rfl, _, _, rfl, .inl ⟨_, .inl 0, .inl he, rfl, rfl⟩, _, rfl, ?_⟩
    rw [hE.isSome]
    refine ite2 (fun h0 => ?_) (fun h0 => k _ ⟨fun z => by (cases z), fun z => absurd (decide_eq_true (fk_iff.mp z.1)) h0⟩)
    have h0' := of_decide_eq_true h0
    refine ⟨_, rfl, _, _, _, _, _, rfl, hx, T.c_Looking, T.n_Looking_entries, rfl, _, _, rfl, .inl ⟨_, .inl 1, .inl he, rfl, rfl⟩, _, rfl, ?_⟩
    rw [hE.isSome]
    refine ite2 (fun h1 => ?_) (fun h1 => k _ ⟨fun z => by (cases z), fun z => absurd (decide_eq_true (fk_iff.mp z.2.1)) h1⟩)
    have h1' := of_decide_eq_true h1
    obtain ⟨en, hen⟩ := fk_iff.mpr h0'
    obtain ⟨v, hv1, hv2⟩ := hE.of hn hen
    obtain ⟨lu, xs, rfl, hlu, hxs⟩ := hv2
    refine ⟨_, rfl, _, _, _, _, _, rfl, hx, T.c_Looking, T.n_Looking_entries, rfl, _, _, rfl, .inl ⟨_, .inl 0, .inl he, rfl, hv1.symm⟩, encI ("clash", 1), (en.mergeSort ile).map encI, .tup (T.t_CLASH_ENTRY _) (.cons (.str _) (.cons (.int _) .nil)), .lst hlu (entsAt_dp hxs), by decide +kernel, shaped_encIs fun e he => (hf.ents _ _ hen e ((srt_perm encI en).subset he)).1, ?_⟩
    rw [any_encI]
    refine k _ ?_
    rw [decide_eq_true_eq, en_iff hn hen]
    constructor
    · exact fun h => ⟨fk_iff.mpr h0', fk_iff.mpr h1', (srt_perm encI en).subset h⟩
    · exact fun h => (srt_perm encI en).symm.subset h.2.2
abbrev N_Looking_is_misnamed : List Str := ["self", "folder", "many"]
theorem sc_Looking_is_misnamed : FnScope N_Looking_is_misnamed ["self", "folder"] (defScope s_Looking_is_misnamed) := ⟨rfl, rfl, rfl, by decide +kernel, rfl, by decide +kernel, by decide +kernel⟩
theorem ok_Looking_is_misnamed (T : Tx K mg base) : OkD P w K mg base d_Looking_is_misnamed.at_ 1 ["self", "folder"] (spMisnamed K) := by
  refine okD_of T.F_Looking_is_misnamed sc_Looking_is_misnamed (fun _ _ _ _ _ _ us hl => match us, hl with | [_, _], _ => rfl) (fun vs H Q E h => ?_) (fun cdv A outer s H vs Q E hr h => ?_)
  · obtain ⟨x, t, n, rfl, _⟩ := h
    rfl
  · obtain ⟨x, t, n, rfl, hx, hn, k⟩ := h
    have hu := hu_of hr
    refine ⟨_, (pss_cons (ps_if (pt_cmp (pc_dnotin hu (pv 1) (pe_fldK K (pv 0) rfl))) (pss_one (ps_ret pe_bl)) pss_nil)
      (pss_cons (ps_set (i := 2) sc_Looking_is_misnamed.nd rfl (by first | exact Or.inl rfl | exact Or.inr rfl) (pe_callB call_len_seq (by rfl) T.z_len (show bootBuiltins "len" = some (.builtin "len") by decide +kernel) (pa_cons (pe_dget2 hu (pe_fldK K (pv 0) rfl) (pv 1) (pe_lst pa_nil) ⟨rfl, rfl, rfl, rfl⟩) pa_nil)))
      (pss_cons (ps_if (pt_cmpR op_eq (pv 1) (pe_gint T.i_ROOT_looker) (nomark _)) (pss_one (ps_ret (pe_cmpR op_gt (pv 2) pe_int (nomark _)))) pss_nil)
      (pss_one (ps_ret (pe_cmpR op_ne (pv 2) pe_int (nomark _))))))), ?_⟩
    obtain ⟨dx, e, f, l, es, fs, ls, E, hx, he, hff, hl, hE, hF, hEp, hL⟩ := hx
    refine ⟨_, rfl, _, rfl, _, _, _, _, _, rfl, hx, T.c_Looking, T.n_Looking_entries, rfl, _, _, rfl, .inl ⟨_, .inl n, .inl he, rfl, rfl⟩, _, rfl, ?_⟩
    rw [hE.isSome, decide_eq_true (fk_iff.mp hn)]
    refine iteF ?_
    refine ⟨_, rfl, _, _, _, _, _, rfl, hx, T.c_Looking, T.n_Looking_leading, rfl, _, rfl, .inl ⟨_, .inl hl⟩, _, rfl, zl rfl, fun p hp => ?_⟩
    have s1 : Same H (upd H p (.lst [])) := same_new hp
    obtain ⟨a, xs, hv, hxs, hlen⟩ : ∃ a xs, (valV ls (Sum.inl n)).getD (.ref p) = .ref a ∧ SqL K (upd H p (.lst [])) a xs ∧ xs.length = (ledOf E n).length := by
      cases q : valV ls (Sum.inl n) with
      | none => exact ⟨p, [], rfl, SqL.of (upd_same ..), by rw [hL.non q]; rfl⟩
      | some v =>
        obtain ⟨a, xs, rfl, h1, h2, _⟩ := hL.get q
        exact ⟨a, xs, rfl, Same.seq s1 h1, paired_len h2⟩
    refine ⟨_, .inl ⟨_, .inl n, .inl (s1 _ _ hl), rfl, rfl⟩, ?_⟩
    rw [hv]
    have key : ∀ E', E'.Perm (flat (fo t)) → (ledOf E' n).length = xs.length := fun E' hp => by rw [hlen]; exact (ledOf_perm (hp.trans hEp.symm) n).length_eq
    refine ⟨_, _, rfl, .inl hxs, _, rfl, rfl, _, rfl, ite2 (fun h0 => ?_) (fun h0 => ?_)⟩
    · have hz : n = 0 := by have := of_decide_eq_true h0; exact V.int.inj this
      refine ⟨_, rfl, _, _, rfl, rfl, k _ _ s1 fun E' hp => ?_⟩
      rw [if_pos hz, key E' hp]
      simp <;> omega
    · have hz : ¬ n = 0 := fun z => h0 (decide_eq_true (by rw [z]))
      refine ⟨_, rfl, rfl, k _ _ s1 fun E' hp => ?_⟩
      rw [if_neg hz, key E' hp]
      simp <;> omega
abbrev N_Looking_is_loose : List Str := ["self", "number"]
theorem sc_Looking_is_loose : FnScope N_Looking_is_loose ["self", "number"] (defScope s_Looking_is_loose) := ⟨rfl, rfl, rfl, by decide +kernel, rfl, by decide +kernel, by decide +kernel⟩
theorem ok_Looking_is_loose (T : Tx K mg base) : OkD P w K mg base d_Looking_is_loose.at_ 1 ["self", "number"] (spLoose K) := by
  refine okD_of T.F_Looking_is_loose sc_Looking_is_loose (fun _ _ _ _ _ _ us hl => match us, hl with | [_, _], _ => rfl) (fun vs H Q E h => ?_) (fun cdv A outer s H vs Q E hr h => ?_)
  · obtain ⟨x, t, n, rfl, _⟩ := h
    rfl
  · obtain ⟨x, t, n, rfl, hx, hn, k⟩ := h
    have hu := hu_of hr
    refine ⟨_, (pss_one (ps_ret (pe_and (pe_cmp (pc_din hu (pv 1) (pe_fldK K (pv 0) rfl)) rfl) (pe_one (pe_cmp (pc_dnotin hu (pv 1) (pe_fldK K (pv 0) rfl)) rfl))))), ?_⟩
    obtain ⟨dx, e, f, l, es, fs, ls, E, hx, he, hff, hl, hE, hF, hEp, hL⟩ := hx
    refine ⟨_, rfl, _, rfl, _, _, _, _, _, rfl, hx, T.c_Looking, T.n_Looking_files, rfl, _, _, rfl, .inl ⟨_, .inl n, .inl hff, rfl, rfl⟩, _, rfl, ?_⟩
    rw [hF.isSome, decide_eq_true hn]
    refine (?_ : if true = true then _ else _)
    rw [if_pos rfl]
    refine ⟨_, rfl, _, rfl, _, _, _, _, _, rfl, hx, T.c_Looking, T.n_Looking_leading, rfl, _, _, rfl, .inl ⟨_, .inl n, .inl hl, rfl, rfl⟩, ?_⟩
    rw [hL.isSome]
    refine k _ fun E' hp => ?_
    have hp2 := ledOf_perm (hp.trans hEp.symm) n
    by_cases z : ledOf E n = []
    · have : ledOf E' n = [] := by rw [z] at hp2; exact hp2.eq_nil
      simp [z, this]
    · have : ledOf E' n ≠ [] := fun q => z (by rw [q] at hp2; exact hp2.symm.eq_nil)
      simp [z, this]
end
end K81
set_option maxHeartbeats 4000000
namespace K81
open PySem PySem.Spec PyProof.Rows L2
theorem cut_tail (xs : List V) : cutV xs (some 1) none = xs.tail := by
  cases xs with
  | nil => simp [cutV]
  | cons a l => exact cut1 a l
theorem adj_nodup : ∀ {l : List (Str × Int)}, l.Pairwise (fun a b => ile a b = true) → (∀ k a b, l[k]? = some a → l[k + 1]? = some b → a.1 ≠ b.1) → (l.map (·.1)).Nodup
  | [], _, _ => .nil
  | [a], _, _ => by simp
  | a :: b :: r, hp, hd => by
    have hp' := List.pairwise_cons.mp hp
    have ih := adj_nodup hp'.2 fun k x y h1 h2 => hd (k + 1) x y h1 h2
    have hab : slt a.1 b.1 := by
      rcases ile_iff.mp (hp'.1 b List.mem_cons_self) with ⟨e, _⟩ | q
      · exact absurd e (hd 0 a b rfl rfl)
      · exact q
    rw [List.map_cons]
    refine List.nodup_cons.mpr ⟨fun hm => ?_, ih⟩
    obtain ⟨c, hc, e⟩ := List.mem_map.mp hm
    rcases List.mem_cons.mp hc with z | hc
    · rw [z] at e; exact slt_ne hab e.symm
    · rcases ile_iff.mp ((List.pairwise_cons.mp hp'.2).1 c hc) with ⟨q, _⟩ | q
      · rw [e] at q; exact slt_ne hab q.symm
      · rw [e] at q; exact slt_irrefl _ (slt_trans hab q)
theorem nodup_sort {es : List (Str × Int)} : ((es.mergeSort ile).map (·.1)).Nodup ↔ (es.map (·.1)).Nodup := ((srt_perm encI es).map (·.1)).nodup_iff
/-- two entries of one name at neighbouring places -/
theorem adj_not_nodup {l : List (Str × Int)} {k : Nat} {a b : Str × Int} (h1 : l[k]? = some a) (h2 : l[k + 1]? = some b) (e : a.1 = b.1) : ¬ (l.map (·.1)).Nodup := by
  intro hn
  obtain ⟨i1, e1⟩ := List.getElem?_eq_some_iff.mp h1
  obtain ⟨i2, e2⟩ := List.getElem?_eq_some_iff.mp h2
  have := List.pairwise_iff_getElem.mp hn k (k + 1) (by rw [List.length_map]; omega) (by rw [List.length_map]; omega) (by omega)
  rw [List.getElem_map, List.getElem_map, e1, e2] at this
  exact this e
def namesOnce (t : List Row) : Prop := ∀ w es, (w, es) ∈ fo t → (es.map (·.1)).Nodup
def spFirstSame (K : PySem.W.Frag) : Sp := fun vs H Q _ => ∃ (x : Addr) (t : List Row), vs = [.ref x] ∧ LookAt K H x t ∧ ((fo t).map (·.1)).Nodup ∧ (fo t).length < 64 ∧
  ∀ v H', Same H H' → (v = .non ∧ namesOnce t ∨ (∃ p w a, v = .ref p ∧ H' p = some (.tup [.int w, .str a])) ∧ ¬ namesOnce t) → Q v H'
def nodesAll (t : List Row) : Prop := ∀ w a n, (shT t).en w a n → (shT t).fk n ∨ ∃ k c, (shT t).fi n k c
def spFirstBlind (K : PySem.W.Frag) : Sp := fun vs H Q _ => ∃ (x : Addr) (t : List Row), vs = [.ref x] ∧ LookAt K H x t ∧ ((fo t).map (·.1)).Nodup ∧ (fo t).length < 64 ∧
  ∀ v H', Same H H' → (v = .non ∧ nodesAll t ∨ (∃ p w a, v = .ref p ∧ H' p = some (.tup [.int w, .str a])) ∧ ¬ nodesAll t) → Q v H'
section
variable {P : Program} {w : World} {K : PySem.W.Frag} {mg : Str → Option Value} {base : Heap}
abbrev N_Looking_first_same : List Str := ["self", "folder", "one", "other"]
theorem sc_Looking_first_same : FnScope N_Looking_first_same ["self"] (defScope s_Looking_first_same) := ⟨rfl, rfl, rfl, by decide +kernel, rfl, by decide +kernel, by decide +kernel⟩
theorem ok_Looking_first_same (T : Tx K mg base) : OkD P w K mg base d_Looking_first_same.at_ 1 ["self"] (spFirstSame K) := by
  refine okD_of T.F_Looking_first_same sc_Looking_first_same (fun _ _ _ _ _ _ us hl => match us, hl with | [_], _ => rfl) (fun vs H Q E h => ?_) (fun cdv A outer s H vs Q E hr h => ?_)
  · obtain ⟨x, t, rfl, _⟩ := h
    rfl
  · obtain ⟨x, t, rfl, hx, hn, hl, k⟩ := h
    have hu := hu_of hr
    refine ⟨_, (pss_cons (ps_for PassesOwn.never rfl (pi_list (pe_callB (call_sortedDI rfl) (by rfl) T.z_sorted (show bootBuiltins "sorted" = some (.builtin "sorted") by decide +kernel) (pa_cons (pe_fldK K (pv 0) rfl) pa_nil))) (pg_name (i := 1) sc_Looking_first_same.nd rfl (by first | exact Or.inl rfl | exact Or.inr rfl)) (pss_one (ps_for PassesOwn.never rfl (pi_zip (by rfl) T.z_zip (pa_cons (pe_dget hu (pe_fldK K (pv 0) rfl) (pv 1) (fun _ _ => rfl)) (pa_cons (pe_slice sl_list (pe_dget hu (pe_fldK K (pv 0) rfl) (pv 1) (fun _ _ => rfl)) (po_some pe_int) po_none) pa_nil))) (pg_tupK K (n := 2) rfl (pgs_cons (pg_name (i := 2) sc_Looking_first_same.nd rfl (by first | exact Or.inl rfl | exact Or.inr rfl)) (pgs_cons (pg_name (i := 3) sc_Looking_first_same.nd rfl (by first | exact Or.inl rfl | exact Or.inr rfl)) pgs_nil))) (pss_one (ps_if (pt_cmpR op_eq (pe_ix (ix_tupK K) (pv 2) pe_int (fun _ _ => rfl)) (pe_ix (ix_tupK K) (pv 3) pe_int (fun _ _ => rfl)) (nomark _)) (pss_one (ps_ret (pe_tup (pa_cons (pv 1) (pa_cons (pe_ix (ix_tupK K) (pv 2) pe_int (fun _ _ => rfl)) pa_nil))))) pss_nil)))))
      (pss_one (ps_ret pe_non))), ?_⟩
    obtain ⟨dx, e, f, l, es, fs, ls, E, hx, he, hff, hl, hE, hF, hEp, hL⟩ := hx
    refine ⟨_, rfl, _, _, _, _, _, rfl, hx, T.c_Looking, T.n_Looking_entries, rfl, _, _, (fo t).map (·.1), rfl, .inl he, hE.keys, by rw [List.length_map]; omega, fun ks p perm pw hp => ⟨_, rfl, ⟨_, SqL.of (upd_same ..)⟩, ?_⟩⟩
    generalize hH0 : upd H p _ = H0
    have s0 : Same H H0 := by rw [← hH0]; exact same_new hp
    have p0 : H0 p = some (.lst (ks.map V.int)) := by rw [← hH0, upd_same]
    refine for_it (walk_list (xs := ks.map V.int)) (fun i σ H' => ∃ a b c, σ = [some (.ref x), a, b, c] ∧ Same H0 H' ∧ ∀ n ∈ ks.take i, ∀ en, (n, en) ∈ fo t → (en.map (·.1)).Nodup) ⟨_, _, _, rfl, Same.refl _, fun n hn => by simp at hn⟩ (fun i σ H' _ hp => ?_) ?_ ?_
    · obtain ⟨_, _, _, _, s, _⟩ := hp
      exact SqL.of (s _ _ p0)
    · rintro i v σ H1 H' hi ⟨_, _, _, rfl, s1, hok⟩ ⟨rfl, hv⟩
      obtain ⟨n, hn1, rfl⟩ := map_at hv
      obtain ⟨⟨n', en⟩, hen, rfl⟩ := List.mem_map.mp (perm.subset (List.mem_of_getElem? hn1))
      obtain ⟨v, hv1, lu, xs, rfl, hlu, hxs⟩ := hE.of hn hen
      have hx1 := s1 _ _ (s0 _ _ hx)
      have he1 := s1 _ _ (s0 _ _ he)
      have hlu1 := Same.seq s1 (Same.seq s0 hlu)
      refine ⟨_, rfl, _, _, _, _, _, rfl, hx1, T.c_Looking, T.n_Looking_entries, rfl, _, rfl, _, _, rfl, .inl ⟨es, .inl n', .inl he1, rfl, hv1.symm⟩, _, rfl, _, _, _, _, _, rfl, hx1, T.c_Looking, T.n_Looking_entries, rfl, _, rfl, _, _, rfl, .inl ⟨es, .inl n', .inl he1, rfl, hv1.symm⟩, _, rfl, _, _, rfl, hlu1, fun p2 hp2 => ?_⟩
      rw [cut_tail]
      have s2 : Same H' (upd H' p2 (.lst xs.tail)) := same_new hp2
      generalize hH2 : upd H' p2 (.lst xs.tail) = H2 at hp2
      replace s2 : Same H' H2 := by rw [← hH2]; exact s2
      have p2' : H2 p2 = some (.lst xs.tail) := by rw [← hH2, upd_same]
      have tl_at : ∀ j : Nat, xs.tail[j]? = xs[j + 1]? := fun j => by cases xs <;> simp
      refine ⟨_, _, _, _, rfl, Same.seq s2 hlu1, SqL.of p2', ?_⟩
      refine for_it (walk_zip (xs := xs) (ys := xs.tail) rfl) (fun j σ H' => ∃ b c, σ = [some (.ref x), some (.int n'), b, c] ∧ Same H2 H' ∧ ∀ m, m < j → ∀ a b, (en.mergeSort ile)[m]? = some a → (en.mergeSort ile)[m + 1]? = some b → a.1 ≠ b.1)
        ⟨_, _, rfl, Same.refl _, fun m hm => absurd hm (Nat.not_lt_zero _)⟩ (fun j σ H' _ hp => ?_) ?_ ?_
      · obtain ⟨_, _, _, s, _⟩ := hp
        exact ⟨Same.seq s (Same.seq s2 hlu1), SqL.of (s _ _ p2')⟩
      · rintro j v σ H1 H3 hj ⟨_, _, rfl, s3, hadj⟩ ⟨T', a, b, rfl, hT', rfl, ha, hb⟩
        replace hb : xs[j + 1]? = some b := (tl_at j).symm.trans hb
        obtain ⟨ea, ha1, ta, rfl, hta⟩ := paired_at hxs ha
        obtain ⟨eb, hb1, tb, rfl, htb⟩ := paired_at hxs hb
        have s4 : Same H (upd H1 T' (.tup [.ref ta, .ref tb])) := (((s0.trans s1).trans s2).trans s3).trans (same_new hT')
        refine ⟨_, _, rfl, SqT.of (upd_same ..), rfl, _, _, rfl, _, _, rfl, rfl, ?_⟩
        have hta4 := Same.tup s4 hta
        have htb4 := Same.tup s4 htb
        refine ⟨_, rfl, _, _, _, _, rfl, rfl, hta4, at0, _, rfl, _, _, _, _, rfl, rfl, htb4, at0, rfl, _, rfl, ite2 (fun h => ?_) (fun h => ?_)⟩
        · refine ⟨_, rfl, _, rfl, _, _, _, _, rfl, rfl, hta4, at0, zl rfl, fun q hq => k _ _ (s4.trans (same_new hq)) (.inr ⟨⟨q, _, _, rfl, upd_same ..⟩, fun z => ?_⟩)⟩
          exact adj_not_nodup ha1 hb1 (V.str.inj (of_decide_eq_true h)) (nodup_sort.mpr (z _ _ hen))
        · refine ⟨_, _, rfl, s3.trans (same_new hT'), fun m hm a b ha' hb' => ?_⟩
          by_cases z : m = j
          · subst z
            rw [ha1] at ha'
            rw [hb1] at hb'
            obtain rfl := Option.some.inj ha'
            obtain rfl := Option.some.inj hb'
            exact fun q => h (decide_eq_true (by rw [q]))
          · exact hadj m (by omega) a b ha' hb'
      · rintro σ H1 ⟨_, _, rfl, s3, hadj⟩
        refine ⟨_, _, _, rfl, (s1.trans s2).trans s3, fun n hn en' hen' => ?_⟩
        rw [take_get hn1] at hn
        rcases List.mem_append.mp hn with hn | hn
        · exact hok n hn en' hen'
        · obtain rfl := List.mem_singleton.mp hn
          have := nodup_key (f := (·.1)) ‹((fo t).map (·.1)).Nodup› hen hen' rfl
          obtain rfl := (Prod.mk.inj this).2
          refine nodup_sort.mp (adj_nodup (srt_pw encI en) fun m a b h1 h2 => hadj m ?_ a b h1 h2)
          have h3 := (List.getElem?_eq_some_iff.mp h2).1
          have h4 : m + 1 < xs.length := by rw [paired_len hxs]; exact h3
          rw [List.length_tail]
          omega
    · rintro σ H1 ⟨_, _, _, rfl, s1, hok⟩
      refine k _ _ (s0.trans s1) (.inl ⟨rfl, fun w es h => hok w ?_ es h⟩)
      rw [List.length_map, List.take_length]
      exact perm.symm.subset (List.mem_map.mpr ⟨_, h, rfl⟩)
abbrev N_Looking_first_blind : List Str := ["self", "folder", "name", "number"]
theorem sc_Looking_first_blind : FnScope N_Looking_first_blind ["self"] (defScope s_Looking_first_blind) := ⟨rfl, rfl, rfl, by decide +kernel, rfl, by decide +kernel, by decide +kernel⟩
theorem ok_Looking_first_blind (T : Tx K mg base) : OkD P w K mg base d_Looking_first_blind.at_ 1 ["self"] (spFirstBlind K) := by
  refine okD_of T.F_Looking_first_blind sc_Looking_first_blind (fun _ _ _ _ _ _ us hl => match us, hl with | [_], _ => rfl) (fun vs H Q E h => ?_) (fun cdv A outer s H vs Q E hr h => ?_)
  · obtain ⟨x, t, rfl, _⟩ := h
    rfl
  · obtain ⟨x, t, rfl, hx, hn, hl, k⟩ := h
    have hu := hu_of hr
    refine ⟨_, (pss_cons (ps_for PassesOwn.never rfl (pi_list (pe_callB (call_sortedDI rfl) (by rfl) T.z_sorted (show bootBuiltins "sorted" = some (.builtin "sorted") by decide +kernel) (pa_cons (pe_fldK K (pv 0) rfl) pa_nil))) (pg_name (i := 1) sc_Looking_first_blind.nd rfl (by first | exact Or.inl rfl | exact Or.inr rfl)) (pss_one (ps_for PassesOwn.never rfl (pi_list (pe_dget hu (pe_fldK K (pv 0) rfl) (pv 1) (fun _ _ => rfl))) (pg_tupK K (n := 2) rfl (pgs_cons (pg_name (i := 2) sc_Looking_first_blind.nd rfl (by first | exact Or.inl rfl | exact Or.inr rfl)) (pgs_cons (pg_name (i := 3) sc_Looking_first_blind.nd rfl (by first | exact Or.inl rfl | exact Or.inr rfl)) pgs_nil))) (pss_one (ps_if (PW.pt (pw_and (pt_cmp (pc_dnotin hu (pv 3) (pe_fldK K (pv 0) rfl))) (pw_and1 (pt_cmp (pc_dnotin hu (pv 3) (pe_fldK K (pv 0) rfl)))))) (pss_one (ps_ret (pe_tup (pa_cons (pv 1) (pa_cons (pv 2) pa_nil))))) pss_nil)))))
      (pss_one (ps_ret pe_non))), ?_⟩
    obtain ⟨dx, e, f, l, es, fs, ls, E, hx, he, hff, hl, hE, hF, hEp, hL⟩ := hx
    refine ⟨_, rfl, _, _, _, _, _, rfl, hx, T.c_Looking, T.n_Looking_entries, rfl, _, _, (fo t).map (·.1), rfl, .inl he, hE.keys, by rw [List.length_map]; omega, fun ks p perm pw hp => ⟨_, rfl, ⟨_, SqL.of (upd_same ..)⟩, ?_⟩⟩
    generalize hH0 : upd H p _ = H0
    have s0 : Same H H0 := by rw [← hH0]; exact same_new hp
    have p0 : H0 p = some (.lst (ks.map V.int)) := by rw [← hH0, upd_same]
    refine for_it (walk_list (xs := ks.map V.int)) (fun i σ H' => ∃ a b c, σ = [some (.ref x), a, b, c] ∧ Same H0 H' ∧ ∀ n ∈ ks.take i, ∀ en, (n, en) ∈ fo t → ∀ q ∈ en, (shT t).fk q.2 ∨ q.2 ∈ (fi t).map (·.1)) ⟨_, _, _, rfl, Same.refl _, fun n hn => by simp at hn⟩ (fun i σ H' _ hp => ?_) ?_ ?_
    · obtain ⟨_, _, _, _, s, _⟩ := hp
      exact SqL.of (s _ _ p0)
    · rintro i v σ H1 H' hi ⟨_, _, _, rfl, s1, hok⟩ ⟨rfl, hv⟩
      obtain ⟨n, hn1, rfl⟩ := map_at hv
      obtain ⟨⟨n', en⟩, hen, rfl⟩ := List.mem_map.mp (perm.subset (List.mem_of_getElem? hn1))
      obtain ⟨v, hv1, lu, xs, rfl, hlu, hxs⟩ := hE.of hn hen
      have hx1 := s1 _ _ (s0 _ _ hx)
      have he1 := s1 _ _ (s0 _ _ he)
      have hlu1 := Same.seq s1 (Same.seq s0 hlu)
      refine ⟨_, rfl, _, _, _, _, _, rfl, hx1, T.c_Looking, T.n_Looking_entries, rfl, _, rfl, _, _, rfl, .inl ⟨es, .inl n', .inl he1, rfl, hv1.symm⟩, _, rfl, ⟨_, hlu1⟩, ?_⟩
      refine for_it (walk_list (xs := xs)) (fun j σ H2 => ∃ b c, σ = [some (.ref x), some (.int n'), b, c] ∧ Same H' H2 ∧ ∀ q ∈ (en.mergeSort ile).take j, (shT t).fk q.2 ∨ q.2 ∈ (fi t).map (·.1))
        ⟨_, _, rfl, Same.refl _, fun q hq => by simp at hq⟩ (fun j σ H' _ hp => ?_) ?_ ?_
      · obtain ⟨_, _, _, s, _⟩ := hp
        exact Same.seq s hlu1
      · rintro j v σ H1 H3 hj ⟨_, _, rfl, s3, hadj⟩ ⟨rfl, hv⟩
        obtain ⟨⟨a, m⟩, hm1, ta, rfl, hta⟩ := paired_at hxs hv
        have s4 : Same H H3 := (s0.trans s1).trans s3
        refine ⟨_, _, rfl, Same.tup s4 hta, rfl, _, _, rfl, _, _, rfl, rfl, ?_⟩
        have hx3 := s4 _ _ hx
        have hmm : (a, m) ∈ en := (srt_perm encI en).subset (List.mem_of_getElem? hm1)
        have next : ((shT t).fk m ∨ m ∈ (fi t).map (·.1)) → ∀ q ∈ (en.mergeSort ile).take (j + 1), (shT t).fk q.2 ∨ q.2 ∈ (fi t).map (·.1) := fun h q hq => by
          rw [take_get hm1] at hq
          rcases List.mem_append.mp hq with hq | hq
          · exact hadj q hq
          · rw [List.mem_singleton.mp hq]; exact h
        refine ⟨_, rfl, _, rfl, _, _, _, _, _, rfl, hx3, T.c_Looking, T.n_Looking_entries, rfl, _, _, rfl, .inl ⟨_, .inl m, .inl (s4 _ _ he), rfl, rfl⟩, _, rfl, ?_⟩
        rw [hE.isSome]
        refine ite2 (fun h1 => ?_) (fun h1 => ?_)
        · have h1' : m ∉ (fo t).map (·.1) := by simpa using h1
          refine ⟨_, rfl, _, rfl, _, _, _, _, _, rfl, hx3, T.c_Looking, T.n_Looking_files, rfl, _, _, rfl, .inl ⟨_, .inl m, .inl (s4 _ _ hff), rfl, rfl⟩, _, rfl, ?_⟩
          rw [hF.isSome]
          refine ite2 (fun h2 => ?_) (fun h2 => ?_)
          · have h2' : m ∉ (fi t).map (·.1) := by simpa using h2
            refine ⟨_, rfl, _, rfl, zl rfl, fun q hq => k _ _ (s4.trans (same_new hq)) (.inr ⟨⟨q, _, _, rfl, upd_same ..⟩, fun z => ?_⟩)⟩
            rcases z n' a m (mem_flat.mpr ⟨en, hen, hmm⟩) with z | ⟨kk, c, z⟩
            · exact h1' (fk_iff.mp z)
            · exact h2' (List.mem_map.mpr ⟨_, z, rfl⟩)
          · exact ⟨_, _, rfl, s3, next (.inr (by simpa using h2))⟩
        · refine iteF ⟨_, _, rfl, s3, next (.inl (fk_iff.mpr (by simpa using h1)))⟩
      · rintro σ H1 ⟨_, _, rfl, s3, hadj⟩
        refine ⟨_, _, _, rfl, s1.trans s3, fun n hn en' hen' => ?_⟩
        rw [take_get hn1] at hn
        rcases List.mem_append.mp hn with hn | hn
        · exact hok n hn en' hen'
        · obtain rfl := List.mem_singleton.mp hn
          have := nodup_key (f := (·.1)) ‹((fo t).map (·.1)).Nodup› hen hen' rfl
          obtain rfl := (Prod.mk.inj this).2
          intro q hq
          refine hadj q ?_
          rw [paired_len hxs, List.take_length]
          exact (srt_perm encI en).symm.subset hq
    · rintro σ H1 ⟨_, _, _, rfl, s1, hok⟩
      refine k _ _ (s0.trans s1) (.inl ⟨rfl, fun w a n h => ?_⟩)
      obtain ⟨en, h1, h2⟩ := mem_flat.mp h
      rcases hok w (by rw [List.length_map, List.take_length]; exact perm.symm.subset (List.mem_map.mpr ⟨_, h1, rfl⟩)) en h1 _ h2 with z | z
      · exact .inl z
      · obtain ⟨y, h3, e⟩ := List.mem_map.mp z
        exact .inr ⟨y.2.1, y.2.2, by rw [show n = y.1 from e.symm]; exact h3⟩
end
end K81
set_option maxHeartbeats 4000000
namespace K81
open PySem PySem.Spec PyProof.Rows L2
theorem frz_backd {H H' : Hp} {e d : Addr} {u : HO} {od : Obj} (he : H e = some u) (s : Same (del (upd H e (.frz od u)) d) H') : Same (del H d) (upd H' e u) := fun b o h => by
  by_cases z : b = e
  · subst z
    have := del_same H d _ _ h
    rw [he] at this
    rw [upd_same, this]
  · rw [upd_ne z]
    refine s b o ?_
    by_cases y : b = d
    · subst y; rw [del_self] at h; cases h
    · refine del_at ?_ y
      rw [upd_ne z]
      exact del_same H d _ _ h
theorem SameD.del {H : Hp} {d : Addr} {kvs : List (Key × V)} (h : H d = some (.dK kvs)) : SameD H (K81.del H d) := fun b o q n => del_at q (fun e => by subst e; rw [h] at q; exact n kvs (Option.some.inj q).symm)
theorem LedAt.sd {K : PySem.W.Frag} {H H' : Hp} {ls : List (Key × V)} {E : List (Int × Str × Int)} (s : SameD H H') (h : LedAt K H ls E) : LedAt K H' ls E := by
  obtain ⟨ns, h1, h2, h3, h4⟩ := h
  refine ⟨ns, h1, h2, h3, fun n v m => ?_⟩
  obtain ⟨a, xs, e, q1, q2⟩ := h4 n v m
  exact ⟨a, xs, e, s.seq q1, paired_mono q2 fun _ _ q => q.sd s⟩
/-! ### the entries of a sheet where no name is there twice -/
theorem flat_nodup : ∀ {F : List (Int × List (Str × Int))}, (F.map (·.1)).Nodup → (∀ w es, (w, es) ∈ F → (es.map (·.1)).Nodup) → (flat F).Nodup
  | [], _, _ => .nil
  | (w, es) :: F, hn, hs => by
    have hn' := List.nodup_cons.mp hn
    have ih := flat_nodup hn'.2 fun w' es' h => hs w' es' (List.mem_cons_of_mem _ h)
    have e : flat ((w, es) :: F) = (es.map fun e => (w, e.1, e.2)) ++ flat F := by simp [flat]
    rw [e]
    refine List.nodup_append.mpr ⟨?_, ih, fun a ha b hb hab => ?_⟩
    · have h1 := hs w es List.mem_cons_self
      have h2 : es.Nodup := (List.pairwise_map.mp h1).imp fun ne e => ne (by rw [e])
      refine List.pairwise_map.mpr (h2.imp fun {a b} ne => ?_)
      intro e
      exact ne (Prod.ext (Prod.mk.inj (Prod.mk.inj e).2).1 (Prod.mk.inj (Prod.mk.inj e).2).2)
    · obtain ⟨x, hx, rfl⟩ := List.mem_map.mp ha
      rw [← hab] at hb
      obtain ⟨es', h1, _⟩ := mem_flat.mp hb
      exact hn'.1 (List.mem_map.mpr ⟨_, h1, rfl⟩)
theorem ledOf_nodup {E : List (Int × Str × Int)} (h : E.Nodup) (n : Int) : (ledOf E n).Nodup := by
  unfold ledOf
  rw [List.nodup_iff_pairwise_ne, List.pairwise_map]
  refine List.Pairwise.imp_of_mem ?_ (h.sublist (List.filter_sublist (l := E)))
  intro a b ha hb ne e
  refine ne ?_
  have h1 := of_decide_eq_true (List.mem_filter.mp ha).2
  have h2 := of_decide_eq_true (List.mem_filter.mp hb).2
  obtain ⟨a1, a2, a3⟩ := a
  obtain ⟨b1, b2, b3⟩ := b
  simp only [Prod.mk.injEq] at e ⊢
  exact ⟨e.1, e.2, by simp only at h1 h2; rw [h1, h2]⟩
theorem nodup_one {α : Type} {l : List α} (hn : l.Nodup) (h : ∀ a ∈ l, ∀ b ∈ l, a = b) (h0 : l ≠ []) : l.length = 1 := by
  match l, hn, h, h0 with
  | [_], _, _, _ => rfl
  | a :: b :: r, hn, h, _ => exact absurd (h a List.mem_cons_self b (by simp)) (fun e => by subst e; exact (List.nodup_cons.mp hn).1 List.mem_cons_self)
def rootOk (t : List Row) : Prop := (shT t).fk 0 ∧ (shT t).fk 1 ∧ (shT t).en 0 "clash" 1
theorem ord_led {t : List Row} (hn : ((fo t).map (·.1)).Nodup) (hs : namesOnce t) (ho : Ord (shT t)) {n : Int} (hk : (shT t).fk n) {E : List (Int × Str × Int)} (hE : E.Perm (flat (fo t))) : (ledOf E n).length = if n = 0 then 0 else 1 := by
  have hmem : ∀ {w a m}, (w, a) ∈ ledOf E m ↔ (shT t).en w a m := fun {w a m} => ledOf_mem.trans hE.mem_iff
  by_cases z : n = 0
  · rw [if_pos z]
    cases e : ledOf E n with
    | nil => rfl
    | cons x r =>
      have : (x.1, x.2) ∈ ledOf E n := by rw [e]; exact List.mem_cons_self
      have := hmem.mp this
      rw [z] at this
      exact absurd this (ho.top _ _)
  · rw [if_neg z]
    obtain ⟨w, a, h1, h2⟩ := ho.one n hk z
    refine nodup_one (ledOf_nodup (hE.symm.nodup (flat_nodup hn hs)) n) (fun x hx y hy => ?_) (fun e => ?_)
    · obtain ⟨q1, q2⟩ := h2 x.1 x.2 (hmem.mp hx)
      obtain ⟨q3, q4⟩ := h2 y.1 y.2 (hmem.mp hy)
      exact Prod.ext (q1.trans q3.symm) (q2.trans q4.symm)
    · have := hmem.mpr h1
      rw [e] at this
      cases this
def spFirstEntry (K : PySem.W.Frag) : Sp := fun vs H Q _ => ∃ (x : Addr) (t : List Row) (b : Bool), vs = [.ref x, .str (if b = true then "same" else "blind")] ∧ LookAt K H x t ∧ ((fo t).map (·.1)).Nodup ∧ (fo t).length < 64 ∧
  ∀ v H', Same H H' → (v = .non ∧ (if b = true then namesOnce t else nodesAll t) ∨ (∃ p w a, v = .ref p ∧ H' p = some (.tup [.int w, .str a])) ∧ ¬ (if b = true then namesOnce t else nodesAll t)) → Q v H'
/-- what a look tells -/
def Told (t : List Row) (H' : Hp) (v : V) : Prop := (v = .non ∧ ¬ Beyond t ∨ ∃ p word rest, v = .ref p ∧ H' p = some (.tup (.str word :: rest)) ∧ ((word = "twice" ∨ word = "root" ∨ word = "same") ↔ Beyond t)) ∧ (InOrder t → v = .non)
def spFaultIn (K : PySem.W.Frag) : Sp := fun vs H Q _ => ∃ (x : Addr) (t : List Row), vs = [.ref x] ∧ LookAt K H x t ∧ (nums t).Nodup ∧ Fine t ∧ Small 63 1000 t ∧ ∀ v H', Same H H' → Told t H' v → Q v H'
theorem beyond_of {t : List Row} (hn : (nums t).Nodup) : Beyond t ↔ ¬ (rootOk t ∧ namesOnce t) := by
  constructor
  · rintro (h | h | ⟨w, es, h1, h2⟩)
    · exact absurd hn h
    · exact fun q => h q.1
    · exact fun q => h2 (q.2 w es h1)
  · intro h
    by_cases q : rootOk t
    · refine .inr (.inr (Classical.byContradiction fun z => h ⟨q, fun w es h1 => Classical.byContradiction fun y => z ⟨w, es, h1, y⟩⟩))
    · exact .inr (.inl q)
section
variable {P : Program} {w : World} {K : PySem.W.Frag} {mg : Str → Option Value} {base : Heap}
abbrev N_Looking_first_entry : List Str := ["self", "word"]
theorem sc_Looking_first_entry : FnScope N_Looking_first_entry ["self", "word"] (defScope s_Looking_first_entry) := ⟨rfl, rfl, rfl, by decide +kernel, rfl, by decide +kernel, by decide +kernel⟩
theorem ok_Looking_first_entry (T : Tx K mg base) : OkD P w K mg base d_Looking_first_entry.at_ 2 ["self", "word"] (spFirstEntry K) := by
  have G_Looking_first_blind := ok_Looking_first_blind (P := P) (w := w) T
  have G_Looking_first_same := ok_Looking_first_same (P := P) (w := w) T
  refine okD_of T.F_Looking_first_entry sc_Looking_first_entry (fun _ _ _ _ _ _ us hl => match us, hl with | [_, _], _ => rfl) (fun vs H Q E h => ?_) (fun cdv A outer s H vs Q E hr h => ?_)
  · obtain ⟨x, t, b, rfl, _⟩ := h
    rfl
  · obtain ⟨x, t, b, rfl, hx, hn, hl, k⟩ := h
    have hu := hu_of hr
    refine ⟨_, (pss_cons (ps_if (pt_cmpR op_eq (pv 1) pe_str (nomark _)) (pss_one (ps_ret (pe_methO0 G_Looking_first_same hr (by decide) T.c_Looking T.m_Looking_first_same (pv 0)))) pss_nil)
      (pss_one (ps_ret (pe_methO0 G_Looking_first_blind hr (by decide) T.c_Looking T.m_Looking_first_blind (pv 0))))), ?_⟩
    have hi := hx
    obtain ⟨dx, e, f, l, es, fs, ls, E, hi, _⟩ := hi
    cases b with
    | true =>
      refine ⟨_, rfl, rfl, _, rfl, ite2 (fun _ => ?_) (fun q => absurd (by decide) q)⟩
      exact ⟨_, rfl, _, _, _, rfl, hi, rfl, x, t, rfl, hx, hn, hl, fun v H' s h => k v H' s h⟩
    | false =>
      refine ⟨_, rfl, rfl, _, rfl, ite2 (fun q => absurd q (by decide)) (fun _ => ?_)⟩
      exact ⟨_, rfl, _, _, _, rfl, hi, rfl, x, t, rfl, hx, hn, hl, fun v H' s h => k v H' s h⟩
abbrev N_fault_in : List Str := ["looking", "word", "entry", "folder", "number", "parents", "ring"]
theorem sc_fault_in : FnScope N_fault_in ["looking"] (defScope s_fault_in) := ⟨rfl, rfl, rfl, by decide +kernel, rfl, by decide +kernel, by decide +kernel⟩
theorem ok_fault_in (T : Tx K mg base) : OkD P w K mg base d_fault_in.at_ 3 ["looking"] (spFaultIn K) := by
  have G_a_ring := ok_a_ring (P := P) (w := w) T
  have G_Looking_has_root := ok_Looking_has_root (P := P) (w := w) T
  have G_Looking_first_entry := ok_Looking_first_entry (P := P) (w := w) T
  have G_Looking_is_misnamed := ok_Looking_is_misnamed (P := P) (w := w) T
  have G_Looking_is_loose := ok_Looking_is_loose (P := P) (w := w) T
  refine okD_of T.F_fault_in sc_fault_in (fun _ _ _ _ _ _ us hl => match us, hl with | [_], _ => rfl) (fun vs H Q E h => ?_) (fun cdv A outer s H vs Q E hr h => ?_)
  · obtain ⟨x, t, rfl, _⟩ := h
    rfl
  · obtain ⟨x, t, rfl, hx, hn, hfine, hsm, k⟩ := h
    have hu := hu_of hr
    have hrows := hsm.rows
    have hfol := hsm.fo
    have hfil := hsm.fi
    have hnf : ((fo t).map (·.1)).Nodup := hn.sublist (fo_nums t)
    refine ⟨_, (pss_cons (ps_if (pt_not (pt_val (pe_methO0 G_Looking_has_root hr (by decide) T.c_Looking T.m_Looking_has_root (pv 0)))) (pss_one (ps_ret (pe_tup (pa_cons pe_str pa_nil)))) pss_nil)
      (pss_cons (ps_for PassesOwn.never rfl (pi_tup (pe_tup (pa_cons pe_str (pa_cons pe_str pa_nil)))) (pg_name (i := 1) sc_fault_in.nd rfl (by first | exact Or.inl rfl | exact Or.inr rfl)) (pss_cons (ps_set (i := 2) sc_fault_in.nd rfl (by first | exact Or.inl rfl | exact Or.inr rfl) (pe_methO G_Looking_first_entry hr (by decide) T.c_Looking T.m_Looking_first_entry (pv 0) (pa_cons (pv 1) pa_nil)))
      (pss_one (ps_if (pt_cmp (pc_notN (pv 2))) (pss_one (ps_ret (pe_tup (pa_cons (pv 1) (pa_cons (pe_ix (ix_tupK K) (pv 2) pe_int (fun _ _ => rfl)) (pa_cons (pe_ix (ix_tupK K) (pv 2) pe_int (fun _ _ => rfl)) pa_nil)))))) pss_nil))))
      (pss_cons (ps_for PassesOwn.never rfl (pi_list (pe_callB (call_sortedDI rfl) (by rfl) T.z_sorted (show bootBuiltins "sorted" = some (.builtin "sorted") by decide +kernel) (pa_cons (pe_fldK K (pv 0) rfl) pa_nil))) (pg_name (i := 3) sc_fault_in.nd rfl (by first | exact Or.inl rfl | exact Or.inr rfl)) (pss_one (ps_if (pt_val (pe_methO G_Looking_is_misnamed hr (by decide) T.c_Looking T.m_Looking_is_misnamed (pv 0) (pa_cons (pv 3) pa_nil))) (pss_one (ps_ret (pe_tup (pa_cons pe_str (pa_cons (pv 3) pa_nil))))) pss_nil)))
      (pss_cons (ps_for PassesOwn.never rfl (pi_list (pe_callB (call_sortedDI rfl) (by rfl) T.z_sorted (show bootBuiltins "sorted" = some (.builtin "sorted") by decide +kernel) (pa_cons (pe_fldK K (pv 0) rfl) pa_nil))) (pg_name (i := 4) sc_fault_in.nd rfl (by first | exact Or.inl rfl | exact Or.inr rfl)) (pss_one (ps_if (pt_val (pe_methO G_Looking_is_loose hr (by decide) T.c_Looking T.m_Looking_is_loose (pv 0) (pa_cons (pv 4) pa_nil))) (pss_one (ps_ret (pe_tup (pa_cons pe_str (pa_cons (pv 4) pa_nil))))) pss_nil)))
      (pss_cons (ps_set (i := 5) sc_fault_in.nd rfl (by first | exact Or.inl rfl | exact Or.inr rfl) pe_dnewK)
      (pss_cons (ps_lock (ps_for PassesOwn.never rfl (pi_keys (pe_fldK K (pv 0) rfl)) (pg_name (i := 3) sc_fault_in.nd rfl (by first | exact Or.inl rfl | exact Or.inr rfl)) (pss_one (ps_if (pt_cmpR op_ne (pv 3) (pe_gint T.i_ROOT_looker) (nomark _)) (pss_one (ps_dput hu (pv 5) (pv 3) (pe_ix (ix_tupK K) (pe_ix (ix_listK K) (pe_dget hu (pe_fldK K (pv 0) rfl) (pv 3) (fun _ _ => rfl)) pe_int (fun _ _ => rfl)) pe_int (fun _ _ => rfl)) rfl)) pss_nil))))
      (pss_cons (ps_set (i := 6) sc_fault_in.nd rfl (by first | exact Or.inl rfl | exact Or.inr rfl) (pe_callO G_a_ring hr (by decide) T.g_a_ring (pa_cons (pv 5) pa_nil)))
      (pss_cons (ps_if (pt_cmpR (op_neD hr.units) (pv 6) (pe_lst pa_nil) (nomark _)) (pss_one (ps_ret (pe_tup (pa_cons pe_str (pa_cons (pv 6) pa_nil))))) pss_nil)
      (pss_one (ps_ret pe_non)))))))))), ?_⟩
    have hx' := hx
    obtain ⟨dx, e, f, l, es, fs, ls, E, hi, he, hff, hl, hE, hF, hEp, hL⟩ := hx'
    refine ⟨_, rfl, _, _, _, rfl, hi, rfl, x, t, rfl, hx, hnf, hfine, fun b hb => ⟨_, rfl, ite2 (fun h1 => ?_) (fun h1 => ?_)⟩⟩
    · have hnr : ¬ rootOk t := fun q => by
        have := hb.mpr q
        rw [this] at h1; cases h1
      refine ⟨zl rfl, fun p hp => k _ _ (same_new hp) ⟨.inr ⟨p, "root", [], rfl, upd_same .., ?_⟩, fun q => absurd (beyond_root q.1) hnr⟩⟩
      exact ⟨fun _ => .inr (.inl hnr), fun _ => .inr (.inl rfl)⟩
    have hroot : rootOk t := hb.mp (by cases b with | true => rfl | false => exact absurd rfl h1)
    clear hb h1
    -- same, blind
    refine ⟨zl rfl, fun p hp => ⟨_, rfl, ⟨_, SqT.of (upd_same ..)⟩, ?_⟩⟩
    generalize hH0 : upd H p _ = H0
    have s0 : Same H H0 := by rw [← hH0]; exact same_new hp
    have p0 : H0 p = some (.tup [.str "same", .str "blind"]) := by rw [← hH0, upd_same]
    refine for_it (walk_tup (xs := [.str "same", .str "blind"])) (fun i σ H' => ∃ a b, σ = [some (.ref x), a, b, none, none, none, none] ∧ Same H0 H' ∧ (1 ≤ i → namesOnce t) ∧ (2 ≤ i → nodesAll t)) ⟨_, _, rfl, Same.refl _, fun h => absurd h (by omega), fun h => absurd h (by omega)⟩ (fun i σ H' _ hp => ?_) ?_ ?_
    · obtain ⟨_, _, _, s, _⟩ := hp
      exact SqT.of (s _ _ p0)
    · rintro i v σ H1 H' hi2 ⟨_, _, rfl, s1, c1, c2⟩ ⟨rfl, hv⟩
      have sH := s0.trans s1
      have hb : ∃ b : Bool, v = .str (if b = true then "same" else "blind") ∧ (b = true ↔ i = 0) := by
        match i, hi2, hv with
        | 0, _, hv => exact ⟨true, (Option.some.inj hv).symm, by simp⟩
        | 1, _, hv => exact ⟨false, (Option.some.inj hv).symm, by simp⟩
      obtain ⟨b, rfl, hbi⟩ := hb
      refine ⟨_, rfl, _, _, _, rfl, sH _ _ hi, rfl, _, rfl, x, t, b, rfl, hx.same sH, hnf, by omega, fun v H2 s2 hv2 => ?_⟩
      rcases hv2 with ⟨rfl, hv2⟩ | ⟨⟨q, w', a, rfl, hq⟩, hv2⟩
      · refine ⟨_, rfl, _, rfl, ite2 (fun z => absurd z (by decide)) (fun _ => ⟨_, _, rfl, s1.trans s2, fun _ => ?_, fun h2 => ?_⟩)⟩
        · cases b with
          | true => exact hv2
          | false => exact c1 (by have : ¬ i = 0 := fun z => by have := hbi.mpr z; cases this
                                  omega)
        · cases b with
          | true => exact absurd (hbi.mp rfl) (by omega)
          | false => exact hv2
      · refine ⟨_, rfl, _, rfl, ite2 (fun _ => ?_) (fun z => absurd (by simp) z)⟩
        refine ⟨_, rfl, _, rfl, _, _, _, _, rfl, rfl, SqT.of hq, at0, _, rfl, _, _, _, _, rfl, rfl, SqT.of hq, at1, zl rfl, fun r hr' => k _ _ ((sH.trans s2).trans (same_new hr')) ⟨.inr ⟨r, _, _, rfl, upd_same .., ?_⟩, fun ho => ?_⟩⟩
        · rw [beyond_of hn]
          cases b with
          | true => exact ⟨fun _ z => hv2 z.2, fun _ => .inr (.inr rfl)⟩
          | false =>
            have h1 := c1 (by have : ¬ i = 0 := fun z => by have := hbi.mpr z; cases this
                              omega)
            exact ⟨fun z => by rcases z with z | z | z <;> exact absurd z (by decide), fun z => absurd ⟨hroot, h1⟩ z⟩
        · exfalso
          cases b with
          | true => exact hv2 (once_of ho.1).names
          | false => exact hv2 ho.2.node
    rintro σ H1 ⟨_, _, rfl, s1, c1, c2⟩
    have hnames : namesOnce t := c1 (by decide)
    have hnb : ¬ Beyond t := by rw [beyond_of hn]; exact fun q => q ⟨hroot, hnames⟩
    have sH := s0.trans s1
    clear c1 c2 p0 hH0 hp s0 s1
    -- names
    refine ⟨_, rfl, _, _, _, _, _, rfl, sH _ _ hi, T.c_Looking, T.n_Looking_entries, rfl, _, _, (fo t).map (·.1), rfl, .inl (sH _ _ he), hE.keys, by rw [List.length_map]; omega, fun ks p perm pw hp => ⟨_, rfl, ⟨_, SqL.of (upd_same ..)⟩, ?_⟩⟩
    generalize hH0 : upd H1 p _ = H0
    have s0 : Same H H0 := by rw [← hH0]; exact sH.trans (same_new hp)
    have p0 : H0 p = some (.lst (ks.map V.int)) := by rw [← hH0, upd_same]
    refine for_it (walk_list (xs := ks.map V.int)) (fun i σ H' => ∃ a b c, σ = [some (.ref x), a, b, c, none, none, none] ∧ Same H0 H' ∧ ∀ n ∈ ks.take i, (ledOf E n).length = if n = 0 then 0 else 1) ⟨_, _, _, rfl, Same.refl _, fun n hn => by simp at hn⟩ (fun i σ H' _ hp => ?_) ?_ ?_
    · obtain ⟨_, _, _, _, s, _⟩ := hp
      exact SqL.of (s _ _ p0)
    · rintro i v σ H1 H' hi2 ⟨_, _, _, rfl, s1, c1⟩ ⟨rfl, hv⟩
      obtain ⟨n, hn1, rfl⟩ := map_at hv
      have hnk := fk_iff.mpr (perm.subset (List.mem_of_getElem? hn1))
      have sH := s0.trans s1
      refine ⟨_, rfl, _, _, _, rfl, sH _ _ hi, rfl, _, rfl, x, t, n, rfl, hx.same sH, hnk, fun b H2 s2 hb => ⟨_, rfl, ite2 (fun h1 => ?_) (fun h1 => ?_)⟩⟩
      · refine ⟨_, rfl, zl rfl, fun q hq => k _ _ ((sH.trans s2).trans (same_new hq)) ⟨.inr ⟨q, _, _, rfl, upd_same .., ?_⟩, fun ho => ?_⟩⟩
        · exact ⟨fun z => by rcases z with z | z | z <;> exact absurd z (by decide), fun z => absurd z hnb⟩
        · exfalso
          have := (hb E hEp).mpr (ord_led hnf hnames ho.2 hnk hEp)
          rw [this] at h1; cases h1
      · refine ⟨_, _, _, rfl, s1.trans s2, fun m hm => ?_⟩
        rw [take_get hn1] at hm
        rcases List.mem_append.mp hm with hm | hm
        · exact c1 m hm
        · rw [List.mem_singleton.mp hm]
          exact (hb E hEp).mp (by cases b with | true => exact absurd rfl h1 | false => rfl)
    rintro σ H1 ⟨_, _, _, rfl, s1, c1⟩
    have hled : ∀ n, (shT t).fk n → (ledOf E n).length = if n = 0 then 0 else 1 := fun n h => c1 n (by rw [List.length_map, List.take_length]; exact perm.symm.subset (fk_iff.mp h))
    replace sH := s0.trans s1
    clear c1 p0 hH0 hp s0 s1 perm pw ks
    -- loose
    refine ⟨_, rfl, _, _, _, _, _, rfl, sH _ _ hi, T.c_Looking, T.n_Looking_files, rfl, _, _, (fi t).map (·.1), rfl, .inl (sH _ _ hff), hF.keys, by rw [List.length_map]; omega, fun ks p perm pw hp => ⟨_, rfl, ⟨_, SqL.of (upd_same ..)⟩, ?_⟩⟩
    generalize hH0 : upd H1 p _ = H0
    have s0 : Same H H0 := by rw [← hH0]; exact sH.trans (same_new hp)
    have p0 : H0 p = some (.lst (ks.map V.int)) := by rw [← hH0, upd_same]
    refine for_it (walk_list (xs := ks.map V.int)) (fun i σ H' => ∃ a b c d, σ = [some (.ref x), a, b, c, d, none, none] ∧ Same H0 H') ⟨_, _, _, _, rfl, Same.refl _⟩ (fun i σ H' _ hp => ?_) ?_ ?_
    · obtain ⟨_, _, _, _, _, s⟩ := hp
      exact SqL.of (s _ _ p0)
    · rintro i v σ H1 H' hi2 ⟨_, _, _, _, rfl, s1⟩ ⟨rfl, hv⟩
      obtain ⟨n, hn1, rfl⟩ := map_at hv
      have hnk := perm.subset (List.mem_of_getElem? hn1)
      have sH := s0.trans s1
      refine ⟨_, rfl, _, _, _, rfl, sH _ _ hi, rfl, _, rfl, x, t, n, rfl, hx.same sH, hnk, fun b hb => ⟨_, rfl, ite2 (fun h1 => ?_) (fun h1 => ?_)⟩⟩
      · refine ⟨_, rfl, zl rfl, fun q hq => k _ _ (sH.trans (same_new hq)) ⟨.inr ⟨q, _, _, rfl, upd_same .., ?_⟩, fun ho => ?_⟩⟩
        · exact ⟨fun z => by rcases z with z | z | z <;> exact absurd z (by decide), fun z => absurd z hnb⟩
        · exfalso
          obtain ⟨y, hy, rfl⟩ := List.mem_map.mp hnk
          obtain ⟨w, a, hwa⟩ := ho.2.loose y.1 y.2.1 y.2.2 hy
          have := (hb E hEp).mpr (fun z => by have := ledOf_mem.mpr (hEp.mem_iff.mpr hwa); rw [z] at this; cases this)
          rw [this] at h1; cases h1
      · exact ⟨_, _, _, _, rfl, s1⟩
    rintro σ H1 ⟨_, _, _, _, rfl, s1⟩
    replace sH := s0.trans s1
    clear p0 hH0 hp s0 s1 perm pw ks
    -- parents
    intro d hd
    have s0 : Same H1 (upd H1 d (.dK [])) := same_new hd
    generalize hH0 : upd H1 d (.dK []) = H0
    replace s0 : Same H1 H0 := by rw [← hH0]; exact s0
    have d0 : H0 d = some (.dK []) := by rw [← hH0, upd_same]
    have sH0 := sH.trans s0
    have hxe : x ≠ e := ne_of_kinds hi he (fun z => by cases z)
    have hed : e ≠ d := ne_of_none (sH _ _ he) hd
    have hle : l ≠ e ∨ l = e := by by_cases z : l = e <;> simp [z]
    refine ⟨e, _, sH0 _ _ he, trivial, fun od => ⟨_, rfl, _, _, _, _, _, rfl, upd_at_ne (sH0 _ _ hi) hxe, T.c_Looking, T.n_Looking_entries, rfl, e, od, rfl, .inl ⟨es, upd_same .., ?_⟩⟩⟩
    have hlR : Rd (upd H0 e (.frz od (.dK es))) l (.dK ls) := frz_rd (sH0 _ _ he) trivial (.inl (sH0 _ _ hl))
    have sdF : SameD H0 (upd H0 e (.frz od (.dK es))) := SameD.upd (sH0 _ _ he)
    generalize hHf : upd H0 e (.frz od (.dK es)) = Hf at hlR sdF
    have ef : Hf e = some (.frz od (.dK es)) := by rw [← hHf, upd_same]
    have df : Hf d = some (.dK []) := by rw [← hHf]; exact upd_at_ne d0 hed.symm
    generalize hR : del Hf d = R
    have sRf : Same R Hf := by rw [← hR]; exact del_same _ _
    have Rd0 : R d = none := by rw [← hR]; exact del_self _ _
    have eR : R e = some (.frz od (.dK es)) := by rw [← hR]; exact del_at ef hed
    have sdR : SameD Hf R := by rw [← hR]; exact SameD.del df
    have xR : R x = some _ := sdR _ _ (sdF _ _ (sH0 _ _ hi) (fun _ z => by cases z)) (fun _ z => by cases z)
    have hld : l ≠ d := ne_of_none (sH _ _ hl) hd
    have lR : Rd R l (.dK ls) := by
      rcases hlR with h | ⟨o, h⟩
      · exact .inl (by rw [← hR]; exact del_at h hld)
      · exact .inr ⟨o, by rw [← hR]; exact del_at h hld⟩
    have hLR : LedAt K R ls E := ((hL.same sH0).sd sdF).sd sdR
    refine for_it (walk_keys (kvs := es)) (fun i σ H' => ∃ a b c dd ps, σ = [some (.ref x), a, b, c, dd, some (.ref d), none] ∧ Same R H' ∧ H' d = some (.dK (pI ps)) ∧ ps.length ≤ i ∧ ∀ p : Int × Int, parOf ps p.1 = some p.2 → (shT t).fk p.1 ∧ ∃ a, (shT t).en p.2 a p.1)
      ⟨_, _, _, _, [], rfl, sRf, df, Nat.le_refl _, fun p h => by cases h⟩ (fun i σ H' _ hp => ?_) ?_ ?_
    · obtain ⟨_, _, _, _, _, _, s, _⟩ := hp
      exact s _ _ eR
    · rintro i v σ H2 H' hi2 ⟨_, _, _, _, ps, rfl, s1, d1, hpl, hps⟩ ⟨rfl, kk, vv, hk, rfl⟩
      obtain ⟨⟨n, en⟩, hy, rfl, hv⟩ := paired_at hE hk
      have hnk : (shT t).fk n := ⟨en, List.mem_of_getElem? hy⟩
      refine ⟨_, rfl, rfl, _, rfl, ite2 (fun h0 => ?_) (fun h0 => ⟨_, _, _, _, ps, rfl, s1, d1, by omega, hps⟩)⟩
      have h0' : (!decide (V.int n = V.int 0)) = true := h0
      have hn0 : ¬ n = 0 := by simpa using h0'
      have hlen := hled n hnk
      rw [if_neg hn0] at hlen
      obtain ⟨v1, hv1⟩ : ∃ v1, valV ls (Sum.inl n) = some v1 := by
        cases q : valV ls (Sum.inl n) with
        | none => rw [hL.non q] at hlen; cases hlen
        | some v => exact ⟨v, rfl⟩
      obtain ⟨a1, xs1, rfl, q1, q2, _⟩ := hLR.get hv1
      obtain ⟨y0, r0, hy0⟩ : ∃ y r, ledOf E n = y :: r := by
        cases q : ledOf E n with
        | nil => rw [q] at hlen; cases hlen
        | cons y r => exact ⟨y, r, rfl⟩
      rw [hy0] at q2
      cases q2 with
      | @cons v0 _ xs0 _ hv0 _ =>
      obtain ⟨t0, rfl, ht0⟩ := hv0
      have hen0 : (shT t).en y0.1 y0.2 n := hEp.mem_iff.mp (ledOf_mem.mp (by rw [hy0]; exact List.mem_cons_self))
      obtain ⟨ps', e1, e2, e3, e4⟩ := putI ps n y0.1
      refine ⟨_, rfl, _, _, _, _, _, rfl, s1 _ _ xR, T.c_Looking, T.n_Looking_leading, rfl, _, rfl, _, _, rfl, .inl ⟨ls, .inl n, Same.rd s1 lR, rfl, hv1.symm⟩, _, _, _, _, rfl, rfl, Same.seq s1 q1, at0, _, _, _, _, rfl, rfl, Same.tup s1 ht0, at0, _, rfl, _, rfl, _, _, rfl, .inl ⟨_, .inl n, d1, rfl, sl (by unfold pI; rw [List.length_map]; rw [hE.len] at hi2; omega), rfl⟩, ?_⟩
      rw [e1]
      refine ⟨_, _, _, _, ps', rfl, Same.off s1 Rd0, upd_same .., by omega, fun p hp => ?_⟩
      rw [e2] at hp
      by_cases z : p.1 = n
      · rw [if_pos z] at hp
        rw [z, ← Option.some.inj hp]
        exact ⟨hnk, _, hen0⟩
      · rw [if_neg z] at hp
        exact hps p hp
    · rintro σ H2 ⟨_, _, _, _, ps, rfl, s1, d1, hpl, hps⟩
      refine ⟨s1 _ _ eR, ?_⟩
      generalize hH3 : upd H2 e (.dK es) = H3
      have s3 : Same H H3 := by
        rw [← hH3]
        refine sH.trans (Same.trans ?_ (frz_backd (sH0 _ _ he) (by rw [hHf, hR]; exact s1)))
        rw [← hH0, del_upd]
        exact del_of hd
      have d3 : H3 d = some (.dK (pI ps)) := by rw [← hH3]; exact upd_at_ne d1 hed.symm
      refine ⟨_, rfl, d, ps, rfl, .inl d3, by rw [hE.len] at hpl; omega, fun q r H4 s4 hq hr1 hr2 => ?_⟩
      refine ⟨_, rfl, zl rfl, fun c hc => ⟨_, _, dp_list (same_new hc _ _ hq), dp_nil (upd_same ..), shaped_ints r, rfl, _, rfl, ?_⟩⟩
      rw [eqv_nil_ints]
      refine ite2 (fun h2 => ?_) (fun h2 => k _ _ ((s3.trans s4).trans (same_new hc)) ⟨.inl ⟨rfl, hnb⟩, fun _ => rfl⟩)
      refine ⟨_, rfl, zl rfl, fun p hp => k _ _ (((s3.trans s4).trans (same_new hc)).trans (same_new hp)) ⟨.inr ⟨p, _, _, rfl, upd_same .., ?_⟩, fun ho => ?_⟩⟩
      · exact ⟨fun z => by rcases z with z | z | z <;> exact absurd z (by decide), fun z => absurd z hnb⟩
      · exfalso
        obtain ⟨rk, hrk⟩ := ho.2.rk
        have hrne : r ≠ [] := by simpa using h2
        obtain ⟨y, hy⟩ := List.exists_mem_of_ne_nil r hrne
        exact Nat.lt_irrefl _ (rank_no_ring (rk := rk) (fun a b hab => by
          obtain ⟨q1, a', q2⟩ := hps (a, b) hab
          exact hrk _ _ _ q2 q1) (hr2 y hy).2)
end
end K81
set_option maxHeartbeats 4000000
namespace K81
open PySem PySem.Spec PyProof.Rows L2
def spLooked (K : PySem.W.Frag) : Sp := fun vs H Q _ => ∃ (tab : V) (t : List Row), vs = [tab] ∧ TabAt K H tab t ∧ Fine t ∧ Small 63 1000 t ∧ ∀ v H', Same H H' → Told t H' v → Q v H'
/-- behind a new thing: what the constructor met -/
theorem make_same {H : Hp} {x dx : Addr} {o u : HO} (hx : H x = none) (hdx : H dx = none) (hne : dx ≠ x) : Same H (del (upd (upd H dx o) x u) x) := by
  rw [del_upd]
  exact fun b q h => del_at (upd_at_ne h (ne_of_none h hdx)) (ne_of_none h hx)
section
variable {P : Program} {w : World} {K : PySem.W.Frag} {mg : Str → Option Value} {base : Heap}
abbrev N_looked : List Str := ["table", "twice"]
theorem sc_looked : FnScope N_looked ["table"] (defScope s_looked) := ⟨rfl, rfl, rfl, by decide +kernel, rfl, by decide +kernel, by decide +kernel⟩
theorem ok_looked (T : Tx K mg base) : OkD P w K mg base d_looked.at_ 4 ["table"] (spLooked K) := by
  have G_twice_in := ok_twice_in (P := P) (w := w) T
  have G_fault_in := ok_fault_in (P := P) (w := w) T
  have G_Looking_init := ok_Looking_init (P := P) (w := w) T
  refine okD_of T.F_looked sc_looked (fun _ _ _ _ _ _ us hl => match us, hl with | [_], _ => rfl) (fun vs H Q E h => ?_) (fun cdv A outer s H vs Q E hr h => ?_)
  · obtain ⟨tab, t, rfl, _⟩ := h
    rfl
  · obtain ⟨tab, t, rfl, ht, hfine, hsm, k⟩ := h
    have hu := hu_of hr
    refine ⟨_, (pss_cons (ps_set (i := 1) sc_looked.nd rfl (by first | exact Or.inl rfl | exact Or.inr rfl) (pe_callO G_twice_in hr (by decide) T.g_twice_in (pa_cons (pv 0) pa_nil)))
      (pss_cons (ps_if (pt_cmpR (op_neD hr.units) (pv 1) (pe_lst pa_nil) (nomark _)) (pss_one (ps_ret (pe_tup (pa_cons pe_str (pa_cons (pe_ix (ix_listK K) (pv 1) pe_int (fun _ _ => rfl)) pa_nil))))) pss_nil)
      (pss_one (ps_ret (pe_callO G_fault_in hr (by decide) T.g_fault_in (pa_cons (pe_makeO G_Looking_init hr (by decide) T.k_Looking T.g_Looking (pa_cons (pv 0) pa_nil)) pa_nil)))))), ?_⟩
    have hrows := hsm.rows
    refine ⟨_, rfl, tab, t, rfl, ht, by omega, fun q r H1 s1 hq hr0 => ?_⟩
    refine ⟨_, rfl, zl rfl, fun e he => ⟨_, _, dp_list (same_new he _ _ hq), dp_nil (upd_same ..), shaped_ints r, rfl, _, rfl, ?_⟩⟩
    have s2 : Same H (upd H1 e (.lst [])) := s1.trans (same_new he)
    have hq2 := same_new (o := .lst []) he _ _ hq
    generalize upd H1 e (.lst []) = H2 at s2 hq2
    rw [eqv_nil_ints]
    refine ite2 (fun h2 => ?_) (fun h2 => ?_)
    · have hrne : r ≠ [] := by simpa using h2
      have hb : Beyond t := .inl fun z => hrne (hr0.mpr z)
      cases r with
      | nil => exact absurd rfl hrne
      | cons a r =>
        exact ⟨_, rfl, _, _, _, _, rfl, rfl, SqL.of hq2, at0, zl rfl, fun p hp => k _ _ (s2.trans (same_new hp)) ⟨.inr ⟨p, _, _, rfl, upd_same .., fun _ => hb, fun _ => .inl rfl⟩, fun ho => absurd hb ho.1⟩⟩
    · have hre : r = [] := by simpa using h2
      have hn := hr0.mp hre
      refine ⟨_, rfl, fun x dx hx hdx hne => ⟨x, tab, t, dx, rfl, upd_same .., ?_, hn, hsm, fun H3 s3 hL => ⟨rfl, x, t, rfl, hL, hn, hfine, hsm, fun v H4 s4 hv => ?_⟩⟩⟩
      · exact ht.same (s2.trans (make_same hx hdx hne))
      · exact k v H4 (((s2.trans (make_same hx hdx hne)).trans s3).trans s4) hv
end
end K81
set_option maxHeartbeats 4000000
namespace K81
open PySem PySem.Spec PyProof.Rows L2
theorem nodup_keyg {α β : Type} {f : α → β} {l : List α} (hn : (l.map f).Nodup) {x y : α} (hx : x ∈ l) (hy : y ∈ l) (e : f x = f y) : x = y := by
  induction l with
  | nil => cases hx
  | cons a l ih =>
    have hn' := List.nodup_cons.mp hn
    rcases List.mem_cons.mp hx with hx | hx
    · rcases List.mem_cons.mp hy with hy | hy
      · rw [hx, hy]
      · exact absurd (List.mem_map.mpr ⟨y, hy, by rw [← e, hx]⟩) hn'.1
    · rcases List.mem_cons.mp hy with hy | hy
      · exact absurd (List.mem_map.mpr ⟨x, hx, by rw [e, hy]⟩) hn'.1
      · exact ih hn'.2 hx hy
/-! ### dicts of names -/
def getS (es : List (Str × Int)) (a : Str) : Option Int := (es.find? fun e => decide (e.1 = a)).map (·.2)
theorem getS_mem {es : List (Str × Int)} {a : Str} {n : Int} (h : getS es a = some n) : (a, n) ∈ es := by
  unfold getS at h
  obtain ⟨p, hp, e⟩ := Option.map_eq_some_iff.mp h
  have h1 := List.mem_of_find?_eq_some hp
  have h2 : p.1 = a := of_decide_eq_true (List.find?_some (p := fun e : Str × Int => decide (e.1 = a)) hp)
  rw [show (a, n) = p from Prod.ext h2.symm e.symm]
  exact h1
theorem getS_none {es : List (Str × Int)} {a : Str} : getS es a = none ↔ a ∉ es.map (·.1) := by
  unfold getS
  rw [Option.map_eq_none_iff, List.find?_eq_none]
  constructor
  · intro h hm
    obtain ⟨p, hp, e⟩ := List.mem_map.mp hm
    exact h p hp (decide_eq_true e)
  · intro h p hp e
    exact h (List.mem_map.mpr ⟨p, hp, of_decide_eq_true e⟩)
theorem getS_of {es : List (Str × Int)} (hn : (es.map (·.1)).Nodup) {a : Str} {n : Int} (h : (a, n) ∈ es) : getS es a = some n := by
  cases e : getS es a with
  | none => exact absurd (List.mem_map.mpr ⟨_, h, rfl⟩) (getS_none.mp e)
  | some m =>
    have h2 := getS_mem e
    have : (a, n) = (a, m) := by
      induction es with
      | nil => cases h
      | cons p r ih =>
        have hn' := List.nodup_cons.mp hn
        rcases List.mem_cons.mp h with h | h
        · rcases List.mem_cons.mp h2 with h2 | h2
          · rw [h, h2]
          · exact absurd (List.mem_map.mpr ⟨_, h2, by rw [← h]⟩) hn'.1
        · rcases List.mem_cons.mp h2 with h2 | h2
          · exact absurd (List.mem_map.mpr ⟨_, h, by rw [← h2]⟩) hn'.1
          · refine ih hn'.2 h ?_ h2
            have : ¬ p.1 = a := fun q => hn'.1 (List.mem_map.mpr ⟨_, h, q.symm⟩)
            rw [← e]
            unfold getS
            rw [List.find?_cons]
            simp [this]
    rw [(Prod.mk.inj this).2]
theorem valV_dkI (es : List (Str × Int)) (a : Str) : valV (dkI es) (Sum.inr a) = (getS es a).map V.int := by
  induction es with
  | nil => rfl
  | cons p r ih =>
    by_cases e : p.1 = a
    · rw [show dkI (p :: r) = (Sum.inr p.1, V.int p.2) :: dkI r from rfl, valV_pos (congrArg Sum.inr e)]
      simp [getS, e]
    · rw [show dkI (p :: r) = (Sum.inr p.1, V.int p.2) :: dkI r from rfl, valV_neg (fun q => e (Sum.inr.inj q)), ih]
      simp [getS, List.find?_cons, e]
theorem dkI_put {es : List (Str × Int)} {a : Str} {n : Int} (h : a ∉ es.map (·.1)) : putK (dkI es) (Sum.inr a) (.int n) = dkI (es ++ [(a, n)]) := by
  unfold putK
  rw [valV_any, valV_dkI, getS_none.mpr h]
  simp [dkI]
def dropS (es : List (Str × Int)) (a : Str) : List (Str × Int) := es.filter fun e => decide (e.1 ≠ a)
theorem dkI_drop (es : List (Str × Int)) (a : Str) : dropK (dkI es) (Sum.inr a) = dkI (dropS es a) := by
  unfold dropK dkI dropS
  rw [List.filter_map]
  congr 1
  refine List.filter_congr fun p _ => ?_
  simp only [Function.comp]
  by_cases e : p.1 = a
  · simp [e]
  · simp [e]
theorem dropS_mem {es : List (Str × Int)} {a b : Str} {n : Int} : (b, n) ∈ dropS es a ↔ (b, n) ∈ es ∧ b ≠ a := by
  unfold dropS
  rw [List.mem_filter]
  simp
theorem dropS_nodup {es : List (Str × Int)} {a : Str} (h : (es.map (·.1)).Nodup) : ((dropS es a).map (·.1)).Nodup := h.sublist (List.filter_sublist.map _)
theorem dkI_len (es : List (Str × Int)) : (dkI es).length = es.length := List.length_map _
/-! ### folders in the heap -/
abbrev FAt : Type := List (Int × Addr × List (Str × Int))
def plainF (A : FAt) : List (Int × List (Str × Int)) := A.map fun x => (x.1, x.2.2)
def fKV (A : FAt) : List (Key × V) := A.map fun x => (Sum.inl x.1, V.ref x.2.1)
structure FoOn (H : Hp) (d : Addr) (A : FAt) : Prop where
  dict : H d = some (.dK (fKV A))
  inner : ∀ x ∈ A, H x.2.1 = some (.dK (dkI x.2.2))
  nums : (A.map (·.1)).Nodup
  addrs : (A.map (·.2.1)).Nodup
  out : d ∉ A.map (·.2.1)
  names : ∀ x ∈ A, (x.2.2.map (·.1)).Nodup
theorem fKV_dik (A : FAt) : Dik (·.1) (fun v (x : Int × Addr × List (Str × Int)) => v = .ref x.2.1) (fKV A) A := by
  unfold fKV
  induction A with
  | nil => exact .nil
  | cons x A ih => exact .cons ⟨rfl, rfl⟩ ih
theorem plainF_mem {A : FAt} {n : Int} {es : List (Str × Int)} : (n, es) ∈ plainF A ↔ ∃ a, (n, a, es) ∈ A := by
  unfold plainF
  rw [List.mem_map]
  constructor
  · rintro ⟨x, h, e⟩
    obtain ⟨rfl, rfl⟩ := Prod.mk.inj e
    exact ⟨x.2.1, h⟩
  · rintro ⟨a, h⟩
    exact ⟨_, h, rfl⟩
theorem plainF_keys (A : FAt) : (plainF A).map (·.1) = A.map (·.1) := by simp [plainF]
/-- a sheet of folders and files -/
def shF (F : List (Int × List (Str × Int))) (G : List (Int × Int × Str)) : Sh := ⟨fun n => ∃ es, (n, es) ∈ F, fun w a n => (w, a, n) ∈ flat F, fun n k c => (n, k, c) ∈ G⟩
theorem shT_eq (t : List Row) : shT t = shF (fo t) (fi t) := rfl
def On (K : PySem.W.Frag) (R H : Hp) (C p : Addr) (rest : List (Str × V)) (A : FAt) (G : List (Int × Int × Str)) : Prop := ∃ dx d e gs, H p = some (.ins C dx (("folders", .ref d) :: ("files", .ref e) :: rest)) ∧
  FoOn H d A ∧ H e = some (.dK gs) ∧ Dik (·.1) (FilV K H) gs G ∧ (G.map (·.1)).Nodup ∧ e ≠ d ∧ e ∉ A.map (·.2.1) ∧ Same R H ∧ R p = none ∧ R d = none ∧ R e = none ∧ ∀ x ∈ A, R x.2.1 = none
theorem FoOn.same {H H' : Hp} {d : Addr} {A : FAt} (s : Same H H') (h : FoOn H d A) : FoOn H' d A := ⟨s _ _ h.dict, fun x m => s _ _ (h.inner x m), h.nums, h.addrs, h.out, h.names⟩
theorem On.same {K : PySem.W.Frag} {R H H' : Hp} {C p : Addr} {rest : List (Str × V)} {A : FAt} {G : List (Int × Int × Str)} (s : Same H H') (h : On K R H C p rest A G) : On K R H' C p rest A G := by
  obtain ⟨dx, d, e, gs, h1, h2, h3, h4, h5, h6, h7, h8, h9⟩ := h
  exact ⟨dx, d, e, gs, s _ _ h1, h2.same s, s _ _ h3, h4.mono fun _ _ q => q.same s, h5, h6, h7, h8.trans s, h9⟩
section
variable {H : Hp} {d : Addr} {A : FAt}
theorem FoOn.get (h : FoOn H d A) {n : Int} {a : Addr} {es : List (Str × Int)} (m : (n, a, es) ∈ A) : valV (fKV A) (Sum.inl n) = some (.ref a) := by
  obtain ⟨v, h1, h2⟩ := (fKV_dik A).of h.nums m
  rw [h1, h2]
theorem fKV_none {n : Int} : valV (fKV A) (Sum.inl n) = none ↔ n ∉ A.map (·.1) := (fKV_dik A).non
theorem fKV_some (n : Int) : (valV (fKV A) (Sum.inl n)).isSome = decide (n ∈ A.map (·.1)) := (fKV_dik A).isSome
theorem fA_mem {n : Int} (h : n ∈ A.map (·.1)) : ∃ a es, (n, a, es) ∈ A := by
  obtain ⟨⟨m, a, es⟩, h1, rfl⟩ := List.mem_map.mp h
  exact ⟨a, es, h1⟩
theorem FoOn.uniq (h : FoOn H d A) {n : Int} {a b : Addr} {es fs : List (Str × Int)} (m : (n, a, es) ∈ A) (m2 : (n, b, fs) ∈ A) : a = b ∧ es = fs := by
  have := nodup_key (f := (·.1)) h.nums m m2 rfl
  exact ⟨(Prod.mk.inj (Prod.mk.inj this).2).1, (Prod.mk.inj (Prod.mk.inj this).2).2⟩
/-- one folder's entries anew -/
def setF (A : FAt) (w : Int) (es : List (Str × Int)) : FAt := A.map fun x => if x.1 = w then (x.1, x.2.1, es) else x
theorem setF_keys (A : FAt) (w : Int) (es : List (Str × Int)) : (setF A w es).map (·.1) = A.map (·.1) := by
  unfold setF
  rw [List.map_map]
  refine List.map_congr_left fun x _ => ?_
  by_cases e : x.1 = w <;> simp [e]
theorem setF_addrs (A : FAt) (w : Int) (es : List (Str × Int)) : (setF A w es).map (·.2.1) = A.map (·.2.1) := by
  unfold setF
  rw [List.map_map]
  refine List.map_congr_left fun x _ => ?_
  by_cases e : x.1 = w <;> simp [e]
theorem setF_kv (A : FAt) (w : Int) (es : List (Str × Int)) : fKV (setF A w es) = fKV A := by
  unfold setF fKV
  rw [List.map_map]
  refine List.map_congr_left fun x _ => ?_
  by_cases e : x.1 = w <;> simp [e]
theorem setF_mem {w : Int} {es : List (Str × Int)} {x : Int × Addr × List (Str × Int)} (hx : x ∈ setF A w es) : (x.1 = w ∧ x.2.2 = es ∧ ∃ fs, (x.1, x.2.1, fs) ∈ A) ∨ (x.1 ≠ w ∧ x ∈ A) := by
  obtain ⟨y, hy, rfl⟩ := List.mem_map.mp hx
  by_cases e : y.1 = w
  · rw [if_pos e]
    exact .inl ⟨e, rfl, y.2.2, hy⟩
  · rw [if_neg e]
    exact .inr ⟨e, hy⟩
theorem setF_self {w : Int} {es fs : List (Str × Int)} {a : Addr} (h : (w, a, fs) ∈ A) : (w, a, es) ∈ setF A w es := List.mem_map.mpr ⟨_, h, by simp⟩
theorem setF_other {w : Int} {es : List (Str × Int)} {x : Int × Addr × List (Str × Int)} (h : x ∈ A) (n : x.1 ≠ w) : x ∈ setF A w es := List.mem_map.mpr ⟨x, h, by simp [n]⟩
theorem FoOn.set (h : FoOn H d A) {w : Int} {a : Addr} {fs es : List (Str × Int)} (m : (w, a, fs) ∈ A) (hn : (es.map (·.1)).Nodup) : FoOn (upd H a (.dK (dkI es))) d (setF A w es) := by
  have hda : d ≠ a := fun e => h.out (List.mem_map.mpr ⟨_, m, e.symm⟩)
  refine ⟨?_, fun x hx => ?_, by rw [setF_keys]; exact h.nums, by rw [setF_addrs]; exact h.addrs, by rw [setF_addrs]; exact h.out, fun x hx => ?_⟩
  · rw [setF_kv]
    exact upd_at_ne h.dict hda
  · rcases setF_mem hx with ⟨e1, e2, gs, hg⟩ | ⟨e1, hx⟩
    · rw [e1] at hg
      obtain ⟨q, _⟩ := h.uniq m hg
      rw [← q, upd_same, e2]
    · have : x.2.1 ≠ a := fun e => e1 (congrArg (·.1) (nodup_keyg (f := fun x : Int × Addr × List (Str × Int) => x.2.1) h.addrs hx m e))
      exact upd_at_ne (h.inner x hx) this
  · rcases setF_mem hx with ⟨e1, e2, gs, hg⟩ | ⟨e1, hx⟩
    · rw [e2]; exact hn
    · exact h.names x hx
end
section
variable {K : PySem.W.Frag} {R H : Hp} {C p : Addr} {rest : List (Str × V)} {A : FAt} {G : List (Int × Int × Str)}
theorem FilV.upd {v : V} {x : Int × Int × Str} {q : Addr} {o o' : HO} (h : FilV K H v x) (hp : H q = some o') (h1 : ∀ ys, o' ≠ .tup ys) (h2 : ∀ od ys, o' ≠ .frz od (.tup ys)) : FilV K (L2.upd H q o) v x := let ⟨t, a, b⟩ := h; ⟨t, a, sqT_upd b hp h1 h2⟩
/-- the entries of a folder anew -/
theorem On.set (h : On K R H C p rest A G) {w : Int} {a : Addr} {fs es : List (Str × Int)} (m : (w, a, fs) ∈ A) (hn : (es.map (·.1)).Nodup) : On K R (upd H a (.dK (dkI es))) C p rest (setF A w es) G := by
  obtain ⟨dx, d, e, gs, h1, h2, h3, h4, h5, h6, h7, h8, h9, h10, h11, h12⟩ := h
  have ha := h2.inner _ m
  have hpa : p ≠ a := ne_of_kinds h1 ha (fun z => by cases z)
  have hea : e ≠ a := fun z => h7 (List.mem_map.mpr ⟨_, m, z.symm⟩)
  refine ⟨dx, d, e, gs, upd_at_ne h1 hpa, h2.set m hn, upd_at_ne h3 hea, h4.mono fun _ _ q => q.upd ha (fun _ z => by cases z) (fun _ _ z => by cases z), h5, h6, by rw [setF_addrs]; exact h7, Same.off h8 (h12 _ m), h9, h10, h11, fun x hx => ?_⟩
  rcases setF_mem hx with ⟨_, _, gs, hg⟩ | ⟨_, hx⟩
  · have := h12 _ hg; exact this
  · exact h12 x hx
end
end K81
set_option maxHeartbeats 4000000
namespace K81
open PySem PySem.Spec PyProof.Rows L2
theorem Sh.ext' {s s' : Sh} (h1 : ∀ n, s.fk n ↔ s'.fk n) (h2 : ∀ w a n, s.en w a n ↔ s'.en w a n) (h3 : ∀ n k c, s.fi n k c ↔ s'.fi n k c) : s = s' := by
  obtain ⟨a, b, c⟩ := s
  obtain ⟨a', b', c'⟩ := s'
  have e1 : a = a' := funext fun n => propext (h1 n)
  have e2 : b = b' := funext fun w => funext fun x => funext fun n => propext (h2 w x n)
  have e3 : c = c' := funext fun w => funext fun x => funext fun n => propext (h3 w x n)
  rw [e1, e2, e3]
/-! ### the rows of a sheet, in order -/
structure FineO (F : List (Int × List (Str × Int))) (G : List (Int × Int × Str)) : Prop where
  ents : ∀ w es, (w, es) ∈ F → ∀ e ∈ es, isName e.1 = true ∧ 0 ≤ e.2 ∧ e.2 < 100000
  fk : ∀ n ∈ F.map (·.1), 0 ≤ n ∧ n < 100000
  gk : ∀ n ∈ G.map (·.1), 0 ≤ n ∧ n < 100000
  text : ∀ n k c, (n, k, c) ∈ G → PyData.strOk c = true ∧ c.length ≤ 1000
theorem Fine.o {t : List Row} (h : Fine t) : FineO (fo t) (fi t) := ⟨h.ents, fun n m => h.nums n ((fo_nums t).subset m), fun n m => h.nums n ((fi_nums t).subset m), h.text⟩
/-- nothing is there twice -/
structure OnceO (F : List (Int × List (Str × Int))) (G : List (Int × Int × Str)) : Prop where
  fk : (F.map (·.1)).Nodup
  gk : (G.map (·.1)).Nodup
  dis : ∀ n ∈ F.map (·.1), n ∉ G.map (·.1)
  names : ∀ w es, (w, es) ∈ F → (es.map (·.1)).Nodup
theorem nums_perm : ∀ t : List Row, (nums t).Perm ((fo t).map (·.1) ++ (fi t).map (·.1))
  | [] => List.Perm.refl _
  | .fold n es :: t => (nums_perm t).cons n
  | .file n k c :: t => ((nums_perm t).cons n).trans (List.perm_middle.symm)
theorem Once.o {t : List Row} (h : Once t) : OnceO (K81.fo t) (K81.fi t) := by
  have hp := (nums_perm t).nodup h.nums
  obtain ⟨h1, h2, h3⟩ := List.nodup_append.mp hp
  exact ⟨h1, h2, fun n m m2 => h3 n m n m2 rfl, h.names⟩
def rowOf (F : List (Int × List (Str × Int))) (G : List (Int × Int × Str)) (n : Int) : Row :=
  match F.find? fun x => decide (x.1 = n) with
  | some x => .fold n (x.2.mergeSort ile)
  | none => match G.find? fun x => decide (x.1 = n) with
    | some y => .file n y.2.1 y.2.2
    | none => .file n 0 ""
def canonT (F : List (Int × List (Str × Int))) (G : List (Int × Int × Str)) (ks : List Int) : List Row := ks.map (rowOf F G)
theorem find_of {α : Type} {l : List (Int × α)} (hn : (l.map (·.1)).Nodup) {n : Int} {y : α} (h : (n, y) ∈ l) : (l.find? fun x => decide (x.1 = n)) = some (n, y) := by
  cases e : l.find? fun x => decide (x.1 = n) with
  | none => have := List.find?_eq_none.mp e _ h; simp at this
  | some z =>
    have h1 := List.mem_of_find?_eq_some e
    have h2 : z.1 = n := of_decide_eq_true (List.find?_some (p := fun x : Int × α => decide (x.1 = n)) e)
    rw [nodup_keyg (f := (·.1)) hn h1 h h2]
theorem find_no {α : Type} {l : List (Int × α)} {n : Int} (h : n ∉ l.map (·.1)) : (l.find? fun x => decide (x.1 = n)) = none :=
  List.find?_eq_none.mpr fun x hx e => h (List.mem_map.mpr ⟨x, hx, of_decide_eq_true e⟩)
section
variable {F : List (Int × List (Str × Int))} {G : List (Int × Int × Str)} {ks : List Int}
theorem rowOf_fold (h : OnceO F G) {n : Int} {es : List (Str × Int)} (m : (n, es) ∈ F) : rowOf F G n = .fold n (es.mergeSort ile) := by
  unfold rowOf
  rw [find_of h.fk m]
theorem rowOf_file (h : OnceO F G) {n k : Int} {c : Str} (m : (n, k, c) ∈ G) : rowOf F G n = .file n k c := by
  unfold rowOf
  rw [find_no (fun q => h.dis n q (List.mem_map.mpr ⟨_, m, rfl⟩)), find_of h.gk m]
theorem rowOf_num (n : Int) : (rowOf F G n).num = n := by
  unfold rowOf
  cases F.find? fun x => decide (x.1 = n) with
  | some x => rfl
  | none =>
    cases G.find? fun x => decide (x.1 = n) with
    | some y => rfl
    | none => rfl
theorem canon_nums : nums (canonT F G ks) = ks := by
  unfold nums canonT
  rw [List.map_map, show Row.num ∘ rowOf F G = id from funext fun n => rowOf_num n, List.map_id]
theorem canon_fo (h : OnceO F G) (hk : ks.Perm (F.map (·.1) ++ G.map (·.1))) {n : Int} {es : List (Str × Int)} : (n, es) ∈ fo (canonT F G ks) ↔ ∃ fs, (n, fs) ∈ F ∧ es = fs.mergeSort ile := by
  rw [mem_fo]
  unfold canonT
  rw [List.mem_map]
  constructor
  · rintro ⟨m, hm, e⟩
    have hm2 := hk.subset hm
    rcases List.mem_append.mp hm2 with q | q
    · obtain ⟨⟨m', fs⟩, h1, rfl⟩ := List.mem_map.mp q
      rw [rowOf_fold h h1] at e
      injection e with e1 e2
      exact ⟨fs, by rw [← e1]; exact h1, e2.symm⟩
    · obtain ⟨⟨m', k, c⟩, h1, rfl⟩ := List.mem_map.mp q
      rw [rowOf_file h h1] at e
      cases e
  · rintro ⟨fs, h1, rfl⟩
    exact ⟨n, hk.symm.subset (List.mem_append.mpr (.inl (List.mem_map.mpr ⟨_, h1, rfl⟩))), rowOf_fold h h1⟩
theorem canon_fi (h : OnceO F G) (hk : ks.Perm (F.map (·.1) ++ G.map (·.1))) {n k : Int} {c : Str} : (n, k, c) ∈ fi (canonT F G ks) ↔ (n, k, c) ∈ G := by
  rw [mem_fi]
  unfold canonT
  rw [List.mem_map]
  constructor
  · rintro ⟨m, hm, e⟩
    have hm2 := hk.subset hm
    rcases List.mem_append.mp hm2 with q | q
    · obtain ⟨⟨m', fs⟩, h1, rfl⟩ := List.mem_map.mp q
      rw [rowOf_fold h h1] at e
      cases e
    · obtain ⟨⟨m', k', c'⟩, h1, rfl⟩ := List.mem_map.mp q
      rw [rowOf_file h h1] at e
      injection e with e1 e2 e3
      rw [← e1, ← e2, ← e3]
      exact h1
  · intro h1
    exact ⟨n, hk.symm.subset (List.mem_append.mpr (.inr (List.mem_map.mpr ⟨_, h1, rfl⟩))), rowOf_file h h1⟩
theorem canon_sh (h : OnceO F G) (hk : ks.Perm (F.map (·.1) ++ G.map (·.1))) : shT (canonT F G ks) = shF F G := by
  refine Sh.ext' (fun n => ?_) (fun w a n => ?_) (fun n k c => canon_fi h hk)
  · constructor
    · rintro ⟨es, q⟩
      obtain ⟨fs, h1, _⟩ := (canon_fo h hk).mp q
      exact ⟨fs, h1⟩
    · rintro ⟨fs, q⟩
      exact ⟨_, (canon_fo h hk).mpr ⟨fs, q, rfl⟩⟩
  · show (w, a, n) ∈ flat _ ↔ (w, a, n) ∈ flat F
    rw [mem_flat, mem_flat]
    constructor
    · rintro ⟨es, h1, h2⟩
      obtain ⟨fs, h3, rfl⟩ := (canon_fo h hk).mp h1
      exact ⟨fs, h3, (srt_perm encI fs).subset h2⟩
    · rintro ⟨fs, h1, h2⟩
      exact ⟨_, (canon_fo h hk).mpr ⟨fs, h1, rfl⟩, (srt_perm encI fs).symm.subset h2⟩
structure Canon (t : List Row) : Prop where
  nums : (nums t).Pairwise (· < ·)
  ents : ∀ w es, (w, es) ∈ fo t → es.Pairwise fun a b => slt a.1 b.1
theorem OnceO.nodup (h : OnceO F G) : (F.map (·.1) ++ G.map (·.1)).Nodup := List.nodup_append.mpr ⟨h.fk, h.gk, fun a ha b hb e => h.dis a ha (by rw [e]; exact hb)⟩
theorem canon_canon (h : OnceO F G) (hk : ks.Perm (F.map (·.1) ++ G.map (·.1))) (hs : ks.Pairwise (· ≤ ·)) : Canon (canonT F G ks) := by
  refine ⟨?_, fun w es m => ?_⟩
  · rw [canon_nums]
    have hn : ks.Nodup := hk.symm.nodup h.nodup
    exact (hs.and hn).imp fun {a b} q => by
      have h1 := q.1
      have h2 : a ≠ b := q.2
      omega
  · obtain ⟨fs, h1, rfl⟩ := (canon_fo h hk).mp m
    exact isort_strict (h.names w fs h1)
theorem Canon.once {t : List Row} (h : Canon t) : Once t := ⟨h.nums.imp fun {a b} q e => by rw [e] at q; exact Int.lt_irrefl _ q, fun w es m => List.pairwise_map.mpr ((h.ents w es m).imp fun q => slt_ne q)⟩
theorem canon_fine (h : OnceO F G) (hf : FineO F G) (hk : ks.Perm (F.map (·.1) ++ G.map (·.1))) : Fine (canonT F G ks) := by
  refine ⟨fun w es m e he => ?_, fun n hn => ?_, fun n k c m => hf.text n k c ((canon_fi h hk).mp m)⟩
  · obtain ⟨fs, h1, rfl⟩ := (canon_fo h hk).mp m
    exact hf.ents w fs h1 e ((srt_perm encI fs).subset he)
  · rw [canon_nums] at hn
    rcases List.mem_append.mp (hk.subset hn) with q | q
    · exact hf.fk n q
    · exact hf.gk n q
theorem canon_small (h : OnceO F G) (hk : ks.Perm (F.map (·.1) ++ G.map (·.1))) {a b : Nat} (ha : F.length + G.length ≤ a) (hb : ∀ w es, (w, es) ∈ F → es.length ≤ b) : Small a b (canonT F G ks) := by
  refine ⟨?_, fun w es m => ?_⟩
  · unfold canonT
    rw [List.length_map, hk.length_eq, List.length_append, List.length_map, List.length_map]
    exact ha
  · obtain ⟨fs, h1, rfl⟩ := (canon_fo h hk).mp m
    rw [List.length_mergeSort]
    exact hb w fs h1
end
/-! ### two tables in order that say the same are the same -/
theorem lt_list_eq {l m : List Int} (h1 : l.Pairwise (· < ·)) (h2 : m.Pairwise (· < ·)) (h : ∀ n, n ∈ l ↔ n ∈ m) : l = m := by
  have n1 : l.Nodup := h1.imp fun {a b} q e => by rw [e] at q; exact Int.lt_irrefl _ q
  have n2 : m.Nodup := h2.imp fun {a b} q e => by rw [e] at q; exact Int.lt_irrefl _ q
  exact List.Perm.eq_of_pairwise (fun a b _ _ q1 q2 => by omega) h1 h2 ((List.perm_ext_iff_of_nodup n1 n2).mpr h)
theorem slt_list_eq {l m : List (Str × Int)} (h1 : l.Pairwise fun a b => slt a.1 b.1) (h2 : m.Pairwise fun a b => slt a.1 b.1) (h : ∀ e, e ∈ l ↔ e ∈ m) : l = m := by
  have n1 : l.Nodup := h1.imp fun {a b} q e => by rw [e] at q; exact slt_irrefl _ q
  have n2 : m.Nodup := h2.imp fun {a b} q e => by rw [e] at q; exact slt_irrefl _ q
  exact List.Perm.eq_of_pairwise (fun a b _ _ q1 q2 => absurd (slt_trans q1 q2) (slt_irrefl _)) h1 h2 ((List.perm_ext_iff_of_nodup n1 n2).mpr h)
theorem rows_eq : ∀ {t u : List Row}, nums t = nums u → (∀ r ∈ t, ∀ r' ∈ u, r.num = r'.num → r = r') → t = u
  | [], [], _, _ => rfl
  | [], _ :: _, h, _ => by simp [nums] at h
  | _ :: _, [], h, _ => by simp [nums] at h
  | r :: t, r' :: u, h, hr => by
    simp only [nums, List.map_cons, List.cons.injEq] at h
    rw [hr r List.mem_cons_self r' List.mem_cons_self h.1, rows_eq (t := t) (u := u) h.2 fun a ha b hb => hr a (List.mem_cons_of_mem _ ha) b (List.mem_cons_of_mem _ hb)]
theorem canon_eq {t u : List Row} (ht : Canon t) (hu : Canon u) (h : shT t = shT u) : t = u := by
  have hfk : ∀ n, (∃ es, (n, es) ∈ fo t) ↔ ∃ es, (n, es) ∈ fo u := fun n => by
    have := congrArg (fun s : Sh => s.fk n) h
    exact Iff.of_eq this
  have hfi : ∀ n k c, (n, k, c) ∈ fi t ↔ (n, k, c) ∈ fi u := fun n k c => by
    have := congrArg (fun s : Sh => s.fi n k c) h
    exact Iff.of_eq this
  have hen : ∀ w a n, (w, a, n) ∈ flat (fo t) ↔ (w, a, n) ∈ flat (fo u) := fun w a n => by
    have := congrArg (fun s : Sh => s.en w a n) h
    exact Iff.of_eq this
  have h1 : nums t = nums u := lt_list_eq ht.nums hu.nums fun n => by
    rw [nums_mem, nums_mem, hfk n]
    constructor
    · rintro (q | ⟨k, c, q⟩)
      · exact .inl q
      · exact .inr ⟨k, c, (hfi n k c).mp q⟩
    · rintro (q | ⟨k, c, q⟩)
      · exact .inl q
      · exact .inr ⟨k, c, (hfi n k c).mpr q⟩
  have ot := ht.once
  have ou := hu.once
  refine rows_eq h1 fun r hr r' hr' e => ?_
  have uniq : ∀ x ∈ u, x.num = r'.num → x = r' := fun x hx q => nodup_keyg (f := Row.num) ou.nums hx hr' q
  cases r with
  | fold n es =>
    obtain ⟨es', q⟩ := (hfk n).mp ⟨es, mem_fo.mpr hr⟩
    have q2 := mem_fo.mp q
    have q3 := uniq _ q2 e
    rw [← q3]
    have : es = es' := slt_list_eq (ht.ents n es (mem_fo.mpr hr)) (hu.ents n es' q) fun x => by
      have a1 := en_iff ot.fo (mem_fo.mpr hr) (n := x.2) (a := x.1)
      have a2 := en_iff ou.fo q (n := x.2) (a := x.1)
      exact a1.symm.trans ((hen n x.1 x.2).trans a2)
    rw [this]
  | file n k c =>
    have q2 := mem_fi.mp ((hfi n k c).mp (mem_fi.mpr hr))
    exact uniq _ q2 e
end K81
set_option maxHeartbeats 4000000
namespace K81
open PySem PySem.Spec PyProof.Rows L2
/-- the rows of a sheet (a Shelf's, a Mending's) -/
def spRows (K : PySem.W.Frag) (C : Addr) : Sp := fun vs H Q _ => ∃ (p : Addr) (R : Hp) (rest : List (Str × V)) (A : FAt) (G : List (Int × Int × Str)), vs = [.ref p] ∧ On K R H C p rest A G ∧ OnceO (plainF A) G ∧ A.length + G.length ≤ 1000 ∧ (∀ w es, (w, es) ∈ plainF A → es.length ≤ 10000) ∧
  ∀ v ks H', Same H H' → ks.Perm ((plainF A).map (·.1) ++ G.map (·.1)) → ks.Pairwise (· ≤ ·) → TabAt K H' v (canonT (plainF A) G ks) → Q v H'
section
variable {P : Program} {w : World} {K : PySem.W.Frag} {mg : Str → Option Value} {base : Heap}
abbrev N_rows_of : List Str := ["shelf", "rows", "number"]
theorem sc_rows_of : FnScope N_rows_of ["shelf"] (defScope s_rows_of) := ⟨rfl, rfl, rfl, by decide +kernel, rfl, by decide +kernel, by decide +kernel⟩
theorem ok_rows_of (T : Tx K mg base) : OkD P w K mg base d_rows_of.at_ 1 ["shelf"] (spRows K (He.ga K "Shelf")) := by
  refine okD_of T.F_rows_of sc_rows_of (fun _ _ _ _ _ _ us hl => match us, hl with | [_], _ => rfl) (fun vs H Q E h => ?_) (fun cdv A outer s H vs Q E hr h => ?_)
  · obtain ⟨p, R, rest, A, G, rfl, _⟩ := h
    rfl
  · obtain ⟨p, R, rest, A, G, rfl, hOn, hO, hz, hz2, k⟩ := h
    have hu := hu_of hr
    refine ⟨_, (pss_cons (ps_set (i := 1) sc_rows_of.nd rfl (by first | exact Or.inl rfl | exact Or.inr rfl) (pe_lst pa_nil))
      (pss_cons (ps_for PassesOwn.never rfl (pi_list (pe_callB cr_sortedI (by rfl) T.z_sorted (show bootBuiltins "sorted" = some (.builtin "sorted") by decide +kernel) (pa_cons (pe_op op_cat (pe_callTy (call_listD rfl) (by rfl) T.z_list (show bootBuiltins "list" = some (.type "list") by decide +kernel) (pa_cons (pe_fldK K (pv 0) rfl) pa_nil)) (pe_callTy (call_listD rfl) (by rfl) T.z_list (show bootBuiltins "list" = some (.type "list") by decide +kernel) (pa_cons (pe_fldK K (pv 0) rfl) pa_nil))) pa_nil))) (pg_name (i := 2) sc_rows_of.nd rfl (by first | exact Or.inl rfl | exact Or.inr rfl)) (pss_one (ps_if (pt_cmp (pc_din hu (pv 2) (pe_fldK K (pv 0) rfl))) (pss_one (ps_expr (pe_bm PySem.F.plainAttrs_list PySem.F.slot_list_append PySem.F.type_list_append mt_append (pv 1) (pa_cons (pe_tup (pa_cons pe_str (pa_cons (pv 2) (pa_cons (pe_sortedItems rfl hr.units (pe_dget hu (pe_fldK K (pv 0) rfl) (pv 2) (fun _ _ => rfl)) (by rfl) T.z_sorted (by decide +kernel)) pa_nil)))) pa_nil)))) (pss_one (ps_expr (pe_bm PySem.F.plainAttrs_list PySem.F.slot_list_append PySem.F.type_list_append mt_append (pv 1) (pa_cons (pe_op (op_catAK K) (pe_tup (pa_cons pe_str (pa_cons (pv 2) pa_nil))) (pe_dget hu (pe_fldK K (pv 0) rfl) (pv 2) (fun _ _ => rfl))) pa_nil)))))))
      (pss_one (ps_ret (pv 1))))), ?_⟩
    obtain ⟨dx, d, e, gs, hi, hA, he, hG, hGn, hed, heA, sR, Rp, Rdd, Re, RA⟩ := hOn
    refine ⟨zl rfl, fun p0 hp0 => ?_⟩
    obtain ⟨H0, hH0⟩ : ∃ z, z = upd H p0 (.lst []) := ⟨_, rfl⟩
    rw [← hH0]
    have at_p0 : H0 p0 = some (.lst []) := by rw [hH0, upd_same]
    have s_H0 : Same H H0 := by rw [hH0]; exact same_new hp0
    clear hH0
    refine ⟨_, rfl, _, _, _, _, _, rfl, s_H0 _ _ hi, T.c_Shelf, T.n_Shelf_folders, rfl, _, _, rfl, .inl (s_H0 _ _ hA.dict), fun p1 hp1 => ?_⟩
    have e1 : ((fKV A).map fun kv => kV kv.1) = (A.map (·.1)).map V.int := by simp [fKV, kV]
    rw [e1]
    obtain ⟨H1, hH1⟩ : ∃ z, z = upd H0 p1 (.lst ((A.map (·.1)).map V.int)) := ⟨_, rfl⟩
    rw [← hH1]
    have at_p1 : H1 p1 = some (.lst ((A.map (·.1)).map V.int)) := by rw [hH1, upd_same]
    have s_H1 : Same H0 H1 := by rw [hH1]; exact same_new hp1
    clear hH1
    have s1 := s_H0.trans s_H1
    refine ⟨_, rfl, _, _, _, _, _, rfl, s1 _ _ hi, T.c_Shelf, T.n_Shelf_files, rfl, _, _, rfl, .inl (s1 _ _ he), fun p2 hp2 => ?_⟩
    have e2 : (gs.map fun kv => kV kv.1) = (G.map (·.1)).map V.int := by
      have := congrArg (List.map kV) hG.keys
      simpa [List.map_map, Function.comp_def, kV] using this
    rw [e2]
    obtain ⟨H2, hH2⟩ : ∃ z, z = upd H1 p2 (.lst ((G.map (·.1)).map V.int)) := ⟨_, rfl⟩
    rw [← hH2]
    have at_p2 : H2 p2 = some (.lst ((G.map (·.1)).map V.int)) := by rw [hH2, upd_same]
    have s_H2 : Same H1 H2 := by rw [hH2]; exact same_new hp2
    clear hH2
    refine ⟨_, _, _, _, rfl, rfl, s_H2 _ _ at_p1, at_p2, sl' (by simp; omega), fun p3 hp3 => ?_⟩
    rw [← List.map_append]
    obtain ⟨H3, hH3⟩ : ∃ z, z = upd H2 p3 (.lst ((A.map (·.1) ++ G.map (·.1)).map V.int)) := ⟨_, rfl⟩
    rw [← hH3]
    have at_p3 : H3 p3 = some (.lst ((A.map (·.1) ++ G.map (·.1)).map V.int)) := by rw [hH3, upd_same]
    have s_H3 : Same H2 H3 := by rw [hH3]; exact same_new hp3
    clear hH3
    refine ⟨_, _, rfl, SqL.of at_p3, fun ks q perm pw hq => ?_⟩
    obtain ⟨H4, hH4⟩ : ∃ z, z = upd H3 q (.lst (ks.map V.int)) := ⟨_, rfl⟩
    rw [← hH4]
    have at_q : H4 q = some (.lst (ks.map V.int)) := by rw [hH4, upd_same]
    have s_H4 : Same H3 H4 := by rw [hH4]; exact same_new hq
    clear hH4
    have s4 : Same H H4 := ((s1.trans s_H2).trans s_H3).trans s_H4
    refine ⟨_, rfl, ⟨_, SqL.of at_q⟩, ?_⟩
    rw [← plainF_keys] at perm
    have p4 : H4 p0 = some (.lst []) := s_H4 _ _ (s_H3 _ _ (s_H2 _ _ (s_H1 _ _ at_p0)))
    have hqp : q ≠ p0 := ne_of_none' hq (s_H3 _ _ (s_H2 _ _ (s_H1 _ _ at_p0)))
    have hAl : (plainF A).length = A.length := List.length_map _
    have hkl : ks.length ≤ 1000 := by
      have := perm.length_eq
      rw [List.length_append, List.length_map, List.length_map, hAl] at this
      omega
    obtain ⟨R1, hR1⟩ : ∃ z, z = del H4 p0 := ⟨_, rfl⟩
    have sR1 : Same R1 H4 := by rw [hR1]; exact del_same _ _
    have R1p : R1 p0 = none := by rw [hR1]; exact del_self _ _
    have sH1 : Same H R1 := fun b o h => by rw [hR1]; exact del_at (s4 _ _ h) (ne_of_none h hp0)
    have qR : R1 q = some (.lst (ks.map V.int)) := by rw [hR1]; exact del_at at_q hqp
    clear hR1 s_H4 s_H3 s_H2 s_H1 s_H0 s1 at_p1 at_p2 at_p3 at_p0 hp1 hp2 hp3 hq s4
    refine for_it (walk_list (xs := ks.map V.int)) (fun i σ H' => ∃ x ys, σ = [some (.ref p), some (.ref p0), x] ∧ Same R1 H' ∧ H' p0 = some (.lst ys) ∧ Paired (RowAt K (del H' p0)) ys (canonT (plainF A) G (ks.take i))) ⟨_, _, rfl, sR1, p4, .nil⟩ (fun i σ H' _ hp => ?_) ?_ ?_
    · obtain ⟨_, _, _, s, _⟩ := hp
      exact SqL.of (s _ _ qR)
    · rintro i v σ H5 H' hi2 ⟨_, ys, rfl, s1, h0, hys⟩ ⟨rfl, hv⟩
      obtain ⟨n, hn1, rfl⟩ := map_at hv
      have sH := sH1.trans s1
      have hnm : n ∈ (plainF A).map (·.1) ++ G.map (·.1) := perm.subset (List.mem_of_getElem? hn1)
      have ec : canonT (plainF A) G (ks.take (i + 1)) = canonT (plainF A) G (ks.take i) ++ [rowOf (plainF A) G n] := by
        unfold canonT
        rw [take_get hn1, List.map_append]
        rfl
      have hyl : ys.length < sizeLine := by
        rw [paired_len hys]
        unfold canonT
        rw [List.length_map, List.length_take]
        exact sl (by omega)
      refine ⟨_, rfl, _, rfl, _, _, _, _, _, rfl, sH _ _ hi, T.c_Shelf, T.n_Shelf_folders, rfl, _, _, rfl, .inl ⟨_, .inl n, .inl (sH _ _ hA.dict), rfl, rfl⟩, _, rfl, ?_⟩
      rw [fKV_some]
      refine ite2 (fun h1 => ?_) (fun h1 => ?_)
      · obtain ⟨a, es, hm⟩ := fA_mem (of_decide_eq_true h1)
        have hm2 : (n, es) ∈ plainF A := plainF_mem.mpr ⟨a, hm⟩
        refine ⟨_, rfl, tyL (SqL.of h0), _, rfl, _, rfl, _, _, _, _, _, rfl, sH _ _ hi, T.c_Shelf, T.n_Shelf_folders, rfl, _, rfl, _, _, rfl, .inl ⟨_, .inl n, .inl (sH _ _ hA.dict), rfl, (hA.get hm).symm⟩, a, es, rfl, .inl (sH _ _ (hA.inner _ hm)), fun H6 q6 ts s6 hq6 h6 hts => ⟨zl rfl, fun q7 hq7 => ?_⟩⟩
        obtain ⟨H7, hH7⟩ : ∃ z, z = upd H6 q7 (.tup [.str "folder", .int n, .ref q6]) := ⟨_, rfl⟩
        rw [← hH7]
        have at_q7 : H7 q7 = some (.tup [.str "folder", .int n, .ref q6]) := by rw [hH7, upd_same]
        have s_H7 : Same H6 H7 := by rw [hH7]; exact same_new hq7
        clear hH7
        have s7 := s6.trans s_H7
        refine ⟨_, _, _, rfl, rfl, s7 _ _ h0, hyl, _, _, rfl, Same.off (s1.trans s7) R1p, upd_same .., ?_⟩
        rw [del_upd, ec, rowOf_fold hO hm2]
        refine paired_snoc (paired_mono hys fun _ _ z => z.same (del_mono s7)) ⟨q7, .ref q6, rfl, SqT.of (del_at at_q7 (ne_of_none' hq7 (s6 _ _ h0))), q6, _, rfl, SqL.of (del_at (s_H7 _ _ h6) (ne_of_none' hq6 h0)), paired_map_left (paired_mono hts fun t e z => ⟨t, rfl, SqT.of (del_at (s_H7 _ _ z.2) (ne_of_none' z.1 h0))⟩)⟩
      · have h1' : n ∉ A.map (·.1) := fun z => h1 (decide_eq_true z)
        have hng : n ∈ G.map (·.1) := by
          rcases List.mem_append.mp hnm with z | z
          · rw [plainF_keys] at z; exact absurd z h1'
          · exact z
        obtain ⟨⟨n', kk, c⟩, hm, rfl⟩ := List.mem_map.mp hng
        obtain ⟨v, hv1, t0, rfl, ht0⟩ := hG.of hGn hm
        refine ⟨_, rfl, tyL (SqL.of h0), _, rfl, zl rfl, fun q6 hq6 => ?_⟩
        obtain ⟨H6, hH6⟩ : ∃ z, z = upd H' q6 (.tup [.str "file", .int n']) := ⟨_, rfl⟩
        rw [← hH6]
        have at_q6 : H6 q6 = some (.tup [.str "file", .int n']) := by rw [hH6, upd_same]
        have s_H6 : Same H' H6 := by rw [hH6]; exact same_new hq6
        clear hH6
        refine ⟨_, rfl, _, _, _, _, _, rfl, (sH.trans s_H6) _ _ hi, T.c_Shelf, T.n_Shelf_files, rfl, _, rfl, _, _, rfl, .inl ⟨_, .inl n', .inl ((sH.trans s_H6) _ _ he), rfl, hv1.symm⟩, _, _, _, _, rfl, rfl, SqT.of at_q6, Same.tup (sH.trans s_H6) ht0, sl' (show 2 + 2 ≤ 100000 by decide), fun z => absurd z (by simp), fun _ z => absurd z (by simp), fun _ _ q7 hq7 => ?_⟩
        obtain ⟨H7, hH7⟩ : ∃ z, z = upd H6 q7 (.tup ([.str "file", .int n'] ++ [.int kk, .str c])) := ⟨_, rfl⟩
        rw [← hH7]
        have at_q7 : H7 q7 = some (.tup ([.str "file", .int n'] ++ [.int kk, .str c])) := by rw [hH7, upd_same]
        have s_H7 : Same H6 H7 := by rw [hH7]; exact same_new hq7
        clear hH7
        have s7 := s_H6.trans s_H7
        refine ⟨_, _, _, rfl, rfl, s7 _ _ h0, hyl, _, _, rfl, Same.off (s1.trans s7) R1p, upd_same .., ?_⟩
        rw [del_upd, ec, rowOf_file hO hm]
        exact paired_snoc (paired_mono hys fun _ _ z => z.same (del_mono s7)) ⟨q7, rfl, SqT.of (del_at at_q7 (ne_of_none' hq7 (s_H6 _ _ h0)))⟩
    · rintro σ H5 ⟨_, ys, rfl, s1, h0, hys⟩
      rw [List.length_map, List.take_length] at hys
      exact ⟨_, rfl, k _ ks _ (sH1.trans s1) perm pw ⟨p0, ys, rfl, SqL.of h0, paired_mono hys fun _ _ z => z.same (del_same _ _)⟩⟩
abbrev N_Mending_as_rows : List Str := ["self", "found", "number"]
theorem sc_Mending_as_rows : FnScope N_Mending_as_rows ["self"] (defScope s_Mending_as_rows) := ⟨rfl, rfl, rfl, by decide +kernel, rfl, by decide +kernel, by decide +kernel⟩
theorem ok_Mending_as_rows (T : Tx K mg base) : OkD P w K mg base d_Mending_as_rows.at_ 1 ["self"] (spRows K (He.ga K "Mending")) := by
  refine okD_of T.F_Mending_as_rows sc_Mending_as_rows (fun _ _ _ _ _ _ us hl => match us, hl with | [_], _ => rfl) (fun vs H Q E h => ?_) (fun cdv A outer s H vs Q E hr h => ?_)
  · obtain ⟨p, R, rest, A, G, rfl, _⟩ := h
    rfl
  · obtain ⟨p, R, rest, A, G, rfl, hOn, hO, hz, hz2, k⟩ := h
    have hu := hu_of hr
    refine ⟨_, (pss_cons (ps_set (i := 1) sc_Mending_as_rows.nd rfl (by first | exact Or.inl rfl | exact Or.inr rfl) (pe_lst pa_nil))
      (pss_cons (ps_for PassesOwn.never rfl (pi_list (pe_callB cr_sortedI (by rfl) T.z_sorted (show bootBuiltins "sorted" = some (.builtin "sorted") by decide +kernel) (pa_cons (pe_op op_cat (pe_callTy (call_listD rfl) (by rfl) T.z_list (show bootBuiltins "list" = some (.type "list") by decide +kernel) (pa_cons (pe_fldK K (pv 0) rfl) pa_nil)) (pe_callTy (call_listD rfl) (by rfl) T.z_list (show bootBuiltins "list" = some (.type "list") by decide +kernel) (pa_cons (pe_fldK K (pv 0) rfl) pa_nil))) pa_nil))) (pg_name (i := 2) sc_Mending_as_rows.nd rfl (by first | exact Or.inl rfl | exact Or.inr rfl)) (pss_one (ps_if (pt_cmp (pc_din hu (pv 2) (pe_fldK K (pv 0) rfl))) (pss_one (ps_expr (pe_bm PySem.F.plainAttrs_list PySem.F.slot_list_append PySem.F.type_list_append mt_append (pv 1) (pa_cons (pe_tup (pa_cons pe_str (pa_cons (pv 2) (pa_cons (pe_sortedItems rfl hr.units (pe_dget hu (pe_fldK K (pv 0) rfl) (pv 2) (fun _ _ => rfl)) (by rfl) T.z_sorted (by decide +kernel)) pa_nil)))) pa_nil)))) (pss_one (ps_expr (pe_bm PySem.F.plainAttrs_list PySem.F.slot_list_append PySem.F.type_list_append mt_append (pv 1) (pa_cons (pe_op (op_catAK K) (pe_tup (pa_cons pe_str (pa_cons (pv 2) pa_nil))) (pe_dget hu (pe_fldK K (pv 0) rfl) (pv 2) (fun _ _ => rfl))) pa_nil)))))))
      (pss_one (ps_ret (pv 1))))), ?_⟩
    obtain ⟨dx, d, e, gs, hi, hA, he, hG, hGn, hed, heA, sR, Rp, Rdd, Re, RA⟩ := hOn
    refine ⟨zl rfl, fun p0 hp0 => ?_⟩
    obtain ⟨H0, hH0⟩ : ∃ z, z = upd H p0 (.lst []) := ⟨_, rfl⟩
    rw [← hH0]
    have at_p0 : H0 p0 = some (.lst []) := by rw [hH0, upd_same]
    have s_H0 : Same H H0 := by rw [hH0]; exact same_new hp0
    clear hH0
    refine ⟨_, rfl, _, _, _, _, _, rfl, s_H0 _ _ hi, T.c_Mending, T.n_Mending_folders, rfl, _, _, rfl, .inl (s_H0 _ _ hA.dict), fun p1 hp1 => ?_⟩
    have e1 : ((fKV A).map fun kv => kV kv.1) = (A.map (·.1)).map V.int := by simp [fKV, kV]
    rw [e1]
    obtain ⟨H1, hH1⟩ : ∃ z, z = upd H0 p1 (.lst ((A.map (·.1)).map V.int)) := ⟨_, rfl⟩
    rw [← hH1]
    have at_p1 : H1 p1 = some (.lst ((A.map (·.1)).map V.int)) := by rw [hH1, upd_same]
    have s_H1 : Same H0 H1 := by rw [hH1]; exact same_new hp1
    clear hH1
    have s1 := s_H0.trans s_H1
    refine ⟨_, rfl, _, _, _, _, _, rfl, s1 _ _ hi, T.c_Mending, T.n_Mending_files, rfl, _, _, rfl, .inl (s1 _ _ he), fun p2 hp2 => ?_⟩
    have e2 : (gs.map fun kv => kV kv.1) = (G.map (·.1)).map V.int := by
      have := congrArg (List.map kV) hG.keys
      simpa [List.map_map, Function.comp_def, kV] using this
    rw [e2]
    obtain ⟨H2, hH2⟩ : ∃ z, z = upd H1 p2 (.lst ((G.map (·.1)).map V.int)) := ⟨_, rfl⟩
    rw [← hH2]
    have at_p2 : H2 p2 = some (.lst ((G.map (·.1)).map V.int)) := by rw [hH2, upd_same]
    have s_H2 : Same H1 H2 := by rw [hH2]; exact same_new hp2
    clear hH2
    refine ⟨_, _, _, _, rfl, rfl, s_H2 _ _ at_p1, at_p2, sl' (by simp; omega), fun p3 hp3 => ?_⟩
    rw [← List.map_append]
    obtain ⟨H3, hH3⟩ : ∃ z, z = upd H2 p3 (.lst ((A.map (·.1) ++ G.map (·.1)).map V.int)) := ⟨_, rfl⟩
    rw [← hH3]
    have at_p3 : H3 p3 = some (.lst ((A.map (·.1) ++ G.map (·.1)).map V.int)) := by rw [hH3, upd_same]
    have s_H3 : Same H2 H3 := by rw [hH3]; exact same_new hp3
    clear hH3
    refine ⟨_, _, rfl, SqL.of at_p3, fun ks q perm pw hq => ?_⟩
    obtain ⟨H4, hH4⟩ : ∃ z, z = upd H3 q (.lst (ks.map V.int)) := ⟨_, rfl⟩
    rw [← hH4]
    have at_q : H4 q = some (.lst (ks.map V.int)) := by rw [hH4, upd_same]
    have s_H4 : Same H3 H4 := by rw [hH4]; exact same_new hq
    clear hH4
    have s4 : Same H H4 := ((s1.trans s_H2).trans s_H3).trans s_H4
    refine ⟨_, rfl, ⟨_, SqL.of at_q⟩, ?_⟩
    rw [← plainF_keys] at perm
    have p4 : H4 p0 = some (.lst []) := s_H4 _ _ (s_H3 _ _ (s_H2 _ _ (s_H1 _ _ at_p0)))
    have hqp : q ≠ p0 := ne_of_none' hq (s_H3 _ _ (s_H2 _ _ (s_H1 _ _ at_p0)))
    have hAl : (plainF A).length = A.length := List.length_map _
    have hkl : ks.length ≤ 1000 := by
      have := perm.length_eq
      rw [List.length_append, List.length_map, List.length_map, hAl] at this
      omega
    obtain ⟨R1, hR1⟩ : ∃ z, z = del H4 p0 := ⟨_, rfl⟩
    have sR1 : Same R1 H4 := by rw [hR1]; exact del_same _ _
    have R1p : R1 p0 = none := by rw [hR1]; exact del_self _ _
    have sH1 : Same H R1 := fun b o h => by rw [hR1]; exact del_at (s4 _ _ h) (ne_of_none h hp0)
    have qR : R1 q = some (.lst (ks.map V.int)) := by rw [hR1]; exact del_at at_q hqp
    clear hR1 s_H4 s_H3 s_H2 s_H1 s_H0 s1 at_p1 at_p2 at_p3 at_p0 hp1 hp2 hp3 hq s4
    refine for_it (walk_list (xs := ks.map V.int)) (fun i σ H' => ∃ x ys, σ = [some (.ref p), some (.ref p0), x] ∧ Same R1 H' ∧ H' p0 = some (.lst ys) ∧ Paired (RowAt K (del H' p0)) ys (canonT (plainF A) G (ks.take i))) ⟨_, _, rfl, sR1, p4, .nil⟩ (fun i σ H' _ hp => ?_) ?_ ?_
    · obtain ⟨_, _, _, s, _⟩ := hp
      exact SqL.of (s _ _ qR)
    · rintro i v σ H5 H' hi2 ⟨_, ys, rfl, s1, h0, hys⟩ ⟨rfl, hv⟩
      obtain ⟨n, hn1, rfl⟩ := map_at hv
      have sH := sH1.trans s1
      have hnm : n ∈ (plainF A).map (·.1) ++ G.map (·.1) := perm.subset (List.mem_of_getElem? hn1)
      have ec : canonT (plainF A) G (ks.take (i + 1)) = canonT (plainF A) G (ks.take i) ++ [rowOf (plainF A) G n] := by
        unfold canonT
        rw [take_get hn1, List.map_append]
        rfl
      have hyl : ys.length < sizeLine := by
        rw [paired_len hys]
        unfold canonT
        rw [List.length_map, List.length_take]
        exact sl (by omega)
      refine ⟨_, rfl, _, rfl, _, _, _, _, _, rfl, sH _ _ hi, T.c_Mending, T.n_Mending_folders, rfl, _, _, rfl, .inl ⟨_, .inl n, .inl (sH _ _ hA.dict), rfl, rfl⟩, _, rfl, ?_⟩
      rw [fKV_some]
      refine ite2 (fun h1 => ?_) (fun h1 => ?_)
      · obtain ⟨a, es, hm⟩ := fA_mem (of_decide_eq_true h1)
        have hm2 : (n, es) ∈ plainF A := plainF_mem.mpr ⟨a, hm⟩
        refine ⟨_, rfl, tyL (SqL.of h0), _, rfl, _, rfl, _, _, _, _, _, rfl, sH _ _ hi, T.c_Mending, T.n_Mending_folders, rfl, _, rfl, _, _, rfl, .inl ⟨_, .inl n, .inl (sH _ _ hA.dict), rfl, (hA.get hm).symm⟩, a, es, rfl, .inl (sH _ _ (hA.inner _ hm)), fun H6 q6 ts s6 hq6 h6 hts => ⟨zl rfl, fun q7 hq7 => ?_⟩⟩
        obtain ⟨H7, hH7⟩ : ∃ z, z = upd H6 q7 (.tup [.str "folder", .int n, .ref q6]) := ⟨_, rfl⟩
        rw [← hH7]
        have at_q7 : H7 q7 = some (.tup [.str "folder", .int n, .ref q6]) := by rw [hH7, upd_same]
        have s_H7 : Same H6 H7 := by rw [hH7]; exact same_new hq7
        clear hH7
        have s7 := s6.trans s_H7
        refine ⟨_, _, _, rfl, rfl, s7 _ _ h0, hyl, _, _, rfl, Same.off (s1.trans s7) R1p, upd_same .., ?_⟩
        rw [del_upd, ec, rowOf_fold hO hm2]
        refine paired_snoc (paired_mono hys fun _ _ z => z.same (del_mono s7)) ⟨q7, .ref q6, rfl, SqT.of (del_at at_q7 (ne_of_none' hq7 (s6 _ _ h0))), q6, _, rfl, SqL.of (del_at (s_H7 _ _ h6) (ne_of_none' hq6 h0)), paired_map_left (paired_mono hts fun t e z => ⟨t, rfl, SqT.of (del_at (s_H7 _ _ z.2) (ne_of_none' z.1 h0))⟩)⟩
      · have h1' : n ∉ A.map (·.1) := fun z => h1 (decide_eq_true z)
        have hng : n ∈ G.map (·.1) := by
          rcases List.mem_append.mp hnm with z | z
          · rw [plainF_keys] at z; exact absurd z h1'
          · exact z
        obtain ⟨⟨n', kk, c⟩, hm, rfl⟩ := List.mem_map.mp hng
        obtain ⟨v, hv1, t0, rfl, ht0⟩ := hG.of hGn hm
        refine ⟨_, rfl, tyL (SqL.of h0), _, rfl, zl rfl, fun q6 hq6 => ?_⟩
        obtain ⟨H6, hH6⟩ : ∃ z, z = upd H' q6 (.tup [.str "file", .int n']) := ⟨_, rfl⟩
        rw [← hH6]
        have at_q6 : H6 q6 = some (.tup [.str "file", .int n']) := by rw [hH6, upd_same]
        have s_H6 : Same H' H6 := by rw [hH6]; exact same_new hq6
        clear hH6
        refine ⟨_, rfl, _, _, _, _, _, rfl, (sH.trans s_H6) _ _ hi, T.c_Mending, T.n_Mending_files, rfl, _, rfl, _, _, rfl, .inl ⟨_, .inl n', .inl ((sH.trans s_H6) _ _ he), rfl, hv1.symm⟩, _, _, _, _, rfl, rfl, SqT.of at_q6, Same.tup (sH.trans s_H6) ht0, sl' (show 2 + 2 ≤ 100000 by decide), fun z => absurd z (by simp), fun _ z => absurd z (by simp), fun _ _ q7 hq7 => ?_⟩
        obtain ⟨H7, hH7⟩ : ∃ z, z = upd H6 q7 (.tup ([.str "file", .int n'] ++ [.int kk, .str c])) := ⟨_, rfl⟩
        rw [← hH7]
        have at_q7 : H7 q7 = some (.tup ([.str "file", .int n'] ++ [.int kk, .str c])) := by rw [hH7, upd_same]
        have s_H7 : Same H6 H7 := by rw [hH7]; exact same_new hq7
        clear hH7
        have s7 := s_H6.trans s_H7
        refine ⟨_, _, _, rfl, rfl, s7 _ _ h0, hyl, _, _, rfl, Same.off (s1.trans s7) R1p, upd_same .., ?_⟩
        rw [del_upd, ec, rowOf_file hO hm]
        exact paired_snoc (paired_mono hys fun _ _ z => z.same (del_mono s7)) ⟨q7, rfl, SqT.of (del_at at_q7 (ne_of_none' hq7 (s_H6 _ _ h0)))⟩
    · rintro σ H5 ⟨_, ys, rfl, s1, h0, hys⟩
      rw [List.length_map, List.take_length] at hys
      exact ⟨_, rfl, k _ ks _ (sH1.trans s1) perm pw ⟨p0, ys, rfl, SqL.of h0, paired_mono hys fun _ _ z => z.same (del_same _ _)⟩⟩
end
end K81
set_option maxHeartbeats 4000000
namespace K81
open PySem PySem.Spec PyProof.Rows L2
theorem mergeK_app : ∀ {more acc : List (Key × V)}, ((acc ++ more).map (·.1)).Nodup → mergeK acc more = acc ++ more
  | [], acc, _ => by simp [mergeK]
  | (k, v) :: more, acc, h => by
    have e : putK acc k v = acc ++ [(k, v)] := by
      unfold putK
      rw [if_neg]
      intro q
      obtain ⟨kv, h1, h2⟩ := List.any_eq_true.mp q
      have h3 := of_decide_eq_true h2
      rw [List.map_append] at h
      exact (List.nodup_append.mp h).2.2 _ (List.mem_map.mpr ⟨kv, h1, rfl⟩) k (by simp) h3
    show mergeK (putK acc k v) more = _
    rw [e, mergeK_app (by rw [List.append_assoc]; exact h), List.append_assoc]
    rfl
theorem mergeK_dkI {es : List (Str × Int)} (h : (es.map (·.1)).Nodup) : mergeK [] (dkI es) = dkI es := by
  rw [mergeK_app]
  · rfl
  · rw [List.nil_append]
    unfold dkI
    rw [List.map_map]
    have e : ((·.1) ∘ fun e : Str × Int => ((Sum.inr e.1 : Key), V.int e.2)) = (Sum.inr : Str → Key) ∘ (·.1) := rfl
    rw [e, ← List.map_map]
    exact List.pairwise_map.mpr (h.imp fun ne q => ne (Sum.inr.inj q))
theorem ents_refs {K : PySem.W.Frag} {H : Hp} : ∀ {xs : List V} {es : List (Str × Int)}, Paired (EntAt K H) xs es → ∃ ps : List Addr, xs = ps.map V.ref ∧ Paired (fun p kv => SqT K H p [kV kv.1, kv.2]) ps (dkI es)
  | _, _, .nil => ⟨[], rfl, .nil⟩
  | _, _, .cons ⟨t, e, h⟩ r => by
    obtain ⟨ps, e2, h2⟩ := ents_refs r
    exact ⟨t :: ps, by rw [e, e2]; rfl, .cons h h2⟩
theorem FoOn.nil {H : Hp} {d : Addr} (h : H d = some (.dK [])) : FoOn H d [] := ⟨h, fun _ m => (nomatch m), .nil, .nil, by simp, fun _ m => (nomatch m)⟩
theorem FoOn.add {H : Hp} {d a : Addr} {A : FAt} {n : Int} {es : List (Str × Int)} (h : FoOn H d A) (ha : H a = some (.dK (dkI es))) (h1 : a ∉ A.map (·.2.1)) (h2 : d ≠ a) (hn : n ∉ A.map (·.1)) (hs : (es.map (·.1)).Nodup) :
    FoOn (upd H d (.dK (putK (fKV A) (Sum.inl n) (.ref a)))) d (A ++ [(n, a, es)]) := by
  have e : putK (fKV A) (Sum.inl n) (.ref a) = fKV (A ++ [(n, a, es)]) := by
    unfold putK
    rw [valV_any, fKV_none.mpr hn]
    simp [fKV]
  rw [e]
  refine ⟨upd_same .., fun x hx => ?_, ?_, ?_, ?_, fun x hx => ?_⟩
  · rcases List.mem_append.mp hx with hx | hx
    · exact upd_at_ne (h.inner x hx) (fun z => h.out (List.mem_map.mpr ⟨x, hx, z⟩))
    · rw [List.mem_singleton.mp hx]
      exact upd_at_ne ha h2.symm
  · rw [List.map_append]
    exact List.nodup_append.mpr ⟨h.nums, by simp, fun x hx y hy z => by rw [List.map_singleton, List.mem_singleton] at hy; rw [z, hy] at hx; exact hn hx⟩
  · rw [List.map_append]
    exact List.nodup_append.mpr ⟨h.addrs, by simp, fun x hx y hy z => by rw [List.map_singleton, List.mem_singleton] at hy; rw [z, hy] at hx; exact h1 hx⟩
  · rw [List.map_append]
    intro q
    rcases List.mem_append.mp q with q | q
    · exact h.out q
    · rw [List.map_singleton, List.mem_singleton] at q
      exact h2 q
  · rcases List.mem_append.mp hx with hx | hx
    · exact h.names x hx
    · rw [List.mem_singleton.mp hx]; exact hs
def spMendingInit (K : PySem.W.Frag) : Sp := fun vs H Q _ => ∃ (x : Addr) (tab : V) (t : List Row) (dx : Addr), vs = [.ref x, tab] ∧ H x = some (.ins (He.ga K "Mending") dx []) ∧ TabAt K (del H x) tab t ∧ Once t ∧ Small 63 1000 t ∧
  ∀ A H', On K (del H x) H' (He.ga K "Mending") x [] A (fi t) → plainF A = fo t → Q .non H'
theorem plainF_app (A B : FAt) : plainF (A ++ B) = plainF A ++ plainF B := List.map_append ..
section
variable {P : Program} {w : World} {K : PySem.W.Frag} {mg : Str → Option Value} {base : Heap}
abbrev N_Mending_init : List Str := ["self", "table", "row", "entry"]
theorem sc_Mending_init : FnScope N_Mending_init ["self", "table"] (defScope s_Mending_init) := ⟨rfl, rfl, rfl, by decide +kernel, rfl, by decide +kernel, by decide +kernel⟩
theorem ok_Mending_init (T : Tx K mg base) : OkD P w K mg base d_Mending_init.at_ 1 ["self", "table"] (spMendingInit K) := by
  refine okD_of T.F_Mending_init sc_Mending_init (fun _ _ _ _ _ _ us hl => match us, hl with | [_, _], _ => rfl) (fun vs H Q E h => ?_) (fun cdv A outer s H vs Q E hr h => ?_)
  · obtain ⟨x, tab, t, dx, rfl, _⟩ := h
    rfl
  · obtain ⟨x, tab, t, dx, rfl, hx, ht, hn, hsm, k⟩ := h
    have hu := hu_of hr
    have hrows := hsm.rows
    refine ⟨_, (pss_cons (ps_fld (pv 0) pe_dnewK rfl)
      (pss_cons (ps_fld (pv 0) pe_dnewK rfl)
      (pss_one (ps_for PassesOwn.never rfl (pi_list (pv 1)) (pg_name (i := 2) sc_Mending_init.nd rfl (by first | exact Or.inl rfl | exact Or.inr rfl)) (pss_one (ps_if (pt_cmpR op_eq (pe_ix (ix_tupK K) (pv 2) pe_int (fun _ _ => rfl)) pe_str (nomark _)) (pss_one (ps_dput hu (pe_fldK K (pv 0) rfl) (pe_ix (ix_tupK K) (pv 2) pe_int (fun _ _ => rfl)) (pe_callTy (call_dictP rfl) (by rfl) T.z_dict (show bootBuiltins "dict" = some (.type "dict") by decide +kernel) (pa_cons (pe_lc (own := [("entry", 3)]) rfl sc_Mending_init.nd (pi_list (pe_ix (ix_tupK K) (pv 2) pe_int (fun _ _ => rfl))) (blkOk_by (N := N_Mending_init) (sc := defScope s_Mending_init) (by decide +kernel)) (fun _ _ _ _ _ => (pg_name (i := 3) sc_Mending_init.nd rfl (Or.inl rfl))) (fun _ _ _ _ _ => pts_nil) (fun _ _ _ _ _ => (pe_callTy (call_tupleTK K) (by rfl) T.z_tuple (show bootBuiltins "tuple" = some (.type "tuple") by decide +kernel) (pa_cons (pv 3) pa_nil)))) pa_nil)) rfl)) (pss_one (ps_dput hu (pe_fldK K (pv 0) rfl) (pe_ix (ix_tupK K) (pv 2) pe_int (fun _ _ => rfl)) (pe_tup (pa_cons (pe_ix (ix_tupK K) (pv 2) pe_int (fun _ _ => rfl)) (pa_cons (pe_ix (ix_tupK K) (pv 2) pe_int (fun _ _ => rfl)) pa_nil))) rfl)))))))), ?_⟩
    -- the two fields
    intro e he
    have hex : e ≠ x := ne_of_none' he hx
    refine ⟨_, rfl, _, _, _, _, rfl, (same_new he) _ _ hx, T.c_Mending, T.n_Mending_folders, by decide, ?_⟩
    obtain ⟨H1, hH1⟩ : ∃ z, z = upd (upd H e (.dK [])) x (.ins (He.ga K "Mending") dx (putF "folders" (.ref e) [])) := ⟨_, rfl⟩
    rw [← hH1]
    have x1 : H1 x = some (.ins (He.ga K "Mending") dx [("folders", .ref e)]) := by rw [hH1, upd_same]; rfl
    have e1 : H1 e = some (.dK []) := by rw [hH1, upd_ne hex, upd_same]
    have s1 : Same (del H x) H1 := by rw [hH1]; exact Same.off ((del_same H x).trans (same_new he)) (by simp [del])
    intro f hf
    have hfx : f ≠ x := ne_of_none' hf x1
    have hfe : f ≠ e := ne_of_none' hf e1
    refine ⟨_, rfl, _, _, _, _, rfl, (same_new hf) _ _ x1, T.c_Mending, T.n_Mending_files, by show 1 < 1000; decide, ?_⟩
    obtain ⟨H3, hH3⟩ : ∃ z, z = upd (upd H1 f (.dK [])) x (.ins (He.ga K "Mending") dx (putF "files" (.ref f) [("folders", .ref e)])) := ⟨_, rfl⟩
    rw [← hH3]
    have x3 : H3 x = some (.ins (He.ga K "Mending") dx [("folders", .ref e), ("files", .ref f)]) := by rw [hH3, upd_same]; rfl
    have e3 : H3 e = some (.dK []) := by rw [hH3, upd_ne hex, upd_ne hfe.symm]; exact e1
    have f3 : H3 f = some (.dK []) := by rw [hH3, upd_ne hfx, upd_same]
    have s3 : Same (del H x) H3 := by rw [hH3]; exact Same.off (s1.trans (same_new hf)) (by simp [del])
    have d0e : del H x e = none := del_none he
    have d0f : del H x f = none := s1.free hf
    clear hH1 hH3 x1 e1 s1 he hf
    have ht3 := ht.same s3
    obtain ⟨la, rows, rfl, hla, hrw⟩ := ht3
    -- the rows
    refine ⟨_, rfl, _, rfl, ⟨_, hla⟩, ?_⟩
    refine for_it (walk_list (xs := rows)) (fun i σ H' => ∃ rv A fs, σ = [some (.ref x), some (.ref la), rv, none] ∧ Same (del H x) H' ∧ SameD H3 H' ∧ FoOn H' e A ∧ H' f = some (.dK fs) ∧ plainF A = fo (t.take i) ∧ f ∉ A.map (·.2.1) ∧ (∀ y ∈ A, del H x y.2.1 = none) ∧
      Dik (·.1) (FilV K H') fs (fi (t.take i))) ⟨_, [], _, rfl, s3, SameD.refl _, FoOn.nil e3, f3, rfl, (by simp), (fun y h => nomatch h), .nil⟩ (fun i σ H' _ hp => ?_) ?_ ?_
    · obtain ⟨_, _, _, _, _, sd, _⟩ := hp
      exact sd.seq hla
    · rintro i rv σ H1 H' hi ⟨_, A, fs, rfl, s1, sd, hA, f1, hpl, hfA, hRA, hF⟩ ⟨rfl, hv⟩
      obtain ⟨r, hr1, hr2⟩ := paired_at hrw hv
      have x1 := sd _ _ x3 (fun _ z => by cases z)
      have e1 := hA.dict
      have hz1 : (fo (t.take i)).length ≤ 63 := Nat.le_trans (fo_take_le t i) hrows
      have hz2 : (fi (t.take i)).length ≤ 63 := Nat.le_trans (fi_take_le t i) hrows
      have hAl : A.length = (fo (t.take i)).length := by rw [← hpl]; unfold plainF; rw [List.length_map]
      cases r with
      | fold n en =>
        obtain ⟨tp, u, rfl, htp, hen⟩ := hr2.sd sd
        obtain ⟨lu, xs, rfl, hlu, hxs⟩ := hen
        have hmem := mem_fo.mpr (List.mem_of_getElem? hr1)
        have henl : en.length ≤ 1000 := hsm.ents n en hmem
        have henn := hn.names n en hmem
        refine ⟨_, rfl, _, _, _, _, rfl, rfl, htp, at0, rfl, _, rfl, ite2 (fun _ => ?_) (fun q => absurd (by decide) q)⟩
        refine ⟨_, rfl, _, _, _, _, rfl, rfl, htp, at2, _, rfl, ⟨_, hlu⟩, fun D hD => lc_rel walk_list xs rfl (fun v => some v) REq monoEq hD (fun _ s => Same.seq s hlu) ?_ ?_⟩
        · rintro j v v' H2 H2' hj pv s2 ⟨rfl, hv'⟩
          rw [hj] at hv'
          obtain rfl := Option.some.inj hv'
          obtain ⟨en1, _, ta, rfl, hta⟩ := paired_at hxs hj
          exact ⟨rfl, tyes ⟨_, rfl, _, _, rfl, Same.tup s2 hta, pv.yes monoEq hD (by rw [paired_len hxs]; omega) hj (Same.refl _) rfl rfl⟩⟩
        intro H2 ys s2 hD2 hys
        obtain rfl := paired_eq hys
        rw [filterMap_some, List.map_id'] at hD2
        obtain ⟨ps, rfl, hps⟩ := ents_refs hxs
        refine ⟨_, ps, dkI en, rfl, SqL.of hD2, paired_mono hps fun _ _ q => Same.tup s2 q, fun p hp => ?_⟩
        rw [mergeK_dkI henn]
        obtain ⟨H4, hH4⟩ : ∃ z, z = upd H2 p (.dK (dkI en)) := ⟨_, rfl⟩
        rw [← hH4]
        have at_p : H4 p = some (.dK (dkI en)) := by rw [hH4, upd_same]
        have s_H4 : Same H2 H4 := by rw [hH4]; exact same_new hp
        clear hH4
        have hpe : p ≠ e := ne_of_none' hp (s2 _ _ e1)
        have hpf : p ≠ f := ne_of_none' hp (s2 _ _ f1)
        have s3' := s2.trans s_H4
        have hpA : p ∉ A.map (·.2.1) := fun q => by
          obtain ⟨y, hy, z⟩ := List.mem_map.mp q
          have := s2 _ _ (hA.inner y hy)
          have z' : y.2.1 = p := z
          rw [z', hp] at this; cases this
        have hlen : (fKV A).length < sizeLine := sl (by unfold fKV; rw [List.length_map]; omega)
        refine ⟨_, rfl, _, _, _, _, _, rfl, s3' _ _ x1, T.c_Mending, T.n_Mending_folders, rfl, _, rfl, _, _, _, _, rfl, rfl, Same.tup s3' htp, at1, _, _, rfl, .inl ⟨fKV A, .inl n, s3' _ _ e1, rfl, hlen, rfl⟩, ?_⟩
        have sd5 : SameD H4 (upd H4 e (.dK (putK (fKV A) (.inl n) (.ref p)))) := SameD.upd (s3' _ _ e1)
        obtain ⟨q1, q2⟩ := fo_take_snoc hr1
        have hnA : n ∉ A.map (·.1) := by rw [← plainF_keys, hpl]; exact fo_take_not hn.nums hr1
        refine ⟨_, A ++ [(n, p, en)], _, rfl, Same.off (s1.trans s3') d0e, (sd.trans s3'.d).trans sd5, (hA.same s3').add at_p hpA hpe.symm hnA henn, upd_at_ne (s3' _ _ f1) hfe, ?_, ?_, fun y hy => ?_, ?_⟩
        · rw [q1, plainF_app, hpl]; rfl
        · rw [List.map_append]
          intro q
          rcases List.mem_append.mp q with q | q
          · exact hfA q
          · rw [List.map_singleton, List.mem_singleton] at q
            exact hpf q.symm
        · rcases List.mem_append.mp hy with hy | hy
          · exact hRA y hy
          · rw [List.mem_singleton.mp hy]
            exact (s1.trans s2).free hp
        · rw [q2]
          exact hF.mono fun _ _ q => q.sd (s3'.d.trans sd5)
      | file n kk c =>
        obtain ⟨tp, rfl, htp⟩ := hr2.sd sd
        refine ⟨_, rfl, _, _, _, _, rfl, rfl, htp, at0, rfl, _, rfl, ite2 (fun q => absurd q (by decide)) (fun _ => ?_)⟩
        refine ⟨_, rfl, _, _, _, _, rfl, rfl, htp, at2, _, rfl, _, _, _, _, rfl, rfl, htp, at3, zl rfl, fun p hp => ?_⟩
        obtain ⟨H4, hH4⟩ : ∃ z, z = upd H' p (.tup [.int kk, .str c]) := ⟨_, rfl⟩
        rw [← hH4]
        have at_p : H4 p = some (.tup [.int kk, .str c]) := by rw [hH4, upd_same]
        have s_H4 : Same H' H4 := by rw [hH4]; exact same_new hp
        clear hH4
        have hlen : fs.length < sizeLine := sl (by rw [hF.len]; omega)
        refine ⟨_, rfl, _, _, _, _, _, rfl, s_H4 _ _ x1, T.c_Mending, T.n_Mending_files, rfl, _, rfl, _, _, _, _, rfl, rfl, Same.tup s_H4 htp, at1, _, _, rfl, .inl ⟨fs, .inl n, s_H4 _ _ f1, rfl, hlen, rfl⟩, ?_⟩
        have sd5 : SameD H4 (upd H4 f (.dK (putK fs (.inl n) (.ref p)))) := SameD.upd (s_H4 _ _ f1)
        obtain ⟨q1, q2⟩ := fi_take_snoc hr1
        have hA4 := hA.same s_H4
        refine ⟨_, A, _, rfl, Same.off (s1.trans s_H4) d0f, (sd.trans s_H4.d).trans sd5, ⟨upd_at_ne hA4.dict hfe.symm, fun y hy => upd_at_ne (hA4.inner y hy) (fun z => hfA (List.mem_map.mpr ⟨y, hy, z⟩)), hA.nums, hA.addrs, hA.out, hA.names⟩, upd_same .., ?_, hfA, hRA, ?_⟩
        · rw [q2]; exact hpl
        · rw [q1]
          refine Dik.snoc (f := (·.1)) (x := (n, kk, c)) (hF.mono fun _ _ q => q.sd (s_H4.d.trans sd5)) (fi_take_not hn.nums hr1) ?_
          exact ⟨p, rfl, sd5.tup (SqT.of at_p)⟩
    rintro σ H4 ⟨rv, A, fs, rfl, s4, sd4, hA, f4, hpl, hfA, hRA, hF⟩
    have x4 := sd4 _ _ x3 (fun _ z => by cases z)
    rw [show rows.length = t.length from paired_len hrw, List.take_length] at hpl hF
    exact k A H4 ⟨dx, e, f, fs, x4, hA, f4, hF, hn.fi, hfe, hfA, s4, del_self _ _, d0e, d0f, hRA⟩ hpl
end
end K81
set_option maxHeartbeats 4000000
namespace K81
open PySem PySem.Spec PyProof.Rows L2
theorem LedM.weak {K : PySem.W.Frag} {R R' H : Hp} {ls : List (Key × V)} {E : List (Int × Str × Int)} (s : Same R' R) (h : LedM K R H ls E) : LedM K R' H ls E := by
  obtain ⟨ns, h1, h2, h3, h4, h5⟩ := h
  refine ⟨ns, h1, h2, h3, fun n v m => ?_, h5⟩
  obtain ⟨a, xs, e, q1, q2, q3⟩ := h4 n v m
  exact ⟨a, xs, e, q1, s.free q2, q3⟩
theorem LedM.ghost {K : PySem.W.Frag} {R H : Hp} {ls : List (Key × V)} {E : List (Int × Str × Int)} {q : Addr} {o : HO} (hq : H q = none) (h : LedM K R H ls E) : LedM K (upd R q o) (upd H q o) ls E := by
  have h' := h.same (same_new (o := o) hq)
  obtain ⟨_, _, _, _, g4, _⟩ := h
  obtain ⟨ns, h1, h2, h3, h4, h5⟩ := h'
  refine ⟨ns, h1, h2, h3, fun n v m => ?_, h5⟩
  obtain ⟨a, xs, e, q1, q2, q3⟩ := h4 n v m
  obtain ⟨a', _, e', p1, _, _⟩ := g4 n v m
  rw [e] at e'
  obtain rfl := V.ref.inj e'
  refine ⟨a, xs, e, q1, ?_, q3⟩
  rw [upd_ne (ne_of_none p1 hq)]
  exact q2
theorem fKV_keys (A : FAt) : (fKV A).map (·.1) = (A.map (·.1)).map Sum.inl := by simp [fKV]
theorem dkI_keys (es : List (Str × Int)) : (dkI es).map (·.1) = (es.map (·.1)).map Sum.inr := by simp [dkI]
/-- the entries, as the folders ks tell them -/
def ordE (F : List (Int × List (Str × Int))) (ks : List Int) : List (Int × Str × Int) := ks.flatMap fun n => (esOf F n).map fun e => (n, e.1, e.2)
theorem ordE_perm {l : List (Int × List (Str × Int))} (hn : (l.map (·.1)).Nodup) {ks : List Int} (hk : ks.Perm (l.map (·.1))) : (ordE l ks).Perm (flat l) := by
  unfold ordE flat
  refine (hk.flatMap_right _).trans ?_
  rw [List.flatMap_map]
  refine perm_flatMap _ fun x hx => ?_
  rw [esOf_eq hn (show (x.1, x.2) ∈ l from hx)]
theorem ordE_take (l : List (Int × List (Str × Int))) {ks : List Int} {i : Nat} {n : Int} (h : ks[i]? = some n) : ordE l (ks.take (i + 1)) = ordE l (ks.take i) ++ (esOf l n).map fun e => (n, e.1, e.2) := by
  unfold ordE
  rw [take_get h, List.flatMap_append]
  simp
theorem ordE_len {l : List (Int × List (Str × Int))} {b : Nat} (hb : ∀ n, (esOf l n).length ≤ b) : ∀ ks : List Int, (ordE l ks).length ≤ ks.length * b
  | [] => by simp [ordE]
  | n :: r => by
    have ih := ordE_len hb r
    have h1 := hb n
    unfold ordE at ih ⊢
    rw [List.flatMap_cons, List.length_append, List.length_map, List.length_cons, Nat.succ_mul]
    omega
def spLeads (K : PySem.W.Frag) : Sp := fun vs H Q _ => ∃ (p : Addr) (R : Hp) (rest : List (Str × V)) (A : FAt) (G : List (Int × Int × Str)), vs = [.ref p] ∧ On K R H (He.ga K "Mending") p rest A G ∧ A.length < 64 ∧ (∀ x ∈ A, x.2.2.length < 64) ∧
  ∀ l ls E H', Same H H' → H l = none → H' l = some (.dK ls) → LedAt K H' ls E → E.Perm (flat (plainF A)) → Q (.ref l) H'
section
variable {P : Program} {w : World} {K : PySem.W.Frag} {mg : Str → Option Value} {base : Heap}
abbrev N_Mending_leads_now : List Str := ["self", "found", "folder", "name"]
theorem sc_Mending_leads_now : FnScope N_Mending_leads_now ["self"] (defScope s_Mending_leads_now) := ⟨rfl, rfl, rfl, by decide +kernel, rfl, by decide +kernel, by decide +kernel⟩
theorem ok_Mending_leads_now (T : Tx K mg base) : OkD P w K mg base d_Mending_leads_now.at_ 1 ["self"] (spLeads K) := by
  refine okD_of T.F_Mending_leads_now sc_Mending_leads_now (fun _ _ _ _ _ _ us hl => match us, hl with | [_], _ => rfl) (fun vs H Q E h => ?_) (fun cdv A outer s H vs Q E hr h => ?_)
  · obtain ⟨p, R, rest, A, G, rfl, _⟩ := h
    rfl
  · obtain ⟨p, R, rest, A, G, rfl, hOn, hz, hz2, k⟩ := h
    have hu := hu_of hr
    refine ⟨_, (pss_cons (ps_set (i := 1) sc_Mending_leads_now.nd rfl (by first | exact Or.inl rfl | exact Or.inr rfl) pe_dnewK)
      (pss_cons (ps_for PassesOwn.never rfl (pi_list (pe_callB (call_sortedDI rfl) (by rfl) T.z_sorted (show bootBuiltins "sorted" = some (.builtin "sorted") by decide +kernel) (pa_cons (pe_fldK K (pv 0) rfl) pa_nil))) (pg_name (i := 2) sc_Mending_leads_now.nd rfl (by first | exact Or.inl rfl | exact Or.inr rfl)) (pss_one (ps_for PassesOwn.never rfl (pi_list (pe_callB (call_sortedD rfl) (by rfl) T.z_sorted (show bootBuiltins "sorted" = some (.builtin "sorted") by decide +kernel) (pa_cons (pe_dget hu (pe_fldK K (pv 0) rfl) (pv 2) (fun _ _ => rfl)) pa_nil))) (pg_name (i := 3) sc_Mending_leads_now.nd rfl (by first | exact Or.inl rfl | exact Or.inr rfl)) (pss_one (ps_expr (pe_bm PySem.F.plainAttrs_list PySem.F.slot_list_append PySem.F.type_list_append mt_append (pe_dsetd (pv 1) (pe_dget hu (pe_dget hu (pe_fldK K (pv 0) rfl) (pv 2) (fun _ _ => rfl)) (pv 3) (fun _ _ => rfl)) (pe_lst pa_nil) ⟨rfl, rfl, rfl, rfl⟩) (pa_cons (pe_tup (pa_cons (pv 2) (pa_cons (pv 3) pa_nil))) pa_nil)))))))
      (pss_one (ps_ret (pv 1))))), ?_⟩
    obtain ⟨dx, d, e, gs, hi, hA, he, hG, hGn, hed, heA, sR, Rp, Rdd, Re, RA⟩ := hOn
    intro l hl
    obtain ⟨H1, hH1⟩ : ∃ z, z = upd H l (.dK []) := ⟨_, rfl⟩
    rw [← hH1]
    have at_l : H1 l = some (.dK []) := by rw [hH1, upd_same]
    have s_H1 : Same H H1 := by rw [hH1]; exact same_new hl
    clear hH1
    refine ⟨_, rfl, _, _, _, _, _, rfl, s_H1 _ _ hi, T.c_Mending, T.n_Mending_folders, rfl, _, _, A.map (·.1), rfl, .inl (s_H1 _ _ hA.dict), fKV_keys A, by rw [List.length_map]; omega, fun ks q perm pw hq => ?_⟩
    obtain ⟨H2, hH2⟩ : ∃ z, z = upd H1 q (.lst (ks.map V.int)) := ⟨_, rfl⟩
    rw [← hH2]
    have at_q : H2 q = some (.lst (ks.map V.int)) := by rw [hH2, upd_same]
    have s_H2 : Same H1 H2 := by rw [hH2]; exact same_new hq
    clear hH2
    refine ⟨_, rfl, ⟨_, SqL.of at_q⟩, ?_⟩
    have hl2 : H2 l = some (.dK []) := s_H2 _ _ at_l
    have hql : q ≠ l := ne_of_none' hq at_l
    obtain ⟨R1, hR1⟩ : ∃ z, z = del H2 l := ⟨_, rfl⟩
    have sR1 : Same R1 H2 := by rw [hR1]; exact del_same _ _
    have R1l : R1 l = none := by rw [hR1]; exact del_self _ _
    have sH1 : Same H R1 := fun b o h => by rw [hR1]; exact del_at (s_H2 _ _ (s_H1 _ _ h)) (ne_of_none h hl)
    have qR : R1 q = some (.lst (ks.map V.int)) := by rw [hR1]; exact del_at at_q hql
    have hn : ((plainF A).map (·.1)).Nodup := by rw [plainF_keys]; exact hA.nums
    have hAl : ks.length ≤ 63 := by have := perm.length_eq; rw [List.length_map] at this; omega
    have hes : ∀ n, (esOf (plainF A) n).length ≤ 63 := esOf_len fun y hy => by
      obtain ⟨a, h⟩ := plainF_mem.mp (show (y.1, y.2) ∈ plainF A from hy)
      have := hz2 _ h
      simp only at this
      omega
    clear hR1 s_H1 s_H2
    refine for_it (walk_list (xs := ks.map V.int)) (fun i σ H' => ∃ a b ls E, σ = [some (.ref p), some (.ref l), a, b] ∧ Same R1 H' ∧ H' l = some (.dK ls) ∧ LedM K R1 H' ls E ∧ E.Perm (ordE (plainF A) (ks.take i)) ∧ ls.length ≤ E.length) ⟨_, _, [], [], rfl, sR1, hl2, LedM.nil, List.Perm.refl _, Nat.le_refl _⟩ (fun i σ H' _ hp => ?_) ?_ ?_
    · obtain ⟨_, _, _, _, _, s, _⟩ := hp
      exact SqL.of (s _ _ qR)
    · rintro i v σ H5 H' hi2 ⟨_, b0, ls, E, rfl, s1, l1, M, hE, hls⟩ ⟨rfl, hv⟩
      obtain ⟨n, hn1, rfl⟩ := map_at hv
      have sH := sH1.trans s1
      obtain ⟨a, es, hm⟩ := fA_mem (perm.subset (List.mem_of_getElem? hn1))
      have hm2 : (n, es) ∈ plainF A := plainF_mem.mpr ⟨a, hm⟩
      have hesl : es.length < 64 := hz2 _ hm
      have hesn := hA.names _ hm
      rw [ordE_take _ hn1, esOf_eq hn hm2]
      have hEl : E.length ≤ 4000 := by
        have h1 := hE.length_eq
        have h2 := ordE_len hes (ks.take i)
        have h3 : (ks.take i).length ≤ ks.length := by rw [List.length_take]; exact Nat.min_le_right _ _
        have h4 : (ks.take i).length * 63 ≤ 63 * 63 := Nat.mul_le_mul_right _ (by omega)
        omega
      refine ⟨_, rfl, _, _, _, _, _, rfl, sH _ _ hi, T.c_Mending, T.n_Mending_folders, rfl, _, rfl, _, _, rfl, .inl ⟨_, .inl n, .inl (sH _ _ hA.dict), rfl, (hA.get hm).symm⟩, a, _, es.map (·.1), rfl, .inl (sH _ _ (hA.inner _ hm)), dkI_keys es, by rw [List.length_map]; exact hesl, fun zs q2 perm2 _ hq2 => ?_⟩
      obtain ⟨H6, hH6⟩ : ∃ z, z = upd H' q2 (.lst (zs.map V.str)) := ⟨_, rfl⟩
      rw [← hH6]
      have at_q2 : H6 q2 = some (.lst (zs.map V.str)) := by rw [hH6, upd_same]
      have s_H6 : Same H' H6 := by rw [hH6]; exact same_new hq2
      have M6 : LedM K (upd R1 q2 (.lst (zs.map V.str))) H6 ls E := by
        rw [hH6]
        exact M.ghost hq2
      obtain ⟨R2, hR2⟩ : ∃ z, z = upd R1 q2 (.lst (zs.map V.str)) := ⟨_, rfl⟩
      have s12 : Same R1 R2 := by rw [hR2]; exact same_new (s1.free hq2)
      have q2R : R2 q2 = some (.lst (zs.map V.str)) := by rw [hR2, upd_same]
      have s26 : Same R2 H6 := by
        rw [hR2]
        intro b o h
        by_cases z : b = q2
        · subst z; rw [upd_same] at h; rw [at_q2]; exact h
        · rw [upd_ne z] at h; exact s_H6 _ _ (s1 _ _ h)
      have R2l : R2 l = none := by rw [hR2, upd_ne (ne_of_none' hq2 l1).symm]; exact R1l
      rw [← hR2] at M6
      have l6 := s_H6 _ _ l1
      have sH2 := sH1.trans s12
      have hzl : zs.length < 64 := by have := perm2.length_eq; rw [List.length_map] at this; omega
      clear hR2
      refine ⟨_, rfl, ⟨_, SqL.of at_q2⟩, ?_⟩
      refine for_it (walk_list (xs := zs.map V.str)) (fun j σ H' => ∃ b ls E', σ = [some (.ref p), some (.ref l), some (.int n), b] ∧ Same R2 H' ∧ H' l = some (.dK ls) ∧ LedM K R2 H' ls E' ∧ E'.Perm (E ++ (zs.take j).map fun a => (n, a, (getS es a).getD 0)) ∧ ls.length ≤ E'.length)
        ⟨_, ls, E, rfl, s26, l6, M6, by simp, hls⟩ (fun j σ H' _ hp => ?_) ?_ ?_
      · obtain ⟨_, _, _, _, s, _⟩ := hp
        exact SqL.of (s _ _ q2R)
      · rintro j v σ H7 H8 hj ⟨_, ls, E', rfl, s8, l8, M8, hE', hls⟩ ⟨rfl, hv⟩
        obtain ⟨z, hz1, rfl⟩ := map_at hv
        have sH8 := sH2.trans s8
        obtain ⟨⟨z', m⟩, hzm, rfl⟩ := List.mem_map.mp (perm2.subset (List.mem_of_getElem? hz1))
        have hget := getS_of hesn hzm
        have hE'l : E'.length ≤ 5000 := by
          have h1 := hE'.length_eq
          rw [List.length_append, List.length_map, List.length_take] at h1
          omega
        refine ⟨_, rfl, _, rfl, .inl ⟨_, .inl l8⟩, _, rfl, _, _, _, _, _, rfl, sH8 _ _ hi, T.c_Mending, T.n_Mending_folders, rfl, _, rfl, _, _, rfl, .inl ⟨_, .inl n, .inl (sH8 _ _ hA.dict), rfl, (hA.get hm).symm⟩, _, rfl, a, _, rfl, .inl ⟨_, .inr z', .inl (sH8 _ _ (hA.inner _ hm)), rfl, (by rw [valV_dkI, hget]; rfl)⟩, zl rfl, fun p3 hp3 => ⟨ls, .inl m, (same_new hp3) _ _ l8, rfl, sl (by omega), fun v hv => ?_, fun hv => ?_⟩⟩
        · -- the number leads already
          have hm' := valV_mem hv
          obtain ⟨a0, _, rfl, _⟩ := M8.ref hm'
          obtain ⟨H9, hH9⟩ : ∃ z, z = upd H8 p3 (.lst []) := ⟨_, rfl⟩
          rw [← hH9]
          have at_p3 : H9 p3 = some (.lst []) := by rw [hH9, upd_same]
          have s_H9 : Same H8 H9 := by rw [hH9]; exact same_new hp3
          clear hH9
          obtain ⟨_, xs3, ea, ha3, _, _⟩ := (M8.same s_H9).ref hm'
          obtain rfl := V.ref.inj ea
          refine ⟨tyL (SqL.of ha3), _, rfl, _, rfl, zl rfl, fun q4 hq4 => ?_⟩
          have s4 : Same H8 (upd H9 q4 (.tup [.int n, .str z'])) := s_H9.trans (same_new hq4)
          obtain ⟨xs0, ha4, hRa, hlen, M5⟩ := (M8.same s4).old (w := n) (s := z') hm' (upd_same ..)
          refine ⟨_, _, _, rfl, rfl, ha4, sl ?_, _, ls, _, rfl, Same.off (s8.trans s4) hRa, upd_at_ne (s4 _ _ l8) (ne_of_kinds (s4 _ _ l8) ha4 (fun z => by cases z)), M5, ?_, by rw [List.length_append]; omega⟩
          · have h2 : (ledOf E' m).length ≤ E'.length := by
              unfold ledOf
              rw [List.length_map]
              exact List.length_filter_le _ _
            omega
          · rw [take_get hz1, List.map_append, ← List.append_assoc]
            refine hE'.append ?_
            simp [hget]
        · -- it leads for the first time
          obtain ⟨H9, hH9⟩ : ∃ z, z = upd H8 p3 (.lst []) := ⟨_, rfl⟩
          rw [← hH9]
          have at_p3 : H9 p3 = some (.lst []) := by rw [hH9, upd_same]
          have s_H9 : Same H8 H9 := by rw [hH9]; exact same_new hp3
          clear hH9
          have hpl : p3 ≠ l := ne_of_none' hp3 l8
          obtain ⟨H10, hH10⟩ : ∃ z, z = upd H9 l (.dK (putK ls (.inl m) (.ref p3))) := ⟨_, rfl⟩
          rw [← hH10]
          have p4 : H10 p3 = some (.lst []) := by rw [hH10]; exact upd_at_ne at_p3 hpl
          have l4 : H10 l = some (.dK (putK ls (.inl m) (.ref p3))) := by rw [hH10, upd_same]
          have M4 : LedM K R2 H10 ls E' := by rw [hH10]; exact (M8.same s_H9).dict (s_H9 _ _ l8)
          have sR4 : Same R2 H10 := by rw [hH10]; exact Same.off (s8.trans s_H9) R2l
          refine ⟨tyL (SqL.of p4), _, rfl, _, rfl, zl rfl, fun q4 hq4 => ?_⟩
          have s5 := same_new (H := H10) (p := q4) (o := .tup [.int n, .str z']) hq4
          have hfr : ∀ z, (Sum.inl z, V.ref p3) ∉ ls := fun z hz => by
            obtain ⟨_, _, e, h1, _⟩ := M8.ref hz
            obtain rfl := V.ref.inj e
            rw [hp3] at h1; cases h1
          have M5 := (M4.same s5).new (w := n) (s := z') hv (s5 _ _ p4) (s8.free hp3) hfr (upd_same ..)
          have hll : (putK ls (Sum.inl m) (V.ref p3)).length ≤ ls.length + 1 := by
            unfold putK
            split
            · rw [List.length_map]; omega
            · rw [List.length_append]; exact Nat.le_refl _
          refine ⟨_, _, _, rfl, rfl, s5 _ _ p4, sl (Nat.zero_le _), _, _, _, rfl, Same.off (sR4.trans s5) (s8.free hp3), upd_at_ne (s5 _ _ l4) hpl.symm, M5, ?_, by rw [List.length_append]; exact Nat.le_trans hll (Nat.succ_le_succ hls)⟩
          rw [take_get hz1, List.map_append, ← List.append_assoc]
          refine hE'.append ?_
          simp [hget]
      · rintro σ H7 ⟨_, ls, E', rfl, s8, l8, M8, hE', hls⟩
        refine ⟨_, _, ls, E', rfl, s12.trans s8, l8, M8.weak s12, ?_, hls⟩
        refine hE'.trans (hE.append ?_)
        rw [List.length_map, List.take_length]
        refine (perm2.map _).trans ?_
        rw [List.map_map]
        refine List.Perm.of_eq (List.map_congr_left fun y hy => ?_)
        show (n, y.1, (getS es y.1).getD 0) = _
        rw [getS_of hesn (show (y.1, y.2) ∈ es from hy)]
        rfl
    · rintro σ H5 ⟨_, _, ls, E, rfl, s1, l1, M, hE, hls⟩
      rw [List.length_map, List.take_length] at hE
      refine ⟨_, rfl, k l ls E H5 (sH1.trans s1) hl l1 M.at_ (hE.trans (ordE_perm hn (by rw [plainF_keys]; exact perm)))⟩
end
end K81
set_option maxHeartbeats 4000000
namespace K81
open PySem PySem.Spec PyProof.Rows L2
/-- an entry of a sheet in the heap -/
def enA (A : FAt) (w : Int) (a : Str) (n : Int) : Prop := (w, a, n) ∈ flat (plainF A)
def keysA (A : FAt) : List Int := A.map (·.1)
/-- no folder has more than b entries -/
def lenA (b : Nat) (A : FAt) : Prop := ∀ x ∈ A, x.2.2.length ≤ b
theorem enA_iff {A : FAt} {w n : Int} {a : Str} : enA A w a n ↔ ∃ adr es, (w, adr, es) ∈ A ∧ (a, n) ∈ es := by
  unfold enA
  rw [mem_flat]
  constructor
  · rintro ⟨es, h1, h2⟩
    obtain ⟨adr, h3⟩ := plainF_mem.mp h1
    exact ⟨adr, es, h3, h2⟩
  · rintro ⟨adr, es, h1, h2⟩
    exact ⟨es, plainF_mem.mpr ⟨adr, h1⟩, h2⟩
section
variable {H : Hp} {d : Addr} {A : FAt}
theorem FoOn.en (h : FoOn H d A) {w : Int} {adr : Addr} {es : List (Str × Int)} (m : (w, adr, es) ∈ A) {a : Str} {n : Int} : enA A w a n ↔ (a, n) ∈ es := by
  rw [enA_iff]
  constructor
  · rintro ⟨adr', es', h1, h2⟩
    obtain ⟨_, rfl⟩ := h.uniq m h1
    exact h2
  · exact fun q => ⟨adr, es, m, q⟩
theorem FoOn.fun (h : FoOn H d A) {w n m : Int} {a : Str} (h1 : enA A w a n) (h2 : enA A w a m) : n = m := by
  obtain ⟨adr, es, q1, q2⟩ := enA_iff.mp h1
  have q3 := (h.en q1).mp h2
  have q4 := nodup_keyg (f := (·.1)) (h.names _ q1) q2 q3 rfl
  exact (Prod.mk.inj q4).2
theorem FoOn.en_set (h : FoOn H d A) {w : Int} {adr : Addr} {fs es : List (Str × Int)} (m : (w, adr, fs) ∈ A) {w' : Int} {a : Str} {n : Int} : enA (setF A w es) w' a n ↔ (w' = w ∧ (a, n) ∈ es) ∨ (w' ≠ w ∧ enA A w' a n) := by
  rw [enA_iff]
  constructor
  · rintro ⟨adr', es', h1, h2⟩
    rcases setF_mem h1 with ⟨e1, e2, _⟩ | ⟨e1, h1⟩
    · simp only at e1 e2
      exact .inl ⟨e1, by rw [← e2]; exact h2⟩
    · exact .inr ⟨e1, enA_iff.mpr ⟨adr', es', h1, h2⟩⟩
  · rintro (⟨rfl, q⟩ | ⟨q, h2⟩)
    · exact ⟨adr, es, setF_self m, q⟩
    · obtain ⟨adr', es', h3, h4⟩ := enA_iff.mp h2
      exact ⟨adr', es', setF_other h3 q, h4⟩
end
theorem On.foOn {K : PySem.W.Frag} {R H : Hp} {C p : Addr} {rest : List (Str × V)} {A : FAt} {G : List (Int × Int × Str)} (h : On K R H C p rest A G) : ∃ d, FoOn H d A := by
  obtain ⟨dx, d, e, gs, h1, h2, _⟩ := h
  exact ⟨d, h2⟩
theorem On.weak {K : PySem.W.Frag} {R R' H : Hp} {C p : Addr} {rest : List (Str × V)} {A : FAt} {G : List (Int × Int × Str)} (s : Same R' R) (h : On K R H C p rest A G) : On K R' H C p rest A G := by
  obtain ⟨dx, d, e, gs, h1, h2, h3, h4, h5, h6, h7, h8, h9, h10, h11, h12⟩ := h
  exact ⟨dx, d, e, gs, h1, h2, h3, h4, h5, h6, h7, s.trans h8, s.free h9, s.free h10, s.free h11, fun x m => s.free (h12 x m)⟩
/-- all that is new may be held -/
theorem On.full {K : PySem.W.Frag} {R H0 H : Hp} {C p : Addr} {rest : List (Str × V)} {A : FAt} {G : List (Int × Int × Str)} (s : Same H0 H) (h : On K R H0 C p rest A G) : ∃ R', On K R' H C p rest A G ∧ Same R R' ∧ ∀ b o, H0 b = none → H b = some o → R' b = some o := by
  obtain ⟨dx, d, e, gs, h1, h2, h3, h4, h5, h6, h7, h8, h9, h10, h11, h12⟩ := h.same s
  obtain ⟨dx', d', e', gs', g1, g2, g3, g4, g5, g6, g7, g8, g9, g10, g11, g12⟩ := h
  have ei := (s _ _ g1).symm.trans h1
  obtain ⟨_, _, ee⟩ := HO.ins.inj (Option.some.inj ei)
  have ed : d' = d := by
    have := (List.cons.inj ee).1
    exact V.ref.inj (Prod.mk.inj this).2
  have ee2 : e' = e := by
    have := (List.cons.inj (List.cons.inj ee).2).1
    exact V.ref.inj (Prod.mk.inj this).2
  subst ed
  subst ee2
  have nM : ∀ b, H0 b = none → b ∉ p :: d' :: e' :: A.map (·.2.1) := fun b hb hm => by
    rcases List.mem_cons.mp hm with z | hm
    · rw [z, g1] at hb; cases hb
    rcases List.mem_cons.mp hm with z | hm
    · rw [z, g2.dict] at hb; cases hb
    rcases List.mem_cons.mp hm with z | hm
    · rw [z, g3] at hb; cases hb
    · obtain ⟨x, hx, z⟩ := List.mem_map.mp hm
      have := g2.inner x hx
      have z' : x.2.1 = b := z
      rw [z', hb] at this; cases this
  refine ⟨dels H (p :: d' :: e' :: A.map (·.2.1)), ⟨dx, d', e', gs, h1, h2, h3, h4, h5, h6, h7, dels_same _ _, dels_in (by simp), dels_in (by simp), dels_in (by simp), fun x m => dels_in ?_⟩, fun b o q => ?_, fun b o q1 q2 => ?_⟩
  · exact List.mem_cons_of_mem _ (List.mem_cons_of_mem _ (List.mem_cons_of_mem _ (List.mem_map.mpr ⟨x, m, rfl⟩)))
  · rw [dels_out]
    · exact h8 _ _ q
    · intro hm
      rcases List.mem_cons.mp hm with z | hm
      · rw [z, h9] at q; cases q
      rcases List.mem_cons.mp hm with z | hm
      · rw [z, h10] at q; cases q
      rcases List.mem_cons.mp hm with z | hm
      · rw [z, h11] at q; cases q
      · obtain ⟨x, hx, z⟩ := List.mem_map.mp hm
        have := h12 x hx
        have z' : x.2.1 = b := z
        rw [z', q] at this; cases this
  · rw [dels_out (nM b q1)]
    exact q2
def spLeave (K : PySem.W.Frag) (C : Addr) : Sp := fun vs H Q _ => ∃ (p : Addr) (R : Hp) (rest : List (Str × V)) (A : FAt) (G : List (Int × Int × Str)) (w : Int) (a : Str) (n : Int), vs = [.ref p, .int w, .str a] ∧ On K R H C p rest A G ∧ enA A w a n ∧
  ∀ A' H', On K R H' C p rest A' G → SameD H H' → keysA A' = keysA A → (∀ w' a' n', enA A' w' a' n' ↔ enA A w' a' n' ∧ ¬ (w' = w ∧ a' = a)) → (∀ b, lenA b A → lenA b A') → Q .non H'
def spPutIn (K : PySem.W.Frag) : Sp := fun vs H Q _ => ∃ (p : Addr) (R : Hp) (rest : List (Str × V)) (A : FAt) (G : List (Int × Int × Str)) (n : Int), vs = [.ref p, .int n] ∧ On K R H (He.ga K "Mending") p rest A G ∧ 1 ∈ keysA A ∧ 0 ≤ n ∧ n < 100000 ∧ lenA 700 A ∧
  ∀ A' z H', On K R H' (He.ga K "Mending") p rest A' G → SameD H H' → keysA A' = keysA A → isName z = true → (∀ m, ¬ enA A 1 z m) → (∀ w' a' n', enA A' w' a' n' ↔ enA A w' a' n' ∨ (w' = 1 ∧ a' = z ∧ n' = n)) → (∀ b, lenA b A → lenA (b + 1) A') → Q .non H'
theorem setF_len {A : FAt} {w : Int} {es : List (Str × Int)} {b : Nat} (h : lenA b A) (he : es.length ≤ b) : lenA b (setF A w es) := fun x hx => by
  rcases setF_mem hx with ⟨_, e2, _⟩ | ⟨_, hx⟩
  · rw [e2]; exact he
  · exact h x hx
theorem lenA_mono {A : FAt} {b c : Nat} (h : lenA b A) (hc : b ≤ c) : lenA c A := fun x hx => Nat.le_trans (h x hx) hc
section
variable {P : Program} {w : World} {K : PySem.W.Frag} {mg : Str → Option Value} {base : Heap}
abbrev N_Mending_leave_out : List Str := ["self", "folder", "name"]
theorem sc_Mending_leave_out : FnScope N_Mending_leave_out ["self", "folder", "name"] (defScope s_Mending_leave_out) := ⟨rfl, rfl, rfl, by decide +kernel, rfl, by decide +kernel, by decide +kernel⟩
theorem ok_Mending_leave_out (T : Tx K mg base) : OkD P w K mg base d_Mending_leave_out.at_ 1 ["self", "folder", "name"] (spLeave K (He.ga K "Mending")) := by
  refine okD_of T.F_Mending_leave_out sc_Mending_leave_out (fun _ _ _ _ _ _ us hl => match us, hl with | [_, _, _], _ => rfl) (fun vs H Q E h => ?_) (fun cdv A outer s H vs Q E hr h => ?_)
  · obtain ⟨p, R, rest, A, G, w, a, n, rfl, _⟩ := h
    rfl
  · obtain ⟨p, R, rest, A, G, w', a, n, rfl, hOn, hen, k⟩ := h
    have hu := hu_of hr
    refine ⟨_, (pss_one (ps_expr (pe_dpop1 (pe_dget hu (pe_fldK K (pv 0) rfl) (pv 1) (fun _ _ => rfl)) (pv 2) ⟨rfl, rfl, rfl, rfl⟩))), ?_⟩
    have hOn' := hOn
    obtain ⟨dx, d, e, gs, hi, hA, _⟩ := hOn
    obtain ⟨adr, es, hm, hae⟩ := enA_iff.mp hen
    have hg := getS_of (hA.names _ hm) hae
    refine ⟨_, rfl, _, _, _, _, _, rfl, hi, T.c_Mending, T.n_Mending_folders, rfl, _, rfl, _, _, rfl, .inl ⟨_, .inl w', .inl hA.dict, rfl, (hA.get hm).symm⟩, _, rfl, .inl ⟨_, .inl (hA.inner _ hm)⟩, _, rfl, _, .inr a, _, hA.inner _ hm, rfl, (by rw [valV_dkI, hg]; rfl), ?_⟩
    rw [dkI_drop]
    refine k (setF A w' (dropS es a)) _ (hOn'.set hm (dropS_nodup (hA.names _ hm))) (SameD.upd (hA.inner _ hm)) (setF_keys _ _ _) (fun w2 a2 n2 => ?_) (fun b hb => setF_len hb (Nat.le_trans (List.length_filter_le _ _) (hb _ hm)))
    rw [hA.en_set hm, dropS_mem]
    constructor
    · rintro (⟨rfl, q1, q2⟩ | ⟨q1, q2⟩)
      · exact ⟨(hA.en hm).mpr q1, fun z => q2 z.2⟩
      · exact ⟨q2, fun z => q1 z.1⟩
    · rintro ⟨q1, q2⟩
      by_cases z : w2 = w'
      · subst z
        exact .inl ⟨rfl, (hA.en hm).mp q1, fun y => q2 ⟨rfl, y⟩⟩
      · exact .inr ⟨z, q1⟩
abbrev N_Mending_put_in : List Str := ["self", "number"]
theorem sc_Mending_put_in : FnScope N_Mending_put_in ["self", "number"] (defScope s_Mending_put_in) := ⟨rfl, rfl, rfl, by decide +kernel, rfl, by decide +kernel, by decide +kernel⟩
theorem ok_Mending_put_in (T : Tx K mg base) : OkD P w K mg base d_Mending_put_in.at_ 2 ["self", "number"] (spPutIn K) := by
  have G_clash_name := ok_clash_name (P := P) (w := w) T
  refine okD_of T.F_Mending_put_in sc_Mending_put_in (fun _ _ _ _ _ _ us hl => match us, hl with | [_, _], _ => rfl) (fun vs H Q E h => ?_) (fun cdv A outer s H vs Q E hr h => ?_)
  · obtain ⟨p, R, rest, A, G, n, rfl, _⟩ := h
    rfl
  · obtain ⟨p, R, rest, A, G, n, rfl, hOn, h1, h0, hn, hl, k⟩ := h
    have hu := hu_of hr
    refine ⟨_, (pss_one (ps_dput hu (pe_dget hu (pe_fldK K (pv 0) rfl) (pe_gint T.i_CLASH_looker) (fun _ _ => rfl)) (pe_callO G_clash_name hr (by decide) T.g_clash_name (pa_cons (pe_dget hu (pe_fldK K (pv 0) rfl) (pe_gint T.i_CLASH_looker) (fun _ _ => rfl)) (pa_cons (pv 1) pa_nil))) (pv 1) rfl)), ?_⟩
    have hOn' := hOn
    obtain ⟨dx, d, e, gs, hi, hA, _⟩ := hOn
    obtain ⟨adr, es, hm⟩ := fA_mem h1
    have hel := hl _ hm
    replace hel : es.length ≤ 700 := hel
    obtain ⟨n, rfl⟩ := Int.eq_ofNat_of_zero_le h0
    refine ⟨_, rfl, _, rfl, _, _, _, _, _, rfl, hi, T.c_Mending, T.n_Mending_folders, rfl, _, _, rfl, .inl ⟨_, .inl 1, .inl hA.dict, rfl, (hA.get hm).symm⟩, _, rfl, _, _, _, _, _, rfl, hi, T.c_Mending, T.n_Mending_folders, rfl, _, _, rfl, .inl ⟨_, .inl 1, .inl hA.dict, rfl, (hA.get hm).symm⟩, _, rfl, adr, dkI es, n, rfl, .inl (hA.inner _ hm), by omega, by rw [dkI_len]; omega, fun z H1 s1 hz hno => ?_⟩
    rw [valV_dkI, Option.map_eq_none_iff, getS_none] at hno
    refine ⟨_, _, rfl, .inl ⟨dkI es, .inr z, s1 _ _ (hA.inner _ hm), rfl, sl (by rw [dkI_len]; omega), rfl⟩, ?_⟩
    rw [dkI_put hno]
    have hnd : ((es ++ [(z, (n : Int))]).map (·.1)).Nodup := by
      rw [List.map_append]
      exact List.nodup_append.mpr ⟨hA.names _ hm, by simp, fun x hx y hy q => by rw [List.map_singleton, List.mem_singleton] at hy; rw [q, hy] at hx; exact hno hx⟩
    refine k (setF A 1 (es ++ [(z, (n : Int))])) z _ ((hOn'.same s1).set hm hnd) (s1.d.trans (SameD.upd (s1 _ _ (hA.inner _ hm)))) (setF_keys _ _ _) hz (fun m q => hno (List.mem_map.mpr ⟨_, (hA.en hm).mp q, rfl⟩)) (fun w2 a2 n2 => ?_) (fun b hb => setF_len (lenA_mono hb (Nat.le_succ _)) (by rw [List.length_append]; exact Nat.succ_le_succ (hb _ hm)))
    rw [hA.en_set hm, List.mem_append, List.mem_singleton]
    constructor
    · rintro (⟨rfl, q1 | q1⟩ | ⟨q1, q2⟩)
      · exact .inl ((hA.en hm).mpr q1)
      · exact .inr ⟨rfl, (Prod.mk.inj q1).1, (Prod.mk.inj q1).2⟩
      · exact .inl q2
    · rintro (q | ⟨rfl, rfl, rfl⟩)
      · by_cases z : w2 = 1
        · subst z
          exact .inl ⟨rfl, .inl ((hA.en hm).mp q)⟩
        · exact .inr ⟨z, q⟩
      · exact .inl ⟨rfl, .inr rfl⟩
end
end K81
set_option maxHeartbeats 4000000
namespace K81
open PySem PySem.Spec PyProof.Rows L2
theorem LedAt.nth {K : PySem.W.Frag} {H : Hp} {ls : List (Key × V)} {E : List (Int × Str × Int)} {ns : List Int} (h1 : ls.map (·.1) = ns.map Sum.inl) {i : Nat} {kv : Key × V} (hk : ls[i]? = some kv) : ∃ n, ns[i]? = some n ∧ kv.1 = Sum.inl n := by
  have e : (ls.map (·.1))[i]? = some kv.1 := by rw [List.getElem?_map, hk]; rfl
  rw [h1] at e
  obtain ⟨n, q1, q2⟩ := map_at e
  exact ⟨n, q1, q2.symm⟩
theorem take_not {α : Type} {l : List α} (hn : l.Nodup) {i : Nat} {a : α} (h : l[i]? = some a) : a ∉ l.take i := fun hm => by
  have e := take_get h
  have : (l.take (i + 1)).Nodup := hn.sublist (List.take_sublist _ _)
  rw [e] at this
  exact (List.nodup_append.mp this).2.2 _ hm _ (List.mem_singleton.mpr rfl) rfl
theorem mem_take_succ {α : Type} {l : List α} {i : Nat} {a b : α} (h : l[i]? = some a) : b ∈ l.take (i + 1) ↔ b ∈ l.take i ∨ b = a := by
  rw [take_get h, List.mem_append, List.mem_singleton]
theorem On.once {K : PySem.W.Frag} {R H : Hp} {C p : Addr} {rest : List (Str × V)} {A : FAt} {G : List (Int × Int × Str)} (h : On K R H C p rest A G) : ((plainF A).map (·.1)).Nodup ∧ ∀ w es, (w, es) ∈ plainF A → (es.map (·.1)).Nodup := by
  obtain ⟨d, hA⟩ := h.foOn
  refine ⟨by rw [plainF_keys]; exact hA.nums, fun w es m => ?_⟩
  obtain ⟨a, hm⟩ := plainF_mem.mp m
  exact hA.names _ hm
def spDropBlind (K : PySem.W.Frag) : Sp := fun vs H Q _ => ∃ (p : Addr) (R : Hp) (A : FAt) (G : List (Int × Int × Str)), vs = [.ref p] ∧ On K R H (He.ga K "Mending") p [] A G ∧ A.length < 64 ∧ lenA 63 A ∧
  ∀ A' H', On K R H' (He.ga K "Mending") p [] A' G → SameD H H' → keysA A' = keysA A → (∀ w a n, enA A' w a n ↔ enA A w a n ∧ ¬ (n = 0 ∨ (n ∉ keysA A ∧ n ∉ G.map (·.1)))) → (∀ b, lenA b A → lenA b A') → Q .non H'
def keptOf (E : List (Int × Str × Int)) (n : Int) : Int × Str := if n = 1 then (0, "clash") else (ledOf E n).headD (0, "")
def spDropMore (K : PySem.W.Frag) : Sp := fun vs H Q _ => ∃ (p : Addr) (R : Hp) (A : FAt) (G : List (Int × Int × Str)), vs = [.ref p] ∧ On K R H (He.ga K "Mending") p [] A G ∧ A.length < 64 ∧ lenA 63 A ∧ (∀ w a n, enA A w a n → isName a = true) ∧
  ∀ A' H' E, On K R H' (He.ga K "Mending") p [] A' G → SameD H H' → keysA A' = keysA A → E.Perm (flat (plainF A)) → (∀ w a n, enA A' w a n ↔ enA A w a n ∧ ¬ (n ∈ keysA A ∧ (w, a) ≠ keptOf E n)) → (∀ b, lenA b A → lenA b A') → Q .non H'
section
variable {P : Program} {w : World} {K : PySem.W.Frag} {mg : Str → Option Value} {base : Heap}
abbrev N_Mending_drop_blind : List Str := ["self", "number", "entries", "folder", "name"]
theorem sc_Mending_drop_blind : FnScope N_Mending_drop_blind ["self"] (defScope s_Mending_drop_blind) := ⟨rfl, rfl, rfl, by decide +kernel, rfl, by decide +kernel, by decide +kernel⟩
theorem ok_Mending_drop_blind (T : Tx K mg base) : OkD P w K mg base d_Mending_drop_blind.at_ 2 ["self"] (spDropBlind K) := by
  have G_Mending_leads_now := ok_Mending_leads_now (P := P) (w := w) T
  have G_Mending_leave_out := ok_Mending_leave_out (P := P) (w := w) T
  refine okD_of T.F_Mending_drop_blind sc_Mending_drop_blind (fun _ _ _ _ _ _ us hl => match us, hl with | [_], _ => rfl) (fun vs H Q E h => ?_) (fun cdv A outer s H vs Q E hr h => ?_)
  · obtain ⟨p, R, A, G, rfl, _⟩ := h
    rfl
  · obtain ⟨p, R, A, G, rfl, hOn, hl, hz2, k⟩ := h
    have hu := hu_of hr
    refine ⟨_, (pss_one (ps_for PassesOwn.never rfl (pi_items (pe_frz (pe_methO0 G_Mending_leads_now hr (by decide) T.c_Mending T.m_Mending_leads_now (pv 0)))) (pg_tupK K (n := 2) rfl (pgs_cons (pg_name (i := 1) sc_Mending_drop_blind.nd rfl (by first | exact Or.inl rfl | exact Or.inr rfl)) (pgs_cons (pg_name (i := 2) sc_Mending_drop_blind.nd rfl (by first | exact Or.inl rfl | exact Or.inr rfl)) pgs_nil))) (pss_one (ps_if (PW.pt (pw_or (pt_cmpR op_eq (pv 1) (pe_gint T.i_ROOT_looker) (nomark _)) (pw_or1 (PW.pt (pw_and (pt_cmp (pc_dnotin hu (pv 1) (pe_fldK K (pv 0) rfl))) (pw_and1 (pt_cmp (pc_dnotin hu (pv 1) (pe_fldK K (pv 0) rfl))))))))) (pss_one (ps_for PassesOwn.never rfl (pi_list (pv 2)) (pg_tupK K (n := 2) rfl (pgs_cons (pg_name (i := 3) sc_Mending_drop_blind.nd rfl (by first | exact Or.inl rfl | exact Or.inr rfl)) (pgs_cons (pg_name (i := 4) sc_Mending_drop_blind.nd rfl (by first | exact Or.inl rfl | exact Or.inr rfl)) pgs_nil))) (pss_one (ps_expr (pe_methO G_Mending_leave_out hr (by decide) T.c_Mending T.m_Mending_leave_out (pv 0) (pa_cons (pv 3) (pa_cons (pv 4) pa_nil))))))) pss_nil)))), ?_⟩
    have hi := hOn
    obtain ⟨dx, d, e, gs, hi, _⟩ := hi
    obtain ⟨hn1, hn2⟩ := hOn.once
    obtain ⟨d', hA0⟩ := hOn.foOn
    refine ⟨_, rfl, _, _, _, rfl, hi, rfl, p, R, [], A, G, rfl, hOn, hl, fun x m => Nat.lt_succ_of_le (hz2 x m), fun l ls E H1 s1 hl0 hl1 hL hE => ?_⟩
    refine ⟨l, _, rfl, hl1, trivial, fun od => ⟨l, od, ls, rfl, upd_same .., ?_⟩⟩
    obtain ⟨Hf, hHf⟩ : ∃ z, z = upd H1 l (.frz od (.dK ls)) := ⟨_, rfl⟩
    rw [← hHf]
    have sf : Same H Hf := by rw [hHf]; exact Same.off s1 hl0
    have lf : Hf l = some (.frz od (.dK ls)) := by rw [hHf, upd_same]
    have hLf : LedAt K Hf ls E := by rw [hHf]; exact hL.sd (SameD.upd hl1)
    clear hHf hL hl1
    have hL0 := hLf
    obtain ⟨ns, m1, m2, m3, m4⟩ := hLf
    have hEn := hE.symm.nodup (flat_nodup hn1 hn2)
    refine for_it walk_items (fun i σ H' => ∃ a b c f A', σ = [some (.ref p), a, b, c, f] ∧ On K R H' (He.ga K "Mending") p [] A' G ∧ SameD Hf H' ∧ keysA A' = keysA A ∧ (∀ w a n, enA A' w a n ↔ enA A w a n ∧ ¬ ((n = 0 ∨ (n ∉ keysA A ∧ n ∉ G.map (·.1))) ∧ n ∈ ns.take i)) ∧ (∀ b, lenA b A → lenA b A'))
      ⟨_, _, _, _, A, rfl, hOn.same sf, SameD.refl _, rfl, fun w a n => by simp, fun b h => h⟩ (fun i σ H' _ hp => ?_) ?_ ?_
    · obtain ⟨_, _, _, _, _, _, _, s, _⟩ := hp
      exact s _ _ lf (fun _ z => by cases z)
    · rintro i v σ H2 H' hi2 ⟨_, _, c0, f0, A', rfl, hOn', sd, hk, hrel, hlen⟩ ⟨T', y1, y2, rfl, hT', rfl, hy1, hy2⟩
      obtain ⟨kv, hkv⟩ : ∃ kv, ls[i]? = some kv := ⟨_, List.getElem?_eq_getElem hi2⟩
      obtain ⟨n, hn1', hn2'⟩ := LedAt.nth (K := K) (H := H) (E := E) m1 hkv
      obtain ⟨kk, vv⟩ := kv
      simp only at hn2'
      subst hn2'
      replace hy1 : (ls[i]?.map fun kv => kV kv.1) = some y1 := hy1
      replace hy2 : (ls[i]?.map Prod.snd) = some y2 := hy2
      rw [hkv] at hy1 hy2
      obtain rfl := Option.some.inj hy1
      obtain rfl := Option.some.inj hy2
      obtain ⟨a0, xs, rfl, hxs, hpx⟩ := m4 n vv (List.mem_of_getElem? hkv)
      have s3 : Same H2 (upd H2 T' (.tup [kV (Sum.inl n), .ref a0])) := same_new hT'
      obtain ⟨H3, hH3⟩ : ∃ z, z = upd H2 T' (.tup [kV (Sum.inl n), .ref a0]) := ⟨_, rfl⟩
      have atT : H3 T' = some (.tup [kV (Sum.inl n), .ref a0]) := by rw [hH3, upd_same]
      rw [← hH3] at s3 ⊢
      clear hH3
      have hOn3 := hOn'.same s3
      have sd3 := sd.trans s3.d
      refine ⟨_, _, rfl, SqT.of atT, rfl, _, _, rfl, _, _, rfl, rfl, ?_⟩
      have hi3 := hOn3
      obtain ⟨dx3, d3, e3, gs3, hi3, hA3, he3, hG3, _⟩ := hi3
      have hns : n ∉ ns.take i := take_not m2 hn1'
      refine' (fun (th : (n = 0 ∨ (n ∉ keysA A ∧ n ∉ G.map (·.1))) → (_ : Prop)) (el : ¬ (n = 0 ∨ (n ∉ keysA A ∧ n ∉ G.map (·.1))) → (_ : Prop)) => ?main) ?th ?el
      case main =>
        refine ⟨_, rfl, rfl, _, rfl, ite2 (fun h => ?_) (fun h => ?_)⟩
        · refine (?_ : if true = true then _ else _)
          rw [if_pos rfl]
          exact th (.inl (V.int.inj (of_decide_eq_true h)))
        · have h0 : ¬ n = 0 := fun z => h (decide_eq_true (congrArg V.int z))
          refine ⟨_, rfl, _, rfl, _, _, _, _, _, rfl, hi3, T.c_Mending, T.n_Mending_folders, rfl, _, _, rfl, .inl ⟨_, .inl n, .inl hA3.dict, rfl, rfl⟩, _, rfl, ?_⟩
          rw [fKV_some]
          have hk' : A'.map (·.1) = keysA A := hk
          rw [hk']
          refine ite2 (fun h1 => ?_) (fun h1 => ?_)
          · have h1' : n ∉ keysA A := by simpa using h1
            refine ⟨_, rfl, _, rfl, _, _, _, _, _, rfl, hi3, T.c_Mending, T.n_Mending_files, rfl, _, _, rfl, .inl ⟨_, .inl n, .inl he3, rfl, rfl⟩, _, rfl, ?_⟩
            rw [hG3.isSome]
            refine ite2 (fun h2 => ?_) (fun h2 => ?_)
            · exact th (.inr ⟨h1', by simpa using h2⟩)
            · exact el (by
                rintro (z | z)
                · exact h0 z
                · exact z.2 (by simpa using h2))
          · refine iteF (el ?_)
            rintro (z | z)
            · exact h0 z
            · exact z.1 (by simpa using h1)
      case el =>
        intro hnb
        refine ⟨_, _, _, _, A', rfl, hOn3, sd3, hk, fun w a m => ?_, hlen⟩
        rw [hrel, mem_take_succ hn1']
        constructor
        · rintro ⟨q1, q2⟩
          refine ⟨q1, fun z => ?_⟩
          rcases z.2 with y | y
          · exact q2 ⟨z.1, y⟩
          · rw [y] at z; exact hnb z.1
        · rintro ⟨q1, q2⟩
          exact ⟨q1, fun z => q2 ⟨z.1, .inl z.2⟩⟩
      case th =>
        intro hbl
        have hled := ledOf_nodup hEn n
        have hx3 := sd3.seq hxs
        refine ⟨_, rfl, _, rfl, ⟨_, hx3⟩, ?_⟩
        refine for_it (walk_list (xs := xs)) (fun j σ H' => ∃ c f A2, σ = [some (.ref p), some (.int n), some (.ref a0), c, f] ∧ On K R H' (He.ga K "Mending") p [] A2 G ∧ SameD H3 H' ∧ keysA A2 = keysA A ∧ (∀ w a m, enA A2 w a m ↔ enA A' w a m ∧ (w, a) ∉ (ledOf E n).take j) ∧ (∀ b, lenA b A → lenA b A2))
          ⟨_, _, A', rfl, hOn3, SameD.refl _, hk, fun w a m => by simp, hlen⟩ (fun j σ H' _ hp => ?_) ?_ ?_
        · obtain ⟨_, _, _, _, _, s, _⟩ := hp
          exact s.seq hx3
        · rintro j v σ H4 H5 hj ⟨_, _, A2, rfl, hOn4, sd4, hk4, hrel4, hlen4⟩ ⟨rfl, hv⟩
          obtain ⟨⟨w1, a1⟩, hw1, t1, rfl, ht1⟩ := paired_at hpx hv
          have ht4 := sd4.tup (sd3.tup ht1)
          refine ⟨_, _, rfl, ht4, rfl, _, _, rfl, _, _, rfl, rfl, ?_⟩
          have hi4 := hOn4
          obtain ⟨dx4, d4, e4, gs4, hi4, _⟩ := hi4
          have hen : enA A w1 a1 n := hE.mem_iff.mp (ledOf_mem.mp (List.mem_of_getElem? hw1))
          refine ⟨_, rfl, _, _, _, rfl, hi4, rfl, _, rfl, _, rfl, p, R, [], A2, G, w1, a1, n, rfl, hOn4, ?_, fun A5 H6 hOn5 sd5 hk5 hrel5 hlen5 => ?_⟩
          · exact (hrel4 _ _ _).mpr ⟨(hrel _ _ _).mpr ⟨hen, fun z => hns z.2⟩, take_not hled hw1⟩
          · refine ⟨_, _, A5, rfl, hOn5, sd4.trans sd5, hk5.trans hk4, fun w a m => ?_, fun b hb => hlen5 b (hlen4 b hb)⟩
            rw [hrel5, hrel4, mem_take_succ hw1]
            constructor
            · rintro ⟨⟨q1, q2⟩, q3⟩
              refine ⟨q1, fun z => ?_⟩
              rcases z with z | z
              · exact q2 z
              · exact q3 ⟨(Prod.mk.inj z).1, (Prod.mk.inj z).2⟩
            · rintro ⟨q1, q2⟩
              exact ⟨⟨q1, fun z => q2 (.inl z)⟩, fun z => q2 (.inr (Prod.ext z.1 z.2))⟩
        · rintro σ H4 ⟨_, _, A2, rfl, hOn4, sd4, hk4, hrel4, hlen4⟩
          refine ⟨_, _, _, _, A2, rfl, hOn4, sd3.trans sd4, hk4, fun w a m => ?_, hlen4⟩
          rw [paired_len hpx, List.take_length] at hrel4
          rw [hrel4, hrel, mem_take_succ hn1', ledOf_mem, hE.mem_iff]
          constructor
          · rintro ⟨⟨q1, q2⟩, q3⟩
            refine ⟨q1, fun z => ?_⟩
            rcases z.2 with y | y
            · exact q2 ⟨z.1, y⟩
            · rw [y] at q1; exact q3 q1
          · rintro ⟨q1, q2⟩
            refine ⟨⟨q1, fun z => q2 ⟨z.1, .inl z.2⟩⟩, fun z => ?_⟩
            have : m = n := hA0.fun q1 z
            exact q2 (by rw [this]; exact ⟨hbl, .inr rfl⟩)
    · rintro σ H2 ⟨_, _, _, _, A', rfl, hOn', sd, hk, hrel, hlen⟩
      refine k A' H2 hOn' (sf.d.trans sd) hk (fun w a n => ?_) hlen
      have hll : ns.length = ls.length := by
        have := congrArg List.length m1
        rw [List.length_map, List.length_map] at this
        exact this.symm
      rw [← hll, List.take_length] at hrel
      rw [hrel]
      constructor
      · rintro ⟨q1, q2⟩
        refine ⟨q1, fun z => q2 ⟨z, (m3 n).mpr fun y => ?_⟩⟩
        have := ledOf_mem.mpr (hE.mem_iff.mpr q1)
        rw [y] at this; cases this
      · rintro ⟨q1, q2⟩
        exact ⟨q1, fun z => q2 z.1⟩
end
end K81
set_option maxHeartbeats 4000000
namespace K81
open PySem PySem.Spec PyProof.Rows L2
def encP (e : Int × Str) : PyData := .tuple [.int e.1, .str e.2]
theorem eqv_encP (a b : Int × Str) : PyData.eqv (encP a) (encP b) = decide (a = b) := by
  obtain ⟨a1, a2⟩ := a
  obtain ⟨b1, b2⟩ := b
  simp only [encP, PyData.eqv, PyData.eqvAll, Bool.and_true]
  by_cases h1 : a1 = b1
  · subst h1
    by_cases h2 : a2 = b2
    · subst h2; simp
    · simp [h2]
  · simp [h1]
theorem shaped_encP {e : Int × Str} (h : isName e.2 = true) : SeqAt.shaped (encP e) = true := by
  have h1 := isName_ok h
  show (PyData.canLay0 (encP e) && decide (PyData.depth (encP e) ≤ 64)) = true
  simp only [encP, PyData.canLay0, PyData.canLayAll0, PyData.depth, PyData.depthAll, h1]
  decide
section
variable {P : Program} {w : World} {K : PySem.W.Frag} {mg : Str → Option Value} {base : Heap}
abbrev N_Mending_drop_more : List Str := ["self", "number", "entries", "kept", "folder", "name"]
theorem sc_Mending_drop_more : FnScope N_Mending_drop_more ["self"] (defScope s_Mending_drop_more) := ⟨rfl, rfl, rfl, by decide +kernel, rfl, by decide +kernel, by decide +kernel⟩
theorem ok_Mending_drop_more (T : Tx K mg base) : OkD P w K mg base d_Mending_drop_more.at_ 2 ["self"] (spDropMore K) := by
  have G_Mending_leads_now := ok_Mending_leads_now (P := P) (w := w) T
  have G_Mending_leave_out := ok_Mending_leave_out (P := P) (w := w) T
  refine okD_of T.F_Mending_drop_more sc_Mending_drop_more (fun _ _ _ _ _ _ us hl => match us, hl with | [_], _ => rfl) (fun vs H Q E h => ?_) (fun cdv A outer s H vs Q E hr h => ?_)
  · obtain ⟨p, R, A, G, rfl, _⟩ := h
    rfl
  · obtain ⟨p, R, A, G, rfl, hOn, hl, hz2, hnm, k⟩ := h
    have hu := hu_of hr
    refine ⟨_, (pss_one (ps_for PassesOwn.never rfl (pi_items (pe_frz (pe_methO0 G_Mending_leads_now hr (by decide) T.c_Mending T.m_Mending_leads_now (pv 0)))) (pg_tupK K (n := 2) rfl (pgs_cons (pg_name (i := 1) sc_Mending_drop_more.nd rfl (by first | exact Or.inl rfl | exact Or.inr rfl)) (pgs_cons (pg_name (i := 2) sc_Mending_drop_more.nd rfl (by first | exact Or.inl rfl | exact Or.inr rfl)) pgs_nil))) (pss_one (ps_if (pt_cmp (pc_din hu (pv 1) (pe_fldK K (pv 0) rfl))) (pss_cons (ps_set (i := 3) sc_Mending_drop_more.nd rfl (by first | exact Or.inl rfl | exact Or.inr rfl) (pe_ix (ix_listK K) (pv 2) pe_int (fun _ _ => rfl)))
      (pss_cons (ps_if (pt_cmpR op_eq (pv 1) (pe_gint T.i_CLASH_looker) (nomark _)) (pss_one (ps_set (i := 3) sc_Mending_drop_more.nd rfl (by first | exact Or.inl rfl | exact Or.inr rfl) (pe_tup (pa_cons (pe_gint T.i_ROOT_looker) (pa_cons (pe_ix (ix_tupK K) (pe_gref T.g_CLASH_ENTRY) pe_int (fun _ _ => rfl)) pa_nil))))) pss_nil)
      (pss_one (ps_for PassesOwn.never rfl (pi_list (pv 2)) (pg_tupK K (n := 2) rfl (pgs_cons (pg_name (i := 4) sc_Mending_drop_more.nd rfl (by first | exact Or.inl rfl | exact Or.inr rfl)) (pgs_cons (pg_name (i := 5) sc_Mending_drop_more.nd rfl (by first | exact Or.inl rfl | exact Or.inr rfl)) pgs_nil))) (pss_one (ps_if (pt_cmpR (op_neD hr.units) (pe_tup (pa_cons (pv 4) (pa_cons (pv 5) pa_nil))) (pv 3) (nomark _)) (pss_one (ps_expr (pe_methO G_Mending_leave_out hr (by decide) T.c_Mending T.m_Mending_leave_out (pv 0) (pa_cons (pv 4) (pa_cons (pv 5) pa_nil))))) pss_nil)))))) pss_nil)))), ?_⟩
    have hi := hOn
    obtain ⟨dx, d, e, gs, hi, _⟩ := hi
    obtain ⟨hn1, hn2⟩ := hOn.once
    obtain ⟨d', hA0⟩ := hOn.foOn
    refine ⟨_, rfl, _, _, _, rfl, hi, rfl, p, R, [], A, G, rfl, hOn, hl, fun x m => Nat.lt_succ_of_le (hz2 x m), fun l ls E H1 s1 hl0 hl1 hL hE => ?_⟩
    refine ⟨l, _, rfl, hl1, trivial, fun od => ⟨l, od, ls, rfl, upd_same .., ?_⟩⟩
    obtain ⟨Hf, hHf⟩ : ∃ z, z = upd H1 l (.frz od (.dK ls)) := ⟨_, rfl⟩
    rw [← hHf]
    have sf : Same H Hf := by rw [hHf]; exact Same.off s1 hl0
    have lf : Hf l = some (.frz od (.dK ls)) := by rw [hHf, upd_same]
    have hLf : LedAt K Hf ls E := by rw [hHf]; exact hL.sd (SameD.upd hl1)
    clear hHf hL hl1
    have hL0 := hLf
    obtain ⟨ns, m1, m2, m3, m4⟩ := hLf
    have hEn := hE.symm.nodup (flat_nodup hn1 hn2)
    refine for_it walk_items (fun i σ H' => ∃ a b c f g A', σ = [some (.ref p), a, b, c, f, g] ∧ On K R H' (He.ga K "Mending") p [] A' G ∧ SameD Hf H' ∧ keysA A' = keysA A ∧ (∀ w a n, enA A' w a n ↔ enA A w a n ∧ ¬ (((n ∈ keysA A ∧ (w, a) ≠ keptOf E n)) ∧ n ∈ ns.take i)) ∧ (∀ b, lenA b A → lenA b A'))
      ⟨_, _, _, _, _, A, rfl, hOn.same sf, SameD.refl _, rfl, fun w a n => by simp, fun b h => h⟩ (fun i σ H' _ hp => ?_) ?_ ?_
    · obtain ⟨_, _, _, _, _, _, _, _, s, _⟩ := hp
      exact s _ _ lf (fun _ z => by cases z)
    · rintro i v σ H2 H' hi2 ⟨_, _, c0, f0, g0, A', rfl, hOn', sd, hk, hrel, hlen⟩ ⟨T', y1, y2, rfl, hT', rfl, hy1, hy2⟩
      obtain ⟨kv, hkv⟩ : ∃ kv, ls[i]? = some kv := ⟨_, List.getElem?_eq_getElem hi2⟩
      obtain ⟨n, hn1', hn2'⟩ := LedAt.nth (K := K) (H := H) (E := E) m1 hkv
      obtain ⟨kk, vv⟩ := kv
      simp only at hn2'
      subst hn2'
      replace hy1 : (ls[i]?.map fun kv => kV kv.1) = some y1 := hy1
      replace hy2 : (ls[i]?.map Prod.snd) = some y2 := hy2
      rw [hkv] at hy1 hy2
      obtain rfl := Option.some.inj hy1
      obtain rfl := Option.some.inj hy2
      obtain ⟨a0, xs, rfl, hxs, hpx⟩ := m4 n vv (List.mem_of_getElem? hkv)
      have s3 : Same H2 (upd H2 T' (.tup [kV (Sum.inl n), .ref a0])) := same_new hT'
      obtain ⟨H3, hH3⟩ : ∃ z, z = upd H2 T' (.tup [kV (Sum.inl n), .ref a0]) := ⟨_, rfl⟩
      have atT : H3 T' = some (.tup [kV (Sum.inl n), .ref a0]) := by rw [hH3, upd_same]
      rw [← hH3] at s3 ⊢
      clear hH3
      have hOn3 := hOn'.same s3
      have sd3 := sd.trans s3.d
      refine ⟨_, _, rfl, SqT.of atT, rfl, _, _, rfl, _, _, rfl, rfl, ?_⟩
      have hi3 := hOn3
      obtain ⟨dx3, d3, e3, gs3, hi3, hA3, he3, hG3, _⟩ := hi3
      have hns : n ∉ ns.take i := take_not m2 hn1'
      have hled := ledOf_nodup hEn n
      have hx3 := sd3.seq hxs
      refine ⟨_, rfl, _, rfl, _, _, _, _, _, rfl, hi3, T.c_Mending, T.n_Mending_folders, rfl, _, _, rfl, .inl ⟨_, .inl n, .inl hA3.dict, rfl, rfl⟩, _, rfl, ?_⟩
      rw [fKV_some]
      have hk' : A'.map (·.1) = keysA A := hk
      rw [hk']
      refine ite2 (fun hf => ?_) (fun hf => ?_)
      · have hfk : n ∈ keysA A := of_decide_eq_true hf
        obtain ⟨y0, r0, hy0⟩ : ∃ y r, ledOf E n = y :: r := by
          cases q : ledOf E n with
          | nil => exact absurd q ((m3 n).mp (List.mem_of_getElem? hn1'))
          | cons y r => exact ⟨y, r, rfl⟩
        have hpx0 := hpx
        rw [hy0] at hpx0
        obtain ⟨x0, xr, rfl⟩ : ∃ x0 xr, xs = x0 :: xr := by
          cases hpx0 with
          | cons _ _ => exact ⟨_, _, rfl⟩
        obtain ⟨t0, rfl, ht0⟩ : PairAt K Hf x0 y0 := by
          cases hpx0 with
          | cons q _ => exact q
        refine ⟨_, rfl, _, _, _, _, rfl, rfl, hx3, at0, ?_⟩
        refine' (fun (th : ∀ (c : Addr) (H4 : Hp), Same H3 H4 → SqT K H4 c [.int (keptOf E n).1, .str (keptOf E n).2] → (_ : Addr → Hp → Prop) c H4) => ?main) ?th
        case main =>
          refine ⟨_, rfl, rfl, _, rfl, ite2 (fun h => ?_) (fun h => ?_)⟩
          · have h1 : n = 1 := V.int.inj (of_decide_eq_true h)
            refine ⟨_, _, _, _, rfl, rfl, T.t_CLASH_ENTRY _, at0, zl rfl, fun q4 hq4 => ?_⟩
            obtain ⟨H4, hH4⟩ : ∃ z, z = upd H3 q4 (.tup [.int 0, .str "clash"]) := ⟨_, rfl⟩
            rw [← hH4]
            have at_q4 : H4 q4 = some (.tup [.int 0, .str "clash"]) := by rw [hH4, upd_same]
            have s_H4 : Same H3 H4 := by rw [hH4]; exact same_new hq4
            clear hH4
            refine th q4 H4 s_H4 ?_
            unfold keptOf
            rw [if_pos h1]
            exact SqT.of at_q4
          · have h1 : ¬ n = 1 := fun z => h (decide_eq_true (congrArg V.int z))
            refine th t0 H3 (Same.refl _) ?_
            unfold keptOf
            rw [if_neg h1, hy0]
            exact sd3.tup ht0
        case th =>
          intro c4 H4 s34 hc4
          have hx4 := Same.seq s34 hx3
          have hkn : isName (keptOf E n).2 = true := by
            unfold keptOf
            by_cases h1 : n = 1
            · rw [if_pos h1]; decide +kernel
            · rw [if_neg h1, hy0]
              have : (y0.1, y0.2) ∈ ledOf E n := by rw [hy0]; exact List.mem_cons_self
              exact hnm _ _ _ (hE.mem_iff.mp (ledOf_mem.mp this))
          refine ⟨_, rfl, _, rfl, ⟨_, hx4⟩, ?_⟩
          refine for_it (walk_list (xs := .ref t0 :: xr)) (fun j σ H' => ∃ f g A2, σ = [some (.ref p), some (.int n), some (.ref a0), some (.ref c4), f, g] ∧ On K R H' (He.ga K "Mending") p [] A2 G ∧ SameD H4 H' ∧ keysA A2 = keysA A ∧ (∀ w a m, enA A2 w a m ↔ enA A' w a m ∧ ¬ ((w, a) ∈ (ledOf E n).take j ∧ (w, a) ≠ keptOf E n)) ∧ (∀ b, lenA b A → lenA b A2))
            ⟨_, _, A', rfl, hOn3.same s34, SameD.refl _, hk, fun w a m => by simp, hlen⟩ (fun j σ H' _ hp => ?_) ?_ ?_
          · obtain ⟨_, _, _, _, _, s, _⟩ := hp
            exact s.seq hx4
          · rintro j v σ H5 H6 hj ⟨_, _, A2, rfl, hOn4, sd4, hk4, hrel4, hlen4⟩ ⟨rfl, hv⟩
            obtain ⟨⟨w1, a1⟩, hw1, t1, rfl, ht1⟩ := paired_at hpx hv
            have sd34 := s34.d.trans sd4
            have ht4 := sd34.tup (sd3.tup ht1)
            refine ⟨_, _, rfl, ht4, rfl, _, _, rfl, _, _, rfl, rfl, ?_⟩
            have hen : enA A w1 a1 n := hE.mem_iff.mp (ledOf_mem.mp (List.mem_of_getElem? hw1))
            refine ⟨_, rfl, _, rfl, zl rfl, fun q6 hq6 => ?_⟩
            obtain ⟨H7, hH7⟩ : ∃ z, z = upd H6 q6 (.tup [.int w1, .str a1]) := ⟨_, rfl⟩
            rw [← hH7]
            have at_q6 : H7 q6 = some (.tup [.int w1, .str a1]) := by rw [hH7, upd_same]
            have s_H7 : Same H6 H7 := by rw [hH7]; exact same_new hq6
            clear hH7
            refine ⟨_, rfl, encP (w1, a1), encP (keptOf E n), .tup (SqT.of at_q6) (.cons (.int _) (.cons (.str _) .nil)), .tup (Same.tup s_H7 (sd4.tup hc4)) (.cons (.int _) (.cons (.str _) .nil)), shaped_encP (hnm _ _ _ hen), shaped_encP hkn, _, rfl, ?_⟩
            rw [eqv_encP]
            have hOn7 := hOn4.same s_H7
            have sd7 := sd4.trans s_H7.d
            refine ite2 (fun h1 => ?_) (fun h1 => ?_)
            · have hne : (w1, a1) ≠ keptOf E n := by simpa using h1
              have hi4 := hOn7
              obtain ⟨dx4, d4, e4, gs4, hi4, _⟩ := hi4
              refine ⟨_, rfl, _, _, _, rfl, hi4, rfl, _, rfl, _, rfl, p, R, [], A2, G, w1, a1, n, rfl, hOn7, ?_, fun A5 H8 hOn5 sd5 hk5 hrel5 hlen5 => ?_⟩
              · exact (hrel4 _ _ _).mpr ⟨(hrel _ _ _).mpr ⟨hen, fun z => hns z.2⟩, fun z => take_not hled hw1 z.1⟩
              · refine ⟨_, _, A5, rfl, hOn5, sd7.trans sd5, hk5.trans hk4, fun w a m => ?_, fun b hb => hlen5 b (hlen4 b hb)⟩
                rw [hrel5, hrel4, mem_take_succ hw1]
                constructor
                · rintro ⟨⟨q1, q2⟩, q3⟩
                  refine ⟨q1, fun z => ?_⟩
                  rcases z.1 with y | y
                  · exact q2 ⟨y, z.2⟩
                  · exact q3 ⟨(Prod.mk.inj y).1, (Prod.mk.inj y).2⟩
                · rintro ⟨q1, q2⟩
                  refine ⟨⟨q1, fun z => q2 ⟨.inl z.1, z.2⟩⟩, fun z => ?_⟩
                  have e : (w, a) = (w1, a1) := Prod.ext z.1 z.2
                  exact q2 ⟨.inr e, by rw [e]; exact hne⟩
            · have heq : (w1, a1) = keptOf E n := by simpa using h1
              refine ⟨_, _, A2, rfl, hOn7, sd7, hk4, fun w a m => ?_, hlen4⟩
              rw [hrel4, mem_take_succ hw1]
              constructor
              · rintro ⟨q1, q2⟩
                refine ⟨q1, fun z => ?_⟩
                rcases z.1 with y | y
                · exact q2 ⟨y, z.2⟩
                · exact z.2 (y.trans heq)
              · rintro ⟨q1, q2⟩
                exact ⟨q1, fun z => q2 ⟨.inl z.1, z.2⟩⟩
          · rintro σ H5 ⟨_, _, A2, rfl, hOn4, sd4, hk4, hrel4, hlen4⟩
            refine ⟨_, _, _, _, _, A2, rfl, hOn4, (sd3.trans s34.d).trans sd4, hk4, fun w a m => ?_, hlen4⟩
            rw [paired_len hpx, List.take_length] at hrel4
            rw [hrel4, hrel, mem_take_succ hn1', ledOf_mem, hE.mem_iff]
            constructor
            · rintro ⟨⟨q1, q2⟩, q3⟩
              refine ⟨q1, fun z => ?_⟩
              rcases z.2 with y | y
              · exact q2 ⟨z.1, y⟩
              · rw [y] at q1 z
                exact q3 ⟨q1, z.1.2⟩
            · rintro ⟨q1, q2⟩
              refine ⟨⟨q1, fun z => q2 ⟨z.1, .inl z.2⟩⟩, fun z => ?_⟩
              have : m = n := hA0.fun q1 z.1
              exact q2 (by rw [this]; exact ⟨⟨hfk, z.2⟩, .inr rfl⟩)
      · have hnf : n ∉ keysA A := fun z => hf (decide_eq_true z)
        refine ⟨_, _, _, _, _, A', rfl, hOn3, sd3, hk, fun w a m => ?_, hlen⟩
        rw [hrel, mem_take_succ hn1']
        constructor
        · rintro ⟨q1, q2⟩
          refine ⟨q1, fun z => ?_⟩
          rcases z.2 with y | y
          · exact q2 ⟨z.1, y⟩
          · rw [y] at z; exact hnf z.1.1
        · rintro ⟨q1, q2⟩
          exact ⟨q1, fun z => q2 ⟨z.1, .inl z.2⟩⟩
    · rintro σ H2 ⟨_, _, _, _, _, A', rfl, hOn', sd, hk, hrel, hlen⟩
      refine k A' H2 E hOn' (sf.d.trans sd) hk hE (fun w a n => ?_) hlen
      have hll : ns.length = ls.length := by
        have := congrArg List.length m1
        rw [List.length_map, List.length_map] at this
        exact this.symm
      rw [← hll, List.take_length] at hrel
      rw [hrel]
      constructor
      · rintro ⟨q1, q2⟩
        refine ⟨q1, fun z => q2 ⟨z, (m3 n).mpr fun y => ?_⟩⟩
        have := ledOf_mem.mpr (hE.mem_iff.mpr q1)
        rw [y] at this; cases this
      · rintro ⟨q1, q2⟩
        exact ⟨q1, fun z => q2 z.1⟩
end
end K81
set_option maxHeartbeats 4000000
namespace K81
open PySem PySem.Spec PyProof.Rows L2
theorem On.sameR {K : PySem.W.Frag} {R H : Hp} {C p : Addr} {rest : List (Str × V)} {A : FAt} {G : List (Int × Int × Str)} (h : On K R H C p rest A G) : Same R H := by
  obtain ⟨dx, d, e, gs, h1, h2, h3, h4, h5, h6, h7, h8, _⟩ := h
  exact h8
def spPutLost (K : PySem.W.Frag) : Sp := fun vs H Q _ => ∃ (p q : Addr) (R : Hp) (A : FAt) (G : List (Int × Int × Str)) (ns : List Int) (b : Nat), vs = [.ref p, .ref q] ∧ On K R H (He.ga K "Mending") p [] A G ∧ SqL K H q (ns.map V.int) ∧ ns.Nodup ∧ (∀ n ∈ ns, 0 ≤ n ∧ n < 100000) ∧ 1 ∈ keysA A ∧ A.length < 64 ∧ lenA b A ∧ b + ns.length ≤ 63 ∧
  ∀ A' H' (add : List (Str × Int)), On K R H' (He.ga K "Mending") p [] A' G → SameD H H' → keysA A' = keysA A → (∀ w a n, enA A' w a n ↔ enA A w a n ∨ (w = 1 ∧ (a, n) ∈ add)) → (∀ e ∈ add, isName e.1 = true) → (add.map (·.2)).Nodup →
    (∀ n, n ∈ add.map (·.2) ↔ n ∈ ns ∧ n ≠ 0 ∧ ∀ w a, ¬ enA A w a n) → lenA (b + add.length) A' → Q .non H'
/-- the parents, as they stand -/
structure ParA (A : FAt) (ps : List (Int × Int)) : Prop where
  get : ∀ c w, parOf ps c = some w → c ∈ keysA A ∧ ∃ a, enA A w a c
  has : ∀ c w a, c ∈ keysA A → enA A w a c → ∃ v, parOf ps c = some v
def spParents (K : PySem.W.Frag) : Sp := fun vs H Q _ => ∃ (p : Addr) (R : Hp) (A : FAt) (G : List (Int × Int × Str)), vs = [.ref p] ∧ On K R H (He.ga K "Mending") p [] A G ∧ A.length < 64 ∧ lenA 63 A ∧
  ∀ q ps H', Same H H' → H' q = some (.dK (pI ps)) → ParA A ps → ps.length < 64 → Q (.ref q) H'
section
variable {P : Program} {w : World} {K : PySem.W.Frag} {mg : Str → Option Value} {base : Heap}
abbrev N_Mending_put_lost : List Str := ["self", "numbers", "leads", "number"]
theorem sc_Mending_put_lost : FnScope N_Mending_put_lost ["self", "numbers"] (defScope s_Mending_put_lost) := ⟨rfl, rfl, rfl, by decide +kernel, rfl, by decide +kernel, by decide +kernel⟩
theorem ok_Mending_put_lost (T : Tx K mg base) : OkD P w K mg base d_Mending_put_lost.at_ 3 ["self", "numbers"] (spPutLost K) := by
  have G_Mending_leads_now := ok_Mending_leads_now (P := P) (w := w) T
  have G_Mending_put_in := ok_Mending_put_in (P := P) (w := w) T
  refine okD_of T.F_Mending_put_lost sc_Mending_put_lost (fun _ _ _ _ _ _ us hl => match us, hl with | [_, _], _ => rfl) (fun vs H Q E h => ?_) (fun cdv A outer s H vs Q E hr h => ?_)
  · obtain ⟨p, q, R, A, G, ns, b, rfl, _⟩ := h
    rfl
  · obtain ⟨p, q, R, A, G, ns, b, rfl, hOn, hq, hns, hbd, h1, hl, hb, hbl, k⟩ := h
    have hu := hu_of hr
    refine ⟨_, (pss_cons (ps_set (i := 2) sc_Mending_put_lost.nd rfl (by first | exact Or.inl rfl | exact Or.inr rfl) (pe_methO0 G_Mending_leads_now hr (by decide) T.c_Mending T.m_Mending_leads_now (pv 0)))
      (pss_one (ps_for PassesOwn.never rfl (pi_list (pe_callB cr_sortedI (by rfl) T.z_sorted (show bootBuiltins "sorted" = some (.builtin "sorted") by decide +kernel) (pa_cons (pv 1) pa_nil))) (pg_name (i := 3) sc_Mending_put_lost.nd rfl (by first | exact Or.inl rfl | exact Or.inr rfl)) (pss_one (ps_if (PW.pt (pw_and (pt_cmpR op_ne (pv 3) (pe_gint T.i_ROOT_looker) (nomark _)) (pw_and1 (pt_cmp (pc_dnotin hu (pv 3) (pv 2)))))) (pss_one (ps_expr (pe_methO G_Mending_put_in hr (by decide) T.c_Mending T.m_Mending_put_in (pv 0) (pa_cons (pv 3) pa_nil)))) pss_nil))))), ?_⟩
    have hi := hOn
    obtain ⟨dx, d, e, gs, hi, _⟩ := hi
    refine ⟨_, rfl, _, _, _, rfl, hi, rfl, p, R, [], A, G, rfl, hOn, hl, fun x m => Nat.lt_succ_of_le (Nat.le_trans (hb x m) (by omega)), fun l ls E H1 s1 hl0 hl1 hL hE => ?_⟩
    obtain ⟨R', hOn1, sRR, hnew⟩ := hOn.full s1
    have lR := hnew _ _ hl0 hl1
    refine ⟨_, rfl, q, ns, rfl, Same.seq s1 hq, fun ys p2 perm pw hp2 => ?_⟩
    obtain ⟨H2, hH2⟩ : ∃ z, z = upd H1 p2 (.lst (ys.map V.int)) := ⟨_, rfl⟩
    rw [← hH2]
    have at_p2 : H2 p2 = some (.lst (ys.map V.int)) := by rw [hH2, upd_same]
    have s_H2 : Same H1 H2 := by rw [hH2]; exact same_new hp2
    clear hH2
    have hyl : ys.length = ns.length := perm.length_eq
    have hyn : ys.Nodup := perm.symm.nodup hns
    have hmem : ∀ w a n, (w, a, n) ∈ E ↔ enA A w a n := fun w a n => hE.mem_iff
    refine ⟨_, rfl, ⟨_, SqL.of at_p2⟩, ?_⟩
    refine for_it (walk_list (xs := ys.map V.int)) (fun i σ H' => ∃ c A2 add, σ = [some (.ref p), some (.ref q), some (.ref l), c] ∧ On K R' H' (He.ga K "Mending") p [] A2 G ∧ SameD H2 H' ∧ keysA A2 = keysA A ∧ (∀ w a n, enA A2 w a n ↔ enA A w a n ∨ (w = 1 ∧ (a, n) ∈ add)) ∧ (∀ e ∈ add, isName e.1 = true) ∧ (add.map (·.2)).Nodup ∧
        (∀ n, n ∈ add.map (·.2) ↔ n ∈ ys.take i ∧ n ≠ 0 ∧ ∀ w a, ¬ enA A w a n) ∧ lenA (b + add.length) A2 ∧ add.length ≤ i)
      ⟨_, A, [], rfl, hOn1.same s_H2, SameD.refl _, rfl, fun w a n => by simp, (fun e h => nomatch h), .nil, (fun n => by simp), hb, Nat.le_refl _⟩ (fun i σ H' _ hp => ?_) ?_ ?_
    · obtain ⟨_, _, _, _, _, s, _⟩ := hp
      exact SqL.of (s _ _ at_p2 (fun _ z => by cases z))
    · rintro i v σ H3 H' hi2 ⟨_, A2, add, rfl, hOn2, sd, hk, hrel, hnm, hnd, hadd, hlen, hai⟩ ⟨rfl, hv⟩
      obtain ⟨n, hn1, rfl⟩ := map_at hv
      have hnns := perm.subset (List.mem_of_getElem? hn1)
      have hil : i < ys.length := (List.getElem?_eq_some_iff.mp hn1).1
      have keep : ¬ (n ≠ 0 ∧ ∀ w a, ¬ enA A w a n) → ∀ m, m ∈ add.map (·.2) ↔ m ∈ ys.take (i + 1) ∧ m ≠ 0 ∧ ∀ w a, ¬ enA A w a m := fun h m => by
        rw [hadd, mem_take_succ hn1]
        constructor
        · rintro ⟨q1, q2⟩
          exact ⟨.inl q1, q2⟩
        · rintro ⟨q1 | q1, q2⟩
          · exact ⟨q1, q2⟩
          · rw [q1] at q2; exact absurd q2 h
      have hll : (valV ls (Sum.inl n)).isSome = decide (ledOf E n ≠ []) := hL.isSome n
      have hled : ledOf E n = [] ↔ ∀ w a, ¬ enA A w a n := by
        constructor
        · intro z w a h
          have := ledOf_mem.mpr ((hmem w a n).mpr h)
          rw [z] at this; cases this
        · intro z
          cases y : ledOf E n with
          | nil => rfl
          | cons x r =>
            have : (x.1, x.2) ∈ ledOf E n := by rw [y]; exact List.mem_cons_self
            exact absurd ((hmem _ _ _).mp (ledOf_mem.mp this)) (z _ _)
      refine ⟨_, rfl, rfl, _, rfl, ite2 (fun h0 => ?_) (fun h0 => ?_)⟩
      · have h0' : n ≠ 0 := by
          have h0'' : (!decide (V.int n = V.int 0)) = true := h0
          simpa using h0''
        refine ⟨_, rfl, _, rfl, _, _, rfl, .inl ⟨_, .inl n, .inl (hOn2.sameR _ _ lR), rfl, rfl⟩, _, rfl, ?_⟩
        rw [hll]
        refine ite2 (fun h2 => ?_) (fun h2 => ?_)
        · have h2' : ledOf E n = [] := by simpa using h2
          have hno := hled.mp h2'
          have hi2 := hOn2
          obtain ⟨dx2, d2, e2, gs2, hi2, _⟩ := hi2
          refine ⟨_, rfl, _, _, _, rfl, hi2, rfl, _, rfl, p, R', [], A2, G, n, rfl, hOn2, by rw [hk]; exact h1, (hbd n hnns).1, (hbd n hnns).2, lenA_mono hlen (by omega), fun A3 z H4 hOn3 sd3 hk3 hz hzn hrel3 hlen3 => ?_⟩
          refine ⟨_, A3, add ++ [(z, n)], rfl, hOn3, sd.trans sd3, hk3.trans hk, fun w a m => ?_, fun e he => ?_, ?_, fun m => ?_, by rw [List.length_append]; exact hlen3 _ hlen, by rw [List.length_append]; exact Nat.succ_le_succ hai⟩
          · rw [hrel3, hrel, List.mem_append, List.mem_singleton]
            constructor
            · rintro ((q1 | q1) | ⟨q1, q2, q3⟩)
              · exact .inl q1
              · exact .inr ⟨q1.1, .inl q1.2⟩
              · exact .inr ⟨q1, .inr (by rw [q2, q3])⟩
            · rintro (q1 | ⟨q1, q2 | q2⟩)
              · exact .inl (.inl q1)
              · exact .inl (.inr ⟨q1, q2⟩)
              · exact .inr ⟨q1, (Prod.mk.inj q2).1, (Prod.mk.inj q2).2⟩
          · rcases List.mem_append.mp he with he | he
            · exact hnm e he
            · rw [List.mem_singleton.mp he]; exact hz
          · rw [List.map_append]
            refine List.nodup_append.mpr ⟨hnd, by simp, fun x hx y hy q => ?_⟩
            rw [List.map_singleton, List.mem_singleton] at hy
            rw [q, hy] at hx
            exact take_not hyn hn1 ((hadd n).mp hx).1
          · rw [List.map_append, List.mem_append, hadd, mem_take_succ hn1, List.map_singleton, List.mem_singleton]
            constructor
            · rintro (⟨q1, q2⟩ | q1)
              · exact ⟨.inl q1, q2⟩
              · rw [q1]; exact ⟨.inr rfl, h0', hno⟩
            · rintro ⟨q1 | q1, q2⟩
              · exact .inl ⟨q1, q2⟩
              · exact .inr q1
        · refine ⟨_, A2, add, rfl, hOn2, sd, hk, hrel, hnm, hnd, keep (fun z => h2 ?_), hlen, Nat.le_succ_of_le hai⟩
          rw [hled.mpr z.2]
          rfl
      · have h0' : n = 0 := by
          have h0'' : ¬ (!decide (V.int n = V.int 0)) = true := h0
          simpa using h0''
        refine iteF ⟨_, A2, add, rfl, hOn2, sd, hk, hrel, hnm, hnd, keep (fun z => z.1 h0'), hlen, Nat.le_succ_of_le hai⟩
    · rintro σ H3 ⟨_, A2, add, rfl, hOn2, sd, hk, hrel, hnm, hnd, hadd, hlen, hai⟩
      rw [List.length_map] at hadd
      refine k A2 H3 add (hOn2.weak sRR) ((s1.trans s_H2).d.trans sd) hk hrel hnm hnd (fun n => ?_) hlen
      rw [hadd, List.take_length, perm.mem_iff]
abbrev N_Mending_parents_now : List Str := ["self", "found", "number", "entries"]
theorem sc_Mending_parents_now : FnScope N_Mending_parents_now ["self"] (defScope s_Mending_parents_now) := ⟨rfl, rfl, rfl, by decide +kernel, rfl, by decide +kernel, by decide +kernel⟩
theorem ok_Mending_parents_now (T : Tx K mg base) : OkD P w K mg base d_Mending_parents_now.at_ 2 ["self"] (spParents K) := by
  have G_Mending_leads_now := ok_Mending_leads_now (P := P) (w := w) T
  refine okD_of T.F_Mending_parents_now sc_Mending_parents_now (fun _ _ _ _ _ _ us hl => match us, hl with | [_], _ => rfl) (fun vs H Q E h => ?_) (fun cdv A outer s H vs Q E hr h => ?_)
  · obtain ⟨p, R, A, G, rfl, _⟩ := h
    rfl
  · obtain ⟨p, R, A, G, rfl, hOn, hl, hz2, k⟩ := h
    have hu := hu_of hr
    refine ⟨_, (pss_cons (ps_set (i := 1) sc_Mending_parents_now.nd rfl (by first | exact Or.inl rfl | exact Or.inr rfl) pe_dnewK)
      (pss_cons (ps_for PassesOwn.never rfl (pi_items (pe_frz (pe_methO0 G_Mending_leads_now hr (by decide) T.c_Mending T.m_Mending_leads_now (pv 0)))) (pg_tupK K (n := 2) rfl (pgs_cons (pg_name (i := 2) sc_Mending_parents_now.nd rfl (by first | exact Or.inl rfl | exact Or.inr rfl)) (pgs_cons (pg_name (i := 3) sc_Mending_parents_now.nd rfl (by first | exact Or.inl rfl | exact Or.inr rfl)) pgs_nil))) (pss_one (ps_if (pt_cmp (pc_din hu (pv 2) (pe_fldK K (pv 0) rfl))) (pss_one (ps_dput hu (pv 1) (pv 2) (pe_ix (ix_tupK K) (pe_ix (ix_listK K) (pv 3) pe_int (fun _ _ => rfl)) pe_int (fun _ _ => rfl)) rfl)) pss_nil)))
      (pss_one (ps_ret (pv 1))))), ?_⟩
    intro d hd
    obtain ⟨H0, hH0⟩ : ∃ z, z = upd H d (.dK []) := ⟨_, rfl⟩
    rw [← hH0]
    have at_d : H0 d = some (.dK []) := by rw [hH0, upd_same]
    have s_H0 : Same H H0 := by rw [hH0]; exact same_new hd
    clear hH0
    have hOn0 := hOn.same s_H0
    have hi := hOn0
    obtain ⟨dx, d0, e, gs, hi, hA, _⟩ := hi
    refine ⟨_, rfl, _, _, _, rfl, hi, rfl, p, R, [], A, G, rfl, hOn0, hl, fun x m => Nat.lt_succ_of_le (hz2 x m), fun l ls E H1 s1 hl0 hl1 hL hE => ?_⟩
    refine ⟨l, _, rfl, hl1, trivial, fun od => ⟨l, od, ls, rfl, upd_same .., ?_⟩⟩
    obtain ⟨Hf, hHf⟩ : ∃ z, z = upd H1 l (.frz od (.dK ls)) := ⟨_, rfl⟩
    rw [← hHf]
    have sf : Same H0 Hf := by rw [hHf]; exact Same.off s1 hl0
    have lf : Hf l = some (.frz od (.dK ls)) := by rw [hHf, upd_same]
    have hLf : LedAt K Hf ls E := by rw [hHf]; exact hL.sd (SameD.upd hl1)
    clear hHf hL hl1
    obtain ⟨ns, m1, m2, m3, m4⟩ := hLf
    have df := sf _ _ at_d
    obtain ⟨R1, hR1⟩ : ∃ z, z = del Hf d := ⟨_, rfl⟩
    have sR1 : Same R1 Hf := by rw [hR1]; exact del_same _ _
    have R1d : R1 d = none := by rw [hR1]; exact del_self _ _
    have sH1 : Same H R1 := fun b o h => by rw [hR1]; exact del_at (sf _ _ (s_H0 _ _ h)) (ne_of_none h hd)
    have lR : R1 l = some (.frz od (.dK ls)) := by rw [hR1]; exact del_at lf (ne_of_kinds lf df (fun z => by cases z))
    have sdR : SameD Hf R1 := by rw [hR1]; exact SameD.del df
    clear hR1
    have hOnH := hOn
    obtain ⟨dx9, d9, e9, gs9, hi9, hA9, _⟩ := hOnH
    refine for_it walk_items (fun i σ H' => ∃ a b ps, σ = [some (.ref p), some (.ref d), a, b] ∧ Same R1 H' ∧ H' d = some (.dK (pI ps)) ∧ (ps.map (·.1)).Nodup ∧ (∀ c w, parOf ps c = some w → c ∈ keysA A ∧ ∃ a, enA A w a c) ∧ (∀ c, c ∈ ns.take i → c ∈ keysA A → ∃ v, parOf ps c = some v))
      ⟨_, _, [], rfl, sR1, df, .nil, fun c w h => (by cases h), fun c h => (by simp at h)⟩ (fun i σ H' _ hp => ?_) ?_ ?_
    · obtain ⟨_, _, _, _, s, _⟩ := hp
      exact s _ _ lR
    · rintro i v σ H2 H' hi2 ⟨_, _, ps, rfl, s2, d2, hnd, hps1, hps2⟩ ⟨T', y1, y2, rfl, hT', rfl, hy1, hy2⟩
      obtain ⟨kv, hkv⟩ : ∃ kv, ls[i]? = some kv := ⟨_, List.getElem?_eq_getElem hi2⟩
      obtain ⟨n, hn1', hn2'⟩ := LedAt.nth (K := K) (H := H) (E := E) m1 hkv
      obtain ⟨kk, vv⟩ := kv
      simp only at hn2'
      subst hn2'
      replace hy1 : (ls[i]?.map fun kv => kV kv.1) = some y1 := hy1
      replace hy2 : (ls[i]?.map Prod.snd) = some y2 := hy2
      rw [hkv] at hy1 hy2
      obtain rfl := Option.some.inj hy1
      obtain rfl := Option.some.inj hy2
      obtain ⟨a0, xs, rfl, hxs, hpx⟩ := m4 n vv (List.mem_of_getElem? hkv)
      have s3 : Same H2 (upd H2 T' (.tup [kV (Sum.inl n), .ref a0])) := same_new hT'
      obtain ⟨H3, hH3⟩ : ∃ z, z = upd H2 T' (.tup [kV (Sum.inl n), .ref a0]) := ⟨_, rfl⟩
      have atT : H3 T' = some (.tup [kV (Sum.inl n), .ref a0]) := by rw [hH3, upd_same]
      rw [← hH3] at s3 ⊢
      clear hH3
      have s13 := s2.trans s3
      have sH3 := sH1.trans s13
      refine ⟨_, _, rfl, SqT.of atT, rfl, _, _, rfl, _, _, rfl, rfl, ?_⟩
      refine ⟨_, rfl, _, rfl, _, _, _, _, _, rfl, sH3 _ _ hi9, T.c_Mending, T.n_Mending_folders, rfl, _, _, rfl, .inl ⟨_, .inl n, .inl (sH3 _ _ hA9.dict), rfl, rfl⟩, _, rfl, ?_⟩
      rw [fKV_some]
      refine ite2 (fun hf => ?_) (fun hf => ?_)
      · have hfk : n ∈ keysA A := of_decide_eq_true hf
        obtain ⟨y0, r0, hy0⟩ : ∃ y r, ledOf E n = y :: r := by
          cases q : ledOf E n with
          | nil => exact absurd q ((m3 n).mp (List.mem_of_getElem? hn1'))
          | cons y r => exact ⟨y, r, rfl⟩
        have hpx0 := hpx
        rw [hy0] at hpx0
        obtain ⟨x0, xr, rfl⟩ : ∃ x0 xr, xs = x0 :: xr := by
          cases hpx0 with
          | cons _ _ => exact ⟨_, _, rfl⟩
        obtain ⟨t0, rfl, ht0⟩ : PairAt K Hf x0 y0 := by
          cases hpx0 with
          | cons q _ => exact q
        have hen0 : enA A y0.1 y0.2 n := hE.mem_iff.mp (ledOf_mem.mp (by rw [hy0]; exact List.mem_cons_self))
        obtain ⟨ps', e1, e2, e3, e4⟩ := putI ps n y0.1
        have hpl : ps.length ≤ 63 := by
          have h1 := nodup_len (l := ps.map (·.1)) (m := keysA A) hnd (fun x hx => by
            obtain ⟨y, hy, rfl⟩ := List.mem_map.mp hx
            exact (hps1 _ _ (parOf_of hnd (show (y.1, y.2) ∈ ps from hy))).1)
          rw [List.length_map] at h1
          have h2 : (keysA A).length = A.length := List.length_map _
          omega
        have sd3 := sdR.trans s13.d
        refine ⟨_, rfl, _, _, _, _, rfl, rfl, sd3.seq hxs, at0, _, _, _, _, rfl, rfl, sd3.tup ht0, at0, _, rfl, _, rfl, _, _, rfl, .inl ⟨pI ps, .inl n, s3 _ _ d2, rfl, sl (by unfold pI; rw [List.length_map]; omega), rfl⟩, ?_⟩
        rw [e1]
        refine ⟨_, _, ps', rfl, Same.off s13 R1d, upd_same .., e3 hnd, fun c w hc => ?_, fun c hc hck => ?_⟩
        · rw [e2] at hc
          by_cases z : c = n
          · rw [if_pos z] at hc
            rw [z, ← Option.some.inj hc]
            exact ⟨hfk, _, hen0⟩
          · rw [if_neg z] at hc
            exact hps1 c w hc
        · rw [e2]
          by_cases z : c = n
          · rw [if_pos z]; exact ⟨_, rfl⟩
          · rw [if_neg z]
            rcases (mem_take_succ hn1').mp hc with q | q
            · exact hps2 c q hck
            · exact absurd q z
      · refine ⟨_, _, ps, rfl, s13, s3 _ _ d2, hnd, hps1, fun c hc hck => ?_⟩
        rcases (mem_take_succ hn1').mp hc with q | q
        · exact hps2 c q hck
        · rw [q] at hck; exact absurd (decide_eq_true hck) hf
    · rintro σ H2 ⟨_, _, ps, rfl, s2, d2, hnd, hps1, hps2⟩
      have hll : ns.length = ls.length := by
        have := congrArg List.length m1
        rw [List.length_map, List.length_map] at this
        exact this.symm
      rw [← hll, List.take_length] at hps2
      refine ⟨_, rfl, k d ps H2 (sH1.trans s2) d2 ⟨hps1, fun c w a hc hen => hps2 c ((m3 c).mpr fun z => ?_) hc⟩ ?_⟩
      · have := ledOf_mem.mpr (hE.mem_iff.mpr hen)
        rw [z] at this; cases this
      · have h1 := nodup_len (l := ps.map (·.1)) (m := keysA A) hnd (fun x hx => by
          obtain ⟨y, hy, rfl⟩ := List.mem_map.mp hx
          exact (hps1 _ _ (parOf_of hnd (show (y.1, y.2) ∈ ps from hy))).1)
        rw [List.length_map] at h1
        have h2 : (keysA A).length = A.length := List.length_map _
        omega
end
end K81
set_option maxHeartbeats 4000000
namespace K81
open PySem PySem.Spec PyProof.Rows L2
/-- a sheet where each folder but the first stands at one place -/
structure Tidy (A : FAt) : Prop where
  k0 : 0 ∈ keysA A
  k1 : 1 ∈ keysA A
  ce : enA A 0 "clash" 1
  top : ∀ w a, ¬ enA A w a 0
  one : ∀ c, c ∈ keysA A → c ≠ 0 → ∃ w a, enA A w a c ∧ ∀ w' a', enA A w' a' c → w' = w ∧ a' = a
def Ranked (A : FAt) : Prop := ∃ rk : Int → Nat, ∀ w a n, enA A w a n → n ∈ keysA A → rk w < rk n
open Classical in
noncomputable def cntA (A : FAt) : Nat := ((keysA A).filter fun c => !decide (∃ a, enA A 1 a c)).length
theorem cntA_le (A : FAt) : cntA A ≤ A.length := by
  unfold cntA
  refine Nat.le_trans (List.length_filter_le _ _) ?_
  show (A.map _).length ≤ _
  rw [List.length_map]
  exact Nat.le_refl _
theorem filter_lt {α : Type} {p q : α → Bool} : ∀ {l : List α}, (∀ c ∈ l, p c = true → q c = true) → (∃ x ∈ l, q x = true ∧ p x = false) → (l.filter p).length < (l.filter q).length
  | [], _, ⟨x, h, _⟩ => by cases h
  | a :: l, h, hx => by
    have hle : (l.filter p).length ≤ (l.filter q).length := by
      clear hx
      have h' : ∀ c ∈ l, p c = true → q c = true := fun c m => h c (List.mem_cons_of_mem _ m)
      clear h
      induction l with
      | nil => exact Nat.le_refl _
      | cons b l ih =>
        have ih' := ih fun c m => h' c (List.mem_cons_of_mem _ m)
        rw [List.filter_cons, List.filter_cons]
        have hb := h' b List.mem_cons_self
        cases e1 : p b <;> cases e2 : q b <;> simp_all <;> omega
    rw [List.filter_cons, List.filter_cons]
    obtain ⟨x, hx, h1, h2⟩ := hx
    rcases List.mem_cons.mp hx with z | z
    · subst z
      rw [h1, h2]
      simp
      omega
    · have ih := filter_lt (l := l) (fun c m => h c (List.mem_cons_of_mem _ m)) ⟨x, z, h1, h2⟩
      have hb := h a List.mem_cons_self
      cases e1 : p a <;> cases e2 : q a <;> simp_all <;> omega
/-- how a loop of open_rings stands -/
structure RingS (K : PySem.W.Frag) (R H0 : Hp) (p : Addr) (A : FAt) (G : List (Int × Int × Str)) (b m : Nat) (qr : Addr) (r : List Int) (A2 : FAt) (H' : Hp) : Prop where
  ring : H' qr = some (.lst (r.map V.int))
  on : On K R H' (He.ga K "Mending") p [] A2 G
  sd : SameD H0 H'
  keys : keysA A2 = keysA A
  tidy : Tidy A2
  par : ∃ ps, ParA A2 ps ∧ (r = [] → ∀ f, Out (parOf ps) f) ∧ ∀ x ∈ r, x ∈ ps.map (·.1) ∧ Plus (parOf ps) x x
  cnt : cntA A2 = m
  cle : m ≤ cntA A
  len : lenA (b + (cntA A - m)) A2
  file : ∀ n, n ∉ keysA A → ∀ w a, enA A2 w a n ↔ enA A w a n
  name : ∀ w a n, enA A2 w a n → enA A w a n ∨ isName a = true
  same : Ranked A → ∀ w a n, enA A2 w a n ↔ enA A w a n
def spOpen (K : PySem.W.Frag) : Sp := fun vs H Q _ => ∃ (p : Addr) (R : Hp) (A : FAt) (G : List (Int × Int × Str)) (b : Nat), vs = [.ref p] ∧ On K R H (He.ga K "Mending") p [] A G ∧ Tidy A ∧ A.length < 64 ∧ lenA b A ∧ b + A.length ≤ 63 ∧ (∀ c ∈ keysA A, 0 ≤ c ∧ c < 100000) ∧
  ∀ m qr A' H', RingS K R H p A G b m qr [] A' H' → Q .non H'
/-- the parents of a tidy sheet -/
theorem Tidy.par {A : FAt} {ps : List (Int × Int)} (t : Tidy A) (P : ParA A ps) {c w : Int} {a : Str} (hc : c ∈ keysA A) (h : enA A w a c) : parOf ps c = some w := by
  obtain ⟨v, hv⟩ := P.has c w a hc h
  obtain ⟨_, a', h'⟩ := P.get c v hv
  have hc0 : c ≠ 0 := fun z => t.top w a (by rw [← z]; exact h)
  obtain ⟨w0, a0, _, q⟩ := t.one c hc hc0
  rw [hv, (q _ _ h).1, (q _ _ h').1]
theorem Tidy.out0 {A : FAt} {ps : List (Int × Int)} (t : Tidy A) (P : ParA A ps) : Out (parOf ps) 0 := by
  refine .here ?_
  cases e : parOf ps 0 with
  | none => rfl
  | some v => obtain ⟨_, a, h⟩ := P.get 0 v e; exact absurd h (t.top _ _)
theorem Tidy.out1 {A : FAt} {ps : List (Int × Int)} (t : Tidy A) (P : ParA A ps) : Out (parOf ps) 1 := .step (t.par P t.k1 t.ce) (t.out0 P)
/-- a node of a ring does not stand in the folder 1 -/
theorem Tidy.ring1 {A : FAt} {ps : List (Int × Int)} (t : Tidy A) (P : ParA A ps) {x : Int} (hx : Plus (parOf ps) x x) : x ∈ keysA A ∧ x ≠ 0 ∧ x ≠ 1 ∧ ∀ a, ¬ enA A 1 a x := by
  obtain ⟨y, hy⟩ := hx.first
  obtain ⟨hk, _⟩ := P.get x y hy
  refine ⟨hk, fun z => ?_, fun z => ?_, fun a h => ?_⟩
  · rw [z] at hx; exact (t.out0 P).no_ring hx
  · rw [z] at hx; exact (t.out1 P).no_ring hx
  · exact (Out.step (t.par P hk h) (t.out1 P)).no_ring hx
theorem cntA_lt {A A' : FAt} {x : Int} {z : Str} (hk : keysA A' = keysA A) (hx : x ∈ keysA A) (h1 : ∀ a, ¬ enA A 1 a x) (h2 : ∀ a n, enA A 1 a n → n ≠ x → enA A' 1 a n) (h3 : enA A' 1 z x) : cntA A' < cntA A := by
  unfold cntA
  rw [hk]
  refine filter_lt (fun c hc hp => ?_) ⟨x, hx, ?_, ?_⟩
  · simp only [Bool.not_eq_true', decide_eq_false_iff_not] at hp ⊢
    rintro ⟨a, h⟩
    by_cases e : c = x
    · rw [e] at h; exact h1 a h
    · exact hp ⟨a, h2 a c h e⟩
  · simp only [Bool.not_eq_true', decide_eq_false_iff_not]
    rintro ⟨a, h⟩
    exact h1 a h
  · simp only [Bool.not_eq_false', decide_eq_true_eq]
    exact ⟨z, h3⟩
section
variable {P : Program} {w : World} {K : PySem.W.Frag} {mg : Str → Option Value} {base : Heap}
abbrev N_Mending_open_rings : List Str := ["self", "ring", "least", "folder", "name"]
theorem sc_Mending_open_rings : FnScope N_Mending_open_rings ["self"] (defScope s_Mending_open_rings) := ⟨rfl, rfl, rfl, by decide +kernel, rfl, by decide +kernel, by decide +kernel⟩
theorem ok_Mending_open_rings (T : Tx K mg base) : OkD P w K mg base d_Mending_open_rings.at_ 3 ["self"] (spOpen K) := by
  have G_a_ring := ok_a_ring (P := P) (w := w) T
  have G_Mending_parents_now := ok_Mending_parents_now (P := P) (w := w) T
  have G_Mending_put_in := ok_Mending_put_in (P := P) (w := w) T
  have G_Mending_leads_now := ok_Mending_leads_now (P := P) (w := w) T
  have G_Mending_leave_out := ok_Mending_leave_out (P := P) (w := w) T
  refine okD_of T.F_Mending_open_rings sc_Mending_open_rings (fun _ _ _ _ _ _ us hl => match us, hl with | [_], _ => rfl) (fun vs H Q E h => ?_) (fun cdv A outer s H vs Q E hr h => ?_)
  · obtain ⟨p, R, A, G, b, rfl, _⟩ := h
    rfl
  · obtain ⟨p, R, A, G, b, rfl, hOn, hT, hl, hb, hbl, hbd, k⟩ := h
    have hu := hu_of hr
    refine ⟨_, (pss_cons (ps_set (i := 1) sc_Mending_open_rings.nd rfl (by first | exact Or.inl rfl | exact Or.inr rfl) (pe_callO G_a_ring hr (by decide) T.g_a_ring (pa_cons (pe_methO0 G_Mending_parents_now hr (by decide) T.c_Mending T.m_Mending_parents_now (pv 0)) pa_nil)))
      (pss_one (ps_while PassesOwn.never (pt_cmpR (op_neD hr.units) (pv 1) (pe_lst pa_nil) (nomark _)) (pss_cons (ps_set (i := 2) sc_Mending_open_rings.nd rfl (by first | exact Or.inl rfl | exact Or.inr rfl) (pe_callB (cr_min rfl) (by rfl) T.z_min (show bootBuiltins "min" = some (.builtin "min") by decide +kernel) (pa_cons (pv 1) pa_nil)))
      (pss_cons (ps_for PassesOwn.never rfl (pi_list (pe_dget hu (pe_methO0 G_Mending_leads_now hr (by decide) T.c_Mending T.m_Mending_leads_now (pv 0)) (pv 2) (fun _ _ => rfl))) (pg_tupK K (n := 2) rfl (pgs_cons (pg_name (i := 3) sc_Mending_open_rings.nd rfl (by first | exact Or.inl rfl | exact Or.inr rfl)) (pgs_cons (pg_name (i := 4) sc_Mending_open_rings.nd rfl (by first | exact Or.inl rfl | exact Or.inr rfl)) pgs_nil))) (pss_one (ps_expr (pe_methO G_Mending_leave_out hr (by decide) T.c_Mending T.m_Mending_leave_out (pv 0) (pa_cons (pv 3) (pa_cons (pv 4) pa_nil))))))
      (pss_cons (ps_expr (pe_methO G_Mending_put_in hr (by decide) T.c_Mending T.m_Mending_put_in (pv 0) (pa_cons (pv 2) pa_nil)))
      (pss_one (ps_set (i := 1) sc_Mending_open_rings.nd rfl (by first | exact Or.inl rfl | exact Or.inr rfl) (pe_callO G_a_ring hr (by decide) T.g_a_ring (pa_cons (pe_methO0 G_Mending_parents_now hr (by decide) T.c_Mending T.m_Mending_parents_now (pv 0)) pa_nil)))))))))), ?_⟩
    have hi := hOn
    obtain ⟨dx, d, e, gs, hi, _⟩ := hi
    have hcA := cntA_le A
    refine ⟨_, rfl, _, _, _, rfl, hi, rfl, p, R, A, G, rfl, hOn, hl, lenA_mono hb (by omega), fun q ps H1 s1 hq hP hpl => ⟨q, ps, rfl, .inl hq, hpl, fun q2 r H2 s2 hq2 hr1 hr2 => ?_⟩⟩
    have S0 : RingS K R H p A G b (cntA A) q2 r A H2 := ⟨hq2, (hOn.same s1).same s2, (s1.trans s2).d, rfl, hT, ⟨ps, hP, hr1, hr2⟩, rfl, Nat.le_refl _, by rw [Nat.sub_self]; exact hb, fun _ _ _ _ => Iff.rfl, fun _ _ _ h => .inl h, fun _ _ _ _ => Iff.rfl⟩
    clear hr1 hr2 hq2 s1 s2 hP hq hpl
    refine ⟨fun m σ H' => ∃ qr r A2 x y z, σ = [some (.ref p), some (.ref qr), x, y, z] ∧ RingS K R H p A G b m qr r A2 H', ⟨cntA A, q2, r, A, _, _, _, rfl, S0⟩, ?_⟩
    clear S0 ps q r q2 H1 H2
    rintro m σ H' ⟨qr, r, A2, x, y, z, rfl, S⟩
    refine ⟨_, rfl, zl rfl, fun c hc => ⟨_, _, dp_list (same_new hc _ _ S.ring), dp_nil (upd_same ..), shaped_ints r, rfl, _, rfl, ?_⟩⟩
    have s1 : Same H' (upd H' c (.lst [])) := same_new hc
    obtain ⟨H1, hH1⟩ : ∃ z, z = upd H' c (.lst []) := ⟨_, rfl⟩
    rw [← hH1] at s1 ⊢
    clear hH1
    rw [eqv_nil_ints]
    refine ite2 (fun h2 => ?_) (fun h2 => ?_)
    · have hrne : r ≠ [] := by simpa using h2
      refine ⟨fun σ' H'' => ∃ m', m' < m ∧ ∃ qr r A2 x y z, σ' = [some (.ref p), some (.ref qr), x, y, z] ∧ RingS K R H p A G b m' qr r A2 H'', fun σ' H'' h => h, ?_⟩
      refine ⟨_, rfl, _, r, rfl, SqL.of (s1 _ _ S.ring), List.length_pos_iff.mpr hrne, fun x1 hx1 _ => ?_⟩
      obtain ⟨ps, hP, _, hr2⟩ := S.par
      obtain ⟨hxk, hx0, hxo, hx1no⟩ := S.tidy.ring1 hP (hr2 x1 hx1).2
      have hOn1 := S.on.same s1
      have hi1 := hOn1
      obtain ⟨dx1, d1, e1, gs1, hi1, hA1, _⟩ := hi1
      have hA2l : A2.length < 64 := by
        have := congrArg List.length S.keys
        unfold keysA at this
        rw [List.length_map, List.length_map] at this
        omega
      have hle2 := S.len
      have hcl := S.cle
      obtain ⟨w1, a1, he1, he2⟩ := S.tidy.one x1 hxk hx0
      refine ⟨_, rfl, _, _, _, rfl, hi1, rfl, p, R, [], A2, G, rfl, hOn1, hA2l, fun x m => Nat.lt_succ_of_le (Nat.le_trans (hle2 x m) (by omega)), fun l ls E H2 s2 hl0 hl1 hL hE => ?_⟩
      obtain ⟨hn1, hn2⟩ := hOn1.once
      have hEn := hE.symm.nodup (flat_nodup hn1 hn2)
      obtain ⟨v1, hv1⟩ : ∃ v1, valV ls (Sum.inl x1) = some v1 := by
        cases q : valV ls (Sum.inl x1) with
        | none =>
          have := ledOf_mem.mpr (hE.mem_iff.mpr he1)
          rw [hL.non q] at this; cases this
        | some v => exact ⟨v, rfl⟩
      obtain ⟨a0, xs, rfl, hxs, hpx, _⟩ := hL.get hv1
      have hled := ledOf_nodup hEn x1
      refine ⟨_, rfl, _, _, rfl, .inl ⟨ls, .inl x1, .inl hl1, rfl, hv1.symm⟩, _, rfl, ⟨_, hxs⟩, ?_⟩
      refine for_it (walk_list (xs := xs)) (fun j σ H' => ∃ y z A3, σ = [some (.ref p), some (.ref qr), some (.int x1), y, z] ∧ On K R H' (He.ga K "Mending") p [] A3 G ∧ SameD H2 H' ∧ keysA A3 = keysA A ∧ (∀ w a m, enA A3 w a m ↔ enA A2 w a m ∧ (w, a) ∉ (ledOf E x1).take j) ∧ (∀ b, lenA b A2 → lenA b A3))
        ⟨_, _, A2, rfl, hOn1.same s2, SameD.refl _, S.keys, fun w a m => by simp, fun b h => h⟩ (fun j σ H' _ hp => ?_) ?_ ?_
      · obtain ⟨_, _, _, _, _, s, _⟩ := hp
        exact s.seq hxs
      · rintro j v σ H4 H5 hj ⟨_, _, A3, rfl, hOn4, sd4, hk4, hrel4, hlen4⟩ ⟨rfl, hv⟩
        obtain ⟨⟨w2, a2⟩, hw2, t1, rfl, ht1⟩ := paired_at hpx hv
        refine ⟨_, _, rfl, sd4.tup ht1, rfl, _, _, rfl, _, _, rfl, rfl, ?_⟩
        have hi4 := hOn4
        obtain ⟨dx4, d4, e4, gs4, hi4, _⟩ := hi4
        have hen : enA A2 w2 a2 x1 := hE.mem_iff.mp (ledOf_mem.mp (List.mem_of_getElem? hw2))
        refine ⟨_, rfl, _, _, _, rfl, hi4, rfl, _, rfl, _, rfl, p, R, [], A3, G, w2, a2, x1, rfl, hOn4, (hrel4 _ _ _).mpr ⟨hen, take_not hled hw2⟩, fun A5 H6 hOn5 sd5 hk5 hrel5 hlen5 => ?_⟩
        refine ⟨_, _, A5, rfl, hOn5, sd4.trans sd5, hk5.trans hk4, fun w a m => ?_, fun b hb => hlen5 b (hlen4 b hb)⟩
        rw [hrel5, hrel4, mem_take_succ hw2]
        constructor
        · rintro ⟨⟨q1, q2⟩, q3⟩
          refine ⟨q1, fun z => ?_⟩
          rcases z with z | z
          · exact q2 z
          · exact q3 ⟨(Prod.mk.inj z).1, (Prod.mk.inj z).2⟩
        · rintro ⟨q1, q2⟩
          exact ⟨⟨q1, fun z => q2 (.inl z)⟩, fun z => q2 (.inr (Prod.ext z.1 z.2))⟩
      · rintro σ H4 ⟨_, _, A3, rfl, hOn3, sd3, hk3, hrel3, hlen3⟩
        have hrel : ∀ w a m, enA A3 w a m ↔ enA A2 w a m ∧ m ≠ x1 := fun w a m => by
          rw [hrel3, paired_len hpx, List.take_length, ledOf_mem, hE.mem_iff]
          constructor
          · rintro ⟨q1, q2⟩
            exact ⟨q1, fun z => q2 (by rw [z] at q1; exact q1)⟩
          · rintro ⟨q1, q2⟩
            exact ⟨q1, fun z => q2 (hA1.fun q1 z)⟩
        clear hrel3
        have hi3 := hOn3
        obtain ⟨dx3, d3, e3, gs3, hi3, _⟩ := hi3
        have hbx := hbd x1 (by rw [← S.keys]; exact hxk)
        have hlen3' := hlen3 _ hle2
        refine ⟨_, rfl, _, _, _, rfl, hi3, rfl, _, rfl, p, R, [], A3, G, x1, rfl, hOn3, by rw [hk3, ← S.keys]; exact S.tidy.k1, hbx.1, hbx.2, lenA_mono hlen3' (by omega), fun A4 zz H5 hOn4 sd4 hk4 hzz hzn hrel4 hlen4 => ?_⟩
        have hk4' : keysA A4 = keysA A2 := (hk4.trans hk3).trans S.keys.symm
        have hrel' : ∀ w a m, enA A4 w a m ↔ (enA A2 w a m ∧ m ≠ x1) ∨ (w = 1 ∧ a = zz ∧ m = x1) := fun w a m => by rw [hrel4, hrel]
        have hT4 : Tidy A4 := by
          refine ⟨by rw [hk4']; exact S.tidy.k0, by rw [hk4']; exact S.tidy.k1, (hrel' _ _ _).mpr (.inl ⟨S.tidy.ce, fun z => hxo z.symm⟩), fun w a h => ?_, fun c hc hc0 => ?_⟩
          · rcases (hrel' _ _ _).mp h with q | q
            · exact S.tidy.top _ _ q.1
            · exact hx0 q.2.2.symm
          · rw [hk4'] at hc
            by_cases ec : c = x1
            · subst ec
              refine ⟨1, zz, (hrel' _ _ _).mpr (.inr ⟨rfl, rfl, rfl⟩), fun w' a' h => ?_⟩
              rcases (hrel' _ _ _).mp h with q | q
              · exact absurd rfl q.2
              · exact ⟨q.1, q.2.1⟩
            · obtain ⟨w0, a0, q1, q2⟩ := S.tidy.one c hc hc0
              refine ⟨w0, a0, (hrel' _ _ _).mpr (.inl ⟨q1, ec⟩), fun w' a' h => ?_⟩
              rcases (hrel' _ _ _).mp h with q | q
              · exact q2 _ _ q.1
              · exact absurd q.2.2 ec
        have hcl4 : cntA A4 < m := by
          rw [← S.cnt]
          exact cntA_lt hk4' hxk hx1no (fun a n h1 h2 => (hrel' _ _ _).mpr (.inl ⟨h1, h2⟩)) ((hrel' 1 zz x1).mpr (.inr ⟨rfl, rfl, rfl⟩))
        have hlen5 : lenA (b + (cntA A - cntA A4)) A4 := lenA_mono (hlen4 _ hlen3') (by omega)
        have hi4 := hOn4
        obtain ⟨dx4, d4, e4, gs4, hi4, _⟩ := hi4
        have hA4l : A4.length < 64 := by
          have := congrArg List.length hk4'
          unfold keysA at this
          rw [List.length_map, List.length_map] at this
          omega
        refine ⟨_, rfl, _, _, _, rfl, hi4, rfl, p, R, A4, G, rfl, hOn4, hA4l, lenA_mono hlen5 (by omega), fun q ps4 H6 s6 hq6 hP4 hpl4 => ⟨q, ps4, rfl, .inl hq6, hpl4, fun q7 r7 H7 s7 hq7 hr71 hr72 => ?_⟩⟩
        refine ⟨cntA A4, hcl4, q7, r7, A4, _, _, _, rfl, hq7, (hOn4.same s6).same s7, (((((S.sd.trans s1.d).trans s2.d).trans sd3).trans sd4).trans s6.d).trans s7.d, hk4'.trans S.keys, hT4, ⟨ps4, hP4, hr71, hr72⟩, rfl, by omega, hlen5, fun n hn w a => ?_, fun w a n h => ?_, fun hrk => ?_⟩
        · rw [hrel', ← S.file n hn w a]
          have hnx : n ≠ x1 := fun z => hn (by rw [z, ← S.keys]; exact hxk)
          constructor
          · rintro (q | q)
            · exact q.1
            · exact absurd q.2.2 hnx
          · exact fun q => .inl ⟨q, hnx⟩
        · rcases (hrel' _ _ _).mp h with q | q
          · exact S.name w a n q.1
          · rw [q.2.1]; exact .inr hzz
        · exfalso
          have hsm := S.same hrk
          obtain ⟨rk, hrk⟩ := hrk
          exact Nat.lt_irrefl _ (rank_no_ring (rk := rk) (fun a b hab => by
            obtain ⟨q1, a', q2⟩ := hP.get a b hab
            exact hrk _ _ _ ((hsm _ _ _).mp q2) (by rw [← S.keys]; exact q1)) (hr2 x1 hx1).2)
    · have hre : r = [] := by simpa using h2
      subst hre
      exact k m qr A2 H1 ⟨s1 _ _ S.ring, S.on.same s1, S.sd.trans s1.d, S.keys, S.tidy, S.par, S.cnt, S.cle, S.len, S.file, S.name, S.same⟩
end
end K81
set_option maxHeartbeats 4000000
namespace K81
open PySem PySem.Spec PyProof.Rows L2
/-! ### the plain law of mending -/
theorem inOrder_of {t : List Row} (h : Once t) (ho : Ord (shT t)) : InOrder t := by
  refine ⟨?_, ho⟩
  rintro (q | q | ⟨w, es, q1, q2⟩)
  · exact q h.nums
  · exact q ⟨ho.root, ho.clash, ho.ce⟩
  · exact q2 (h.names w es q1)
structure MendOk (a b : Nat) (t t' : List Row) : Prop where
  canon : Canon t'
  order : Ord (shT t')
  fk : ∀ n, (shT t').fk n ↔ (shT t).fk n
  fi : ∀ n k c, (shT t').fi n k c ↔ (shT t).fi n k c
  fine : Fine t'
  small : Small a (a + b) t'
  same : Canon t → InOrder t → t' = t
theorem keysA_plain (A : FAt) : (plainF A).map (·.1) = keysA A := plainF_keys A
theorem keysA_fk {A : FAt} {n : Int} : (∃ es, (n, es) ∈ plainF A) ↔ n ∈ keysA A := by
  rw [← keysA_plain]
  constructor
  · rintro ⟨es, h⟩; exact List.mem_map.mpr ⟨_, h, rfl⟩
  · intro h
    obtain ⟨⟨m, es⟩, h1, rfl⟩ := List.mem_map.mp h
    exact ⟨es, h1⟩
/-- what the stages leave: A0 as given, A1 without the blind, A2 with one entry a folder, A3 with no lost folder, A4 without rings, A5 with no lost file -/
structure Stages (t : List Row) (A0 A1 A2 A3 A4 A5 : FAt) : Prop where
  plain : plainF A0 = fo t
  k1 : keysA A1 = keysA A0
  k2 : keysA A2 = keysA A1
  k3 : keysA A3 = keysA A2
  k4 : keysA A4 = keysA A3
  k5 : keysA A5 = keysA A4
  r1 : ∀ w a n, enA A1 w a n ↔ enA A0 w a n ∧ ¬ (n = 0 ∨ (n ∉ keysA A0 ∧ n ∉ (fi t).map (·.1)))
  r2 : ∃ E, E.Perm (flat (plainF A1)) ∧ ∀ w a n, enA A2 w a n ↔ enA A1 w a n ∧ ¬ (n ∈ keysA A1 ∧ (w, a) ≠ keptOf E n)
  r3 : ∃ add : List (Str × Int), (∀ w a n, enA A3 w a n ↔ enA A2 w a n ∨ (w = 1 ∧ (a, n) ∈ add)) ∧ (∀ e ∈ add, isName e.1 = true) ∧ (add.map (·.2)).Nodup ∧ ∀ n, n ∈ add.map (·.2) ↔ n ∈ keysA A2 ∧ n ≠ 0 ∧ ∀ w a, ¬ enA A2 w a n
theorem kept_one {A1 A2 : FAt} {E : List (Int × Str × Int)} (hE : E.Perm (flat (plainF A1))) (h : ∀ w a n, enA A2 w a n ↔ enA A1 w a n ∧ ¬ (n ∈ keysA A1 ∧ (w, a) ≠ keptOf E n)) {n w w' : Int} {a a' : Str} (hn : n ∈ keysA A1) (h1 : enA A2 w a n) (h2 : enA A2 w' a' n) : w' = w ∧ a' = a := by
  have e1 : (w, a) = keptOf E n := Classical.byContradiction fun q => ((h _ _ _).mp h1).2 ⟨hn, q⟩
  have e2 : (w', a') = keptOf E n := Classical.byContradiction fun q => ((h _ _ _).mp h2).2 ⟨hn, q⟩
  have := e2.trans e1.symm
  exact ⟨(Prod.mk.inj this).1, (Prod.mk.inj this).2⟩
/-- a sheet behind put_lost is tidy -/
theorem tidy3 {t : List Row} {A0 A1 A2 A3 A4 A5 : FAt} (S : Stages t A0 A1 A2 A3 A4 A5) (hr : rootOk t) (ho : ((fo t).map (·.1)).Nodup) (hdis : ∀ n ∈ (fo t).map (·.1), n ∉ (fi t).map (·.1)) : Tidy A3 := by
  have hk0 : keysA A0 = (fo t).map (·.1) := by rw [← keysA_plain, S.plain]
  have h0 : 0 ∈ keysA A0 := by rw [hk0]; exact fk_iff.mp hr.1
  have h1 : 1 ∈ keysA A0 := by rw [hk0]; exact fk_iff.mp hr.2.1
  have hce0 : enA A0 0 "clash" 1 := by unfold enA; rw [S.plain]; exact hr.2.2
  have hce1 : enA A1 0 "clash" 1 := (S.r1 _ _ _).mpr ⟨hce0, fun q => by
    rcases q with q | q
    · exact absurd q (by decide)
    · exact q.1 h1⟩
  obtain ⟨E, hE, r2⟩ := S.r2
  obtain ⟨add, r3, hnm, hnd, hadd⟩ := S.r3
  have hce2 : enA A2 0 "clash" 1 := (r2 _ _ _).mpr ⟨hce1, fun q => q.2 (by unfold keptOf; rw [if_pos rfl])⟩
  have hk3 : keysA A3 = keysA A0 := S.k3.trans (S.k2.trans S.k1)
  refine ⟨by rw [hk3]; exact h0, by rw [hk3]; exact h1, (r3 _ _ _).mpr (.inl hce2), fun w a h => ?_, fun c hc hc0 => ?_⟩
  · rcases (r3 _ _ _).mp h with q | q
    · exact ((S.r1 _ _ _).mp ((r2 _ _ _).mp q).1).2 (.inl rfl)
    · exact ((hadd 0).mp (List.mem_map.mpr ⟨_, q.2, rfl⟩)).2.1 rfl
  · have hc2 : c ∈ keysA A2 := by rw [← S.k3]; exact hc
    have hc1 : c ∈ keysA A1 := by rw [← S.k2]; exact hc2
    by_cases q : ∃ w a, enA A2 w a c
    · obtain ⟨w, a, q⟩ := q
      refine ⟨w, a, (r3 _ _ _).mpr (.inl q), fun w' a' h => ?_⟩
      rcases (r3 _ _ _).mp h with z | z
      · exact kept_one hE r2 hc1 q z
      · exact absurd q (((hadd c).mp (List.mem_map.mpr ⟨_, z.2, rfl⟩)).2.2 w a)
    · have hno : ∀ w a, ¬ enA A2 w a c := fun w a h => q ⟨w, a, h⟩
      obtain ⟨⟨z, c'⟩, hz, rfl⟩ := List.mem_map.mp ((hadd c).mpr ⟨hc2, hc0, hno⟩)
      refine ⟨1, z, (r3 _ _ _).mpr (.inr ⟨rfl, hz⟩), fun w' a' h => ?_⟩
      rcases (r3 _ _ _).mp h with y | y
      · exact absurd y (hno _ _)
      · have := nodup_keyg (f := (·.2)) hnd hz y.2 rfl
        exact ⟨y.1, (Prod.mk.inj this).1.symm⟩
/-- how many are added, beside those that do not stand in the folder 1 -/
theorem add_cnt {A A' : FAt} {add : List (Str × Int)} (hk : keysA A' = keysA A) (hn : (keysA A).Nodup) (h : ∀ w a n, enA A' w a n ↔ enA A w a n ∨ (w = 1 ∧ (a, n) ∈ add)) (hnd : (add.map (·.2)).Nodup) (hin : ∀ n ∈ add.map (·.2), n ∈ keysA A) : cntA A' + add.length ≤ A.length := by
  classical
  unfold cntA
  rw [hk]
  have h1 : (add.map (·.2)).length ≤ ((keysA A).filter fun c => decide (∃ a, enA A' 1 a c)).length := by
    refine nodup_len hnd fun x hx => List.mem_filter.mpr ⟨hin x hx, ?_⟩
    obtain ⟨⟨a, n⟩, ha, rfl⟩ := List.mem_map.mp hx
    exact decide_eq_true ⟨a, (h _ _ _).mpr (.inr ⟨rfl, ha⟩)⟩
  rw [List.length_map] at h1
  have h2 : ∀ (l : List Int) (p : Int → Bool), (l.filter fun c => !p c).length + (l.filter p).length = l.length := by
    intro l p
    induction l with
    | nil => rfl
    | cons x l ih =>
      rw [List.filter_cons, List.filter_cons]
      cases p x <;> simp <;> omega
  have h3 := h2 (keysA A) (fun c => decide (∃ a, enA A' 1 a c))
  have h4 : (keysA A).length = A.length := List.length_map _
  omega
/-- the same, where all was in order -/
theorem stages_same {t : List Row} {A0 A1 A2 A3 A4 A5 : FAt} (S : Stages t A0 A1 A2 A3 A4 A5) (ho : InOrder t) : (∀ w a n, enA A3 w a n ↔ (shT t).en w a n) ∧ Ranked A3 := by
  have hon := once_of ho.1
  have hk0 : keysA A0 = (fo t).map (·.1) := by rw [← keysA_plain, S.plain]
  have e0 : ∀ w a n, enA A0 w a n ↔ (shT t).en w a n := fun w a n => by unfold enA; rw [S.plain]; exact Iff.rfl
  have e1 : ∀ w a n, enA A1 w a n ↔ (shT t).en w a n := fun w a n => by
    rw [S.r1, e0]
    constructor
    · exact fun q => q.1
    · refine fun q => ⟨q, fun z => ?_⟩
      rcases z with z | z
      · rw [z] at q; exact ho.2.top _ _ q
      · rcases ho.2.node _ _ _ q with y | ⟨k, c, y⟩
        · exact z.1 (by rw [hk0]; exact fk_iff.mp y)
        · exact z.2 (List.mem_map.mpr ⟨_, y, rfl⟩)
  obtain ⟨E, hE, r2⟩ := S.r2
  obtain ⟨add, r3, hnm, hnd, hadd⟩ := S.r3
  have e2 : ∀ w a n, enA A2 w a n ↔ (shT t).en w a n := fun w a n => by
    rw [r2, e1]
    constructor
    · exact fun q => q.1
    · refine fun q => ⟨q, fun z => ?_⟩
      have hfk : (shT t).fk n := fk_iff.mpr (by rw [← hk0, ← S.k1]; exact z.1)
      have hn0 : n ≠ 0 := fun y => by rw [y] at q; exact ho.2.top _ _ q
      obtain ⟨w0, a0, q1, q2⟩ := ho.2.one n hfk hn0
      refine z.2 ?_
      unfold keptOf
      by_cases h1 : n = 1
      · rw [if_pos h1]
        subst h1
        obtain ⟨y1, y2⟩ := q2 _ _ q
        obtain ⟨y3, y4⟩ := q2 _ _ ho.2.ce
        rw [y1, y2, ← y3, ← y4]
      · rw [if_neg h1]
        have hl : (w, a) ∈ ledOf E n := ledOf_mem.mpr (hE.mem_iff.mpr ((e1 _ _ _).mpr q))
        cases y : ledOf E n with
        | nil => rw [y] at hl; cases hl
        | cons x r =>
          have hx : (x.1, x.2) ∈ ledOf E n := by rw [y]; exact List.mem_cons_self
          have hx2 := (e1 _ _ _).mp (hE.mem_iff.mp (ledOf_mem.mp hx))
          obtain ⟨y1, y2⟩ := q2 _ _ q
          obtain ⟨y3, y4⟩ := q2 _ _ hx2
          show (w, a) = x
          exact Prod.ext (y1.trans y3.symm) (y2.trans y4.symm)
  have hadd0 : add = [] := by
    cases add with
    | nil => rfl
    | cons x r =>
      obtain ⟨q1, q2, q3⟩ := (hadd x.2).mp (by simp)
      have hfk : (shT t).fk x.2 := fk_iff.mpr (by rw [← hk0, ← S.k1, ← S.k2]; exact q1)
      obtain ⟨w0, a0, q4, _⟩ := ho.2.one _ hfk q2
      exact absurd ((e2 _ _ _).mpr q4) (q3 _ _)
  have e3 : ∀ w a n, enA A3 w a n ↔ (shT t).en w a n := fun w a n => by
    rw [r3, e2, hadd0]
    simp
  refine ⟨e3, ?_⟩
  obtain ⟨rk, hrk⟩ := ho.2.rk
  exact ⟨rk, fun w a n h hk => hrk w a n ((e3 _ _ _).mp h) (fk_iff.mpr (by rw [← hk0, ← S.k1, ← S.k2, ← S.k3]; exact hk))⟩
end K81
set_option maxHeartbeats 4000000
namespace K81
open PySem PySem.Spec PyProof.Rows L2
/-! ### a def that may let an error out -/
def OkDX (P : Program) (w : World) (K : PySem.W.Frag) (mg : Str → Option Value) (base : Heap) (at_ : Str × Option Str) (k : Nat) (ps : List Str) (sp : Sp) : Prop :=
  ∃ fd, Binds K fd ps [] ∧ PySem.W.keepIn K (.ref (He.fAd K at_)) = true ∧ FnOk P w K mg base (L2.CX P w) k (He.fAd K at_) fd ps sp
section
variable {P : Program} {w : World} {K : PySem.W.Frag} {mg : Str → Option Value} {base : Heap}
theorem okDX_of {at_ : Str × Option Str} {x qual : Str} {params : Arguments} {body : List Stmt} {scope : Scope} {N ps : List Str} {k : Nat} {sp : Sp} (F : ∃ fd, FunD K x qual params body scope [] [] (He.fAd K at_) fd) (S : FnScope N ps scope)
    (hb : ∀ (kV doc pm : Value) (an : Option Addr) (cdv ct : Value) (us : List Value), us.length = ps.length → bindArgs (PySem.W.fnOf x qual params body scope .none kV doc pm an cdv ct) ⟨us, []⟩ = pure (ps.zip us))
    (len : ∀ vs H Q E, sp vs H Q E → vs.length = ps.length)
    (hbody : ∀ (cdv : Value) (A : Around) (outer : List Env) (s : Shared) (H : Hp) (vs : List V) (Q : VK) (E : XK), Room k (A.deeper (envOfC qual scope s.heap.objs.size (He.fAd K at_) cdv)) → sp vs H Q E →
      ∃ t, PSs (cxOf (L2.CX P w) P w K mg base N qual scope (He.fAd K at_) cdv A outer s H E) body t ∧ t { nx := fun _ H' => Q .non H', rt := Q } (start N vs) H) : OkDX P w K mg base at_ (k + 1) ps sp := by
  obtain ⟨fd, F⟩ := F
  exact ⟨fd, FunD.bindsN F hb, F.kp, F.ok S len hbody⟩
end
section
variable {X : Cx} {at_ : Str × Option Str} {k j : Nat} {ps : List Str} {sp : Sp} {x : Str} {p pos : Pos} {e : Expr} {es : List Expr} {t : TA}
/-- .. called where nothing is let out -/
theorem pe_callOL (G : OkDX X.prog X.w X.K X.mg X.base at_ k ps sp) (hr : Room j X.A) (hjk : k ≤ j) (hm : X.mg x = some (.ref (He.fAd X.K at_))) (ha : PA X (e :: es) t) (hg : Gl X x := by rfl)
    (hdb : (x == ("__debug__" : Str)) = false := by decide) (he : starEach (e :: es) X.env = (false, eval e X.env) :: starEach es X.env := by rfl) (hpl : (backTo pos (starEach es X.env)).any (·.1) = false := by rfl) :
    PE X (.Call (.Name x p) (e :: es) [] pos) (tCall sp [] E0 t) := by
  obtain ⟨fd, a, b, c⟩ := G
  exact pe_call c (hr.mono hjk) hg hm b a .nil passL ha hdb he hpl
/-- .. called in a try -/
theorem pe_callOS {W : WX} (G : OkDX X.prog X.w X.K X.mg X.base at_ k ps sp) (hr : Room j X.A) (hjk : k ≤ j) (tk : Takes X W) (hm : X.mg x = some (.ref (He.fAd X.K at_))) (ha : PA X (e :: es) t) (hg : Gl X x := by rfl)
    (hdb : (x == ("__debug__" : Str)) = false := by decide) (he : starEach (e :: es) X.env = (false, eval e X.env) :: starEach es X.env := by rfl) (hpl : (backTo pos (starEach es X.env)).any (·.1) = false := by rfl) :
    PE X (.Call (.Name x p) (e :: es) [] pos) (tCallS sp (WE W) t) := by
  obtain ⟨fd, a, b, c⟩ := G
  exact pe_callS c (hr.mono hjk) hg hm b a (fun σ => passAt tk σ) ha hdb he hpl
end
def spMended (K : PySem.W.Frag) : Sp := fun vs H Q E => ∃ (tab : V) (t : List Row) (a b : Nat), vs = [tab] ∧ TabAt K H tab t ∧ Fine t ∧ Small a b t ∧ b + 2 * a ≤ 63 ∧ (Beyond t → ∀ H', Same H H' → E (.ref (He.ga K "NoMend")) none H') ∧
  (¬ Beyond t → ∀ v t' H', Same H H' → TabAt K H' v t' → MendOk a b t t' → Q v H')
theorem inV_beyond (word : Str) : inV (.str word) [V.str "twice", V.str "root", V.str "same"] = decide (word = "twice" ∨ word = "root" ∨ word = "same") := by
  have h : ∀ z : Str, (z == word) = decide (word = z) := fun z => by
    by_cases e : word = z
    · subst e; simp
    · have : ¬ z = word := fun q => e q.symm
      simp [e, this]
  show (((("twice" : Str) == word)) || ((("root" : Str) == word) || ((("same" : Str) == word) || false))) = _
  rw [h, h, h]
  simp only [Bool.or_false, ← Bool.decide_or]
theorem On.len {K : PySem.W.Frag} {R H : Hp} {C p : Addr} {rest : List (Str × V)} {A : FAt} {G : List (Int × Int × Str)} (h : On K R H C p rest A G) : (G.map (·.1)).Nodup := by
  obtain ⟨dx, d, e, gs, h1, h2, h3, h4, h5, _⟩ := h
  exact h5
/-- the end of mending -/
theorem mend_ok {K : PySem.W.Frag} {R H : Hp} {p : Addr} {t : List Row} {a b : Nat} {A0 A1 A2 A3 A4 A5 : FAt} {ks : List Int} (S : Stages t A0 A1 A2 A3 A4 A5) (hb : ¬ Beyond t) (hf : Fine t) (hsm : Small a b t)
    (h5 : On K R H (He.ga K "Mending") p [] A5 (fi t)) (hT : Tidy A4) {ps : List (Int × Int)} (hP : ParA A4 ps) (hout : ∀ f, Out (parOf ps) f) (hfile : ∀ n, n ∉ keysA A3 → ∀ w a, enA A4 w a n ↔ enA A3 w a n) (hname : ∀ w a n, enA A4 w a n → enA A3 w a n ∨ isName a = true)
    (hsame : Ranked A3 → ∀ w a n, enA A4 w a n ↔ enA A3 w a n) {add : List (Str × Int)} (r5 : ∀ w a n, enA A5 w a n ↔ enA A4 w a n ∨ (w = 1 ∧ (a, n) ∈ add)) (hnm : ∀ e ∈ add, isName e.1 = true) (hadd : ∀ n, n ∈ add.map (·.2) ↔ n ∈ (fi t).map (·.1) ∧ n ≠ 0 ∧ ∀ w a, ¬ enA A4 w a n)
    (hlen : lenA (b + a) A5) (hks : ks.Perm ((plainF A5).map (·.1) ++ (fi t).map (·.1))) (hs : ks.Pairwise (· ≤ ·)) : MendOk a b t (canonT (plainF A5) (fi t) ks) := by
  have hon := once_of hb
  have hoo := hon.o
  have hk0 : keysA A0 = (fo t).map (·.1) := by rw [← keysA_plain, S.plain]
  have hk5 : keysA A5 = (fo t).map (·.1) := by rw [S.k5, S.k4, S.k3, S.k2, S.k1, hk0]
  have hk4 : keysA A4 = (fo t).map (·.1) := by rw [S.k4, S.k3, S.k2, S.k1, hk0]
  have hk3 : keysA A3 = (fo t).map (·.1) := by rw [S.k3, S.k2, S.k1, hk0]
  obtain ⟨o1, o2⟩ := h5.once
  have hO : OnceO (plainF A5) (fi t) := ⟨o1, hoo.gk, fun n m => hoo.dis n (by rw [← hk5, ← keysA_plain]; exact m), o2⟩
  have hSh := canon_sh hO hks
  obtain ⟨E, hE, r2⟩ := S.r2
  obtain ⟨add3, r3, hnm3, hnd3, hadd3⟩ := S.r3
  -- entries of all stages
  have en2 : ∀ w a n, enA A2 w a n → enA A1 w a n := fun w a n h => ((r2 _ _ _).mp h).1
  have en1 : ∀ w a n, enA A1 w a n → (shT t).en w a n ∧ n ≠ 0 ∧ (n ∈ (fo t).map (·.1) ∨ n ∈ (fi t).map (·.1)) := fun w a n h => by
    obtain ⟨q1, q2⟩ := (S.r1 _ _ _).mp h
    refine ⟨by unfold enA at q1; rw [S.plain] at q1; exact q1, fun z => q2 (.inl z), Classical.byContradiction fun z => q2 (.inr ⟨fun y => z (.inl (by rw [← hk0]; exact y)), fun y => z (.inr y)⟩)⟩
  have en3 : ∀ w a n, enA A3 w a n → isName a = true ∧ (n ∈ (fo t).map (·.1) ∨ n ∈ (fi t).map (·.1)) := fun w a n h => by
    rcases (r3 _ _ _).mp h with q | q
    · obtain ⟨q1, q2, q3⟩ := en1 _ _ _ (en2 _ _ _ q)
      obtain ⟨es, z1, z2⟩ := mem_flat.mp q1
      exact ⟨(hf.ents w es z1 _ z2).1, q3⟩
    · refine ⟨hnm3 _ q.2, .inl ?_⟩
      have := ((hadd3 n).mp (List.mem_map.mpr ⟨_, q.2, rfl⟩)).1
      rw [S.k2, S.k1, hk0] at this
      exact this
  have en4 : ∀ w a n, enA A4 w a n → isName a = true ∧ (n ∈ (fo t).map (·.1) ∨ n ∈ (fi t).map (·.1)) := fun w a n h => by
    refine ⟨?_, ?_⟩
    · rcases hname _ _ _ h with q | q
      · exact (en3 _ _ _ q).1
      · exact q
    · by_cases q : n ∈ (fo t).map (·.1)
      · exact .inl q
      · exact (en3 _ _ _ ((hfile n (by rw [hk3]; exact q) w a).mp h)).2
  have en5 : ∀ w a n, enA A5 w a n → isName a = true ∧ (n ∈ (fo t).map (·.1) ∨ n ∈ (fi t).map (·.1)) := fun w a n h => by
    rcases (r5 _ _ _).mp h with q | q
    · exact en4 _ _ _ q
    · exact ⟨hnm _ q.2, .inr ((hadd n).mp (List.mem_map.mpr ⟨_, q.2, rfl⟩)).1⟩
  have hfF : FineO (plainF A5) (fi t) := by
    refine ⟨fun w es m e he => ?_, fun n m => ?_, hf.o.gk, hf.text⟩
    · have h := en5 w e.1 e.2 (mem_flat.mpr ⟨es, m, he⟩)
      refine ⟨h.1, ?_⟩
      rcases h.2 with q | q
      · exact hf.o.fk _ q
      · exact hf.o.gk _ q
    · rw [keysA_plain, hk5] at m
      exact hf.o.fk n m
  have hfk5 : ∀ n, (shF (plainF A5) (fi t)).fk n ↔ n ∈ (fo t).map (·.1) := fun n => by rw [← hk5]; exact keysA_fk
  have hdis : ∀ n, n ∈ (fo t).map (·.1) → n ∉ (fi t).map (·.1) := hoo.dis
  -- a folder's entries are those of the fourth stage
  have en54 : ∀ w a n, n ∈ (fo t).map (·.1) → (enA A5 w a n ↔ enA A4 w a n) := fun w a n hn => by
    rw [r5]
    constructor
    · rintro (q | q)
      · exact q
      · exact absurd ((hadd n).mp (List.mem_map.mpr ⟨_, q.2, rfl⟩)).1 (hdis n hn)
    · exact .inl
  have hOrd : Ord (shF (plainF A5) (fi t)) := by
    refine ⟨(hfk5 0).mpr (by rw [← hk4]; exact hT.k0), (hfk5 1).mpr (by rw [← hk4]; exact hT.k1), (r5 _ _ _).mpr (.inl hT.ce), fun w a n h => ?_, fun w a h => ?_, fun n h h0 => ?_, fun n k c h => ?_, ?_⟩
    · rcases (en5 w a n h).2 with q | q
      · exact .inl ((hfk5 n).mpr q)
      · obtain ⟨y, hy, e⟩ := List.mem_map.mp q
        exact .inr ⟨y.2.1, y.2.2, by rw [show n = y.1 from e.symm]; exact hy⟩
    · rcases (r5 _ _ _).mp h with q | q
      · exact hT.top _ _ q
      · exact ((hadd 0).mp (List.mem_map.mpr ⟨_, q.2, rfl⟩)).2.1 rfl
    · have hn := (hfk5 n).mp h
      obtain ⟨w, a, q1, q2⟩ := hT.one n (by rw [hk4]; exact hn) h0
      exact ⟨w, a, (en54 w a n hn).mpr q1, fun w' a' h' => q2 w' a' ((en54 w' a' n hn).mp h')⟩
    · by_cases q : ∃ w a, enA A4 w a n
      · obtain ⟨w, a, q⟩ := q
        exact ⟨w, a, (r5 _ _ _).mpr (.inl q)⟩
      · have hng : n ∈ (fi t).map (·.1) := List.mem_map.mpr ⟨_, h, rfl⟩
        have hn0 : n ≠ 0 := fun z => hdis 0 (by rw [← hk4]; exact hT.k0) (by rw [← z]; exact hng)
        obtain ⟨⟨z, n'⟩, hz, e⟩ := List.mem_map.mp ((hadd n).mpr ⟨hng, hn0, fun w a y => q ⟨w, a, y⟩⟩)
        refine ⟨1, z, (r5 _ _ _).mpr (.inr ⟨rfl, ?_⟩)⟩
        rw [show n = n' from e.symm]; exact hz
    · obtain ⟨rk, hrk⟩ := rank_of_out hout
      refine ⟨rk, fun w a n h hk => hrk n w ?_⟩
      have hn := (hfk5 n).mp hk
      exact hT.par hP (by rw [hk4]; exact hn) ((en54 w a n hn).mp h)
  refine ⟨canon_canon hO hks hs, by rw [hSh]; exact hOrd, fun n => ?_, fun n k c => canon_fi hO hks, canon_fine hO hfF hks, canon_small hO hks ?_ (fun w es m => ?_), fun hc ho => ?_⟩
  · rw [hSh, hfk5, fk_iff]
  · have h1 : (plainF A5).length = (fo t).length := by
      have := congrArg List.length hk5
      rw [← keysA_plain, List.length_map, List.length_map] at this
      exact this
    have := fo_len t
    have := hsm.rows
    omega
  · obtain ⟨adr, hm⟩ := plainF_mem.mp m
    have := hlen _ hm
    simp only at this
    omega
  · obtain ⟨e3, hrk⟩ := stages_same S ho
    have e4 : ∀ w a n, enA A4 w a n ↔ (shT t).en w a n := fun w a n => (hsame hrk w a n).trans (e3 w a n)
    have hadd0 : add = [] := by
      cases add with
      | nil => rfl
      | cons x r =>
        obtain ⟨q1, q2, q3⟩ := (hadd x.2).mp (by simp)
        obtain ⟨y, hy, e⟩ := List.mem_map.mp q1
        obtain ⟨w, a, q4⟩ := ho.2.loose y.1 y.2.1 y.2.2 hy
        exact absurd ((e4 w a x.2).mpr (by rw [← e]; exact q4)) (q3 w a)
    refine canon_eq (canon_canon hO hks hs) hc ?_
    rw [hSh]
    refine Sh.ext' (fun n => by rw [hfk5, fk_iff]) (fun w a n => ?_) (fun n k c => Iff.rfl)
    show enA A5 w a n ↔ _
    rw [r5, e4, hadd0]
    simp
section
variable {P : Program} {w : World} {K : PySem.W.Frag} {mg : Str → Option Value} {base : Heap}
abbrev N_mended : List Str := ["table", "fault", "mending"]
theorem sc_mended : FnScope N_mended ["table"] (defScope s_mended) := ⟨rfl, rfl, rfl, by decide +kernel, rfl, by decide +kernel, by decide +kernel⟩
theorem ok_mended (T : Tx K mg base) : OkDX P w K mg base d_mended.at_ 5 ["table"] (spMended K) := by
  have G_looked := ok_looked (P := P) (w := w) T
  have G_Mending_init := ok_Mending_init (P := P) (w := w) T
  have G_Mending_drop_blind := ok_Mending_drop_blind (P := P) (w := w) T
  have G_Mending_drop_more := ok_Mending_drop_more (P := P) (w := w) T
  have G_Mending_put_lost := ok_Mending_put_lost (P := P) (w := w) T
  have G_Mending_open_rings := ok_Mending_open_rings (P := P) (w := w) T
  have G_Mending_as_rows := ok_Mending_as_rows (P := P) (w := w) T
  refine okDX_of T.F_mended sc_mended (fun _ _ _ _ _ _ us hl => match us, hl with | [_], _ => rfl) (fun vs H Q E h => ?_) (fun cdv A outer s H vs Q E hr h => ?_)
  · obtain ⟨tab, t, a, b, rfl, _⟩ := h
    rfl
  · obtain ⟨tab, t, a, b, rfl, ht, hf, hsm, hab, kE, kQ⟩ := h
    have hu := hu_of hr
    have hrows := hsm.rows
    refine ⟨_, (pss_cons (ps_set (i := 1) sc_mended.nd rfl (by first | exact Or.inl rfl | exact Or.inr rfl) (pe_callO G_looked hr (by decide) T.g_looked (pa_cons (pv 0) pa_nil)))
      (Evl.pss_cut (ps_if (PW.pt (pw_and (pt_cmp (pc_notN (pv 1))) (pw_and1 (pt_cmpR op_in_seq (pe_ix (ix_tupK K) (pv 1) pe_int (fun _ _ => rfl)) (pe_gref T.g_BEYOND_MENDING) rfl)))) (pss_one (ps_raise rfl (takes_of rfl rfl rfl rfl) (pmk_own PySem.F.excBase_ValueError T.e_NoMend.1 T.g_NoMend T.e_NoMend.2.1 (raises_own T.e_NoMend.2.2.1 T.e_NoMend.2.2.2) (by exact rfl)))) pss_nil)
      (pss_cons (ps_set (i := 2) sc_mended.nd rfl (by first | exact Or.inl rfl | exact Or.inr rfl) (pe_makeO G_Mending_init hr (by decide) T.k_Mending T.g_Mending (pa_cons (pv 0) pa_nil)))
      (pss_cons (ps_expr (pe_methO0 G_Mending_drop_blind hr (by decide) T.c_Mending T.m_Mending_drop_blind (pv 2)))
      (pss_cons (ps_expr (pe_methO0 G_Mending_drop_more hr (by decide) T.c_Mending T.m_Mending_drop_more (pv 2)))
      (pss_cons (ps_expr (pe_methO G_Mending_put_lost hr (by decide) T.c_Mending T.m_Mending_put_lost (pv 2) (pa_cons (pe_callTy (call_listD rfl) (by rfl) T.z_list (show bootBuiltins "list" = some (.type "list") by decide +kernel) (pa_cons (pe_fldK K (pv 2) rfl) pa_nil)) pa_nil)))
      (pss_cons (ps_expr (pe_methO0 G_Mending_open_rings hr (by decide) T.c_Mending T.m_Mending_open_rings (pv 2)))
      (pss_cons (ps_expr (pe_methO G_Mending_put_lost hr (by decide) T.c_Mending T.m_Mending_put_lost (pv 2) (pa_cons (pe_callTy (call_listD rfl) (by rfl) T.z_list (show bootBuiltins "list" = some (.type "list") by decide +kernel) (pa_cons (pe_fldK K (pv 2) rfl) pa_nil)) pa_nil)))
      (pss_one (ps_ret (pe_methO0 G_Mending_as_rows hr (by decide) T.c_Mending T.m_Mending_as_rows (pv 2)))))))))))), ?_⟩
    have hsm63 : Small 63 1000 t := hsm.mono (by omega) (by omega)
    refine ⟨_, rfl, tab, t, rfl, ht, hf, hsm63, fun v H1 s1 hv => ?_⟩
    refine ⟨fun σ' H' => σ' = [some tab, some v, none] ∧ H' = H1 ∧ ¬ Beyond t, ?_, ?_⟩
    · rcases hv.1 with ⟨ev, hnb⟩ | ⟨p, word, rest, ev, hp, hw⟩
      · exact ⟨_, rfl, _, rfl, ite2 (fun z => absurd z (by simp [ev])) (fun _ => iteF ⟨rfl, rfl, hnb⟩)⟩
      · refine ⟨_, rfl, _, rfl, ite2 (fun _ => ?_) (fun z => absurd (by simp [ev]) z)⟩
        refine ⟨_, rfl, _, _, _, _, ev, rfl, SqT.of hp, at0, _, _, rfl, .inr (T.t_BEYOND_MENDING _), rfl, rfl, _, rfl, ?_⟩
        rw [if_neg (by decide), inV_beyond]
        exact ite2 (fun h2 => kE (hw.mp (of_decide_eq_true h2)) H1 s1) (fun h2 => ⟨rfl, rfl, fun z => h2 (decide_eq_true (hw.mpr z))⟩)
    · rintro _ H9 ⟨rfl, e9, hb⟩
      rw [e9]
      clear e9
      replace kQ := kQ hb
      have hon := once_of hb
      have hroot := beyond_root hb
      refine ⟨_, rfl, fun x dx hx hdx hne => ⟨x, tab, t, dx, rfl, upd_same .., ht.same (s1.trans (make_same hx hdx hne)), hon, hsm63, fun A0 H2 hOn0 hpl => ⟨rfl, ?_⟩⟩⟩
      have sR := s1.trans (make_same (o := .own x) (u := .ins (He.ga K "Mending") dx []) hx hdx hne)
      obtain ⟨R, hR⟩ : ∃ z, z = del (upd (upd H1 dx (.own x)) x (.ins (He.ga K "Mending") dx [])) x := ⟨_, rfl⟩
      rw [← hR] at sR
      have hOn0' : On K R H2 (He.ga K "Mending") x [] A0 (fi t) := by rw [hR]; exact hOn0
      clear hOn0 hR
      have hfo := hsm.fo
      have hfi := hsm.fi
      have hlens := fo_len t
      have hA0l : A0.length = (fo t).length := by rw [← hpl]; unfold plainF; rw [List.length_map]
      have hl0 : lenA b A0 := fun y hy => hsm.ents y.1 y.2.2 (by rw [← hpl]; exact plainF_mem.mpr ⟨y.2.1, hy⟩)
      have hkl : ∀ {A B : FAt}, keysA A = keysA B → A.length = B.length := fun h => by
        have := congrArg List.length h
        unfold keysA at this
        rw [List.length_map, List.length_map] at this
        exact this
      have i0 := hOn0'
      obtain ⟨_, _, _, _, i0, _⟩ := i0
      refine ⟨_, rfl, _, _, _, rfl, i0, rfl, x, R, A0, fi t, rfl, hOn0', by omega, lenA_mono hl0 (by omega), fun A1 H3 hOn1 sd1 hk1 hr1 hln1 => ?_⟩
      have i1 := hOn1
      obtain ⟨_, _, _, _, i1, _⟩ := i1
      have hl1 := hln1 _ hl0
      have hA1l := hkl hk1
      have hnm1 : ∀ w a n, enA A1 w a n → isName a = true := fun w a n h => by
        have := ((hr1 _ _ _).mp h).1
        unfold enA at this
        rw [hpl] at this
        obtain ⟨es, z1, z2⟩ := mem_flat.mp this
        exact (hf.ents w es z1 _ z2).1
      refine ⟨_, rfl, _, _, _, rfl, i1, rfl, x, R, A1, fi t, rfl, hOn1, by omega, lenA_mono hl1 (by omega), hnm1, fun A2 H4 E2 hOn2 sd2 hk2 hE2 hr2 hln2 => ?_⟩
      have i2 := hOn2
      obtain ⟨_, d2, _, _, i2, hF2, _⟩ := i2
      have hl2 := hln2 _ hl1
      have hA2l := hkl hk2
      have hk20 : keysA A2 = (fo t).map (·.1) := by rw [hk2, hk1, ← keysA_plain, hpl]
      refine ⟨_, rfl, _, _, _, rfl, i2, rfl, _, rfl, _, _, _, _, _, rfl, i2, T.c_Mending, T.n_Mending_folders, rfl, _, _, rfl, .inl hF2.dict, fun q5 hq5 => ?_⟩
      have e5 : ((fKV A2).map fun kv => kV kv.1) = (keysA A2).map V.int := by simp [fKV, kV, keysA]
      rw [e5]
      obtain ⟨H5, hH5⟩ : ∃ z, z = upd H4 q5 (.lst ((keysA A2).map V.int)) := ⟨_, rfl⟩
      rw [← hH5]
      have at_q5 : H5 q5 = some (.lst ((keysA A2).map V.int)) := by rw [hH5, upd_same]
      have s_H5 : Same H4 H5 := by rw [hH5]; exact same_new hq5
      clear hH5
      refine ⟨x, q5, R, A2, fi t, keysA A2, b, rfl, hOn2.same s_H5, SqL.of at_q5, hF2.nums, fun n hn => hf.o.fk n (by rw [← hk20]; exact hn), by rw [hk20]; exact fk_iff.mp hroot.2.1, by omega, hl2, ?_, fun A3 H6 add3 hOn3 sd3 hk3 hr3 hnm3 hnd3 hadd3 hl3 => ?_⟩
      · unfold keysA; rw [List.length_map]; omega
      have hS : Stages t A0 A1 A2 A3 A3 A3 := ⟨hpl, hk1, hk2, hk3, rfl, rfl, hr1, ⟨E2, hE2, hr2⟩, ⟨add3, hr3, hnm3, hnd3, hadd3⟩⟩
      have hT3 := tidy3 hS hroot hon.fo hon.o.dis
      have hcnt := add_cnt hk3 hF2.nums hr3 hnd3 (fun n hn => ((hadd3 n).mp hn).1)
      have hA3l := hkl hk3
      have hcA := cntA_le A3
      have i3 := hOn3
      obtain ⟨_, _, _, _, i3, _⟩ := i3
      have hnum3 : ∀ c ∈ keysA A3, 0 ≤ c ∧ c < 100000 := fun c hc => hf.o.fk c (by rw [← hk20, ← hk3]; exact hc)
      refine ⟨_, rfl, _, _, _, rfl, i3, rfl, x, R, A3, fi t, b + add3.length, rfl, hOn3, hT3, by omega, hl3, by omega, hnum3, fun m qr A4 H7 RS => ?_⟩
      have hOn4 := RS.on
      have i4 := hOn4
      obtain ⟨_, d4, e4, gs4, i4, hF4, hG4, hD4, _⟩ := i4
      have hA4l := hkl RS.keys
      have hl4 := RS.len
      refine ⟨_, rfl, _, _, _, rfl, i4, rfl, _, rfl, _, _, _, _, _, rfl, i4, T.c_Mending, T.n_Mending_files, rfl, _, _, rfl, .inl hG4, fun q8 hq8 => ?_⟩
      have e8 : (gs4.map fun kv => kV kv.1) = ((fi t).map (·.1)).map V.int := by
        have := congrArg (List.map kV) hD4.keys
        simpa [List.map_map, Function.comp_def, kV] using this
      rw [e8]
      obtain ⟨H8, hH8⟩ : ∃ z, z = upd H7 q8 (.lst (((fi t).map (·.1)).map V.int)) := ⟨_, rfl⟩
      rw [← hH8]
      have at_q8 : H8 q8 = some (.lst (((fi t).map (·.1)).map V.int)) := by rw [hH8, upd_same]
      have s_H8 : Same H7 H8 := by rw [hH8]; exact same_new hq8
      clear hH8
      refine ⟨x, q8, R, A4, fi t, (fi t).map (·.1), b + add3.length + (cntA A3 - m), rfl, hOn4.same s_H8, SqL.of at_q8, hon.fi, fun n hn => hf.o.gk n hn, RS.tidy.k1, by omega, hl4, by rw [List.length_map]; omega, fun A5 H9 add5 hOn5 sd5 hk5 hr5 hnm5 hnd5 hadd5 hl5 => ?_⟩
      have i5 := hOn5
      obtain ⟨_, _, _, _, i5, _⟩ := i5
      obtain ⟨o1, o2⟩ := hOn5.once
      have hk50 : keysA A5 = (fo t).map (·.1) := by rw [hk5, RS.keys, hk3, hk20]
      have hO5 : OnceO (plainF A5) (fi t) := ⟨o1, hon.fi, fun n m => hon.o.dis n (by rw [← hk50, ← keysA_plain]; exact m), o2⟩
      have ha5 := nodup_len hnd5 (fun n hn => ((hadd5 n).mp hn).1)
      rw [List.length_map, List.length_map] at ha5
      have hl5' : lenA (b + a) A5 := lenA_mono hl5 (by omega)
      refine ⟨_, rfl, _, _, _, rfl, i5, rfl, x, R, [], A5, fi t, rfl, hOn5, hO5, by have := hkl hk5; omega, fun w es m => ?_, fun v ks H10 s10 perm pw hT => ?_⟩
      · obtain ⟨adr, hm⟩ := plainF_mem.mp m
        have := hl5' _ hm
        simp only at this
        omega
      obtain ⟨ps, hP, hout, _⟩ := RS.par
      have hS5 : Stages t A0 A1 A2 A3 A4 A5 := ⟨hpl, hk1, hk2, hk3, RS.keys, hk5, hr1, ⟨E2, hE2, hr2⟩, ⟨add3, hr3, hnm3, hnd3, hadd3⟩⟩
      refine kQ v _ H10 ((sR.trans hOn5.sameR).trans s10) hT ?_
      exact mend_ok hS5 hb hf hsm hOn5 RS.tidy hP (hout rfl) RS.file RS.name RS.same hr5 hnm5 hadd5 hl5' perm pw
end
end K81
set_option maxHeartbeats 4000000
namespace K81
open PySem PySem.Spec PyProof.Rows L2
theorem FoOn.off {H : Hp} {d f : Addr} {A : FAt} {o : HO} (h : FoOn H d A) (h1 : f ≠ d) (h2 : f ∉ A.map (·.2.1)) : FoOn (upd H f o) d A :=
  ⟨upd_at_ne h.dict h1.symm, fun x m => upd_at_ne (h.inner x m) (fun z => h2 (List.mem_map.mpr ⟨x, m, z⟩)), h.nums, h.addrs, h.out, h.names⟩
/-- a new thing, held from now on -/
theorem hold {R H : Hp} {q : Addr} {o : HO} (s : Same R H) (hq : H q = none) : Same R (upd R q o) ∧ Same (upd R q o) (upd H q o) ∧ (upd R q o) q = some o ∧ ∀ {d u}, H d = some u → R d = none → (upd R q o) d = none := by
  refine ⟨same_new (s.free hq), fun b u h => ?_, upd_same .., fun {d u} h1 h2 => by rw [upd_ne (ne_of_none' hq h1).symm]; exact h2⟩
  by_cases z : b = q
  · subst z; rw [upd_same] at h ⊢; exact h
  · rw [upd_ne z] at h ⊢; exact s _ _ h
abbrev lastF (k : Int) : List (Str × V) := [("last", .int k)]
def spShelfInit (K : PySem.W.Frag) : Sp := fun vs H Q _ => ∃ (x dx : Addr), vs = [.ref x] ∧ H x = some (.ins (He.ga K "Shelf") dx []) ∧
  ∀ H' a b, Same (del H x) H' → H' x = some (.ins (He.ga K "Shelf") dx (("folders", .ref a) :: ("files", .ref b) :: lastF 1)) → Q .non H'
def flOf (G : List (Int × Int × Str)) (n : Int) : Int × Int × Str := (G.find? fun x => decide (x.1 = n)).getD (n, 0, "")
theorem flOf_eq {G : List (Int × Int × Str)} (hn : (G.map (·.1)).Nodup) {n k : Int} {c : Str} (h : (n, k, c) ∈ G) : flOf G n = (n, k, c) := by
  unfold flOf
  rw [find_of hn h]
  rfl
theorem flOf_map {G : List (Int × Int × Str)} (hn : (G.map (·.1)).Nodup) : (G.map (·.1)).map (flOf G) = G := by
  rw [List.map_map]
  refine (List.map_congr_left fun x hx => ?_).trans (List.map_id G)
  exact flOf_eq hn (show (x.1, x.2.1, x.2.2) ∈ G from hx)
def foOf (F : List (Int × List (Str × Int))) (n : Int) : Int × List (Str × Int) := (n, (esOf F n).mergeSort ile)
theorem foOf_map {F : List (Int × List (Str × Int))} (hn : (F.map (·.1)).Nodup) : (F.map (·.1)).map (foOf F) = F.map fun x => (x.1, x.2.mergeSort ile) := by
  rw [List.map_map]
  refine List.map_congr_left fun x hx => ?_
  show (x.1, (esOf F x.1).mergeSort ile) = _
  rw [esOf_eq hn (show (x.1, x.2) ∈ F from hx)]
/-- a Shelf of the rows t -/
structure OfRows (t : List Row) (A : FAt) (G : List (Int × Int × Str)) : Prop where
  fo : (plainF A).Perm ((fo t).map fun x => (x.1, x.2.mergeSort ile))
  fi : G.Perm (fi t)
def spShelfOf (K : PySem.W.Frag) : Sp := fun vs H Q _ => ∃ (tab : V) (t : List Row), vs = [tab] ∧ TabAt K H tab t ∧ Fine t ∧ Small 63 1000 t ∧ InOrder t ∧
  ∀ p A G k H', On K H H' (He.ga K "Shelf") p (lastF k) A G → OfRows t A G → (∀ n ∈ nums t, n ≤ k) → k ∈ nums t → Q (.ref p) H'
section
variable {P : Program} {w : World} {K : PySem.W.Frag} {mg : Str → Option Value} {base : Heap}
abbrev N_Shelf_init : List Str := ["self"]
theorem sc_Shelf_init : FnScope N_Shelf_init ["self"] (defScope s_Shelf_init) := ⟨rfl, rfl, rfl, by decide +kernel, rfl, by decide +kernel, by decide +kernel⟩
theorem ok_Shelf_init (T : Tx K mg base) : OkD P w K mg base d_Shelf_init.at_ 1 ["self"] (spShelfInit K) := by
  refine okD_of T.F_Shelf_init sc_Shelf_init (fun _ _ _ _ _ _ us hl => match us, hl with | [_], _ => rfl) (fun vs H Q E h => ?_) (fun cdv A outer s H vs Q E hr h => ?_)
  · obtain ⟨x, dx, rfl, _⟩ := h
    rfl
  · obtain ⟨x, dx, rfl, hx, k⟩ := h
    have hu := hu_of hr
    refine ⟨_, (pss_cons (ps_fld (pv 0) (pe_disp (pps_cons (pe_gint T.i_ROOT_shelf) (pe_disp (pps_cons pe_str (pe_gint T.i_CLASH_shelf) pps_nil) (by rfl) (by rfl) (fun z => by cases z) (by decide)) (pps_cons (pe_gint T.i_CLASH_shelf) pe_dnewK pps_nil)) (by rfl) (by rfl) (fun z => by cases z) (by decide)) rfl)
      (pss_cons (ps_fld (pv 0) pe_dnewK rfl)
      (pss_one (ps_fld (pv 0) (pe_gint T.i_CLASH_shelf) rfl)))), ?_⟩
    intro d1 hd1
    have s1 := same_new (o := .dK []) hd1
    intro d2 hd2
    have n12 : d1 ≠ d2 := ne_of_none (upd_same ..) hd2
    refine ⟨upd_same .., [(Sum.inr "clash", .int 1)], rfl, by decide, ?_⟩
    intro d3 hd3
    have hx2 := s1 _ _ hx
    have n2x : x ≠ d2 := ne_of_none hx2 hd2
    have n1x : x ≠ d1 := ne_of_none hx hd1
    have n13 : d1 ≠ d3 := ne_of_none (b := d3) (a := d1) (by rw [upd_ne n12, upd_ne n12, upd_same]) hd3
    have h3x : x ≠ d3 := ne_of_none (b := d3) (a := x) (by rw [upd_ne n2x, upd_ne n2x]; exact hx2) hd3
    refine ⟨by rw [upd_ne n13, upd_ne n12, upd_ne n12, upd_same], [(Sum.inl 0, .ref d2), (Sum.inl 1, .ref d3)], rfl, (show 2 ≤ 15 by decide), ?_⟩
    obtain ⟨H1, hH1⟩ : ∃ z, z = upd (upd (upd (upd (upd H d1 (.dK [])) d2 (.dK [])) d2 (.dK (mergeK [] [(Sum.inr "clash", .int 1)]))) d3 (.dK [])) d1 (.dK (mergeK [] [(Sum.inl 0, .ref d2), (Sum.inl 1, .ref d3)])) := ⟨_, rfl⟩
    have sH : Same H H1 := by
      rw [hH1]
      have a1 := s1.trans (same_new (o := .dK []) hd2)
      have a2 := Same.off (o := .dK (mergeK [] [(Sum.inr "clash", .int 1)])) a1 (s1.free hd2)
      exact Same.off (a2.trans (same_new hd3)) hd1
    refine ⟨_, rfl, _, _, _, _, rfl, (by rw [← hH1]; exact sH _ _ hx), T.c_Shelf, T.n_Shelf_folders, by decide, ?_⟩
    rw [← hH1]
    clear hH1
    obtain ⟨H2, hH2⟩ : ∃ z, z = upd H1 x (.ins (He.ga K "Shelf") dx (putF "folders" (.ref d1) [])) := ⟨_, rfl⟩
    rw [← hH2]
    have x2 : H2 x = some (.ins (He.ga K "Shelf") dx [("folders", .ref d1)]) := by rw [hH2, upd_same]; rfl
    have s2 : Same (del H x) H2 := by rw [hH2]; exact Same.off ((del_same H x).trans sH) (del_self _ _)
    clear hH2
    intro d4 hd4
    have n4x : x ≠ d4 := ne_of_none x2 hd4
    refine ⟨_, rfl, _, _, _, _, rfl, same_new hd4 _ _ x2, T.c_Shelf, T.n_Shelf_files, by show 1 < 1000; decide, ?_⟩
    obtain ⟨H3, hH3⟩ : ∃ z, z = upd (upd H2 d4 (.dK [])) x (.ins (He.ga K "Shelf") dx (putF "files" (.ref d4) [("folders", .ref d1)])) := ⟨_, rfl⟩
    rw [← hH3]
    have x3 : H3 x = some (.ins (He.ga K "Shelf") dx [("folders", .ref d1), ("files", .ref d4)]) := by rw [hH3, upd_same]; rfl
    have s3 : Same (del H x) H3 := by rw [hH3]; exact Same.off (s2.trans (same_new hd4)) (del_self _ _)
    clear hH3
    refine ⟨_, rfl, _, _, _, _, rfl, x3, T.c_Shelf, T.n_Shelf_last, by show 2 < 1000; decide, ?_⟩
    exact k _ d1 d4 (Same.off s3 (del_self _ _)) (by rw [upd_same]; rfl)
abbrev N_shelf_of : List Str := ["table", "fault", "looking", "shelf", "number", "row"]
theorem sc_shelf_of : FnScope N_shelf_of ["table"] (defScope s_shelf_of) := ⟨rfl, rfl, rfl, by decide +kernel, rfl, by decide +kernel, by decide +kernel⟩
theorem ok_shelf_of (T : Tx K mg base) : OkD P w K mg base d_shelf_of.at_ 5 ["table"] (spShelfOf K) := by
  have G_looked := ok_looked (P := P) (w := w) T
  have G_Looking_init := ok_Looking_init (P := P) (w := w) T
  have G_Shelf_init := ok_Shelf_init (P := P) (w := w) T
  refine okD_of T.F_shelf_of sc_shelf_of (fun _ _ _ _ _ _ us hl => match us, hl with | [_], _ => rfl) (fun vs H Q E h => ?_) (fun cdv A outer s H vs Q E hr h => ?_)
  · obtain ⟨tab, t, rfl, _⟩ := h
    rfl
  · obtain ⟨tab, t, rfl, ht, hf, hsm, hio, k⟩ := h
    have hu := hu_of hr
    have hon := once_of hio.1
    refine ⟨_, (pss_cons (ps_set (i := 1) sc_shelf_of.nd rfl (by first | exact Or.inl rfl | exact Or.inr rfl) (pe_callO G_looked hr (by decide) T.g_looked (pa_cons (pv 0) pa_nil)))
      (pss_cons (ps_if (pt_cmp (pc_notN (pv 1))) (pss_one ps_never) pss_nil)
      (pss_cons (ps_set (i := 2) sc_shelf_of.nd rfl (by first | exact Or.inl rfl | exact Or.inr rfl) (pe_makeO G_Looking_init hr (by decide) T.k_Looking T.g_Looking (pa_cons (pv 0) pa_nil)))
      (pss_cons (ps_set (i := 3) sc_shelf_of.nd rfl (by first | exact Or.inl rfl | exact Or.inr rfl) (pe_makeO0 G_Shelf_init hr (by decide) T.k_Shelf T.g_Shelf))
      (pss_cons (ps_fld (pv 3) pe_dnewK rfl)
      (pss_cons (ps_fld (pv 3) pe_dnewK rfl)
      (pss_cons (ps_for PassesOwn.never rfl (pi_list (pe_callB (call_sortedDI rfl) (by rfl) T.z_sorted (show bootBuiltins "sorted" = some (.builtin "sorted") by decide +kernel) (pa_cons (pe_fldK K (pv 2) rfl) pa_nil))) (pg_name (i := 4) sc_shelf_of.nd rfl (by first | exact Or.inl rfl | exact Or.inr rfl)) (pss_one (ps_dput hu (pe_fldK K (pv 3) rfl) (pv 4) (pe_callTy (call_dictP rfl) (by rfl) T.z_dict (show bootBuiltins "dict" = some (.type "dict") by decide +kernel) (pa_cons (pe_dget hu (pe_fldK K (pv 2) rfl) (pv 4) (fun _ _ => rfl)) pa_nil)) rfl)))
      (pss_cons (ps_for PassesOwn.never rfl (pi_list (pe_callB (call_sortedDI rfl) (by rfl) T.z_sorted (show bootBuiltins "sorted" = some (.builtin "sorted") by decide +kernel) (pa_cons (pe_fldK K (pv 2) rfl) pa_nil))) (pg_name (i := 4) sc_shelf_of.nd rfl (by first | exact Or.inl rfl | exact Or.inr rfl)) (pss_one (ps_dput hu (pe_fldK K (pv 3) rfl) (pv 4) (pe_dget hu (pe_fldK K (pv 2) rfl) (pv 4) (fun _ _ => rfl)) rfl)))
      (pss_cons (ps_fld (pv 3) (pe_callB (cr_max rfl) (by rfl) T.z_max (show bootBuiltins "max" = some (.builtin "max") by decide +kernel) (pa_cons (pe_lc (own := [("row", 5)]) rfl sc_shelf_of.nd (pi_list (pv 0)) (blkOk_by (N := N_shelf_of) (sc := defScope s_shelf_of) (by decide +kernel)) (fun _ _ _ _ _ => (pg_name (i := 5) sc_shelf_of.nd rfl (Or.inl rfl))) (fun _ _ _ _ _ => pts_nil) (fun _ _ _ _ _ => (pe_ix (ix_tupK K) (pv 5) pe_int (fun _ _ => rfl)))) pa_nil)) rfl)
      (pss_one (ps_ret (pv 3)))))))))))), ?_⟩
    refine ⟨_, rfl, tab, t, rfl, ht, hf, hsm, fun v H1 s1 hv => ?_⟩
    obtain rfl := hv.2 hio
    refine ⟨_, rfl, _, rfl, ite2 (fun z => absurd z (by simp)) (fun _ => ?_)⟩
    refine ⟨_, rfl, fun xl dxl hxl hdxl hnel => ⟨xl, tab, t, dxl, rfl, upd_same .., ht.same (s1.trans (make_same hxl hdxl hnel)), hon.nums, hsm, fun HL sL hL => ⟨rfl, ?_⟩⟩⟩
    have sHL : Same H HL := (s1.trans (make_same hxl hdxl hnel)).trans sL
    intro x dx hx hdx hne
    refine ⟨x, dx, rfl, upd_same .., fun H5 a5 b5 s5 x5 => ⟨rfl, ?_⟩⟩
    have sL5 : Same HL H5 := (make_same hx hdx hne).trans s5
    -- the two fields anew
    intro d hd
    have hdx5 : x ≠ d := ne_of_none x5 hd
    refine ⟨_, rfl, _, _, _, _, rfl, same_new hd _ _ x5, T.c_Shelf, T.n_Shelf_folders, by show 3 < 1000; decide, ?_⟩
    obtain ⟨H6, hH6⟩ : ∃ z, z = upd (upd H5 d (.dK [])) x (.ins (He.ga K "Shelf") dx (putF "folders" (.ref d) (("folders", .ref a5) :: ("files", .ref b5) :: lastF 1))) := ⟨_, rfl⟩
    rw [← hH6]
    have x6 : H6 x = some (.ins (He.ga K "Shelf") dx (("folders", .ref d) :: ("files", .ref b5) :: lastF 1)) := by rw [hH6, upd_same]; rfl
    have d6 : H6 d = some (.dK []) := by rw [hH6, upd_ne hdx5.symm, upd_same]
    have s56 : Same HL H6 := by rw [hH6]; exact Same.off (sL5.trans (same_new hd)) hx
    have hdL : HL d = none := sL5.free hd
    clear hH6
    intro f hf6
    have hfx : x ≠ f := ne_of_none x6 hf6
    have hfd : f ≠ d := ne_of_none' hf6 d6
    refine ⟨_, rfl, _, _, _, _, rfl, same_new hf6 _ _ x6, T.c_Shelf, T.n_Shelf_files, by show 3 < 1000; decide, ?_⟩
    obtain ⟨HB, hHB⟩ : ∃ z, z = upd (upd H6 f (.dK [])) x (.ins (He.ga K "Shelf") dx (putF "files" (.ref f) (("folders", .ref d) :: ("files", .ref b5) :: lastF 1))) := ⟨_, rfl⟩
    rw [← hHB]
    have xB : HB x = some (.ins (He.ga K "Shelf") dx (("folders", .ref d) :: ("files", .ref f) :: lastF 1)) := by rw [hHB, upd_same]; rfl
    have dB : HB d = some (.dK []) := by rw [hHB, upd_ne hdx5.symm, upd_ne hfd.symm]; exact d6
    have fB : HB f = some (.dK []) := by rw [hHB, upd_ne hfx.symm, upd_same]
    have sLB : Same HL HB := by rw [hHB]; exact Same.off (s56.trans (same_new hf6)) hx
    have hfL : HL f = none := s56.free hf6
    clear hHB
    obtain ⟨R1, hR1⟩ : ∃ z, z = dels HB [d, f] := ⟨_, rfl⟩
    have sR1 : Same R1 HB := by rw [hR1]; exact dels_same _ _
    have sLR : Same HL R1 := fun b o h => by
      rw [hR1, dels_out]
      · exact sLB _ _ h
      · intro q
        rcases List.mem_cons.mp q with z | q
        · rw [z, hdL] at h; cases h
        · rw [List.mem_singleton.mp q, hfL] at h; cases h
    have xR : R1 x = some (.ins (He.ga K "Shelf") dx (("folders", .ref d) :: ("files", .ref f) :: lastF 1)) := by
      rw [hR1, dels_out]
      · exact xB
      · intro q
        rcases List.mem_cons.mp q with z | q
        · exact hdx5 z
        · exact hfx (List.mem_singleton.mp q)
    have dR : R1 d = none := by rw [hR1]; exact dels_in (by simp)
    have fR : R1 f = none := by rw [hR1]; exact dels_in (by simp)
    clear hR1
    obtain ⟨dxq, eq, fq, lq, es, fs, ls, EE, li, le, lf, ll, hE, hF, hEp, hLd⟩ := hL.same sLR
    clear hL
    have hfol := hsm.fo
    have hfil := hsm.fi
    -- folders
    refine ⟨_, rfl, _, _, _, _, _, rfl, sR1 _ _ li, T.c_Looking, T.n_Looking_entries, rfl, _, _, (fo t).map (·.1), rfl, .inl (sR1 _ _ le), hE.keys, by rw [List.length_map]; omega, fun ks q perm pw hq => ?_⟩
    obtain ⟨HC, hHC⟩ : ∃ z, z = upd HB q (.lst (ks.map V.int)) := ⟨_, rfl⟩
    rw [← hHC]
    have at_q : HC q = some (.lst (ks.map V.int)) := by rw [hHC, upd_same]
    have s_HC : Same HB HC := by rw [hHC]; exact same_new hq
    have qd : q ≠ d := ne_of_none' hq dB
    have qf : q ≠ f := ne_of_none' hq fB
    obtain ⟨R2, hR2⟩ : ∃ z, z = upd R1 q (.lst (ks.map V.int)) := ⟨_, rfl⟩
    have s12 : Same R1 R2 := by rw [hR2]; exact same_new (sR1.free hq)
    have sR2 : Same R2 HC := by
      rw [hR2]
      intro b o h
      by_cases z : b = q
      · subst z; rw [upd_same] at h; rw [at_q]; exact h
      · rw [upd_ne z] at h; exact s_HC _ _ (sR1 _ _ h)
    have qR2 : R2 q = some (.lst (ks.map V.int)) := by rw [hR2, upd_same]
    have dR2 : R2 d = none := by rw [hR2, upd_ne qd.symm]; exact dR
    have fR2 : R2 f = none := by rw [hR2, upd_ne qf.symm]; exact fR
    clear hR2
    refine ⟨_, rfl, ⟨_, SqL.of at_q⟩, ?_⟩
    have hksn : ks.Nodup := perm.symm.nodup hon.fo
    have hksl : ks.length ≤ 63 := by have := perm.length_eq; rw [List.length_map] at this; omega
    refine for_it (walk_list (xs := ks.map V.int)) (fun i σ H' => ∃ y A, σ = [some tab, some .non, some (.ref xl), some (.ref x), y, none] ∧ Same R2 H' ∧ FoOn H' d A ∧ H' f = some (.dK []) ∧ plainF A = (ks.take i).map (foOf (fo t)) ∧ f ∉ A.map (·.2.1) ∧ (∀ y ∈ A, R2 y.2.1 = none))
      ⟨_, [], rfl, sR2, FoOn.nil (s_HC _ _ dB), s_HC _ _ fB, rfl, by simp, (fun y h => nomatch h)⟩ (fun i σ H' _ hp => ?_) ?_ ?_
    · obtain ⟨_, _, _, s, _⟩ := hp
      exact SqL.of (s _ _ qR2)
    · rintro i v σ H7 H' hi ⟨_, A, rfl, s2, hA, f1, hpl, hfA, hRA⟩ ⟨rfl, hv⟩
      obtain ⟨n, hn1, rfl⟩ := map_at hv
      obtain ⟨⟨n', en⟩, hen, rfl⟩ := List.mem_map.mp (perm.subset (List.mem_of_getElem? hn1))
      obtain ⟨v, hv1, lu, xs, rfl, hlu, hxs⟩ := hE.of hon.fo hen
      have sA := s12.trans s2
      have hpx := paired_mono hxs fun _ _ q => q.same sA
      obtain ⟨ps, rfl, hps⟩ := ents_refs hpx
      have hsn : ((en.mergeSort ile).map (·.1)).Nodup := nodup_sort.mpr (hon.names _ _ hen)
      refine ⟨_, rfl, _, _, _, _, _, rfl, sA _ _ li, T.c_Looking, T.n_Looking_entries, rfl, _, rfl, _, _, rfl, .inl ⟨es, .inl n', .inl (sA _ _ le), rfl, hv1.symm⟩, _, ps, _, rfl, Same.seq sA hlu, hps, fun p hp => ?_⟩
      rw [mergeK_dkI hsn]
      obtain ⟨H8, hH8⟩ : ∃ z, z = upd H' p (.dK (dkI (en.mergeSort ile))) := ⟨_, rfl⟩
      rw [← hH8]
      have at_p : H8 p = some (.dK (dkI (en.mergeSort ile))) := by rw [hH8, upd_same]
      have s_H8 : Same H' H8 := by rw [hH8]; exact same_new hp
      clear hH8
      have hpd : p ≠ d := ne_of_none' hp hA.dict
      have hpf : p ≠ f := ne_of_none' hp f1
      have hpA : p ∉ A.map (·.2.1) := fun q => by
        obtain ⟨y, hy, z⟩ := List.mem_map.mp q
        have h1 := hA.inner y hy
        have z' : y.2.1 = p := z
        rw [z', hp] at h1; cases h1
      have hkA : A.map (·.1) = ks.take i := by
        rw [← plainF_keys, hpl, List.map_map]
        exact List.map_id _
      have hAl : A.length ≤ 63 := by
        have := congrArg List.length hkA
        rw [List.length_map, List.length_take] at this
        omega
      refine ⟨_, rfl, _, _, _, _, _, rfl, (sA.trans s_H8) _ _ xR, T.c_Shelf, T.n_Shelf_folders, rfl, _, rfl, _, _, rfl, .inl ⟨fKV A, .inl n', s_H8 _ _ hA.dict, rfl, sl (by unfold fKV; rw [List.length_map]; omega), rfl⟩, ?_⟩
      refine ⟨_, A ++ [(n', p, en.mergeSort ile)], rfl, Same.off (s2.trans s_H8) dR2, (hA.same s_H8).add at_p hpA hpd.symm (by rw [hkA]; exact take_not hksn hn1) hsn, upd_at_ne (s_H8 _ _ f1) hfd, ?_, ?_, fun y hy => ?_⟩
      · rw [plainF_app, hpl, take_get hn1, List.map_append]
        show _ ++ [(n', en.mergeSort ile)] = _ ++ [(n', (esOf (fo t) n').mergeSort ile)]
        rw [esOf_eq hon.fo hen]
      · rw [List.map_append]
        intro q
        rcases List.mem_append.mp q with q | q
        · exact hfA q
        · rw [List.map_singleton, List.mem_singleton] at q
          exact hpf q.symm
      · rcases List.mem_append.mp hy with hy | hy
        · exact hRA y hy
        · rw [List.mem_singleton.mp hy]
          exact s2.free hp
    rintro σ H7 ⟨_, A, rfl, s2, hA, f1, hpl, hfA, hRA⟩
    rw [List.length_map, List.take_length] at hpl
    have sA := s12.trans s2
    -- files
    refine ⟨_, rfl, _, _, _, _, _, rfl, sA _ _ li, T.c_Looking, T.n_Looking_files, rfl, _, _, (fi t).map (·.1), rfl, .inl (sA _ _ lf), hF.keys, by rw [List.length_map]; omega, fun ks2 q2 perm2 pw2 hq2 => ?_⟩
    obtain ⟨t1, t2, t3, t4⟩ := hold (o := .lst (ks2.map V.int)) s2 hq2
    obtain ⟨R3, hR3⟩ : ∃ z, z = upd R2 q2 (.lst (ks2.map V.int)) := ⟨_, rfl⟩
    have dR3 := t4 hA.dict dR2
    have fR3 := t4 f1 fR2
    have xR3 : ∀ y ∈ A, (upd R2 q2 (.lst (ks2.map V.int))) y.2.1 = none := fun y hy => t4 (hA.inner y hy) (hRA y hy)
    rw [← hR3] at t1 t2 t3 dR3 fR3 xR3
    obtain ⟨H9, hH9⟩ : ∃ z, z = upd H7 q2 (.lst (ks2.map V.int)) := ⟨_, rfl⟩
    rw [← hH9]
    have at_q2 : H9 q2 = some (.lst (ks2.map V.int)) := by rw [hH9, upd_same]
    have s_H9 : Same H7 H9 := by rw [hH9]; exact same_new hq2
    rw [← hH9] at t2
    clear hR3
    have sA3 := s12.trans t1
    have hks2 : ks2.Nodup := perm2.symm.nodup hon.fi
    have hks2l : ks2.length ≤ 63 := by have := perm2.length_eq; rw [List.length_map] at this; omega
    refine ⟨_, rfl, ⟨_, SqL.of at_q2⟩, ?_⟩
    refine for_it (walk_list (xs := ks2.map V.int)) (fun i σ H' => ∃ y fs2, σ = [some tab, some .non, some (.ref xl), some (.ref x), y, none] ∧ Same R3 H' ∧ FoOn H' d A ∧ H' f = some (.dK fs2) ∧ Dik (·.1) (FilV K R3) fs2 ((ks2.take i).map (flOf (fi t))))
      ⟨_, [], rfl, t2, hA.same s_H9, s_H9 _ _ f1, .nil⟩ (fun i σ H' _ hp => ?_) ?_ ?_
    · obtain ⟨_, _, _, s, _⟩ := hp
      exact SqL.of (s _ _ t3)
    · rintro i v σ H10 H' hi ⟨_, fs2, rfl, s3, hA3, f3, hD⟩ ⟨rfl, hv⟩
      obtain ⟨n, hn1, rfl⟩ := map_at hv
      obtain ⟨⟨n', kk, c⟩, hm, rfl⟩ := List.mem_map.mp (perm2.subset (List.mem_of_getElem? hn1))
      obtain ⟨v, hv1, t0, rfl, ht0⟩ := hF.of hon.fi hm
      have sB := sA3.trans s3
      have hkD : (((ks2.take i).map (flOf (fi t))).map (·.1)) = ks2.take i := by
        rw [List.map_map]
        refine (List.map_congr_left fun z hz => ?_).trans (List.map_id _)
        have hz2 := perm2.subset (List.mem_of_mem_take hz)
        obtain ⟨⟨z', k', c'⟩, hm', rfl⟩ := List.mem_map.mp hz2
        show (flOf (fi t) z').1 = _
        rw [flOf_eq hon.fi hm']
        rfl
      have hfl : fs2.length ≤ 63 := by
        rw [hD.len, List.length_map, List.length_take]
        omega
      refine ⟨_, rfl, _, _, _, _, _, rfl, sB _ _ li, T.c_Looking, T.n_Looking_files, rfl, _, rfl, _, _, rfl, .inl ⟨fs, .inl n', .inl (sB _ _ lf), rfl, hv1.symm⟩, _, rfl, _, _, _, _, _, rfl, sB _ _ xR, T.c_Shelf, T.n_Shelf_files, rfl, _, rfl, _, _, rfl, .inl ⟨fs2, .inl n', f3, rfl, sl (by omega), rfl⟩, ?_⟩
      refine ⟨_, _, rfl, Same.off s3 fR3, hA3.off hfd hfA, upd_same .., ?_⟩
      rw [take_get hn1, List.map_append]
      show Dik _ _ _ (_ ++ [flOf (fi t) n'])
      rw [flOf_eq hon.fi hm]
      exact Dik.snoc (f := (·.1)) (x := (n', kk, c)) hD (by rw [hkD]; exact take_not hks2 hn1) ⟨t0, rfl, Same.tup sA3 ht0⟩
    rintro σ H10 ⟨_, fs2, rfl, s3, hA3, f3, hD⟩
    rw [List.length_map, List.take_length] at hD
    have sB := sA3.trans s3
    have sHB : Same H H10 := sHL.trans (sLR.trans sB)
    -- last
    obtain ⟨la, rows, rfl, hla, hrw⟩ := ht.same sHB
    refine ⟨_, rfl, _, rfl, ⟨_, hla⟩, fun D hD0 => lc_rel walk_list t (paired_len hrw) (fun r => some r.num) (fun _ v z => v = .int z) (fun _ _ _ _ _ q => q) hD0 (fun _ s => Same.seq s hla) ?_ ?_⟩
    · rintro i r v H11 H12 hri pv s11 ⟨rfl, hv⟩
      obtain ⟨r', hr1, hr2⟩ := paired_at hrw hv
      rw [hri] at hr1
      obtain rfl := Option.some.inj hr1
      obtain ⟨tp, kk, rest, rfl, htp⟩ := rowAt_num (hr2.same s11)
      exact ⟨rfl, tyes ⟨_, rfl, _, _, _, _, rfl, rfl, htp, at1, pv.yes (fun _ _ _ _ _ q => q) hD0 (by have := hsm.rows; omega) hri (Same.refl _) rfl rfl⟩⟩
    intro H11 ys s11 hD11 hys
    obtain rfl := paired_map hys
    rw [filterMap_some] at hD11
    have hne : 0 < (t.map Row.num).length := by
      have h0 := (beyond_root hio.1).1
      obtain ⟨es0, h0⟩ := h0
      have := List.length_pos_of_mem (mem_fo.mp h0)
      rw [List.length_map]; exact this
    have xD := s11 _ _ (sB _ _ xR)
    refine ⟨_, _, rfl, SqL.of hD11, hne, fun m hm hle => ⟨_, rfl, _, _, _, _, rfl, xD, T.c_Shelf, T.n_Shelf_last, by show 3 < 1000; decide, ?_⟩⟩
    refine ⟨_, rfl, ?_⟩
    have hx0 : H x = none := sHL.free hx
    have hfA' := hA3.same s11
    have hpu : ∀ {b : Addr} {u : HO}, H11 b = some u → b ≠ x → (upd H11 x (.ins (He.ga K "Shelf") dx (putF "last" (.int m) (("folders", .ref d) :: ("files", .ref f) :: lastF 1)))) b = some u := fun h n => upd_at_ne h n
    have hxi : ∀ y ∈ A, y.2.1 ≠ x := fun y hy => ne_of_kinds (hfA'.inner y hy) xD (fun z => by cases z)
    refine k x A ((ks2.map (flOf (fi t)))) m _ ⟨dx, d, f, fs2, by rw [upd_same]; rfl, ⟨hpu hfA'.dict hdx5.symm, fun y hy => hpu (hfA'.inner y hy) (hxi y hy), hA3.nums, hA3.addrs, hA3.out, hA3.names⟩, hpu (s11 _ _ f3) hfx.symm, ?_, ?_, hfd, hfA, Same.off (sHB.trans s11) hx0, hx0, sHL.free hdL, sHL.free hfL, fun y hy => ?_⟩ ⟨?_, ?_⟩ ?_ ?_
    · refine hD.mono fun v y q => ?_
      have q2 := q.same (s3.trans s11)
      exact q2.upd xD (fun _ z => by cases z) (fun _ _ z => by cases z)
    · refine ((perm2.map (flOf (fi t))).trans (List.Perm.of_eq (flOf_map hon.fi))).map (·.1) |>.symm.nodup hon.fi
    · exact (sHL.trans (sLR.trans s12)).free (hRA y hy)
    · rw [hpl, ← foOf_map hon.fo]
      exact perm.map _
    · exact (perm2.map (flOf (fi t))).trans (List.Perm.of_eq (flOf_map hon.fi))
    · exact fun n hn => hle n hn
    · exact hm
end
end K81
set_option maxHeartbeats 4000000
namespace K81
open PySem PySem.Spec PyProof.Rows L2
/-- a way through the folders -/
inductive Way (A : FAt) : Int → List Str → Int → Prop
  | nil {w : Int} : Way A w [] w
  | cons {w m n : Int} {a : Str} {ns : List Str} : enA A w a m → Way A m ns n → Way A w (a :: ns) n
theorem Way.snoc {A : FAt} {w m n : Int} {a : Str} {ns : List Str} (h : Way A w ns m) (e : enA A m a n) : Way A w (ns ++ [a]) n := by
  induction h with
  | nil => exact .cons e .nil
  | cons q _ ih => exact .cons q (ih e)
theorem enA_key {A : FAt} {w n : Int} {a : Str} (h : enA A w a n) : w ∈ keysA A := by
  obtain ⟨adr, es, h1, _⟩ := enA_iff.mp h
  exact List.mem_map.mpr ⟨_, h1, rfl⟩
def spEntry (K : PySem.W.Frag) : Sp := fun vs H Q _ => ∃ (p : Addr) (R : Hp) (A : FAt) (G : List (Int × Int × Str)) (k w : Int) (a : Str), vs = [.ref p, .int w, .str a] ∧ On K R H (He.ga K "Shelf") p (lastF k) A G ∧ w ∈ keysA A ∧
  (∀ n, enA A w a n → Q (.int n) H) ∧ ((∀ n, ¬ enA A w a n) → Q .non H)
def spIsNode (K : PySem.W.Frag) : Sp := fun vs H Q _ => ∃ (p : Addr) (R : Hp) (A : FAt) (G : List (Int × Int × Str)) (k n : Int), vs = [.ref p, .int n] ∧ On K R H (He.ga K "Shelf") p (lastF k) A G ∧ Q (.bl (decide (n ∈ keysA A ∨ n ∈ G.map (·.1)))) H
def spNodeAt (K : PySem.W.Frag) : Sp := fun vs H Q _ => ∃ (p : Addr) (R : Hp) (A : FAt) (G : List (Int × Int × Str)) (k n : Int) (ns : List Str), vs = [.ref p, .str (pathOf ns)] ∧ On K R H (He.ga K "Shelf") p (lastF k) A G ∧ (∀ a ∈ ns, isName a = true) ∧ ns.length ≤ 1000 ∧ Way A 0 ns n ∧
  ∀ H', Same H H' → Q (.int n) H'
section
variable {P : Program} {w : World} {K : PySem.W.Frag} {mg : Str → Option Value} {base : Heap}
abbrev N_Shelf_entry : List Str := ["self", "folder", "name"]
theorem sc_Shelf_entry : FnScope N_Shelf_entry ["self", "folder", "name"] (defScope s_Shelf_entry) := ⟨rfl, rfl, rfl, by decide +kernel, rfl, by decide +kernel, by decide +kernel⟩
theorem ok_Shelf_entry (T : Tx K mg base) : OkD P w K mg base d_Shelf_entry.at_ 1 ["self", "folder", "name"] (spEntry K) := by
  refine okD_of T.F_Shelf_entry sc_Shelf_entry (fun _ _ _ _ _ _ us hl => match us, hl with | [_, _, _], _ => rfl) (fun vs H Q E h => ?_) (fun cdv A outer s H vs Q E hr h => ?_)
  · obtain ⟨p, R, A, G, k, w, a, rfl, _⟩ := h
    rfl
  · obtain ⟨p, R, A, G, k0, w', a, rfl, hOn, hw, k1, k2⟩ := h
    have hu := hu_of hr
    refine ⟨_, (pss_one (ps_ret (pe_dget1 hu (pe_dget hu (pe_fldK K (pv 0) rfl) (pv 1) (fun _ _ => rfl)) (pv 2) ⟨rfl, rfl, rfl, rfl⟩))), ?_⟩
    obtain ⟨dx, d, e, gs, hi, hA, _⟩ := hOn
    obtain ⟨adr, es, hm⟩ := fA_mem hw
    refine ⟨_, rfl, _, _, _, _, _, rfl, hi, T.c_Shelf, T.n_Shelf_folders, rfl, _, rfl, _, _, rfl, .inl ⟨_, .inl w', .inl hA.dict, rfl, (hA.get hm).symm⟩, _, rfl, .inl ⟨_, .inl (hA.inner _ hm)⟩, _, rfl, _, .inl ⟨_, .inr a, .inl (hA.inner _ hm), rfl, rfl⟩, ?_⟩
    rw [valV_dkI]
    cases q : getS es a with
    | some n => exact k1 n ((hA.en hm).mpr (getS_mem q))
    | none => exact k2 fun n h => getS_none.mp q (List.mem_map.mpr ⟨_, (hA.en hm).mp h, rfl⟩)
abbrev N_Shelf_is_node : List Str := ["self", "number"]
theorem sc_Shelf_is_node : FnScope N_Shelf_is_node ["self", "number"] (defScope s_Shelf_is_node) := ⟨rfl, rfl, rfl, by decide +kernel, rfl, by decide +kernel, by decide +kernel⟩
theorem ok_Shelf_is_node (T : Tx K mg base) : OkD P w K mg base d_Shelf_is_node.at_ 1 ["self", "number"] (spIsNode K) := by
  refine okD_of T.F_Shelf_is_node sc_Shelf_is_node (fun _ _ _ _ _ _ us hl => match us, hl with | [_, _], _ => rfl) (fun vs H Q E h => ?_) (fun cdv A outer s H vs Q E hr h => ?_)
  · obtain ⟨p, R, A, G, k, n, rfl, _⟩ := h
    rfl
  · obtain ⟨p, R, A, G, k0, n, rfl, hOn, k⟩ := h
    have hu := hu_of hr
    refine ⟨_, (pss_one (ps_ret (pe_or (pe_cmp (pc_din hu (pv 1) (pe_fldK K (pv 0) rfl)) rfl) (pe_one (pe_cmp (pc_din hu (pv 1) (pe_fldK K (pv 0) rfl)) rfl))))), ?_⟩
    obtain ⟨dx, d, e, gs, hi, hA, he, hG, _⟩ := hOn
    refine ⟨_, rfl, _, rfl, _, _, _, _, _, rfl, hi, T.c_Shelf, T.n_Shelf_folders, rfl, _, _, rfl, .inl ⟨_, .inl n, .inl hA.dict, rfl, rfl⟩, _, rfl, ?_⟩
    rw [fKV_some]
    have hk : A.map (·.1) = keysA A := rfl
    rw [hk]
    refine ite2 (fun h1 => ?_) (fun h1 => ?_)
    · rw [decide_eq_true (Or.inl (of_decide_eq_true h1))] at k
      exact k
    · have h1' : n ∉ keysA A := fun z => h1 (decide_eq_true z)
      refine ⟨_, rfl, _, rfl, _, _, _, _, _, rfl, hi, T.c_Shelf, T.n_Shelf_files, rfl, _, _, rfl, .inl ⟨_, .inl n, .inl he, rfl, rfl⟩, ?_⟩
      rw [hG.isSome]
      have e : decide (n ∈ keysA A ∨ n ∈ G.map (·.1)) = decide (n ∈ G.map (·.1)) := by simp [h1']
      rw [e] at k
      exact k
abbrev N_node_at : List Str := ["shelf", "path", "names", "number", "name"]
theorem sc_node_at : FnScope N_node_at ["shelf", "path"] (defScope s_node_at) := ⟨rfl, rfl, rfl, by decide +kernel, rfl, by decide +kernel, by decide +kernel⟩
theorem ok_node_at (T : Tx K mg base) : OkD P w K mg base d_node_at.at_ 3 ["shelf", "path"] (spNodeAt K) := by
  have G_names_of := ok_names_of (P := P) (w := w) T
  have G_Shelf_entry := ok_Shelf_entry (P := P) (w := w) T
  refine okD_of T.F_node_at sc_node_at (fun _ _ _ _ _ _ us hl => match us, hl with | [_, _], _ => rfl) (fun vs H Q E h => ?_) (fun cdv A outer s H vs Q E hr h => ?_)
  · obtain ⟨p, R, A, G, k, n, ns, rfl, _⟩ := h
    rfl
  · obtain ⟨p, R, A, G, k0, n, ns, rfl, hOn, hns, hl, hW, k⟩ := h
    have hu := hu_of hr
    refine ⟨_, (pss_cons (ps_set (i := 2) sc_node_at.nd rfl (by first | exact Or.inl rfl | exact Or.inr rfl) (pe_callO G_names_of hr (by decide) T.g_names_of (pa_cons (pv 1) pa_nil)))
      (pss_cons (ps_if (pt_cmp (pc_isN (pv 2))) (pss_one (ps_ret pe_non)) pss_nil)
      (pss_cons (ps_set (i := 3) sc_node_at.nd rfl (by first | exact Or.inl rfl | exact Or.inr rfl) (pe_gint T.i_ROOT_shelf))
      (pss_cons (ps_for PassesOwn.never rfl (pi_list (pv 2)) (pg_name (i := 4) sc_node_at.nd rfl (by first | exact Or.inl rfl | exact Or.inr rfl)) (pss_cons (ps_if (PW.pt (pw_or (pt_cmp (pc_dnotin hu (pv 3) (pe_fldK K (pv 0) rfl))) (pw_or1 (pt_cmp (pc_dnotin hu (pv 4) (pe_dget hu (pe_fldK K (pv 0) rfl) (pv 3) (fun _ _ => rfl))))))) (pss_one (ps_ret pe_non)) pss_nil)
      (pss_one (ps_set (i := 3) sc_node_at.nd rfl (by first | exact Or.inl rfl | exact Or.inr rfl) (pe_methO G_Shelf_entry hr (by decide) T.c_Shelf T.m_Shelf_entry (pv 0) (pa_cons (pv 3) (pa_cons (pv 4) pa_nil)))))))
      (pss_one (ps_ret (pv 3))))))), ?_⟩
    refine ⟨_, rfl, ns, rfl, hns, hl, fun q H1 s1 hq => ?_⟩
    refine ⟨_, rfl, _, rfl, ite2 (fun z => absurd z (by simp)) (fun _ => ?_)⟩
    have hOn1 := hOn.same s1
    refine ⟨_, rfl, _, rfl, ⟨_, SqL.of hq⟩, ?_⟩
    refine for_it (walk_list (xs := ns.map V.str)) (fun i σ H' => ∃ m y, σ = [some (.ref p), some (.str (pathOf ns)), some (.ref q), some (.int m), y] ∧ Same H1 H' ∧ Way A m (ns.drop i) n) ⟨_, _, rfl, Same.refl _, hW⟩ (fun i σ H' _ hp => ?_) ?_ ?_
    · obtain ⟨_, _, _, s, _⟩ := hp
      exact SqL.of (s _ _ hq)
    · rintro i v σ H2 H' hi ⟨m, _, rfl, s2, hw⟩ ⟨rfl, hv⟩
      obtain ⟨a, ha, rfl⟩ := map_at hv
      obtain ⟨ha1, ha2⟩ := List.getElem?_eq_some_iff.mp ha
      rw [List.drop_eq_getElem_cons ha1, ha2] at hw
      cases hw with
      | @cons _ m2 _ _ _ he hw =>
      have hOn2 := hOn1.same s2
      have hmk := enA_key he
      have hi2 := hOn2
      obtain ⟨dx, d, e, gs, hi2, hA, _⟩ := hi2
      obtain ⟨adr, es, hm⟩ := fA_mem hmk
      have hg := getS_of (hA.names _ hm) ((hA.en hm).mp he)
      refine ⟨_, rfl, _, rfl, _, _, _, _, _, rfl, hi2, T.c_Shelf, T.n_Shelf_folders, rfl, _, _, rfl, .inl ⟨_, .inl m, .inl hA.dict, rfl, rfl⟩, _, rfl, ?_⟩
      rw [fKV_some, decide_eq_true (show m ∈ A.map (·.1) from hmk)]
      refine (?_ : if false = true then _ else _)
      rw [if_neg (by decide)]
      refine ⟨_, rfl, _, rfl, _, _, _, _, _, rfl, hi2, T.c_Shelf, T.n_Shelf_folders, rfl, _, rfl, _, _, rfl, .inl ⟨_, .inl m, .inl hA.dict, rfl, (hA.get hm).symm⟩, _, _, rfl, .inl ⟨_, .inr a, .inl (hA.inner _ hm), rfl, rfl⟩, _, rfl, ?_⟩
      rw [valV_dkI, hg]
      refine iteF ?_
      refine ⟨_, rfl, _, _, _, rfl, hi2, rfl, _, rfl, _, rfl, p, R, A, G, k0, m, a, rfl, hOn2, hmk, fun m3 h3 => ?_, fun hno => absurd he (hno _)⟩
      have : m3 = m2 := hA.fun h3 he
      subst this
      exact ⟨m3, _, rfl, s2, hw⟩
    · rintro σ H2 ⟨m, _, rfl, s2, hw⟩
      rw [List.length_map, List.drop_length] at hw
      cases hw
      exact ⟨_, rfl, k H2 (s1.trans s2)⟩
end
end K81
set_option maxHeartbeats 4000000
namespace K81
open PySem PySem.Spec PyProof.Rows L2
/-- a sheet of a tree: each folder but the first at one place, none is below the number 0 -/
structure Tree (A : FAt) : Prop where
  top : ∀ w a, ¬ enA A w a 0
  one : ∀ c, c ∈ keysA A → ∀ w a w' a', enA A w a c → enA A w' a' c → w' = w ∧ a' = a
  pos : (-1 : Int) ∉ keysA A
def rootE (s : Int) : Int × Str × Int := (-1, "", s)
def edges (A : FAt) (s : Int) : List (Int × Str × Int) := rootE s :: flat (plainF A)
abbrev Item : Type := (Int × Str × Int) × List Str
def goodWay (A : FAt) (s n : Int) (ns : List Str) (b : Nat) : Prop := Way A s ns n ∧ (∀ a ∈ ns, isName a = true) ∧ ns.length ≤ b
/-- how the search stands: processed, to do, found -/
structure PathS (A : FAt) (s n : Int) (PR : List (Int × Str × Int)) (T : List Item) (fs : List Str) : Prop where
  nd : (PR ++ T.map (·.1)).Nodup
  sub : ∀ e ∈ PR ++ T.map (·.1), e ∈ edges A s
  src : ∀ e ∈ PR ++ T.map (·.1), e.1 = -1 ∨ ∃ f ∈ PR, f.2.2 = e.1
  way : ∀ i ∈ T, goodWay A s i.1.2.2 i.2 PR.length
  found : ∀ f ∈ fs, ∃ ns, f = pathOf ns ∧ goodWay A s n ns PR.length
  len : fs.length ≤ PR.length
  here : (∃ e ∈ PR, e.2.2 = n) → fs ≠ []
  root : rootE s ∈ PR ++ T.map (·.1)
  reach : ∀ e ∈ PR, ∃ ns, Way A s ns e.2.2
  down : ∀ e ∈ PR, ∀ a m, enA A e.2.2 a m → (e.2.2, a, m) ∈ PR ++ T.map (·.1)
theorem pathS_le {A : FAt} {s n : Int} {PR : List (Int × Str × Int)} {T : List Item} {fs : List Str} (S : PathS A s n PR T fs) : PR.length + T.length ≤ (edges A s).length := by
  have := nodup_len S.nd S.sub
  rw [List.length_append, List.length_map] at this
  exact this
/-- all is found at the end -/
theorem pathS_end {A : FAt} {s n : Int} {PR : List (Int × Str × Int)} {fs : List Str} (S : PathS A s n PR [] fs) {ns : List Str} (h : Way A s ns n) : fs ≠ [] := by
  have key : ∀ {w m : Int} {ns : List Str}, Way A w ns m → (∃ e ∈ PR, e.2.2 = w) → ∃ e ∈ PR, e.2.2 = m := by
    intro w m ns hw
    induction hw with
    | nil => exact id
    | cons e _ ih =>
      rintro ⟨f, h1, h2⟩
      refine ih ?_
      have := S.down f h1 _ _ (by rw [h2]; exact e)
      rw [List.map_nil, List.append_nil] at this
      exact ⟨_, this, rfl⟩
  refine S.here (key h ?_)
  have := S.root
  rw [List.map_nil, List.append_nil] at this
  exact ⟨_, this, rfl⟩
theorem goodWay.mono {A : FAt} {s n : Int} {ns : List Str} {b c : Nat} (h : goodWay A s n ns b) (hb : b ≤ c) : goodWay A s n ns c := ⟨h.1, h.2.1, Nat.le_trans h.2.2 hb⟩
/-- a folder's own ways -/
def kids (n : Int) (ns : List Str) (es : List (Str × Int)) : List Item := es.map fun e => ((n, e.1, e.2), ns ++ [e.1])
theorem pathS_step {A : FAt} {s n h : Int} {PR : List (Int × Str × Int)} {T : List Item} {fs fs' : List Str} {i : Item} {es : List (Str × Int)} (t : Tree A) (ht0 : ∀ w a ns, Way A s ns w → ¬ enA A w a s) (S : PathS A s n PR (T ++ [i]) fs) (hh : i.1.2.2 = h)
    (hes : ∀ a m, enA A h a m ↔ (a, m) ∈ es) (hnd : (es.map (·.1)).Nodup) (hnm : ∀ e ∈ es, isName e.1 = true) (hf : fs' = if h = n then fs ++ [pathOf i.2] else fs) (hk : es ≠ [] → h ∈ keysA A) : PathS A s n (PR ++ [i.1]) (T ++ kids h i.2 es) fs' := by
  subst hh
  have hperm : (PR ++ [i.1] ++ T.map (·.1)).Perm (PR ++ (T ++ [i]).map (·.1)) := by
    rw [List.map_append, List.append_assoc]
    exact List.Perm.append_left PR List.perm_append_comm
  have hold : ∀ e, e ∈ PR ++ [i.1] ++ T.map (·.1) ↔ e ∈ PR ++ (T ++ [i]).map (·.1) := fun e => hperm.mem_iff
  have hkid : (kids i.1.2.2 i.2 es).map (·.1) = es.map fun e => (i.1.2.2, e.1, e.2) := by
    unfold kids
    rw [List.map_map]
    rfl
  have hall : PR ++ [i.1] ++ (T ++ kids i.1.2.2 i.2 es).map (·.1) = (PR ++ [i.1] ++ T.map (·.1)) ++ es.map fun e => (i.1.2.2, e.1, e.2) := by
    rw [List.map_append, hkid, ← List.append_assoc]
  have hi : i.1 ∈ PR ++ (T ++ [i]).map (·.1) := by simp
  have hik : ∀ e ∈ es, enA A i.1.2.2 e.1 e.2 := fun e he => (hes e.1 e.2).mpr he
  have hway := S.way i (by simp)
  -- nothing below h was met before
  have hfresh : ∀ a m, (i.1.2.2, a, m) ∈ PR ++ (T ++ [i]).map (·.1) → i.1.2.2 ∈ keysA A → False := by
    intro a m hm hkey
    rcases S.src _ hm with q | ⟨f, hf1, hf2⟩
    · rw [show i.1.2.2 = -1 from q] at hkey
      exact t.pos hkey
    · -- f and i.1 lead to one folder
      have hf2' : f.2.2 = i.1.2.2 := hf2
      have hins : ∀ e : Int × Str × Int, e ∈ PR ++ (T ++ [i]).map (·.1) → enA A e.1 e.2.1 s → False := fun e he h => by
        rcases S.src e he with q | ⟨g, hg1, hg2⟩
        · have := enA_key h
          rw [q] at this
          exact t.pos this
        · obtain ⟨ns, hg⟩ := S.reach g hg1
          rw [hg2] at hg
          exact ht0 _ _ _ hg h
      have hfi : f = i.1 := by
        have m1 : f ∈ PR ++ (T ++ [i]).map (·.1) := List.mem_append.mpr (.inl hf1)
        have e1 := S.sub f m1
        have e2 := S.sub i.1 hi
        unfold edges at e1 e2
        rcases List.mem_cons.mp e1 with q1 | q1
        · rcases List.mem_cons.mp e2 with q2 | q2
          · rw [q1, q2]
          · have h1 : enA A i.1.1 i.1.2.1 i.1.2.2 := q2
            rw [← hf2', q1] at h1
            exact (hins i.1 hi h1).elim
        · rcases List.mem_cons.mp e2 with q2 | q2
          · have h1 : enA A f.1 f.2.1 f.2.2 := q1
            rw [hf2', q2] at h1
            exact (hins f m1 h1).elim
          · have h1 : enA A f.1 f.2.1 f.2.2 := q1
            have h2 : enA A i.1.1 i.1.2.1 i.1.2.2 := q2
            rw [hf2'] at h1
            obtain ⟨y1, y2⟩ := t.one _ hkey _ _ _ _ h2 h1
            exact Prod.ext y1 (Prod.ext y2 hf2')
      have hn := S.nd
      rw [List.map_append] at hn
      exact (List.nodup_append.mp hn).2.2 _ hf1 i.1 (List.mem_append.mpr (.inr (by simp))) hfi
  refine ⟨?_, fun e he => ?_, fun e he => ?_, fun j hj => ?_, fun f hf' => ?_, ?_, ?_, ?_, fun e he => ?_, fun e he a m hen => ?_⟩
  · rw [hall]
    refine List.nodup_append.mpr ⟨hperm.symm.nodup S.nd, ?_, fun x hx y hy e => ?_⟩
    · refine List.pairwise_map.mpr ((List.pairwise_map.mp hnd).imp fun {a b} ne q => ne ?_)
      exact (Prod.mk.inj (Prod.mk.inj q).2).1
    · obtain ⟨z, hz, rfl⟩ := List.mem_map.mp hy
      rw [e] at hx
      exact hfresh z.1 z.2 ((hold _).mp hx) (hk (List.ne_nil_of_mem hz))
  · rw [hall] at he
    rcases List.mem_append.mp he with he | he
    · exact S.sub e ((hold e).mp he)
    · obtain ⟨z, hz, rfl⟩ := List.mem_map.mp he
      exact List.mem_cons_of_mem _ (hik z hz)
  · rw [hall] at he
    rcases List.mem_append.mp he with he | he
    · rcases S.src e ((hold e).mp he) with q | ⟨f, h1, h2⟩
      · exact .inl q
      · exact .inr ⟨f, List.mem_append.mpr (.inl h1), h2⟩
    · obtain ⟨z, hz, rfl⟩ := List.mem_map.mp he
      exact .inr ⟨i.1, by simp, rfl⟩
  · rw [List.length_append, List.length_singleton]
    rcases List.mem_append.mp hj with hj | hj
    · exact (S.way j (List.mem_append.mpr (.inl hj))).mono (Nat.le_succ _)
    · unfold kids at hj
      obtain ⟨z, hz, rfl⟩ := List.mem_map.mp hj
      refine ⟨hway.1.snoc (hik z hz), fun a ha => ?_, ?_⟩
      · rcases List.mem_append.mp ha with ha | ha
        · exact hway.2.1 a ha
        · rw [List.mem_singleton.mp ha]; exact hnm z hz
      · show (i.2 ++ [z.1]).length ≤ _
        rw [List.length_append, List.length_singleton]
        exact Nat.succ_le_succ hway.2.2
  · rw [List.length_append, List.length_singleton]
    rw [hf] at hf'
    by_cases q : i.1.2.2 = n
    · rw [if_pos q] at hf'
      rcases List.mem_append.mp hf' with hf' | hf'
      · obtain ⟨ns, h1, h2⟩ := S.found f hf'
        exact ⟨ns, h1, h2.mono (Nat.le_succ _)⟩
      · exact ⟨i.2, List.mem_singleton.mp hf', by rw [← q]; exact hway.mono (Nat.le_succ _)⟩
    · rw [if_neg q] at hf'
      obtain ⟨ns, h1, h2⟩ := S.found f hf'
      exact ⟨ns, h1, h2.mono (Nat.le_succ _)⟩
  · rw [hf, List.length_append, List.length_singleton]
    have := S.len
    by_cases q : i.1.2.2 = n
    · rw [if_pos q, List.length_append, List.length_singleton]; omega
    · rw [if_neg q]; omega
  · rintro ⟨e, he, q⟩
    rw [hf]
    by_cases z : i.1.2.2 = n
    · rw [if_pos z]; simp
    · rw [if_neg z]
      rcases List.mem_append.mp he with he | he
      · exact S.here ⟨e, he, q⟩
      · rw [List.mem_singleton.mp he] at q
        exact absurd q z
  · rw [hall]
    exact List.mem_append.mpr (.inl ((hold _).mpr S.root))
  · rcases List.mem_append.mp he with he | he
    · exact S.reach e he
    · rw [List.mem_singleton.mp he]; exact ⟨i.2, hway.1⟩
  · rw [hall]
    rcases List.mem_append.mp he with he | he
    · exact List.mem_append.mpr (.inl ((hold _).mpr (S.down e he a m hen)))
    · rw [List.mem_singleton.mp he] at hen ⊢
      exact List.mem_append.mpr (.inr (List.mem_map.mpr ⟨(a, m), (hes a m).mp hen, rfl⟩))
/-! ### sorted texts -/
theorem sort_strs {K : PySem.W.Frag} {H : Hp} {fs : List Str} {ys : List V} (h : DpAll K H ys ((fs.map PyData.str).mergeSort dle)) : ∃ gs : List Str, ys = gs.map V.str ∧ gs.Perm fs := by
  have e : (fs.map PyData.str).mergeSort dle = (fs.mergeSort (PySem.W.dataLe false PyData.str)).map PyData.str := (List.map_mergeSort (r := PySem.W.dataLe false PyData.str) (s := dle) (f := PyData.str) (l := fs) (fun a _ b _ => rfl)).symm
  rw [e] at h
  refine ⟨fs.mergeSort (PySem.W.dataLe false PyData.str), ?_, List.mergeSort_perm _ _⟩
  generalize fs.mergeSort (PySem.W.dataLe false PyData.str) = gs at h
  clear e
  induction gs generalizing ys with
  | nil => cases h; rfl
  | cons a l ih =>
    cases h with
    | cons h1 h2 =>
      cases h1
      rw [ih h2]
      rfl
theorem dp_strs {K : PySem.W.Frag} {H : Hp} : ∀ fs : List Str, DpAll K H (fs.map V.str) (fs.map PyData.str)
  | [] => .nil
  | n :: r => .cons (.str n) (dp_strs r)
def ItemAt (K : PySem.W.Frag) (H : Hp) (v : V) (i : Item) : Prop := ∃ t, v = .ref t ∧ SqT K H t [.int i.1.2.2, .str (wy i.2)]
theorem ItemAt.same {K : PySem.W.Frag} {H H' : Hp} {v : V} {i : Item} (s : Same H H') (h : ItemAt K H v i) : ItemAt K H' v i := let ⟨t, a, b⟩ := h; ⟨t, a, Same.tup s b⟩
theorem ItemAt.upd {K : PySem.W.Frag} {H : Hp} {v : V} {i : Item} {p : Addr} {o o' : HO} (h : ItemAt K H v i) (hp : H p = some o') (h1 : ∀ ys, o' ≠ .tup ys) (h2 : ∀ od ys, o' ≠ .frz od (.tup ys)) : ItemAt K (L2.upd H p o) v i := let ⟨t, a, b⟩ := h; ⟨t, a, sqT_upd b hp h1 h2⟩
theorem paired_split {α β : Type} {F : α → β → Prop} : ∀ {xs : List α} {ys : List β}, Paired F xs ys → xs ≠ [] → ∃ xs' x ys' y, xs = xs' ++ [x] ∧ ys = ys' ++ [y] ∧ Paired F xs' ys' ∧ F x y
  | _, _, .nil, h => absurd rfl h
  | [x], [y], .cons r .nil, _ => ⟨[], x, [], y, rfl, rfl, .nil, r⟩
  | x :: x2 :: xs, y :: y2 :: ys, .cons r t, _ => by
    obtain ⟨xs', a, ys', b, e1, e2, h1, h2⟩ := paired_split t (by simp)
    exact ⟨x :: xs', a, y :: ys', b, by rw [e1]; rfl, by rw [e2]; rfl, .cons r h1, h2⟩
theorem paired_app {α β : Type} {F : α → β → Prop} : ∀ {xs xs' : List α} {ys ys' : List β}, Paired F xs ys → Paired F xs' ys' → Paired F (xs ++ xs') (ys ++ ys')
  | _, _, _, _, .nil, h => h
  | _, _, _, _, .cons r t, h => .cons r (paired_app t h)
theorem last_at {α : Type} (l : List α) (a : α) : (l ++ [a])[(l ++ [a]).length - 1]? = some a := by simp
def spPathsOf (K : PySem.W.Frag) : Sp := fun vs H Q _ => ∃ (p : Addr) (R : Hp) (A : FAt) (G : List (Int × Int × Str)) (k n : Int), vs = [.ref p, .int n] ∧ On K R H (He.ga K "Shelf") p (lastF k) A G ∧ Tree A ∧ (∀ w a m, enA A w a m → isName a = true) ∧ (edges A 0).length ≤ 900 ∧
  ∀ q gs H', Same H H' → H' q = some (.lst (gs.map V.str)) → gs.length ≤ 1000 → (∀ g ∈ gs, ∃ ns, g = pathOf ns ∧ goodWay A 0 n ns 1000) → ((∃ ns, Way A 0 ns n) → gs ≠ []) → Q (.ref q) H'
section
variable {P : Program} {w : World} {K : PySem.W.Frag} {mg : Str → Option Value} {base : Heap}
abbrev N_paths_of : List Str := ["shelf", "number", "found", "todo", "here", "path", "name", "other"]
theorem sc_paths_of : FnScope N_paths_of ["shelf", "number"] (defScope s_paths_of) := ⟨rfl, rfl, rfl, by decide +kernel, rfl, by decide +kernel, by decide +kernel⟩
theorem ok_paths_of (T : Tx K mg base) : OkD P w K mg base d_paths_of.at_ 1 ["shelf", "number"] (spPathsOf K) := by
  refine okD_of T.F_paths_of sc_paths_of (fun _ _ _ _ _ _ us hl => match us, hl with | [_, _], _ => rfl) (fun vs H Q E h => ?_) (fun cdv A outer s H vs Q E hr h => ?_)
  · obtain ⟨p, R, A, G, k, n, rfl, _⟩ := h
    rfl
  · obtain ⟨p, R, A, G, k0, n, rfl, hOn, ht, hnm, hE, k⟩ := h
    have hu := hu_of hr
    refine ⟨_, (pss_cons (ps_set (i := 2) sc_paths_of.nd rfl (by first | exact Or.inl rfl | exact Or.inr rfl) (pe_lst pa_nil))
      (pss_cons (ps_set (i := 3) sc_paths_of.nd rfl (by first | exact Or.inl rfl | exact Or.inr rfl) (pe_lst (pa_cons (pe_tup (pa_cons (pe_gint T.i_ROOT_shelf) (pa_cons pe_str pa_nil))) pa_nil)))
      (pss_cons (ps_while PassesOwn.never (pt_cmpR op_gt (pe_callB call_len_seq (by rfl) T.z_len (show bootBuiltins "len" = some (.builtin "len") by decide +kernel) (pa_cons (pv 3) pa_nil)) pe_int (nomark _)) (pss_cons (ps_asg (pe_bm0 PySem.F.plainAttrs_list PySem.F.slot_list_pop PySem.F.type_list_pop mt_pop (pv 3)) (pg_tupK K (n := 2) rfl (pgs_cons (pg_name (i := 4) sc_paths_of.nd rfl (by first | exact Or.inl rfl | exact Or.inr rfl)) (pgs_cons (pg_name (i := 5) sc_paths_of.nd rfl (by first | exact Or.inl rfl | exact Or.inr rfl)) pgs_nil))))
      (Evl.pss_cut (ps_if (pt_cmpR op_eq (pv 4) (pv 1) (nomark _)) (pss_one (ps_expr (pe_bm PySem.F.plainAttrs_list PySem.F.slot_list_append PySem.F.type_list_append mt_append (pv 2) (pa_cons (pe_ifExp (pt_cmpR op_ne (pv 5) pe_str (nomark _)) (pv 5) pe_str) pa_nil)))) pss_nil)
      (pss_one (ps_if (pt_cmp (pc_din hu (pv 4) (pe_fldK K (pv 0) rfl))) (pss_one (ps_expr (pe_bm PySem.F.plainAttrs_list PySem.F.slot_list_extend PySem.F.type_list_extend mt_extend (pv 3) (pa_cons (pe_lock (pe_lc (own := [("name", 6), ("other", 7)]) rfl sc_paths_of.nd (pi_items (pe_dget hu (pe_fldK K (pv 0) rfl) (pv 4) (fun _ _ => rfl))) (blkOk_by (N := N_paths_of) (sc := defScope s_paths_of) (by decide +kernel)) (fun _ _ _ _ _ => (pg_tupK K (n := 2) rfl (pgs_cons (pg_name (i := 6) sc_paths_of.nd rfl (Or.inl rfl)) (pgs_cons (pg_name (i := 7) sc_paths_of.nd rfl (Or.inl rfl)) pgs_nil)))) (fun _ _ _ _ _ => pts_nil) (fun _ _ _ _ _ => (pe_tup (pa_cons (pv 7) (pa_cons (pe_op op_add_str (pe_op op_add_str (pv 5) pe_str) (pv 6)) pa_nil)))))) pa_nil)))) pss_nil)))))
      (pss_one (ps_ret (pe_callB (cr_sortedK hr.units) (by rfl) T.z_sorted (show bootBuiltins "sorted" = some (.builtin "sorted") by decide +kernel) (pa_cons (pv 2) pa_nil))))))), ?_⟩
    refine ⟨zl rfl, fun fq hfq => ?_⟩
    obtain ⟨H0, hH0⟩ : ∃ z, z = upd H fq (.lst []) := ⟨_, rfl⟩
    rw [← hH0]
    have at_fq : H0 fq = some (.lst []) := by rw [hH0, upd_same]
    have s_H0 : Same H H0 := by rw [hH0]; exact same_new hfq
    clear hH0
    refine ⟨zl rfl, fun tq0 htq0 => ?_⟩
    obtain ⟨H1, hH1⟩ : ∃ z, z = upd H0 tq0 (.tup [.int 0, .str ""]) := ⟨_, rfl⟩
    rw [← hH1]
    have at_tq0 : H1 tq0 = some (.tup [.int 0, .str ""]) := by rw [hH1, upd_same]
    have s_H1 : Same H0 H1 := by rw [hH1]; exact same_new htq0
    clear hH1
    refine ⟨zl rfl, fun tq htq => ?_⟩
    obtain ⟨H2, hH2⟩ : ∃ z, z = upd H1 tq (.lst [.ref tq0]) := ⟨_, rfl⟩
    rw [← hH2]
    have at_tq : H2 tq = some (.lst [.ref tq0]) := by rw [hH2, upd_same]
    have s_H2 : Same H1 H2 := by rw [hH2]; exact same_new htq
    clear hH2
    have f2 : H2 fq = some (.lst []) := s_H2 _ _ (s_H1 _ _ at_fq)
    have hft : fq ≠ tq := ne_of_none (s_H1 _ _ at_fq) htq
    have sH2 : Same H H2 := (s_H0.trans s_H1).trans s_H2
    have htqH : H tq = none := (s_H0.trans s_H1).free htq
    have S0 : PathS A 0 n [] [(rootE 0, [])] [] := by
      refine ⟨by simp, fun e he => ?_, fun e he => ?_, fun i hi => ?_, (fun f hf => nomatch hf), Nat.le_refl _, fun q => ?_, by simp, (fun e he => nomatch he), (fun e he => nomatch he)⟩
      · simp at he; rw [he]; exact List.mem_cons_self
      · simp at he; rw [he]; exact .inl rfl
      · simp at hi; rw [hi]; exact ⟨.nil, (fun a ha => nomatch ha), Nat.le_refl _⟩
      · obtain ⟨e, he, _⟩ := q; cases he
    refine ⟨fun m σ H' => ∃ PR T fs ts x y z u, σ = [some (.ref p), some (.int n), some (.ref fq), some (.ref tq), x, y, z, u] ∧ PathS A 0 n PR T fs ∧ m + PR.length = (edges A 0).length ∧ Same H H' ∧ H' fq = some (.lst (fs.map V.str)) ∧ H' tq = some (.lst ts) ∧ Paired (ItemAt K H') ts T,
      ⟨(edges A 0).length, [], [(rootE 0, [])], [], [.ref tq0], _, _, _, _, rfl, S0, by simp, sH2, f2, at_tq, .cons ⟨tq0, rfl, SqT.of (s_H2 _ _ at_tq0)⟩ .nil⟩, ?_⟩
    rintro m σ H3 ⟨PR, T, fs, ts, _, _, u0, u1, rfl, S, hm, s3, f3, t3, hT⟩
    have hle := pathS_le S
    refine ⟨_, rfl, _, _, rfl, .inl (SqL.of t3), _, _, rfl, rfl, _, rfl, ite2 (fun h1 => ?_) (fun h1 => ?_)⟩
    · -- one more
      have htne : ts ≠ [] := fun z => by rw [z] at h1; exact absurd h1 (by simp)
      obtain ⟨ts', v0, T', i, rfl, rfl, hT', t0, rfl, ht0⟩ := paired_split hT htne
      rw [List.length_append, List.length_singleton] at hle
      have S' := S
      have hwi := S.way i (by simp)
      refine ⟨fun σ' H' => ∃ m', m' < m ∧ ∃ PR T fs ts x y z u, σ' = [some (.ref p), some (.int n), some (.ref fq), some (.ref tq), x, y, z, u] ∧ PathS A 0 n PR T fs ∧ m' + PR.length = (edges A 0).length ∧ Same H H' ∧ H' fq = some (.lst (fs.map V.str)) ∧ H' tq = some (.lst ts) ∧ Paired (ItemAt K H') ts T, fun σ' H' h => h, ?_⟩
      refine ⟨_, rfl, tyL (SqL.of t3), _, _, _, rfl, rfl, t3, last_at _ _, ?_⟩
      rw [List.dropLast_concat]
      obtain ⟨H4, hH4⟩ : ∃ z, z = upd H3 tq (.lst ts') := ⟨_, rfl⟩
      rw [← hH4]
      have t4 : H4 tq = some (.lst ts') := by rw [hH4, upd_same]
      have f4 : H4 fq = some (.lst (fs.map V.str)) := by rw [hH4]; exact upd_at_ne f3 hft
      have s4 : Same H H4 := by rw [hH4]; exact Same.off s3 htqH
      have ht04 : SqT K H4 t0 [.int i.1.2.2, .str (wy i.2)] := by rw [hH4]; exact sqT_upd ht0 t3 (fun _ z => by cases z) (fun _ _ z => by cases z)
      have hT4 : Paired (ItemAt K H4) ts' T' := by rw [hH4]; exact paired_mono hT' fun _ _ q => q.upd t3 (fun _ z => by cases z) (fun _ _ z => by cases z)
      clear hH4
      refine ⟨_, _, rfl, ht04, rfl, _, _, rfl, _, _, rfl, rfl, ?_⟩
      have hwl : (wy i.2).length ≤ 9000 := by have := wy_len hwi.2.1; have := hwi.2.2; omega
      obtain ⟨fs', hfs'⟩ : ∃ z, z = if i.1.2.2 = n then fs ++ [pathOf i.2] else fs := ⟨_, rfl⟩
      have hfl : fs.length ≤ 1000 := by have := S.len; omega
      refine ⟨fun σ' H' => σ' = [some (.ref p), some (.int n), some (.ref fq), some (.ref tq), some (.int i.1.2.2), some (.str (wy i.2)), u0, u1] ∧ Same H H' ∧ H' fq = some (.lst (fs'.map V.str)) ∧ H' tq = some (.lst ts') ∧ Paired (ItemAt K H') ts' T', ?_, ?_⟩
      · refine ⟨_, rfl, _, rfl, rfl, _, rfl, ite2 (fun h2 => ?_) (fun h2 => ?_)⟩
        · have h2' : i.1.2.2 = n := V.int.inj (of_decide_eq_true h2)
          rw [if_pos h2'] at hfs'
          have fin : ∀ (path : Str), path = pathOf i.2 → Same H (upd H4 fq (.lst (fs.map V.str ++ [.str path]))) ∧ (upd H4 fq (.lst (fs.map V.str ++ [.str path]))) fq = some (.lst (fs'.map V.str)) ∧ (upd H4 fq (.lst (fs.map V.str ++ [.str path]))) tq = some (.lst ts') ∧ Paired (ItemAt K (upd H4 fq (.lst (fs.map V.str ++ [.str path])))) ts' T' := fun path e => by
            subst e
            refine ⟨Same.off s4 hfq, by rw [upd_same, hfs', List.map_append]; rfl, upd_at_ne t4 hft.symm, paired_mono hT4 fun _ _ q => q.upd f4 (fun _ z => by cases z) (fun _ _ z => by cases z)⟩
          have hlen : (fs.map V.str).length < sizeLine := sl (by rw [List.length_map]; omega)
          refine ⟨_, rfl, tyL (SqL.of f4), ?_⟩
          refine ⟨_, rfl, rfl, _, rfl, ite2 (fun h3 => ?_) (fun h3 => ?_)⟩
          · have h3' : (!decide (V.str (wy i.2) = V.str "")) = true := h3
            have hne : i.2 ≠ [] := fun z => by rw [z] at h3'; exact absurd h3' (by decide)
            exact ⟨_, rfl, _, _, _, rfl, rfl, f4, hlen, rfl, fin _ (by rw [pathOf, if_neg hne])⟩
          · have h3' : ¬ (!decide (V.str (wy i.2) = V.str "")) = true := h3
            have hne : i.2 = [] := Classical.byContradiction fun z => h3' (by simp [wy_ne z])
            exact ⟨_, _, _, rfl, rfl, f4, hlen, rfl, fin _ (by rw [pathOf, if_pos hne])⟩
        · have h2' : ¬ i.1.2.2 = n := fun z => h2 (decide_eq_true (congrArg V.int z))
          rw [if_neg h2'] at hfs'
          exact ⟨rfl, s4, by rw [hfs']; exact f4, t4, hT4⟩
      · rintro _ H5 ⟨rfl, s5, f5, t5, hT5⟩
        have hOn5 := hOn.same s5
        have hi5 := hOn5
        obtain ⟨dx, d, e, gs, hi5, hA, _⟩ := hi5
        refine ⟨_, rfl, _, rfl, _, _, _, _, _, rfl, hi5, T.c_Shelf, T.n_Shelf_folders, rfl, _, _, rfl, .inl ⟨_, .inl i.1.2.2, .inl hA.dict, rfl, rfl⟩, _, rfl, ?_⟩
        rw [fKV_some]
        refine ite2 (fun h3 => ?_) (fun h3 => ?_)
        · obtain ⟨adr, es, hmm⟩ := fA_mem (of_decide_eq_true h3)
          have hn5 := hA.names _ hmm
          have hin := hA.inner _ hmm
          have hen : ∀ a m, enA A i.1.2.2 a m ↔ (a, m) ∈ es := fun a m => hA.en hmm
          have S2 := pathS_step ht (fun w a _ _ => ht.top w a) S rfl hen hn5 (fun e he => hnm _ _ _ ((hen e.1 e.2).mpr he)) hfs' (fun _ => List.mem_map.mpr ⟨_, hmm, rfl⟩)
          have hle2 := pathS_le S2
          rw [List.length_append, List.length_append, List.length_singleton] at hle2
          have hesl : es.length ≤ 900 := by
            have : (kids i.1.2.2 i.2 es).length = es.length := List.length_map _
            omega
          have hadx : ∀ {b : Addr} {o : HO}, H5 b = some o → (∀ kvs, o ≠ .dK kvs) → b ≠ adr := fun h n z => by subst z; rw [hin] at h; exact n _ (Option.some.inj h).symm
          refine ⟨_, rfl, tyL (SqL.of t5), adr, _, hin, trivial, fun od => ?_⟩
          obtain ⟨Hf, hHf⟩ : ∃ z, z = upd H5 adr (.frz od (.dK (dkI es))) := ⟨_, rfl⟩
          rw [← hHf]
          have ff : Hf adr = some (.frz od (.dK (dkI es))) := by rw [hHf, upd_same]
          have fd : Rd Hf d (.dK (fKV A)) := by rw [hHf]; exact frz_rd hin trivial (.inl hA.dict)
          have fi : Hf p = H5 p := by rw [hHf, upd_ne (hadx hi5 (fun _ z => by cases z))]
          refine ⟨_, rfl, _, _, _, _, _, rfl, fi.trans hi5, T.c_Shelf, T.n_Shelf_folders, rfl, _, rfl, _, _, rfl, .inl ⟨_, .inl i.1.2.2, fd, rfl, (hA.get hmm).symm⟩, adr, od, dkI es, rfl, ff, fun D hD => ?_⟩
          refine lc_rel walk_items es (by rw [dkI_len]) (fun e => some (((i.1.2.2, e.1, e.2), i.2 ++ [e.1]) : Item)) (fun Hx v z => ItemAt K Hx v z) (fun _ _ _ _ s q => q.same s) hD (fun _ s => s _ _ ff) ?_ ?_
          · rintro j e x H6 H7 hj pv s6 ⟨tt, y1, y2, rfl, htt, rfl, hy1, hy2⟩
            have hk : (dkI es)[j]? = some (Sum.inr e.1, .int e.2) := by unfold dkI; rw [List.getElem?_map, hj]; rfl
            replace hy1 : ((dkI es)[j]?.map fun kv => kV kv.1) = some y1 := hy1
            replace hy2 : ((dkI es)[j]?.map Prod.snd) = some y2 := hy2
            rw [hk] at hy1 hy2
            obtain rfl := Option.some.inj hy1
            obtain rfl := Option.some.inj hy2
            have hel := (isName_len (hnm _ _ _ ((hen e.1 e.2).mpr (List.mem_of_getElem? hj)))).2
            refine ⟨_, _, rfl, SqT.of (upd_same ..), rfl, _, _, rfl, _, _, rfl, rfl, rfl, tyes ⟨_, rfl, _, rfl, _, _, rfl, rfl, sl' (by show (wy i.2).length + 1 ≤ _; omega), _, rfl, _, _, rfl, rfl, sl' (by rw [PySem.Str.length_append]; show (wy i.2).length + 1 + e.1.length ≤ _; omega), zl rfl, fun p7 hp7 => ?_⟩⟩
            have s7 : Same H6 (upd (upd H6 tt (.tup [kV (Sum.inr e.1), .int e.2])) p7 (.tup [.int e.2, .str (wy i.2 ++ "/" ++ e.1)])) := (same_new htt).trans (same_new hp7)
            have pv' := pv
            obtain ⟨_, acc, hacc, _⟩ := pv'
            refine PvR.yes (fun _ _ _ _ s q => q.same s) hD (by omega) pv hj s7 rfl ⟨p7, rfl, SqT.of (del_at ?_ (ne_of_none' hp7 (same_new htt _ _ hacc)))⟩
            rw [upd_same, wy_snoc]
          · intro H6 ys s6 hD6 hys
            rw [filterMap_some] at hys
            refine ⟨s6 _ _ ff, ?_⟩
            obtain ⟨H7, hH7⟩ : ∃ z, z = upd H6 adr (.dK (dkI es)) := ⟨_, rfl⟩
            rw [← hH7]
            have s7 : Same H5 H7 := by rw [hH7]; exact frz_back hin (by rw [← hHf]; exact s6)
            have hDa : D ≠ adr := ne_of_none' hD ff
            have D7 : H7 D = some (.lst ys) := by rw [hH7]; exact upd_at_ne hD6 hDa
            have hys7 : Paired (ItemAt K H7) ys (kids i.1.2.2 i.2 es) := by
              rw [hH7]
              exact paired_mono hys fun _ _ q => (q.same (del_same _ _)).upd (s6 _ _ ff) (fun _ z => by cases z) (fun _ _ z => by cases z)
            have t7 := s7 _ _ t5
            have hkl : (kids i.1.2.2 i.2 es).length = es.length := List.length_map _
            refine ⟨_, _, _, _, rfl, rfl, t7, D7, sl' (by rw [paired_len hys7, paired_len hT5]; omega), ?_⟩
            refine ⟨m - 1, by omega, PR ++ [i.1], _, fs', _, _, _, _, _, rfl, S2, by rw [List.length_append, List.length_singleton]; omega, Same.off (s5.trans s7) htqH, upd_at_ne (s7 _ _ f5) hft, upd_same .., ?_⟩
            exact paired_mono (paired_app (paired_mono hT5 fun _ _ q => q.same s7) hys7) fun _ _ q => q.upd t7 (fun _ z => by cases z) (fun _ _ z => by cases z)
        · have hno : i.1.2.2 ∉ keysA A := fun z => h3 (decide_eq_true z)
          have S2 := pathS_step (es := []) ht (fun w a _ _ => ht.top w a) S rfl (fun a m => ⟨fun z => absurd (enA_key z) hno, fun z => by cases z⟩) (by simp) (fun e he => nomatch he) hfs' (fun z => absurd rfl z)
          refine ⟨m - 1, by omega, PR ++ [i.1], T', fs', ts', _, _, _, _, rfl, by simpa [kids] using S2, by rw [List.length_append, List.length_singleton]; omega, s5, f5, t5, hT5⟩
    · -- the end
      have htne : ts = [] := by
        cases ts with
        | nil => rfl
        | cons a l => exact absurd (by simp) h1
      subst htne
      cases hT
      refine ⟨_, rfl, fq, _, _, rfl, SqL.of f3, dp_strs fs, fun d hd d' hd' => ?_, .inr fun d hd => ?_, fun d hd => ?_, fun ys q hys hq => ?_⟩
      · obtain ⟨a, _, rfl⟩ := List.mem_map.mp hd
        obtain ⟨b, _, rfl⟩ := List.mem_map.mp hd'
        rfl
      · obtain ⟨a, _, rfl⟩ := List.mem_map.mp hd
        exact ⟨fun z => (by cases z), fun xs z => (by cases z)⟩
      · obtain ⟨a, _, rfl⟩ := List.mem_map.mp hd
        simp [PyData.depth]
      · obtain ⟨gs, rfl, hg⟩ := sort_strs hys
        refine k q gs _ (s3.trans (same_new hq)) (upd_same ..) (by rw [hg.length_eq]; have h1 := S.len; have h2 := pathS_le S; omega) (fun g hgm => ?_) (fun ⟨ns, hw⟩ z => ?_)
        · obtain ⟨ns, h1, h2⟩ := S.found g (hg.subset hgm)
          exact ⟨ns, h1, h2.mono (by omega)⟩
        · rw [z] at hg
          exact pathS_end S hw hg.symm.eq_nil
end
end K81
set_option maxHeartbeats 4000000
namespace K81
open PySem PySem.Spec PyProof.Rows L2
/-! ### a shelf's heap changes -/
section
variable {K : PySem.W.Frag} {R H : Hp} {C p : Addr} {A : FAt} {G : List (Int × Int × Str)} {k : Int}
theorem On.last (h : On K R H C p (lastF k) A G) (k' : Int) : ∃ dx fs, H p = some (.ins C dx fs) ∧ fs.lookup ("last" : Str) = some (V.int k) ∧ fs.length < 1000 ∧ On K R (upd H p (.ins C dx (putF "last" (.int k') fs))) C p (lastF k') A G := by
  obtain ⟨dx, d, e, gs, h1, h2, h3, h4, h5, h6, h7, h8, h9, h10, h11, h12⟩ := h
  have hdp : d ≠ p := ne_of_kinds h2.dict h1 (fun z => by cases z)
  have hep : e ≠ p := ne_of_kinds h3 h1 (fun z => by cases z)
  refine ⟨dx, _, h1, rfl, by show 3 < 1000; decide, dx, d, e, gs, by rw [upd_same]; rfl, ⟨upd_at_ne h2.dict hdp, fun x m => upd_at_ne (h2.inner x m) (ne_of_kinds (h2.inner x m) h1 (fun z => by cases z)), h2.nums, h2.addrs, h2.out, h2.names⟩, upd_at_ne h3 hep, h4.mono fun _ _ q => q.upd h1 (fun _ z => by cases z) (fun _ _ z => by cases z), h5, h6, h7, Same.off h8 h9, h9, h10, h11, h12⟩
variable {rest : List (Str × V)}
/-- a new folder -/
theorem On.addF (h : On K R H C p rest A G) {n : Int} {a : Addr} (hn : n ∉ keysA A) (ha : H a = none) : ∃ dx d e, H p = some (.ins C dx (("folders", .ref d) :: ("files", .ref e) :: rest)) ∧ H d = some (.dK (fKV A)) ∧
    On K R (upd (upd H a (.dK [])) d (.dK (putK (fKV A) (Sum.inl n) (.ref a)))) C p rest (A ++ [(n, a, [])]) G := by
  obtain ⟨dx, d, e, gs, h1, h2, h3, h4, h5, h6, h7, h8, h9, h10, h11, h12⟩ := h
  have s1 := same_new (o := .dK []) ha
  have hda := ne_of_none h2.dict ha
  have hea := ne_of_none h3 ha
  have hpd : p ≠ d := ne_of_kinds h1 h2.dict (fun z => by cases z)
  have hAa : a ∉ A.map (·.2.1) := fun q => by
    obtain ⟨x, hx, z⟩ := List.mem_map.mp q
    have := h2.inner x hx
    have z' : x.2.1 = a := z
    rw [z', ha] at this; cases this
  refine ⟨dx, d, e, h1, h2.dict, dx, d, e, gs, upd_at_ne (s1 _ _ h1) hpd, (h2.same s1).add (es := []) (upd_same ..) hAa hda hn .nil, upd_at_ne (s1 _ _ h3) h6, h4.mono fun _ _ q => (q.same s1).upd (s1 _ _ h2.dict) (fun _ z => by cases z) (fun _ _ z => by cases z), h5, h6, ?_, Same.off (h8.trans s1) h10, h9, h10, h11, fun x hx => ?_⟩
  · rw [List.map_append]
    intro q
    rcases List.mem_append.mp q with q | q
    · exact h7 q
    · rw [List.map_singleton, List.mem_singleton] at q
      exact hea q
  · rcases List.mem_append.mp hx with hx | hx
    · exact h12 x hx
    · rw [List.mem_singleton.mp hx]
      exact h8.free ha
/-- a folder goes -/
theorem fKV_drop (A : FAt) (n : Int) : dropK (fKV A) (Sum.inl n) = fKV (A.filter fun x => decide (x.1 ≠ n)) := by
  unfold dropK fKV
  rw [List.filter_map]
  congr 1
  refine List.filter_congr fun x _ => ?_
  simp only [Function.comp]
  by_cases e : x.1 = n <;> simp [e]
theorem On.delF (h : On K R H C p rest A G) (n : Int) : ∃ dx d e, H p = some (.ins C dx (("folders", .ref d) :: ("files", .ref e) :: rest)) ∧ H d = some (.dK (fKV A)) ∧
    On K R (upd H d (.dK (dropK (fKV A) (Sum.inl n)))) C p rest (A.filter fun x => decide (x.1 ≠ n)) G := by
  obtain ⟨dx, d, e, gs, h1, h2, h3, h4, h5, h6, h7, h8, h9, h10, h11, h12⟩ := h
  have hpd : p ≠ d := ne_of_kinds h1 h2.dict (fun z => by cases z)
  have hsub : (A.filter fun x => decide (x.1 ≠ n)).Sublist A := List.filter_sublist
  rw [fKV_drop]
  refine ⟨dx, d, e, h1, h2.dict, dx, d, e, gs, upd_at_ne h1 hpd, ⟨upd_same .., fun x hx => upd_at_ne (h2.inner x (hsub.subset hx)) (fun z => h2.out (List.mem_map.mpr ⟨x, hsub.subset hx, z⟩)), h2.nums.sublist (hsub.map _), h2.addrs.sublist (hsub.map _), fun q => h2.out ((hsub.map _).subset q), fun x hx => h2.names x (hsub.subset hx)⟩, upd_at_ne h3 h6, h4.mono fun _ _ q => q.upd h2.dict (fun _ z => by cases z) (fun _ _ z => by cases z), h5, h6, fun q => h7 ((hsub.map _).subset q), Same.off h8 h10, h9, h10, h11, fun x hx => h12 x (hsub.subset hx)⟩
theorem dik_drop {α : Type} {f : α → Int} {P : V → α → Prop} (n : Int) : ∀ {kvs : List (Key × V)} {l : List α}, Dik f P kvs l → Dik f P (dropK kvs (Sum.inl n)) (l.filter fun x => decide (f x ≠ n))
  | _, _, .nil => .nil
  | kv :: kvs, x :: l, .cons q t => by
    have ih := dik_drop n t
    by_cases e : f x = n
    · rw [dropK_pos (q.1.trans (congrArg Sum.inl e)), List.filter_cons, if_neg (by simp [e])]
      exact ih
    · rw [dropK_neg (fun z => e (Sum.inl.inj (q.1.symm.trans z))), List.filter_cons, if_pos (by simp [e])]
      exact .cons q ih
theorem dik_set {α : Type} {f : α → Int} {P : V → α → Prop} {x' : α} {v : V} (hp : P v x') : ∀ {kvs : List (Key × V)} {l : List α}, Dik f P kvs l → Dik f P (kvs.map fun kv => if kv.1 = Sum.inl (f x') then (kv.1, v) else kv) (l.map fun x => if f x = f x' then x' else x)
  | _, _, .nil => .nil
  | kv :: kvs, x :: l, .cons q t => by
    refine .cons ?_ (dik_set hp t)
    show (if kv.1 = Sum.inl (f x') then (kv.1, v) else kv).1 = Sum.inl (f (if f x = f x' then x' else x)) ∧ P (if kv.1 = Sum.inl (f x') then (kv.1, v) else kv).2 (if f x = f x' then x' else x)
    by_cases e : f x = f x'
    · rw [if_pos (q.1.trans (congrArg Sum.inl e)), if_pos e]
      exact ⟨q.1.trans (congrArg Sum.inl e), hp⟩
    · rw [if_neg (fun z => e (Sum.inl.inj (q.1.symm.trans z))), if_neg e]
      exact q
/-- the files anew: gs' stand for G' -/
theorem On.files (h : On K R H C p rest A G) : ∃ dx d e gs, H p = some (.ins C dx (("folders", .ref d) :: ("files", .ref e) :: rest)) ∧ H e = some (.dK gs) ∧ Dik (·.1) (FilV K H) gs G ∧
    ∀ H1 gs' G', Same H H1 → Dik (·.1) (FilV K H1) gs' G' → (G'.map (·.1)).Nodup → On K R (upd H1 e (.dK gs')) C p rest A G' := by
  obtain ⟨dx, d, e, gs, h1, h2, h3, h4, h5, h6, h7, h8, h9, h10, h11, h12⟩ := h
  have hpe : p ≠ e := ne_of_kinds h1 h3 (fun z => by cases z)
  refine ⟨dx, d, e, gs, h1, h3, h4, fun H1 gs' G' s hd hn => ?_⟩
  refine ⟨dx, d, e, gs', upd_at_ne (s _ _ h1) hpe, (h2.same s).off h6 h7, upd_same .., hd.mono fun _ _ q => q.upd (s _ _ h3) (fun _ z => by cases z) (fun _ _ z => by cases z), hn, h6, h7, Same.off (h8.trans s) h11, h9, h10, h11, h12⟩
end
def spShPut (K : PySem.W.Frag) : Sp := fun vs H Q _ => ∃ (p : Addr) (R : Hp) (A : FAt) (G : List (Int × Int × Str)) (k w : Int) (a : Str) (n : Int), vs = [.ref p, .int w, .str a, .int n] ∧ On K R H (He.ga K "Shelf") p (lastF k) A G ∧ w ∈ keysA A ∧ (∀ m, ¬ enA A w a m) ∧ lenA 10000 A ∧
  ∀ A' H', On K R H' (He.ga K "Shelf") p (lastF k) A' G → keysA A' = keysA A → (∀ w' a' n', enA A' w' a' n' ↔ enA A w' a' n' ∨ (w' = w ∧ a' = a ∧ n' = n)) → (∀ b, lenA b A → lenA (b + 1) A') → SameD (del H p) H' → Q .non H'
def spHasName (K : PySem.W.Frag) : Sp := fun vs H Q _ => ∃ (p : Addr) (R : Hp) (A : FAt) (G : List (Int × Int × Str)) (k n : Int), vs = [.ref p, .int n] ∧ On K R H (He.ga K "Shelf") p (lastF k) A G ∧ A.length ≤ 1000 ∧
  ∀ b H', Same H H' → (b = true ↔ ∃ w a, enA A w a n) → Q (.bl b) H'
def spNewNum (K : PySem.W.Frag) : Sp := fun vs H Q _ => ∃ (p : Addr) (R : Hp) (A : FAt) (G : List (Int × Int × Str)) (k : Int), vs = [.ref p] ∧ On K R H (He.ga K "Shelf") p (lastF k) A G ∧
  ∀ H', On K R H' (He.ga K "Shelf") p (lastF (k + 1)) A G → (∀ b o, H b = some o → b ≠ p → H' b = some o) → Q (.int (k + 1)) H'
section
variable {P : Program} {w : World} {K : PySem.W.Frag} {mg : Str → Option Value} {base : Heap}
abbrev N_Shelf_new_number : List Str := ["self"]
theorem sc_Shelf_new_number : FnScope N_Shelf_new_number ["self"] (defScope s_Shelf_new_number) := ⟨rfl, rfl, rfl, by decide +kernel, rfl, by decide +kernel, by decide +kernel⟩
theorem ok_Shelf_new_number (T : Tx K mg base) : OkD P w K mg base d_Shelf_new_number.at_ 1 ["self"] (spNewNum K) := by
  refine okD_of T.F_Shelf_new_number sc_Shelf_new_number (fun _ _ _ _ _ _ us hl => match us, hl with | [_], _ => rfl) (fun vs H Q E h => ?_) (fun cdv A outer s H vs Q E hr h => ?_)
  · obtain ⟨p, R, A, G, k, rfl, _⟩ := h
    rfl
  · obtain ⟨p, R, A, G, k0, rfl, hOn, k⟩ := h
    have hu := hu_of hr
    refine ⟨_, (pss_cons (ps_fldaug (pv 0) pe_int in_add)
      (pss_one (ps_ret (pe_fldK K (pv 0) rfl)))), ?_⟩
    obtain ⟨dx, fs, h1, h2, h3, h4⟩ := hOn.last (k0 + 1)
    refine ⟨_, rfl, _, _, _, _, _, rfl, h1, T.c_Shelf, T.n_Shelf_last, h2, _, _, rfl, rfl, dx, fs, h1, h3, ?_⟩
    have h5 := h4
    obtain ⟨dx', d', e', gs', h5, _⟩ := h5
    refine ⟨_, rfl, _, _, _, _, _, rfl, h5, T.c_Shelf, T.n_Shelf_last, rfl, k _ h4 fun b o q n => upd_at_ne q n⟩
abbrev N_Shelf_take_entry : List Str := ["self", "folder", "name"]
theorem sc_Shelf_take_entry : FnScope N_Shelf_take_entry ["self", "folder", "name"] (defScope s_Shelf_take_entry) := ⟨rfl, rfl, rfl, by decide +kernel, rfl, by decide +kernel, by decide +kernel⟩
theorem ok_Shelf_take_entry (T : Tx K mg base) : OkD P w K mg base d_Shelf_take_entry.at_ 1 ["self", "folder", "name"] (spLeave K (He.ga K "Shelf")) := by
  refine okD_of T.F_Shelf_take_entry sc_Shelf_take_entry (fun _ _ _ _ _ _ us hl => match us, hl with | [_, _, _], _ => rfl) (fun vs H Q E h => ?_) (fun cdv A outer s H vs Q E hr h => ?_)
  · obtain ⟨p, R, rest, A, G, w, a, n, rfl, _⟩ := h
    rfl
  · obtain ⟨p, R, rest, A, G, w', a, n, rfl, hOn, hen, k⟩ := h
    have hu := hu_of hr
    refine ⟨_, (pss_one (ps_expr (pe_dpop1 (pe_dget hu (pe_fldK K (pv 0) rfl) (pv 1) (fun _ _ => rfl)) (pv 2) ⟨rfl, rfl, rfl, rfl⟩))), ?_⟩
    have hOn' := hOn
    obtain ⟨dx, d, e, gs, hi, hA, _⟩ := hOn
    obtain ⟨adr, es, hm, hae⟩ := enA_iff.mp hen
    have hg := getS_of (hA.names _ hm) hae
    refine ⟨_, rfl, _, _, _, _, _, rfl, hi, T.c_Shelf, T.n_Shelf_folders, rfl, _, rfl, _, _, rfl, .inl ⟨_, .inl w', .inl hA.dict, rfl, (hA.get hm).symm⟩, _, rfl, .inl ⟨_, .inl (hA.inner _ hm)⟩, _, rfl, _, .inr a, _, hA.inner _ hm, rfl, (by rw [valV_dkI, hg]; rfl), ?_⟩
    rw [dkI_drop]
    refine k (setF A w' (dropS es a)) _ (hOn'.set hm (dropS_nodup (hA.names _ hm))) (SameD.upd (hA.inner _ hm)) (setF_keys _ _ _) (fun w2 a2 n2 => ?_) (fun b hb => setF_len hb (Nat.le_trans (List.length_filter_le _ _) (hb _ hm)))
    rw [hA.en_set hm, dropS_mem]
    constructor
    · rintro (⟨rfl, q1, q2⟩ | ⟨q1, q2⟩)
      · exact ⟨(hA.en hm).mpr q1, fun z => q2 z.2⟩
      · exact ⟨q2, fun z => q1 z.1⟩
    · rintro ⟨q1, q2⟩
      by_cases z : w2 = w'
      · subst z
        exact .inl ⟨rfl, (hA.en hm).mp q1, fun y => q2 ⟨rfl, y⟩⟩
      · exact .inr ⟨z, q1⟩
abbrev N_Shelf_put_entry : List Str := ["self", "folder", "name", "number", "entries"]
theorem sc_Shelf_put_entry : FnScope N_Shelf_put_entry ["self", "folder", "name", "number"] (defScope s_Shelf_put_entry) := ⟨rfl, rfl, rfl, by decide +kernel, rfl, by decide +kernel, by decide +kernel⟩
theorem ok_Shelf_put_entry (T : Tx K mg base) : OkD P w K mg base d_Shelf_put_entry.at_ 1 ["self", "folder", "name", "number"] (spShPut K) := by
  refine okD_of T.F_Shelf_put_entry sc_Shelf_put_entry (fun _ _ _ _ _ _ us hl => match us, hl with | [_, _, _, _], _ => rfl) (fun vs H Q E h => ?_) (fun cdv A outer s H vs Q E hr h => ?_)
  · obtain ⟨p, R, A, G, k, w, a, n, rfl, _⟩ := h
    rfl
  · obtain ⟨p, R, A, G, k0, w', a, n, rfl, hOn, hw, hno, hl, k⟩ := h
    have hu := hu_of hr
    refine ⟨_, (pss_cons (ps_set (i := 4) sc_Shelf_put_entry.nd rfl (by first | exact Or.inl rfl | exact Or.inr rfl) (pe_dget hu (pe_fldK K (pv 0) rfl) (pv 1) (fun _ _ => rfl)))
      (pss_one (ps_dput hu (pv 4) (pv 2) (pv 3) rfl))), ?_⟩
    have hOn' := hOn
    obtain ⟨dx, d, e, gs, hi, hA, _⟩ := hOn
    obtain ⟨adr, es, hm⟩ := fA_mem hw
    have hel : es.length ≤ 10000 := hl _ hm
    have hno' : a ∉ es.map (·.1) := fun q => by
      obtain ⟨y, hy, rfl⟩ := List.mem_map.mp q
      exact hno y.2 ((hA.en hm).mpr hy)
    refine ⟨_, rfl, _, _, _, _, _, rfl, hi, T.c_Shelf, T.n_Shelf_folders, rfl, _, rfl, _, _, rfl, .inl ⟨_, .inl w', .inl hA.dict, rfl, (hA.get hm).symm⟩, _, rfl, _, rfl, _, rfl, _, _, rfl, .inl ⟨dkI es, .inr a, hA.inner _ hm, rfl, sl (by rw [dkI_len]; omega), rfl⟩, ?_⟩
    rw [dkI_put hno']
    have hnd : ((es ++ [(a, n)]).map (·.1)).Nodup := by
      rw [List.map_append]
      exact List.nodup_append.mpr ⟨hA.names _ hm, by simp, fun x hx y hy q => by rw [List.map_singleton, List.mem_singleton] at hy; rw [q, hy] at hx; exact hno' hx⟩
    refine k (setF A w' (es ++ [(a, n)])) _ (hOn'.set hm hnd) (setF_keys _ _ _) (fun w2 a2 n2 => ?_) (fun b hb => setF_len (lenA_mono hb (Nat.le_succ _)) (by rw [List.length_append]; exact Nat.succ_le_succ (hb _ hm))) (((del_same H p).d).trans (SameD.upd (hA.inner _ hm)))
    rw [hA.en_set hm, List.mem_append, List.mem_singleton]
    constructor
    · rintro (⟨rfl, q1 | q1⟩ | ⟨q1, q2⟩)
      · exact .inl ((hA.en hm).mpr q1)
      · exact .inr ⟨rfl, (Prod.mk.inj q1).1, (Prod.mk.inj q1).2⟩
      · exact .inl q2
    · rintro (q | ⟨rfl, rfl, rfl⟩)
      · by_cases z : w2 = w'
        · subst z
          exact .inl ⟨rfl, .inl ((hA.en hm).mp q)⟩
        · exact .inr ⟨z, q⟩
      · exact .inl ⟨rfl, .inr rfl⟩
abbrev N_Shelf_has_name : List Str := ["self", "number", "entries"]
theorem sc_Shelf_has_name : FnScope N_Shelf_has_name ["self", "number"] (defScope s_Shelf_has_name) := ⟨rfl, rfl, rfl, by decide +kernel, rfl, by decide +kernel, by decide +kernel⟩
theorem ok_Shelf_has_name (T : Tx K mg base) : OkD P w K mg base d_Shelf_has_name.at_ 1 ["self", "number"] (spHasName K) := by
  refine okD_of T.F_Shelf_has_name sc_Shelf_has_name (fun _ _ _ _ _ _ us hl => match us, hl with | [_, _], _ => rfl) (fun vs H Q E h => ?_) (fun cdv A outer s H vs Q E hr h => ?_)
  · obtain ⟨p, R, A, G, k, n, rfl, _⟩ := h
    rfl
  · obtain ⟨p, R, A, G, k0, n, rfl, hOn, hl, k⟩ := h
    have hu := hu_of hr
    refine ⟨_, (pss_one (ps_ret (pe_callB (cr_any rfl) (by rfl) T.z_any (show bootBuiltins "any" = some (.builtin "any") by decide +kernel) (pa_cons (pe_lock (pe_lc (own := [("entries", 2)]) rfl sc_Shelf_has_name.nd (pi_values (pe_fldK K (pv 0) rfl)) (blkOk_by (N := N_Shelf_has_name) (sc := defScope s_Shelf_has_name) (by decide +kernel)) (fun _ _ _ _ _ => (pg_name (i := 2) sc_Shelf_has_name.nd rfl (Or.inl rfl))) (fun _ _ _ _ _ => pts_nil) (fun _ _ _ _ _ => (pe_cmp (pc_inValues rfl (pv 1) (pv 2)) rfl)))) pa_nil)))), ?_⟩
    obtain ⟨dx, d, e, gs, hi, hA, _⟩ := hOn
    refine ⟨d, _, hA.dict, trivial, fun od => ?_⟩
    obtain ⟨Hf, hHf⟩ : ∃ z, z = upd H d (.frz od (.dK (fKV A))) := ⟨_, rfl⟩
    rw [← hHf]
    have ff : Hf d = some (.frz od (.dK (fKV A))) := by rw [hHf, upd_same]
    have fi : Hf p = H p := by rw [hHf, upd_ne (ne_of_kinds hi hA.dict (fun z => by cases z))]
    have fin : ∀ x ∈ A, Hf x.2.1 = some (.dK (dkI x.2.2)) := fun x m => by rw [hHf]; exact upd_at_ne (hA.inner x m) (fun z => hA.out (List.mem_map.mpr ⟨x, m, z⟩))
    refine ⟨_, rfl, _, _, _, _, _, rfl, fi.trans hi, T.c_Shelf, T.n_Shelf_folders, rfl, d, od, fKV A, rfl, ff, fun D hD => ?_⟩
    refine lc_rel walk_values A (by unfold fKV; rw [List.length_map]) (fun x => some (decide (n ∈ x.2.2.map (·.2)))) (fun _ v b => v = .bl b) (fun _ _ _ _ _ q => q) hD (fun _ s => s _ _ ff) ?_ ?_
    · rintro i y x H1 H2 hi2 pv s1 ⟨rfl, kk, hk⟩
      have hk' : (fKV A)[i]? = some (Sum.inl y.1, .ref y.2.1) := by unfold fKV; rw [List.getElem?_map, hi2]; rfl
      rw [hk'] at hk
      obtain ⟨rfl, rfl⟩ := Prod.mk.inj (Option.some.inj hk)
      refine ⟨rfl, tyes ⟨_, rfl, _, rfl, y.2.1, dkI y.2.2, y.2.2.map (·.2), n, rfl, rfl, .inl (s1 _ _ (fin y (List.mem_of_getElem? hi2))), by simp [dkI], ?_⟩⟩
      exact pv.yes (fun _ _ _ _ _ q => q) hD (by omega) hi2 (Same.refl _) rfl rfl
    · intro H1 ys s1 hD1 hys
      obtain rfl := paired_map hys
      rw [filterMap_some] at hD1
      refine ⟨s1 _ _ ff, _, _, rfl, SqL.of (upd_at_ne hD1 (ne_of_none' hD ff)), k _ _ (frz_back hA.dict (by rw [← hHf]; exact s1)) ?_⟩
      rw [List.any_map]
      simp only [List.any_eq_true, Function.comp, id, decide_eq_true_eq]
      constructor
      · rintro ⟨x, hx, hn⟩
        obtain ⟨y, hy, rfl⟩ := List.mem_map.mp hn
        exact ⟨x.1, y.1, enA_iff.mpr ⟨x.2.1, x.2.2, hx, hy⟩⟩
      · rintro ⟨w, a, h⟩
        obtain ⟨adr, es, h1, h2⟩ := enA_iff.mp h
        exact ⟨_, h1, List.mem_map.mpr ⟨_, h2, rfl⟩⟩
end
end K81
set_option maxHeartbeats 4000000
namespace K81
open PySem PySem.Spec PyProof.Rows L2
theorem way_rank {A : FAt} {rk : Int → Nat} (h : ∀ w a n, enA A w a n → n ∈ keysA A → rk w < rk n) {s w : Int} {ns : List Str} (hw : Way A s ns w) (hk : w ∈ keysA A) : rk s ≤ rk w := by
  induction hw with
  | nil => exact Nat.le_refl _
  | @cons w m n a ns e r ih =>
    have hm : m ∈ keysA A := by
      cases r with
      | nil => exact hk
      | cons e2 _ => exact enA_key e2
    exact Nat.le_trans (Nat.le_of_lt (h _ _ _ e hm)) (ih hk)
theorem no_back {A : FAt} (hr : Ranked A) {s : Int} : ∀ w a ns, Way A s ns w → ¬ enA A w a s := by
  obtain ⟨rk, h⟩ := hr
  intro w a ns hw he
  have hk := enA_key he
  have hs : s ∈ keysA A := by
    cases hw with
    | nil => exact hk
    | cons e2 _ => exact enA_key e2
  have h1 := way_rank h hw hk
  have h2 := h _ _ _ he hs
  omega
def spBeneath (K : PySem.W.Frag) : Sp := fun vs H Q _ => ∃ (p : Addr) (R : Hp) (A : FAt) (G : List (Int × Int × Str)) (k n f : Int), vs = [.ref p, .int n, .int f] ∧ On K R H (He.ga K "Shelf") p (lastF k) A G ∧ Tree A ∧ Ranked A ∧ (∀ w a m, enA A w a m → isName a = true) ∧ (flat (plainF A)).length ≤ 3000 ∧
  ∀ b H', Same H H' → (b = false → ∀ ns, ¬ Way A n ns f) → Q (.bl b) H'
def spNodesFault (K : PySem.W.Frag) : Sp := fun vs H Q _ => ∃ (p q1 q2 : Addr) (R : Hp) (A : FAt) (G : List (Int × Int × Str)) (k : Int) (fs gs : List Int), vs = [.ref p, .ref q1, .ref q2] ∧ On K R H (He.ga K "Shelf") p (lastF k) A G ∧ H q1 = some (.lst (fs.map V.int)) ∧ H q2 = some (.lst (gs.map V.int)) ∧ fs.length ≤ 10 ∧ gs.length ≤ 10 ∧
  ∀ (z : Str) H', Same H H' → (z = "" → (∀ n ∈ fs, n ∈ keysA A) ∧ ∀ n ∈ gs, n ∈ G.map (·.1)) → Q (.str z) H'
section
variable {P : Program} {w : World} {K : PySem.W.Frag} {mg : Str → Option Value} {base : Heap}
abbrev N_is_beneath : List Str := ["shelf", "number", "folder", "todo", "here"]
theorem sc_is_beneath : FnScope N_is_beneath ["shelf", "number", "folder"] (defScope s_is_beneath) := ⟨rfl, rfl, rfl, by decide +kernel, rfl, by decide +kernel, by decide +kernel⟩
theorem ok_is_beneath (T : Tx K mg base) : OkD P w K mg base d_is_beneath.at_ 1 ["shelf", "number", "folder"] (spBeneath K) := by
  refine okD_of T.F_is_beneath sc_is_beneath (fun _ _ _ _ _ _ us hl => match us, hl with | [_, _, _], _ => rfl) (fun vs H Q E h => ?_) (fun cdv A outer s H vs Q E hr h => ?_)
  · obtain ⟨p, R, A, G, k, n, f, rfl, _⟩ := h
    rfl
  · obtain ⟨p, R, A, G, k0, n, f, rfl, hOn, ht, hrk, hnm, hE, k⟩ := h
    have hu := hu_of hr
    refine ⟨_, (pss_cons (ps_set (i := 3) sc_is_beneath.nd rfl (by first | exact Or.inl rfl | exact Or.inr rfl) (pe_lst (pa_cons (pv 1) pa_nil)))
      (pss_cons (ps_while PassesOwn.never (pt_cmpR op_gt (pe_callB call_len_seq (by rfl) T.z_len (show bootBuiltins "len" = some (.builtin "len") by decide +kernel) (pa_cons (pv 3) pa_nil)) pe_int (nomark _)) (pss_cons (ps_set (i := 4) sc_is_beneath.nd rfl (by first | exact Or.inl rfl | exact Or.inr rfl) (pe_bm0 PySem.F.plainAttrs_list PySem.F.slot_list_pop PySem.F.type_list_pop mt_pop (pv 3)))
      (pss_cons (ps_if (pt_cmpR op_eq (pv 4) (pv 2) (nomark _)) (pss_one (ps_ret pe_bl)) pss_nil)
      (pss_one (ps_expr (pe_bm PySem.F.plainAttrs_list PySem.F.slot_list_extend PySem.F.type_list_extend mt_extend (pv 3) (pa_cons (pe_listValues rfl (pe_dget2 hu (pe_fldK K (pv 0) rfl) (pv 4) pe_dnewK ⟨rfl, rfl, rfl, rfl⟩) (by rfl) T.z_list (by decide +kernel)) pa_nil)))))))
      (pss_one (ps_ret pe_bl)))), ?_⟩
    refine ⟨_, rfl, zl rfl, fun tq htq => ?_⟩
    obtain ⟨H1, hH1⟩ : ∃ z, z = upd H tq (.lst [.int n]) := ⟨_, rfl⟩
    rw [← hH1]
    have at_tq : H1 tq = some (.lst [.int n]) := by rw [hH1, upd_same]
    have s_H1 : Same H H1 := by rw [hH1]; exact same_new htq
    clear hH1
    have hEl : (edges A n).length ≤ 3001 := by unfold edges; rw [List.length_cons]; omega
    have S0 : PathS A n f [] [(rootE n, [])] [] := by
      refine ⟨by simp, fun e he => ?_, fun e he => ?_, fun i hi => ?_, (fun f hf => nomatch hf), Nat.le_refl _, fun q => ?_, by simp, (fun e he => nomatch he), (fun e he => nomatch he)⟩
      · simp at he; rw [he]; exact List.mem_cons_self
      · simp at he; rw [he]; exact .inl rfl
      · simp at hi; rw [hi]; exact ⟨.nil, (fun a ha => nomatch ha), Nat.le_refl _⟩
      · obtain ⟨e, he, _⟩ := q; cases he
    refine ⟨fun m σ H' => ∃ PR T x, σ = [some (.ref p), some (.int n), some (.int f), some (.ref tq), x] ∧ PathS A n f PR T [] ∧ m + PR.length = (edges A n).length ∧ Same H H' ∧ H' tq = some (.lst (T.map fun i : Item => V.int i.1.2.2)),
      ⟨(edges A n).length, [], [(rootE n, [])], _, rfl, S0, by simp, s_H1, at_tq⟩, ?_⟩
    rintro m σ H3 ⟨PR, T, _, rfl, S, hm, s3, t3⟩
    have hle := pathS_le S
    refine ⟨_, rfl, _, _, rfl, .inl (SqL.of t3), _, _, rfl, rfl, _, rfl, ite2 (fun h1 => ?_) (fun h1 => ?_)⟩
    · obtain ⟨T', i, rfl⟩ : ∃ T' i, T = T' ++ [i] := by
        have hne : T ≠ [] := fun z => by rw [z] at h1; exact absurd h1 (by decide)
        exact ⟨T.dropLast, T.getLast hne, (List.dropLast_concat_getLast hne).symm⟩
      rw [List.length_append, List.length_singleton] at hle
      refine ⟨fun σ' H' => ∃ m', m' < m ∧ ∃ PR T x, σ' = [some (.ref p), some (.int n), some (.int f), some (.ref tq), x] ∧ PathS A n f PR T [] ∧ m' + PR.length = (edges A n).length ∧ Same H H' ∧ H' tq = some (.lst (T.map fun i : Item => V.int i.1.2.2)), fun σ' H' h => h, ?_⟩
      rw [List.map_append] at t3
      refine ⟨_, rfl, tyL (SqL.of t3), _, _, _, rfl, rfl, t3, last_at _ _, ?_⟩
      rw [List.map_singleton, List.dropLast_concat]
      obtain ⟨H4, hH4⟩ : ∃ z, z = upd H3 tq (.lst (T'.map fun i : Item => V.int i.1.2.2)) := ⟨_, rfl⟩
      rw [← hH4]
      have t4 : H4 tq = some (.lst (T'.map fun i : Item => V.int i.1.2.2)) := by rw [hH4, upd_same]
      have s4 : Same H H4 := by rw [hH4]; exact Same.off s3 htq
      clear hH4
      refine ⟨_, rfl, _, rfl, rfl, _, rfl, ite2 (fun h2 => k true H4 s4 (fun z => by cases z)) (fun h2 => ?_)⟩
      have hne : ¬ i.1.2.2 = f := fun z => h2 (decide_eq_true (congrArg V.int z))
      have hOn4 := hOn.same s4
      obtain ⟨dx, d, e, gs, hi4, hA, _⟩ := hOn4
      refine ⟨_, rfl, tyL (SqL.of t4), _, rfl, _, _, _, _, _, rfl, hi4, T.c_Shelf, T.n_Shelf_folders, rfl, _, rfl, .inl ⟨_, .inl hA.dict⟩, _, rfl, fun p5 hp5 => ?_⟩
      obtain ⟨H5, hH5⟩ : ∃ z, z = upd H4 p5 (.dK []) := ⟨_, rfl⟩
      rw [← hH5]
      have at_p5 : H5 p5 = some (.dK []) := by rw [hH5, upd_same]
      have s_H5 : Same H4 H5 := by rw [hH5]; exact same_new hp5
      clear hH5
      have hd5 := s_H5 _ _ hA.dict
      obtain ⟨adr, es, hv, hrd, hen, hnd, hkey⟩ : ∃ adr es, (valV (fKV A) (Sum.inl i.1.2.2)).getD (.ref p5) = .ref adr ∧ Rd H5 adr (.dK (dkI es)) ∧ (∀ a m, enA A i.1.2.2 a m ↔ (a, m) ∈ es) ∧ (es.map (·.1)).Nodup ∧ (es ≠ [] → i.1.2.2 ∈ keysA A) := by
        by_cases q : i.1.2.2 ∈ keysA A
        · obtain ⟨adr, es, hmm⟩ := fA_mem q
          exact ⟨adr, es, by rw [hA.get hmm]; rfl, .inl (s_H5 _ _ (hA.inner _ hmm)), fun a m => hA.en hmm, hA.names _ hmm, fun _ => q⟩
        · refine ⟨p5, [], by rw [fKV_none.mpr q]; rfl, .inl at_p5, fun a m => ⟨fun z => absurd (enA_key z) q, fun z => (nomatch z)⟩, .nil, fun z => absurd rfl z⟩
      refine ⟨_, .inl ⟨_, .inl i.1.2.2, .inl hd5, rfl, rfl⟩, adr, dkI es, hv, hrd, fun p6 hp6 => ?_⟩
      have S2 := pathS_step ht (no_back hrk) S rfl hen hnd (fun e he => hnm _ _ _ ((hen e.1 e.2).mpr he)) (by rw [if_neg hne]) hkey
      have hle2 := pathS_le S2
      rw [List.length_append, List.length_append, List.length_singleton] at hle2
      have hkl : (kids i.1.2.2 i.2 es).length = es.length := List.length_map _
      have s6 : Same H5 (upd H5 p6 (.lst ((dkI es).map (·.2)))) := same_new hp6
      refine ⟨_, _, _, _, rfl, rfl, s6 _ _ (s_H5 _ _ t4), upd_same .., sl' (by rw [List.length_map, List.length_map, dkI_len]; omega), ?_⟩
      refine ⟨m - 1, by omega, PR ++ [i.1], T' ++ kids i.1.2.2 i.2 es, _, rfl, S2, by rw [List.length_append, List.length_singleton]; omega, Same.off ((s4.trans s_H5).trans s6) htq, ?_⟩
      rw [upd_same, List.map_append]
      simp [kids, dkI]
    · have hT : T = [] := by
        cases T with
        | nil => rfl
        | cons a l => exact absurd (by simp) h1
      subst hT
      exact k false H3 s3 (fun _ ns hw => pathS_end S hw rfl)
abbrev N_nodes_fault : List Str := ["shelf", "folders", "files", "number"]
theorem sc_nodes_fault : FnScope N_nodes_fault ["shelf", "folders", "files"] (defScope s_nodes_fault) := ⟨rfl, rfl, rfl, by decide +kernel, rfl, by decide +kernel, by decide +kernel⟩
theorem ok_nodes_fault (T : Tx K mg base) : OkD P w K mg base d_nodes_fault.at_ 2 ["shelf", "folders", "files"] (spNodesFault K) := by
  have G_Shelf_is_node := ok_Shelf_is_node (P := P) (w := w) T
  refine okD_of T.F_nodes_fault sc_nodes_fault (fun _ _ _ _ _ _ us hl => match us, hl with | [_, _, _], _ => rfl) (fun vs H Q E h => ?_) (fun cdv A outer s H vs Q E hr h => ?_)
  · obtain ⟨p, q1, q2, R, A, G, k, fs, gs, rfl, _⟩ := h
    rfl
  · obtain ⟨p, q1, q2, R, A, G, k0, fs, gs, rfl, hOn, h1, h2, hl1, hl2, k⟩ := h
    have hu := hu_of hr
    refine ⟨_, (pss_cons (ps_if (pt_not (pt_val (pe_callB (cr_all rfl) (by rfl) T.z_all (show bootBuiltins "all" = some (.builtin "all") by decide +kernel) (pa_cons (pe_lc (own := [("number", 3)]) rfl sc_nodes_fault.nd (pi_list (pe_op op_cat (pv 1) (pv 2))) (blkOk_by (N := N_nodes_fault) (sc := defScope s_nodes_fault) (by decide +kernel)) (fun _ _ _ _ _ => (pg_name (i := 3) sc_nodes_fault.nd rfl (Or.inl rfl))) (fun _ _ _ _ _ => pts_nil) (fun _ _ _ _ _ => (pe_methO G_Shelf_is_node hr (by decide) T.c_Shelf T.m_Shelf_is_node (pv 0) (pa_cons (pv 3) pa_nil)))) pa_nil)))) (pss_one (ps_ret pe_str)) pss_nil)
      (pss_cons (ps_if (PW.pt (pw_or (pt_not (pt_val (pe_callB (cr_all rfl) (by rfl) T.z_all (show bootBuiltins "all" = some (.builtin "all") by decide +kernel) (pa_cons (pe_lc (own := [("number", 3)]) rfl sc_nodes_fault.nd (pi_list (pv 1)) (blkOk_by (N := N_nodes_fault) (sc := defScope s_nodes_fault) (by decide +kernel)) (fun _ _ _ _ _ => (pg_name (i := 3) sc_nodes_fault.nd rfl (Or.inl rfl))) (fun _ _ _ _ _ => pts_nil) (fun _ _ _ _ _ => (pe_cmp (pc_din hu (pv 3) (pe_fldK K (pv 0) rfl)) rfl))) pa_nil)))) (pw_or1 (pt_not (pt_val (pe_callB (cr_all rfl) (by rfl) T.z_all (show bootBuiltins "all" = some (.builtin "all") by decide +kernel) (pa_cons (pe_lc (own := [("number", 3)]) rfl sc_nodes_fault.nd (pi_list (pv 2)) (blkOk_by (N := N_nodes_fault) (sc := defScope s_nodes_fault) (by decide +kernel)) (fun _ _ _ _ _ => (pg_name (i := 3) sc_nodes_fault.nd rfl (Or.inl rfl))) (fun _ _ _ _ _ => pts_nil) (fun _ _ _ _ _ => (pe_cmp (pc_din hu (pv 3) (pe_fldK K (pv 0) rfl)) rfl))) pa_nil))))))) (pss_one (ps_ret pe_str)) pss_nil)
      (pss_one (ps_ret pe_str)))), ?_⟩
    refine ⟨_, rfl, _, rfl, _, _, _, _, rfl, rfl, h1, h2, sl' (by simp; omega), fun p1 hp1 => ?_⟩
    rw [← List.map_append]
    obtain ⟨H1, hH1⟩ : ∃ z, z = upd H p1 (.lst ((fs ++ gs).map V.int)) := ⟨_, rfl⟩
    rw [← hH1]
    have at_p1 : H1 p1 = some (.lst ((fs ++ gs).map V.int)) := by rw [hH1, upd_same]
    have s_H1 : Same H H1 := by rw [hH1]; exact same_new hp1
    clear hH1
    have hi := hOn
    obtain ⟨dx, d, e, gsk, hi, hA, he, hG, _⟩ := hi
    refine ⟨_, rfl, ⟨_, SqL.of at_p1⟩, fun D hD => lc_rel walk_list (fs ++ gs) (by simp) (fun n => some (decide (n ∈ keysA A ∨ n ∈ G.map (·.1)))) (fun _ v b => v = .bl b) (fun _ _ _ _ _ q => q) hD (fun _ s => SqL.of (s _ _ at_p1)) ?_ ?_⟩
    · rintro i n v H2 H' hn pv s2 ⟨rfl, hv⟩
      rw [List.getElem?_map, hn] at hv
      obtain rfl := Option.some.inj hv
      have hOn2 := hOn.same (s_H1.trans s2)
      have hi2 := hOn2
      obtain ⟨_, _, _, _, hi2, _⟩ := hi2
      exact ⟨rfl, tyes ⟨_, rfl, _, _, _, rfl, hi2, rfl, _, rfl, p, R, A, G, k0, n, rfl, hOn2, pv.yes (fun _ _ _ _ _ q => q) hD (by simp; omega) hn (Same.refl _) rfl rfl⟩⟩
    intro H2 ys s2 hD2 hys
    obtain rfl := paired_map hys
    have sH2 := s_H1.trans s2
    refine ⟨_, _, rfl, SqL.of hD2, _, rfl, ite2 (fun _ => k _ _ sH2 (fun z => absurd z (by decide))) (fun _ => ?_)⟩
    refine ⟨_, rfl, _, rfl, ⟨_, SqL.of (sH2 _ _ h1)⟩, fun D2 hD2' => lc_rel walk_list fs (by simp) (fun n => some (decide (n ∈ keysA A))) (fun _ v b => v = .bl b) (fun _ _ _ _ _ q => q) hD2' (fun _ s => SqL.of (s _ _ (sH2 _ _ h1))) ?_ ?_⟩
    · rintro i n v H3 H' hn pv s3 ⟨rfl, hv⟩
      rw [List.getElem?_map, hn] at hv
      obtain rfl := Option.some.inj hv
      have sH3 := sH2.trans s3
      refine ⟨rfl, tyes ⟨_, rfl, _, rfl, _, _, _, _, _, rfl, sH3 _ _ hi, T.c_Shelf, T.n_Shelf_folders, rfl, _, _, rfl, .inl ⟨_, .inl n, .inl (sH3 _ _ hA.dict), rfl, rfl⟩, ?_⟩⟩
      rw [fKV_some]
      exact pv.yes (fun _ _ _ _ _ q => q) hD2' (by omega) hn (Same.refl _) rfl rfl
    intro H3 ys s3 hD3 hys3
    obtain rfl := paired_map hys3
    rw [filterMap_some] at hD3
    have sH3 := sH2.trans s3
    refine ⟨_, _, rfl, SqL.of hD3, _, rfl, ite2 (fun _ => ?_) (fun hf => ?_)⟩
    · refine (?_ : if true = true then _ else _)
      rw [if_pos rfl]
      exact k _ _ sH3 (fun z => absurd z (by decide))
    · have hfk : ∀ n ∈ fs, n ∈ keysA A := by
        have h3 : ((fs.map fun n => decide (n ∈ keysA A)).all id) = true := by
          cases q : (fs.map fun n => decide (n ∈ keysA A)).all id with
          | true => rfl
          | false => exact absurd (by rw [q]; rfl) hf
        intro n hn
        have := List.all_eq_true.mp h3 _ (List.mem_map.mpr ⟨n, hn, rfl⟩)
        simpa using this
      refine ⟨_, rfl, _, rfl, ⟨_, SqL.of (sH3 _ _ h2)⟩, fun D4 hD4 => lc_rel walk_list gs (by simp) (fun n => some (decide (n ∈ G.map (·.1)))) (fun _ v b => v = .bl b) (fun _ _ _ _ _ q => q) hD4 (fun _ s => SqL.of (s _ _ (sH3 _ _ h2))) ?_ ?_⟩
      · rintro i n v H4 H' hn pv s4 ⟨rfl, hv⟩
        rw [List.getElem?_map, hn] at hv
        obtain rfl := Option.some.inj hv
        have sH4 := sH3.trans s4
        refine ⟨rfl, tyes ⟨_, rfl, _, rfl, _, _, _, _, _, rfl, sH4 _ _ hi, T.c_Shelf, T.n_Shelf_files, rfl, _, _, rfl, .inl ⟨_, .inl n, .inl (sH4 _ _ he), rfl, rfl⟩, ?_⟩⟩
        rw [hG.isSome]
        exact pv.yes (fun _ _ _ _ _ q => q) hD4 (by omega) hn (Same.refl _) rfl rfl
      intro H4 ys s4 hD4' hys4
      obtain rfl := paired_map hys4
      rw [filterMap_some] at hD4'
      refine ⟨_, _, rfl, SqL.of hD4', _, rfl, ite2 (fun _ => k _ _ (sH3.trans s4) (fun z => absurd z (by decide))) (fun hg => k _ _ (sH3.trans s4) fun _ => ⟨hfk, ?_⟩)⟩
      have h3 : ((gs.map fun n => decide (n ∈ G.map (·.1))).all id) = true := by
        cases q : (gs.map fun n => decide (n ∈ G.map (·.1))).all id with
        | true => rfl
        | false => exact absurd (by rw [q]; rfl) hg
      intro n hn
      have := List.all_eq_true.mp h3 _ (List.mem_map.mpr ⟨n, hn, rfl⟩)
      simpa using this
end
end K81
set_option maxHeartbeats 4000000
namespace K81
open PySem PySem.Spec PyProof.Rows L2
inductive Deed where
  | make (w : Int) (a : Str)
  | fold (w : Int) (a : Str)
  | link (w : Int) (a : Str) (n : Int)
  | drop (w : Int) (a : Str)
  | move (w : Int) (a : Str) (g : Int) (b : Str)
  | put (n v : Int)
def deedL : Deed → List V
  | .make w a => [.str "make", .int w, .str a, .str "some"]
  | .fold w a => [.str "fold", .int w, .str a]
  | .link w a n => [.str "link", .int w, .str a, .int n]
  | .drop w a => [.str "drop", .int w, .str a]
  | .move w a g b => [.str "move", .int w, .str a, .int g, .str b]
  | .put n v => [.str "put", .int n, .int v, .str "else"]
def deedOk : Deed → Prop
  | .make _ a => a.length ≤ 1000
  | .fold _ a => a.length ≤ 1000
  | .link _ a _ => a.length ≤ 1000
  | .drop _ a => a.length ≤ 1000
  | .move _ a _ b => a.length ≤ 1000 ∧ b.length ≤ 1000
  | .put _ _ => True
/-- what the program asks of a deed -/
def Legal (A : FAt) (G : List (Int × Int × Str)) : Deed → Prop
  | .make w a => isName a = true ∧ w ∈ keysA A ∧ ∀ m, ¬ enA A w a m
  | .fold w a => isName a = true ∧ w ∈ keysA A ∧ ∀ m, ¬ enA A w a m
  | .link w a n => isName a = true ∧ w ∈ keysA A ∧ (∀ m, ¬ enA A w a m) ∧ n ∈ G.map (·.1)
  | .drop w a => ∃ n, enA A w a n ∧ n ≠ 1 ∧ (n ∈ keysA A → ∀ b m, ¬ enA A n b m)
  | .move w a g b => isName b = true ∧ g ∈ keysA A ∧ (∃ n, enA A w a n ∧ n ≠ 1 ∧ ∀ ns, ¬ Way A n ns g) ∧ ∀ m, ¬ enA A g b m
  | .put n _ => n ∈ G.map (·.1)
def spNewFault (K : PySem.W.Frag) : Sp := fun vs H Q _ => ∃ (p q : Addr) (R : Hp) (A : FAt) (G : List (Int × Int × Str)) (k w : Int) (a : Str) (gs : List Int), vs = [.ref p, .int w, .str a, .ref q] ∧ On K R H (He.ga K "Shelf") p (lastF k) A G ∧ H q = some (.lst (gs.map V.int)) ∧ gs.length ≤ 10 ∧ a.length ≤ 1000 ∧
  ∀ (z : Str) H', Same H H' → (z = "" → isName a = true ∧ w ∈ keysA A ∧ (∀ m, ¬ enA A w a m) ∧ ∀ n ∈ gs, n ∈ G.map (·.1)) → Q (.str z) H'
def spDropFault (K : PySem.W.Frag) : Sp := fun vs H Q _ => ∃ (p : Addr) (R : Hp) (A : FAt) (G : List (Int × Int × Str)) (k w : Int) (a : Str), vs = [.ref p, .int w, .str a] ∧ On K R H (He.ga K "Shelf") p (lastF k) A G ∧ a.length ≤ 1000 ∧
  ∀ (z : Str) H', Same H H' → (z = "" → Legal A G (.drop w a)) → Q (.str z) H'
def spMoveFault (K : PySem.W.Frag) : Sp := fun vs H Q _ => ∃ (p : Addr) (R : Hp) (A : FAt) (G : List (Int × Int × Str)) (k w g : Int) (a b : Str), vs = [.ref p, .int w, .str a, .int g, .str b] ∧ On K R H (He.ga K "Shelf") p (lastF k) A G ∧ a.length ≤ 1000 ∧ b.length ≤ 1000 ∧ Tree A ∧ Ranked A ∧ (∀ w a m, enA A w a m → isName a = true) ∧ (flat (plainF A)).length ≤ 3000 ∧
  ∀ (z : Str) H', Same H H' → (z = "" → Legal A G (.move w a g b)) → Q (.str z) H'
def spPutFault (K : PySem.W.Frag) : Sp := fun vs H Q _ => ∃ (p : Addr) (R : Hp) (A : FAt) (G : List (Int × Int × Str)) (k n v : Int) (c : Str), vs = [.ref p, .int n, .int v, .str c] ∧ On K R H (He.ga K "Shelf") p (lastF k) A G ∧ c.length ≤ 1000 ∧
  ∀ (z : Str) H', Same H H' → (z = "" → n ∈ G.map (·.1)) → Q (.str z) H'
def spFaultOf (K : PySem.W.Frag) : Sp := fun vs H Q _ => ∃ (p q : Addr) (R : Hp) (A : FAt) (G : List (Int × Int × Str)) (k : Int) (dd : Deed), vs = [.ref p, .ref q] ∧ On K R H (He.ga K "Shelf") p (lastF k) A G ∧ SqT K H q (deedL dd) ∧ deedOk dd ∧ Tree A ∧ Ranked A ∧ (∀ w a m, enA A w a m → isName a = true) ∧ (flat (plainF A)).length ≤ 3000 ∧
  ∀ (z : Str) H', Same H H' → (z = "" → Legal A G dd) → Q (.str z) H'
theorem str_eq_dec {a b : Str} : decide (V.str a = V.str b) = decide (a = b) := by
  by_cases h : a = b
  · subst h; simp
  · simp [h]
section
variable {P : Program} {w : World} {K : PySem.W.Frag} {mg : Str → Option Value} {base : Heap}
abbrev N_new_fault : List Str := ["shelf", "folder", "name", "files", "fault"]
theorem sc_new_fault : FnScope N_new_fault ["shelf", "folder", "name", "files"] (defScope s_new_fault) := ⟨rfl, rfl, rfl, by decide +kernel, rfl, by decide +kernel, by decide +kernel⟩
theorem ok_new_fault (T : Tx K mg base) : OkD P w K mg base d_new_fault.at_ 3 ["shelf", "folder", "name", "files"] (spNewFault K) := by
  have G_nodes_fault := ok_nodes_fault (P := P) (w := w) T
  have G_is_name := ok_is_name (P := P) (w := w) T
  have G_Shelf_entry := ok_Shelf_entry (P := P) (w := w) T
  refine okD_of T.F_new_fault sc_new_fault (fun _ _ _ _ _ _ us hl => match us, hl with | [_, _, _, _], _ => rfl) (fun vs H Q E h => ?_) (fun cdv A outer s H vs Q E hr h => ?_)
  · obtain ⟨p, q, R, A, G, k, w, a, gs, rfl, _⟩ := h
    rfl
  · obtain ⟨p, q, R, A, G, k0, w', a, gs, rfl, hOn, hq, hgl, hal, k⟩ := h
    have hu := hu_of hr
    refine ⟨_, (pss_cons (ps_if (pt_not (pt_val (pe_callO G_is_name hr (by decide) T.g_is_name (pa_cons (pv 2) pa_nil)))) (pss_one (ps_ret pe_str)) pss_nil)
      (pss_cons (ps_set (i := 4) sc_new_fault.nd rfl (by first | exact Or.inl rfl | exact Or.inr rfl) (pe_callO G_nodes_fault hr (by decide) T.g_nodes_fault (pa_cons (pv 0) (pa_cons (pe_lst (pa_cons (pv 1) pa_nil)) (pa_cons (pv 3) pa_nil)))))
      (pss_cons (ps_if (PW.pt (pw_and (pt_cmpR op_eq (pv 4) pe_str (nomark _)) (pw_and1 (pt_cmp (pc_notN (pe_methO G_Shelf_entry hr (by decide) T.c_Shelf T.m_Shelf_entry (pv 0) (pa_cons (pv 1) (pa_cons (pv 2) pa_nil)))))))) (pss_one (ps_ret pe_str)) pss_nil)
      (pss_one (ps_ret (pv 4)))))), ?_⟩
    refine ⟨_, rfl, a, rfl, sl' (by omega), fun H1 s1 => ⟨_, rfl, ite2 (fun _ => k _ _ s1 (fun z => absurd z (by decide))) (fun h1 => ?_)⟩⟩
    have hna : isName a = true := by
      cases q : isName a with
      | true => rfl
      | false => exact absurd (by rw [q]; rfl) h1
    refine ⟨_, rfl, _, rfl, zl rfl, fun p2 hp2 => ?_⟩
    obtain ⟨H2, hH2⟩ : ∃ z, z = upd H1 p2 (.lst [.int w']) := ⟨_, rfl⟩
    rw [← hH2]
    have at_p2 : H2 p2 = some (.lst [.int w']) := by rw [hH2, upd_same]
    have s_H2 : Same H1 H2 := by rw [hH2]; exact same_new hp2
    clear hH2
    have s2 := s1.trans s_H2
    refine ⟨_, rfl, p, p2, q, R, A, G, k0, [w'], gs, rfl, hOn.same s2, at_p2, s2 _ _ hq, (show 1 ≤ 10 by decide), hgl, fun z H3 s3 hz => ?_⟩
    have sH3 := s2.trans s3
    refine ⟨_, rfl, rfl, _, rfl, ite2 (fun h2 => ?_) (fun h2 => ?_)⟩
    · have hz0 : z = "" := V.str.inj (of_decide_eq_true h2)
      obtain ⟨hw, hg⟩ := hz hz0
      have hwk := hw w' (by simp)
      have hOn3 := hOn.same sH3
      have hi3 := hOn3
      obtain ⟨_, _, _, _, hi3, _⟩ := hi3
      refine ⟨_, rfl, _, _, _, rfl, hi3, rfl, _, rfl, _, rfl, p, R, A, G, k0, w', a, rfl, hOn3, hwk, fun n hn => ⟨_, rfl, ite2 (fun _ => k _ _ sH3 (fun z => absurd z (by decide))) (fun h3 => absurd (by simp) h3)⟩, fun hno => ⟨_, rfl, ite2 (fun h3 => absurd h3 (by simp)) (fun _ => ⟨_, rfl, k z H3 sH3 fun _ => ⟨hna, hwk, hno, hg⟩⟩)⟩⟩
    · exact iteF ⟨_, rfl, k z H3 sH3 fun z0 => absurd (by rw [z0]; rfl) h2⟩
abbrev N_drop_fault : List Str := ["shelf", "folder", "name", "fault", "number"]
theorem sc_drop_fault : FnScope N_drop_fault ["shelf", "folder", "name"] (defScope s_drop_fault) := ⟨rfl, rfl, rfl, by decide +kernel, rfl, by decide +kernel, by decide +kernel⟩
theorem ok_drop_fault (T : Tx K mg base) : OkD P w K mg base d_drop_fault.at_ 3 ["shelf", "folder", "name"] (spDropFault K) := by
  have G_nodes_fault := ok_nodes_fault (P := P) (w := w) T
  have G_Shelf_entry := ok_Shelf_entry (P := P) (w := w) T
  have G_is_name := ok_is_name (P := P) (w := w) T
  refine okD_of T.F_drop_fault sc_drop_fault (fun _ _ _ _ _ _ us hl => match us, hl with | [_, _, _], _ => rfl) (fun vs H Q E h => ?_) (fun cdv A outer s H vs Q E hr h => ?_)
  · obtain ⟨p, R, A, G, k, w, a, rfl, _⟩ := h
    rfl
  · obtain ⟨p, R, A, G, k0, w', a, rfl, hOn, hal, k⟩ := h
    have hu := hu_of hr
    refine ⟨_, (pss_cons (ps_if (pt_not (pt_val (pe_callO G_is_name hr (by decide) T.g_is_name (pa_cons (pv 2) pa_nil)))) (pss_one (ps_ret pe_str)) pss_nil)
      (pss_cons (ps_set (i := 3) sc_drop_fault.nd rfl (by first | exact Or.inl rfl | exact Or.inr rfl) (pe_callO G_nodes_fault hr (by decide) T.g_nodes_fault (pa_cons (pv 0) (pa_cons (pe_lst (pa_cons (pv 1) pa_nil)) (pa_cons (pe_lst pa_nil) pa_nil)))))
      (pss_cons (ps_if (pt_cmpR op_ne (pv 3) pe_str (nomark _)) (pss_one (ps_ret (pv 3))) pss_nil)
      (pss_cons (ps_set (i := 4) sc_drop_fault.nd rfl (by first | exact Or.inl rfl | exact Or.inr rfl) (pe_methO G_Shelf_entry hr (by decide) T.c_Shelf T.m_Shelf_entry (pv 0) (pa_cons (pv 1) (pa_cons (pv 2) pa_nil))))
      (pss_cons (ps_if (pt_cmp (pc_isN (pv 4))) (pss_one (ps_ret pe_str)) pss_nil)
      (pss_cons (ps_if (pt_cmpR op_eq (pv 4) (pe_gint T.i_CLASH_shelf) (nomark _)) (pss_one (ps_ret pe_str)) pss_nil)
      (pss_cons (ps_if (pt_cmpR op_gt (pe_callB call_lenD (by rfl) T.z_len (show bootBuiltins "len" = some (.builtin "len") by decide +kernel) (pa_cons (pe_dget2 hu (pe_fldK K (pv 0) rfl) (pv 4) pe_dnewK ⟨rfl, rfl, rfl, rfl⟩) pa_nil)) pe_int (nomark _)) (pss_one (ps_ret pe_str)) pss_nil)
      (pss_one (ps_ret pe_str))))))))), ?_⟩
    refine ⟨_, rfl, a, rfl, sl' (by omega), fun H1 s1 => ⟨_, rfl, ite2 (fun _ => k _ _ s1 (fun z => absurd z (by decide))) (fun h1 => ?_)⟩⟩
    refine ⟨_, rfl, _, rfl, zl rfl, fun p2 hp2 => ?_⟩
    obtain ⟨H2, hH2⟩ : ∃ z, z = upd H1 p2 (.lst [.int w']) := ⟨_, rfl⟩
    rw [← hH2]
    have at_p2 : H2 p2 = some (.lst [.int w']) := by rw [hH2, upd_same]
    have s_H2 : Same H1 H2 := by rw [hH2]; exact same_new hp2
    clear hH2
    refine ⟨zl rfl, fun p3 hp3 => ?_⟩
    obtain ⟨H3, hH3⟩ : ∃ z, z = upd H2 p3 (.lst []) := ⟨_, rfl⟩
    rw [← hH3]
    have at_p3 : H3 p3 = some (.lst []) := by rw [hH3, upd_same]
    have s_H3 : Same H2 H3 := by rw [hH3]; exact same_new hp3
    clear hH3
    have s3 := (s1.trans s_H2).trans s_H3
    refine ⟨p, p2, p3, R, A, G, k0, [w'], [], rfl, hOn.same s3, s_H3 _ _ at_p2, at_p3, (show 1 ≤ 10 by decide), (show 0 ≤ 10 by decide), fun z H4 s4 hz => ?_⟩
    have sH4 := s3.trans s4
    refine ⟨_, rfl, rfl, _, rfl, ite2 (fun h2 => ?_) (fun h2 => ?_)⟩
    · refine ⟨_, rfl, k z H4 sH4 fun z0 => ?_⟩
      rw [z0] at h2; exact absurd h2 (by decide)
    have hz0 : z = "" := Classical.byContradiction fun q => h2 (by simp [q])
    have hwk := (hz hz0).1 w' (by simp)
    have hOn4 := hOn.same sH4
    have hi4 := hOn4
    obtain ⟨_, d, _, _, hi4, hA, _⟩ := hi4
    refine ⟨_, rfl, _, _, _, rfl, hi4, rfl, _, rfl, _, rfl, p, R, A, G, k0, w', a, rfl, hOn4, hwk, fun n hn => ?_, fun hno => ?_⟩
    · refine ⟨_, rfl, _, rfl, ite2 (fun z => absurd z (by simp)) (fun _ => ?_)⟩
      refine ⟨_, rfl, rfl, _, rfl, ite2 (fun _ => k _ _ sH4 (fun z => absurd z (by decide))) (fun h3 => ?_)⟩
      have hn1 : n ≠ 1 := fun z => h3 (decide_eq_true (congrArg V.int z))
      refine ⟨_, rfl, _, _, _, _, _, rfl, hi4, T.c_Shelf, T.n_Shelf_folders, rfl, _, rfl, .inl ⟨_, .inl hA.dict⟩, _, rfl, fun p5 hp5 => ?_⟩
      obtain ⟨H5, hH5⟩ : ∃ z, z = upd H4 p5 (.dK []) := ⟨_, rfl⟩
      rw [← hH5]
      have at_p5 : H5 p5 = some (.dK []) := by rw [hH5, upd_same]
      have s_H5 : Same H4 H5 := by rw [hH5]; exact same_new hp5
      clear hH5
      have sH5 := sH4.trans s_H5
      obtain ⟨adr, es, hv, hrd, hen⟩ : ∃ adr es, (valV (fKV A) (Sum.inl n)).getD (.ref p5) = .ref adr ∧ H5 adr = some (.dK (dkI es)) ∧ (n ∈ keysA A → ∀ a m, enA A n a m ↔ (a, m) ∈ es) := by
        by_cases q : n ∈ keysA A
        · obtain ⟨adr, es, hmm⟩ := fA_mem q
          exact ⟨adr, es, by rw [hA.get hmm]; rfl, s_H5 _ _ (hA.inner _ hmm), fun _ a m => hA.en hmm⟩
        · exact ⟨p5, [], by rw [fKV_none.mpr q]; rfl, at_p5, fun z => absurd z q⟩
      refine ⟨_, .inl ⟨_, .inl n, .inl (s_H5 _ _ hA.dict), rfl, rfl⟩, adr, dkI es, (by rw [hv]), hrd, _, _, rfl, rfl, _, rfl, ite2 (fun _ => k _ _ sH5 (fun z => absurd z (by decide))) (fun h5 => k _ _ sH5 fun _ => ⟨n, hn, hn1, fun hk b m hbm => ?_⟩)⟩
      have := (hen hk b m).mp hbm
      cases es with
      | nil => cases this
      | cons x y => exact h5 (by simp [dkI] <;> omega)
    · exact ⟨_, rfl, _, rfl, ite2 (fun _ => k _ _ sH4 (fun z => absurd z (by decide))) (fun z => absurd (by simp) z)⟩
abbrev N_move_fault : List Str := ["shelf", "folder", "name", "goal", "new", "fault", "number"]
theorem sc_move_fault : FnScope N_move_fault ["shelf", "folder", "name", "goal", "new"] (defScope s_move_fault) := ⟨rfl, rfl, rfl, by decide +kernel, rfl, by decide +kernel, by decide +kernel⟩
theorem ok_move_fault (T : Tx K mg base) : OkD P w K mg base d_move_fault.at_ 3 ["shelf", "folder", "name", "goal", "new"] (spMoveFault K) := by
  have G_nodes_fault := ok_nodes_fault (P := P) (w := w) T
  have G_Shelf_entry := ok_Shelf_entry (P := P) (w := w) T
  have G_is_beneath := ok_is_beneath (P := P) (w := w) T
  have G_is_name := ok_is_name (P := P) (w := w) T
  refine okD_of T.F_move_fault sc_move_fault (fun _ _ _ _ _ _ us hl => match us, hl with | [_, _, _, _, _], _ => rfl) (fun vs H Q E h => ?_) (fun cdv A outer s H vs Q E hr h => ?_)
  · obtain ⟨p, R, A, G, k, w, g, a, b, rfl, _⟩ := h
    rfl
  · obtain ⟨p, R, A, G, k0, w', g, a, b, rfl, hOn, hal, hbl, ht, hrk, hnm, hfl, k⟩ := h
    have hu := hu_of hr
    refine ⟨_, (Evl.pss_cut (ps_if (PW.pt (pw_or (pt_not (pt_val (pe_callO G_is_name hr (by decide) T.g_is_name (pa_cons (pv 2) pa_nil)))) (pw_or1 (pt_not (pt_val (pe_callO G_is_name hr (by decide) T.g_is_name (pa_cons (pv 4) pa_nil))))))) (pss_one (ps_ret pe_str)) pss_nil)
      (pss_cons (ps_set (i := 5) sc_move_fault.nd rfl (by first | exact Or.inl rfl | exact Or.inr rfl) (pe_callO G_nodes_fault hr (by decide) T.g_nodes_fault (pa_cons (pv 0) (pa_cons (pe_lst (pa_cons (pv 1) (pa_cons (pv 3) pa_nil))) (pa_cons (pe_lst pa_nil) pa_nil)))))
      (pss_cons (ps_if (pt_cmpR op_ne (pv 5) pe_str (nomark _)) (pss_one (ps_ret (pv 5))) pss_nil)
      (pss_cons (ps_set (i := 6) sc_move_fault.nd rfl (by first | exact Or.inl rfl | exact Or.inr rfl) (pe_methO G_Shelf_entry hr (by decide) T.c_Shelf T.m_Shelf_entry (pv 0) (pa_cons (pv 1) (pa_cons (pv 2) pa_nil))))
      (pss_cons (ps_if (pt_cmp (pc_isN (pv 6))) (pss_one (ps_ret pe_str)) pss_nil)
      (pss_cons (ps_if (pt_cmp (pc_notN (pe_methO G_Shelf_entry hr (by decide) T.c_Shelf T.m_Shelf_entry (pv 0) (pa_cons (pv 3) (pa_cons (pv 4) pa_nil))))) (pss_one (ps_ret pe_str)) pss_nil)
      (pss_cons (ps_if (pt_cmpR op_eq (pv 6) (pe_gint T.i_CLASH_shelf) (nomark _)) (pss_one (ps_ret pe_str)) pss_nil)
      (pss_cons (ps_if (pt_val (pe_callO G_is_beneath hr (by decide) T.g_is_beneath (pa_cons (pv 0) (pa_cons (pv 6) (pa_cons (pv 3) pa_nil))))) (pss_one (ps_ret pe_str)) pss_nil)
      (pss_one (ps_ret pe_str)))))))))), ?_⟩
    refine ⟨fun σ' H' => σ' = [some (.ref p), some (.int w'), some (.str a), some (.int g), some (.str b), none, none] ∧ Same H H' ∧ isName b = true, ?_, ?_⟩
    · refine ⟨_, rfl, a, rfl, sl' (by omega), fun H1 s1 => ⟨_, rfl, ite2 (fun _ => ?_) (fun _ => ?_)⟩⟩
      · refine (?_ : if true = true then _ else _)
        rw [if_pos rfl]
        exact k _ _ s1 (fun z => absurd z (by decide))
      · refine ⟨_, rfl, b, rfl, sl' (by omega), fun H2 s2 => ⟨_, rfl, ite2 (fun _ => k _ _ (s1.trans s2) (fun z => absurd z (by decide))) (fun h1 => ⟨rfl, s1.trans s2, ?_⟩)⟩⟩
        cases q : isName b with
        | true => rfl
        | false => exact absurd (by rw [q]; rfl) h1
    rintro _ H1 ⟨rfl, s1, hnb⟩
    refine ⟨_, rfl, _, rfl, _, rfl, zl rfl, fun p2 hp2 => ?_⟩
    obtain ⟨H2, hH2⟩ : ∃ z, z = upd H1 p2 (.lst [.int w', .int g]) := ⟨_, rfl⟩
    rw [← hH2]
    have at_p2 : H2 p2 = some (.lst [.int w', .int g]) := by rw [hH2, upd_same]
    have s_H2 : Same H1 H2 := by rw [hH2]; exact same_new hp2
    clear hH2
    refine ⟨zl rfl, fun p3 hp3 => ?_⟩
    obtain ⟨H3, hH3⟩ : ∃ z, z = upd H2 p3 (.lst []) := ⟨_, rfl⟩
    rw [← hH3]
    have at_p3 : H3 p3 = some (.lst []) := by rw [hH3, upd_same]
    have s_H3 : Same H2 H3 := by rw [hH3]; exact same_new hp3
    clear hH3
    have s3 := (s1.trans s_H2).trans s_H3
    refine ⟨p, p2, p3, R, A, G, k0, [w', g], [], rfl, hOn.same s3, s_H3 _ _ at_p2, at_p3, (show 2 ≤ 10 by decide), (show 0 ≤ 10 by decide), fun z H4 s4 hz => ?_⟩
    have sH4 := s3.trans s4
    refine ⟨_, rfl, rfl, _, rfl, ite2 (fun h2 => ?_) (fun h2 => ?_)⟩
    · refine ⟨_, rfl, k z H4 sH4 fun z0 => ?_⟩
      rw [z0] at h2; exact absurd h2 (by decide)
    have hz0 : z = "" := Classical.byContradiction fun q => h2 (by simp [q])
    have hwk := (hz hz0).1 w' (by simp)
    have hgk := (hz hz0).1 g (by simp)
    have hOn4 := hOn.same sH4
    have hi4 := hOn4
    obtain ⟨_, d, _, _, hi4, hA, _⟩ := hi4
    refine ⟨_, rfl, _, _, _, rfl, hi4, rfl, _, rfl, _, rfl, p, R, A, G, k0, w', a, rfl, hOn4, hwk, fun n hn => ?_, fun hno => ?_⟩
    · refine ⟨_, rfl, _, rfl, ite2 (fun z => absurd z (by simp)) (fun _ => ?_)⟩
      refine ⟨_, rfl, _, _, _, rfl, hi4, rfl, _, rfl, _, rfl, p, R, A, G, k0, g, b, rfl, hOn4, hgk, fun m hm => ⟨_, rfl, ite2 (fun _ => k _ _ sH4 (fun z => absurd z (by decide))) (fun z => absurd (by simp) z)⟩, fun hno => ⟨_, rfl, ite2 (fun z => absurd z (by simp)) (fun _ => ?_)⟩⟩
      refine ⟨_, rfl, rfl, _, rfl, ite2 (fun _ => k _ _ sH4 (fun z => absurd z (by decide))) (fun h3 => ?_)⟩
      have hn1 : n ≠ 1 := fun z => h3 (decide_eq_true (congrArg V.int z))
      refine ⟨_, rfl, _, rfl, _, rfl, p, R, A, G, k0, n, g, rfl, hOn4, ht, hrk, hnm, hfl, fun bb H5 s5 hb => ⟨_, rfl, ite2 (fun _ => k _ _ (sH4.trans s5) (fun z => absurd z (by decide))) (fun h5 => k _ _ (sH4.trans s5) fun _ => ⟨hnb, hgk, ⟨n, hn, hn1, hb ?_⟩, hno⟩)⟩⟩
      cases bb with
      | true => exact absurd rfl h5
      | false => rfl
    · exact ⟨_, rfl, _, rfl, ite2 (fun _ => k _ _ sH4 (fun z => absurd z (by decide))) (fun z => absurd (by simp) z)⟩
abbrev N_put_fault : List Str := ["shelf", "file", "version", "content", "fault"]
theorem sc_put_fault : FnScope N_put_fault ["shelf", "file", "version", "content"] (defScope s_put_fault) := ⟨rfl, rfl, rfl, by decide +kernel, rfl, by decide +kernel, by decide +kernel⟩
theorem ok_put_fault (T : Tx K mg base) : OkD P w K mg base d_put_fault.at_ 3 ["shelf", "file", "version", "content"] (spPutFault K) := by
  have G_nodes_fault := ok_nodes_fault (P := P) (w := w) T
  have G_is_content := ok_is_content (P := P) (w := w) T
  refine okD_of T.F_put_fault sc_put_fault (fun _ _ _ _ _ _ us hl => match us, hl with | [_, _, _, _], _ => rfl) (fun vs H Q E h => ?_) (fun cdv A outer s H vs Q E hr h => ?_)
  · obtain ⟨p, R, A, G, k, n, v, c, rfl, _⟩ := h
    rfl
  · obtain ⟨p, R, A, G, k0, n, v, c, rfl, hOn, hcl, k⟩ := h
    have hu := hu_of hr
    refine ⟨_, (pss_cons (ps_if (pt_not (pt_val (pe_callO G_is_content hr (by decide) T.g_is_content (pa_cons (pv 3) pa_nil)))) (pss_one (ps_ret pe_str)) pss_nil)
      (pss_cons (ps_set (i := 4) sc_put_fault.nd rfl (by first | exact Or.inl rfl | exact Or.inr rfl) (pe_callO G_nodes_fault hr (by decide) T.g_nodes_fault (pa_cons (pv 0) (pa_cons (pe_lst pa_nil) (pa_cons (pe_lst (pa_cons (pv 1) pa_nil)) pa_nil)))))
      (pss_cons (ps_if (PW.pt (pw_and (pt_cmpR op_eq (pv 4) pe_str (nomark _)) (pw_and1 (pt_cmpR op_ne (pe_ix (ix_tupK K) (pe_dget hu (pe_fldK K (pv 0) rfl) (pv 1) (fun _ _ => rfl)) pe_int (fun _ _ => rfl)) (pv 2) (nomark _))))) (pss_one (ps_ret pe_str)) pss_nil)
      (pss_one (ps_ret (pv 4)))))), ?_⟩
    refine ⟨_, rfl, c, rfl, sl' (by omega), fun b0 H1 s1 => ⟨_, rfl, ite2 (fun _ => k _ _ s1 (fun z => absurd z (by decide))) (fun h1 => ?_)⟩⟩
    refine ⟨_, rfl, zl rfl, fun p2 hp2 => ?_⟩
    obtain ⟨H2, hH2⟩ : ∃ z, z = upd H1 p2 (.lst []) := ⟨_, rfl⟩
    rw [← hH2]
    have at_p2 : H2 p2 = some (.lst []) := by rw [hH2, upd_same]
    have s_H2 : Same H1 H2 := by rw [hH2]; exact same_new hp2
    clear hH2
    refine ⟨_, rfl, zl rfl, fun p3 hp3 => ?_⟩
    obtain ⟨H3, hH3⟩ : ∃ z, z = upd H2 p3 (.lst [.int n]) := ⟨_, rfl⟩
    rw [← hH3]
    have at_p3 : H3 p3 = some (.lst [.int n]) := by rw [hH3, upd_same]
    have s_H3 : Same H2 H3 := by rw [hH3]; exact same_new hp3
    clear hH3
    have s3 := (s1.trans s_H2).trans s_H3
    refine ⟨p, p2, p3, R, A, G, k0, [], [n], rfl, hOn.same s3, s_H3 _ _ at_p2, at_p3, (show 0 ≤ 10 by decide), (show 1 ≤ 10 by decide), fun z H4 s4 hz => ?_⟩
    have sH4 := s3.trans s4
    refine ⟨_, rfl, rfl, _, rfl, ite2 (fun h2 => ?_) (fun h2 => ?_)⟩
    · have hz0 : z = "" := V.str.inj (of_decide_eq_true h2)
      have hg := (hz hz0).2 n (by simp)
      obtain ⟨dx, d, e, gs, hi, hA, he, hG, hGn, _⟩ := hOn.same sH4
      obtain ⟨⟨n', kk, cc⟩, hm, rfl⟩ := List.mem_map.mp hg
      obtain ⟨vv, hv1, t0, rfl, ht0⟩ := hG.of hGn hm
      refine ⟨_, rfl, _, _, _, _, _, rfl, hi, T.c_Shelf, T.n_Shelf_files, rfl, _, rfl, _, _, rfl, .inl ⟨_, .inl n', .inl he, rfl, hv1.symm⟩, _, _, _, _, rfl, rfl, ht0, at0, _, rfl, rfl, _, rfl, ite2 (fun _ => k _ _ sH4 (fun z => absurd z (by decide))) (fun _ => ⟨_, rfl, k z H4 sH4 fun _ => hg⟩)⟩
    · exact iteF ⟨_, rfl, k z H4 sH4 fun z0 => absurd (by rw [z0]; rfl) h2⟩
end
end K81
set_option maxHeartbeats 4000000
namespace K81
open PySem PySem.Spec PyProof.Rows L2
section
variable {P : Program} {w : World} {K : PySem.W.Frag} {mg : Str → Option Value} {base : Heap}
abbrev N_fault_of : List Str := ["shelf", "deed", "word"]
theorem sc_fault_of : FnScope N_fault_of ["shelf", "deed"] (defScope s_fault_of) := ⟨rfl, rfl, rfl, by decide +kernel, rfl, by decide +kernel, by decide +kernel⟩
theorem ok_fault_of (T : Tx K mg base) : OkD P w K mg base d_fault_of.at_ 4 ["shelf", "deed"] (spFaultOf K) := by
  have G_put_fault := ok_put_fault (P := P) (w := w) T
  have G_new_fault := ok_new_fault (P := P) (w := w) T
  have G_drop_fault := ok_drop_fault (P := P) (w := w) T
  have G_move_fault := ok_move_fault (P := P) (w := w) T
  have G_is_content := ok_is_content (P := P) (w := w) T
  refine okD_of T.F_fault_of sc_fault_of (fun _ _ _ _ _ _ us hl => match us, hl with | [_, _], _ => rfl) (fun vs H Q E h => ?_) (fun cdv A outer s H vs Q E hr h => ?_)
  · obtain ⟨p, q, R, A, G, k, dd, rfl, _⟩ := h
    rfl
  · obtain ⟨p, q, R, A, G, k0, dd, rfl, hOn, hq, hdo, ht, hrk, hnm, hfl, k⟩ := h
    have hu := hu_of hr
    refine ⟨_, (pss_cons (ps_set (i := 2) sc_fault_of.nd rfl (by first | exact Or.inl rfl | exact Or.inr rfl) (pe_ix (ix_tupK K) (pv 1) pe_int (fun _ _ => rfl)))
      (Evl.pss_cut (ps_if (PW.pt (pw_and (pt_cmpR op_eq (pv 2) pe_str (nomark _)) (pw_and1 (pt_not (pt_val (pe_callO G_is_content hr (by decide) T.g_is_content (pa_cons (pe_ix (ix_tupK K) (pv 1) pe_int (fun _ _ => rfl)) pa_nil))))))) (pss_one (ps_ret pe_str)) pss_nil)
      (pss_cons (ps_if (pt_cmpR op_in_seq (pv 2) (pe_tup (pa_cons pe_str (pa_cons pe_str pa_nil))) rfl) (pss_one (ps_ret (pe_callO G_new_fault hr (by decide) T.g_new_fault (pa_cons (pv 0) (pa_cons (pe_ix (ix_tupK K) (pv 1) pe_int (fun _ _ => rfl)) (pa_cons (pe_ix (ix_tupK K) (pv 1) pe_int (fun _ _ => rfl)) (pa_cons (pe_lst pa_nil) pa_nil))))))) pss_nil)
      (pss_cons (ps_if (pt_cmpR op_eq (pv 2) pe_str (nomark _)) (pss_one (ps_ret (pe_callO G_new_fault hr (by decide) T.g_new_fault (pa_cons (pv 0) (pa_cons (pe_ix (ix_tupK K) (pv 1) pe_int (fun _ _ => rfl)) (pa_cons (pe_ix (ix_tupK K) (pv 1) pe_int (fun _ _ => rfl)) (pa_cons (pe_lst (pa_cons (pe_ix (ix_tupK K) (pv 1) pe_int (fun _ _ => rfl)) pa_nil)) pa_nil))))))) pss_nil)
      (pss_cons (ps_if (pt_cmpR op_eq (pv 2) pe_str (nomark _)) (pss_one (ps_ret (pe_callO G_drop_fault hr (by decide) T.g_drop_fault (pa_cons (pv 0) (pa_cons (pe_ix (ix_tupK K) (pv 1) pe_int (fun _ _ => rfl)) (pa_cons (pe_ix (ix_tupK K) (pv 1) pe_int (fun _ _ => rfl)) pa_nil)))))) pss_nil)
      (pss_cons (ps_if (pt_cmpR op_eq (pv 2) pe_str (nomark _)) (pss_one (ps_ret (pe_callO G_move_fault hr (by decide) T.g_move_fault (pa_cons (pv 0) (pa_cons (pe_ix (ix_tupK K) (pv 1) pe_int (fun _ _ => rfl)) (pa_cons (pe_ix (ix_tupK K) (pv 1) pe_int (fun _ _ => rfl)) (pa_cons (pe_ix (ix_tupK K) (pv 1) pe_int (fun _ _ => rfl)) (pa_cons (pe_ix (ix_tupK K) (pv 1) pe_int (fun _ _ => rfl)) pa_nil)))))))) pss_nil)
      (pss_one (ps_ret (pe_callO G_put_fault hr (by decide) T.g_put_fault (pa_cons (pv 0) (pa_cons (pe_ix (ix_tupK K) (pv 1) pe_int (fun _ _ => rfl)) (pa_cons (pe_ix (ix_tupK K) (pv 1) pe_int (fun _ _ => rfl)) (pa_cons (pe_ix (ix_tupK K) (pv 1) pe_int (fun _ _ => rfl)) pa_nil))))))))))))), ?_⟩
    cases dd with
    | make w1 a1 =>
      replace hq : SqT K H q [.str "make", .int w1, .str a1, .str "some"] := hq
      refine ⟨_, rfl, _, _, _, _, rfl, rfl, hq, at0, ?_⟩
      refine ⟨fun σ' H' => σ' = [some (.ref p), some (.ref q), some (.str "make")] ∧ Same H H', ?_, ?_⟩
      · refine ⟨_, rfl, rfl, _, rfl, ite2 (fun _ => ?_) (fun z => absurd (by decide +kernel) z)⟩
        refine ⟨_, rfl, _, _, _, _, rfl, rfl, hq, at3, _, rfl, sl' (show 4 ≤ 100000 by decide), fun b H1 s1 => ⟨_, rfl, ite2 (fun _ => k _ _ s1 (fun z => absurd z (by decide))) (fun _ => ⟨rfl, s1⟩)⟩⟩
      rintro _ H1 ⟨rfl, s1⟩
      have hq1 := Same.tup s1 hq
      refine ⟨_, rfl, zl rfl, fun p2 hp2 => ?_⟩
      obtain ⟨H2, hH2⟩ : ∃ z, z = upd H1 p2 (.tup [.str "make", .str "fold"]) := ⟨_, rfl⟩
      rw [← hH2]
      have at_p2 : H2 p2 = some (.tup [.str "make", .str "fold"]) := by rw [hH2, upd_same]
      have s_H2 : Same H1 H2 := by rw [hH2]; exact same_new hp2
      clear hH2
      have s2 := s1.trans s_H2
      have hq2 := Same.tup s_H2 hq1
      refine ⟨_, _, rfl, .inr (SqT.of at_p2), rfl, rfl, _, rfl, ite2 (fun _ => ?_) (fun z => absurd (by decide +kernel) z)⟩
      refine ⟨_, rfl, _, rfl, _, _, _, _, rfl, rfl, hq2, at1, _, rfl, _, _, _, _, rfl, rfl, hq2, at2, zl rfl, fun p3 hp3 => ?_⟩
      obtain ⟨H3, hH3⟩ : ∃ z, z = upd H2 p3 (.lst []) := ⟨_, rfl⟩
      rw [← hH3]
      have at_p3 : H3 p3 = some (.lst []) := by rw [hH3, upd_same]
      have s_H3 : Same H2 H3 := by rw [hH3]; exact same_new hp3
      clear hH3
      exact ⟨p, p3, R, A, G, k0, w1, a1, [], rfl, hOn.same (s2.trans s_H3), at_p3, (show 0 ≤ 10 by decide), hdo, fun z H4 s4 hz => k z H4 ((s2.trans s_H3).trans s4) fun z0 => ⟨(hz z0).1, (hz z0).2.1, (hz z0).2.2.1⟩⟩
    | fold w1 a1 =>
      replace hq : SqT K H q [.str "fold", .int w1, .str a1] := hq
      refine ⟨_, rfl, _, _, _, _, rfl, rfl, hq, at0, ?_⟩
      refine ⟨fun σ' H' => σ' = [some (.ref p), some (.ref q), some (.str "fold")] ∧ Same H H', ?_, ?_⟩
      · refine ⟨_, rfl, rfl, _, rfl, ite2 (fun z => absurd z (by decide +kernel)) (fun _ => ?_)⟩
        exact iteF ⟨rfl, Same.refl _⟩
      rintro _ H1 ⟨rfl, s1⟩
      have hq1 := Same.tup s1 hq
      refine ⟨_, rfl, zl rfl, fun p2 hp2 => ?_⟩
      obtain ⟨H2, hH2⟩ : ∃ z, z = upd H1 p2 (.tup [.str "make", .str "fold"]) := ⟨_, rfl⟩
      rw [← hH2]
      have at_p2 : H2 p2 = some (.tup [.str "make", .str "fold"]) := by rw [hH2, upd_same]
      have s_H2 : Same H1 H2 := by rw [hH2]; exact same_new hp2
      clear hH2
      have s2 := s1.trans s_H2
      have hq2 := Same.tup s_H2 hq1
      refine ⟨_, _, rfl, .inr (SqT.of at_p2), rfl, rfl, _, rfl, ite2 (fun _ => ?_) (fun z => absurd (by decide +kernel) z)⟩
      refine ⟨_, rfl, _, rfl, _, _, _, _, rfl, rfl, hq2, at1, _, rfl, _, _, _, _, rfl, rfl, hq2, at2, zl rfl, fun p3 hp3 => ?_⟩
      obtain ⟨H3, hH3⟩ : ∃ z, z = upd H2 p3 (.lst []) := ⟨_, rfl⟩
      rw [← hH3]
      have at_p3 : H3 p3 = some (.lst []) := by rw [hH3, upd_same]
      have s_H3 : Same H2 H3 := by rw [hH3]; exact same_new hp3
      clear hH3
      exact ⟨p, p3, R, A, G, k0, w1, a1, [], rfl, hOn.same (s2.trans s_H3), at_p3, (show 0 ≤ 10 by decide), hdo, fun z H4 s4 hz => k z H4 ((s2.trans s_H3).trans s4) fun z0 => ⟨(hz z0).1, (hz z0).2.1, (hz z0).2.2.1⟩⟩
    | link w1 a1 n1 =>
      replace hq : SqT K H q [.str "link", .int w1, .str a1, .int n1] := hq
      refine ⟨_, rfl, _, _, _, _, rfl, rfl, hq, at0, ?_⟩
      refine ⟨fun σ' H' => σ' = [some (.ref p), some (.ref q), some (.str "link")] ∧ Same H H', ?_, ?_⟩
      · refine ⟨_, rfl, rfl, _, rfl, ite2 (fun z => absurd z (by decide +kernel)) (fun _ => ?_)⟩
        exact iteF ⟨rfl, Same.refl _⟩
      rintro _ H1 ⟨rfl, s1⟩
      have hq1 := Same.tup s1 hq
      refine ⟨_, rfl, zl rfl, fun p2 hp2 => ?_⟩
      obtain ⟨H2, hH2⟩ : ∃ z, z = upd H1 p2 (.tup [.str "make", .str "fold"]) := ⟨_, rfl⟩
      rw [← hH2]
      have at_p2 : H2 p2 = some (.tup [.str "make", .str "fold"]) := by rw [hH2, upd_same]
      have s_H2 : Same H1 H2 := by rw [hH2]; exact same_new hp2
      clear hH2
      have s2 := s1.trans s_H2
      have hq2 := Same.tup s_H2 hq1
      refine ⟨_, _, rfl, .inr (SqT.of at_p2), rfl, rfl, _, rfl, ite2 (fun z => absurd z (by decide +kernel)) (fun _ => ?_)⟩
      refine ⟨_, rfl, rfl, _, rfl, ite2 (fun _ => ?_) (fun z => absurd (by decide +kernel) z)⟩
      refine ⟨_, rfl, _, rfl, _, _, _, _, rfl, rfl, hq2, at1, _, rfl, _, _, _, _, rfl, rfl, hq2, at2, _, rfl, _, _, _, _, rfl, rfl, hq2, at3, zl rfl, fun p3 hp3 => ?_⟩
      obtain ⟨H3, hH3⟩ : ∃ z, z = upd H2 p3 (.lst [.int n1]) := ⟨_, rfl⟩
      rw [← hH3]
      have at_p3 : H3 p3 = some (.lst [.int n1]) := by rw [hH3, upd_same]
      have s_H3 : Same H2 H3 := by rw [hH3]; exact same_new hp3
      clear hH3
      exact ⟨p, p3, R, A, G, k0, w1, a1, [n1], rfl, hOn.same (s2.trans s_H3), at_p3, (show 1 ≤ 10 by decide), hdo, fun z H4 s4 hz => k z H4 ((s2.trans s_H3).trans s4) fun z0 => ⟨(hz z0).1, (hz z0).2.1, (hz z0).2.2.1, (hz z0).2.2.2 n1 (by simp)⟩⟩
    | drop w1 a1 =>
      replace hq : SqT K H q [.str "drop", .int w1, .str a1] := hq
      refine ⟨_, rfl, _, _, _, _, rfl, rfl, hq, at0, ?_⟩
      refine ⟨fun σ' H' => σ' = [some (.ref p), some (.ref q), some (.str "drop")] ∧ Same H H', ?_, ?_⟩
      · refine ⟨_, rfl, rfl, _, rfl, ite2 (fun z => absurd z (by decide +kernel)) (fun _ => ?_)⟩
        exact iteF ⟨rfl, Same.refl _⟩
      rintro _ H1 ⟨rfl, s1⟩
      have hq1 := Same.tup s1 hq
      refine ⟨_, rfl, zl rfl, fun p2 hp2 => ?_⟩
      obtain ⟨H2, hH2⟩ : ∃ z, z = upd H1 p2 (.tup [.str "make", .str "fold"]) := ⟨_, rfl⟩
      rw [← hH2]
      have at_p2 : H2 p2 = some (.tup [.str "make", .str "fold"]) := by rw [hH2, upd_same]
      have s_H2 : Same H1 H2 := by rw [hH2]; exact same_new hp2
      clear hH2
      have s2 := s1.trans s_H2
      have hq2 := Same.tup s_H2 hq1
      refine ⟨_, _, rfl, .inr (SqT.of at_p2), rfl, rfl, _, rfl, ite2 (fun z => absurd z (by decide +kernel)) (fun _ => ?_)⟩
      refine ⟨_, rfl, rfl, _, rfl, ite2 (fun z => absurd z (by decide +kernel)) (fun _ => ?_)⟩
      refine ⟨_, rfl, rfl, _, rfl, ite2 (fun _ => ?_) (fun z => absurd (by decide +kernel) z)⟩
      exact ⟨_, rfl, _, rfl, _, _, _, _, rfl, rfl, hq2, at1, _, rfl, _, _, _, _, rfl, rfl, hq2, at2, p, R, A, G, k0, w1, a1, rfl, hOn.same s2, hdo, fun z H4 s4 hz => k z H4 (s2.trans s4) hz⟩
    | move w1 a1 g1 b1 =>
      replace hq : SqT K H q [.str "move", .int w1, .str a1, .int g1, .str b1] := hq
      refine ⟨_, rfl, _, _, _, _, rfl, rfl, hq, at0, ?_⟩
      refine ⟨fun σ' H' => σ' = [some (.ref p), some (.ref q), some (.str "move")] ∧ Same H H', ?_, ?_⟩
      · refine ⟨_, rfl, rfl, _, rfl, ite2 (fun z => absurd z (by decide +kernel)) (fun _ => ?_)⟩
        exact iteF ⟨rfl, Same.refl _⟩
      rintro _ H1 ⟨rfl, s1⟩
      have hq1 := Same.tup s1 hq
      refine ⟨_, rfl, zl rfl, fun p2 hp2 => ?_⟩
      obtain ⟨H2, hH2⟩ : ∃ z, z = upd H1 p2 (.tup [.str "make", .str "fold"]) := ⟨_, rfl⟩
      rw [← hH2]
      have at_p2 : H2 p2 = some (.tup [.str "make", .str "fold"]) := by rw [hH2, upd_same]
      have s_H2 : Same H1 H2 := by rw [hH2]; exact same_new hp2
      clear hH2
      have s2 := s1.trans s_H2
      have hq2 := Same.tup s_H2 hq1
      refine ⟨_, _, rfl, .inr (SqT.of at_p2), rfl, rfl, _, rfl, ite2 (fun z => absurd z (by decide +kernel)) (fun _ => ?_)⟩
      refine ⟨_, rfl, rfl, _, rfl, ite2 (fun z => absurd z (by decide +kernel)) (fun _ => ?_)⟩
      refine ⟨_, rfl, rfl, _, rfl, ite2 (fun z => absurd z (by decide +kernel)) (fun _ => ?_)⟩
      refine ⟨_, rfl, rfl, _, rfl, ite2 (fun _ => ?_) (fun z => absurd (by decide +kernel) z)⟩
      exact ⟨_, rfl, _, rfl, _, _, _, _, rfl, rfl, hq2, at1, _, rfl, _, _, _, _, rfl, rfl, hq2, at2, _, rfl, _, _, _, _, rfl, rfl, hq2, at3, _, rfl, _, _, _, _, rfl, rfl, hq2, at4, p, R, A, G, k0, w1, g1, a1, b1, rfl, hOn.same s2, hdo.1, hdo.2, ht, hrk, hnm, hfl, fun z H4 s4 hz => k z H4 (s2.trans s4) hz⟩
    | put n1 v1 =>
      replace hq : SqT K H q [.str "put", .int n1, .int v1, .str "else"] := hq
      refine ⟨_, rfl, _, _, _, _, rfl, rfl, hq, at0, ?_⟩
      refine ⟨fun σ' H' => σ' = [some (.ref p), some (.ref q), some (.str "put")] ∧ Same H H', ?_, ?_⟩
      · refine ⟨_, rfl, rfl, _, rfl, ite2 (fun z => absurd z (by decide +kernel)) (fun _ => ?_)⟩
        exact iteF ⟨rfl, Same.refl _⟩
      rintro _ H1 ⟨rfl, s1⟩
      have hq1 := Same.tup s1 hq
      refine ⟨_, rfl, zl rfl, fun p2 hp2 => ?_⟩
      obtain ⟨H2, hH2⟩ : ∃ z, z = upd H1 p2 (.tup [.str "make", .str "fold"]) := ⟨_, rfl⟩
      rw [← hH2]
      have at_p2 : H2 p2 = some (.tup [.str "make", .str "fold"]) := by rw [hH2, upd_same]
      have s_H2 : Same H1 H2 := by rw [hH2]; exact same_new hp2
      clear hH2
      have s2 := s1.trans s_H2
      have hq2 := Same.tup s_H2 hq1
      refine ⟨_, _, rfl, .inr (SqT.of at_p2), rfl, rfl, _, rfl, ite2 (fun z => absurd z (by decide +kernel)) (fun _ => ?_)⟩
      refine ⟨_, rfl, rfl, _, rfl, ite2 (fun z => absurd z (by decide +kernel)) (fun _ => ?_)⟩
      refine ⟨_, rfl, rfl, _, rfl, ite2 (fun z => absurd z (by decide +kernel)) (fun _ => ?_)⟩
      refine ⟨_, rfl, rfl, _, rfl, ite2 (fun z => absurd z (by decide +kernel)) (fun _ => ?_)⟩
      exact ⟨_, rfl, _, rfl, _, _, _, _, rfl, rfl, hq2, at1, _, rfl, _, _, _, _, rfl, rfl, hq2, at2, _, rfl, _, _, _, _, rfl, rfl, hq2, at3, p, R, A, G, k0, n1, v1, "else", rfl, hOn.same s2, (show 4 ≤ 1000 by decide), fun z H4 s4 hz => k z H4 (s2.trans s4) hz⟩
end
end K81
set_option maxHeartbeats 4000000
namespace K81
open PySem PySem.Spec PyProof.Rows L2
/-! ### the plain law of deeds -/
structure OrdP (fk : Int → Prop) (en : Int → Str → Int → Prop) (gk : Int → Prop) : Prop where
  root : fk 0
  clash : fk 1
  ce : en 0 "clash" 1
  node : ∀ w a n, en w a n → fk n ∨ gk n
  top : ∀ w a, ¬ en w a 0
  one : ∀ n, fk n → n ≠ 0 → ∃ w a, en w a n ∧ ∀ w' a', en w' a' n → w' = w ∧ a' = a
  loose : ∀ n, gk n → ∃ w a, en w a n
  rk : ∃ rk : Int → Nat, ∀ w a n, en w a n → fk n → rk w < rk n
theorem OrdP.congr {fk fk' : Int → Prop} {en en' : Int → Str → Int → Prop} {gk gk' : Int → Prop} (h : OrdP fk en gk) (h1 : ∀ n, fk' n ↔ fk n) (h2 : ∀ w a n, en' w a n ↔ en w a n) (h3 : ∀ n, gk' n ↔ gk n) : OrdP fk' en' gk' := by
  have e1 : fk' = fk := funext fun n => propext (h1 n)
  have e2 : en' = en := funext fun w => funext fun a => funext fun n => propext (h2 w a n)
  have e3 : gk' = gk := funext fun n => propext (h3 n)
  rw [e1, e2, e3]
  exact h
theorem ordP_iff {A : FAt} {G : List (Int × Int × Str)} : Ord (shF (plainF A) G) ↔ OrdP (fun n => n ∈ keysA A) (enA A) (fun n => n ∈ G.map (·.1)) := by
  have hk : ∀ n, (shF (plainF A) G).fk n ↔ n ∈ keysA A := fun n => keysA_fk
  have hg : ∀ n, (∃ k c, (shF (plainF A) G).fi n k c) ↔ n ∈ G.map (·.1) := fun n => by
    constructor
    · rintro ⟨k, c, h⟩; exact List.mem_map.mpr ⟨_, h, rfl⟩
    · intro h
      obtain ⟨y, hy, e⟩ := List.mem_map.mp h
      exact ⟨y.2.1, y.2.2, by rw [show n = y.1 from e.symm]; exact hy⟩
  constructor
  · intro h
    refine ⟨(hk 0).mp h.root, (hk 1).mp h.clash, h.ce, fun w a n q => ?_, h.top, fun n q => h.one n ((hk n).mpr q), fun n q => ?_, ?_⟩
    · rcases h.node w a n q with z | z
      · exact .inl ((hk n).mp z)
      · exact .inr ((hg n).mp z)
    · obtain ⟨k, c, z⟩ := (hg n).mpr q
      exact h.loose n k c z
    · obtain ⟨rk, z⟩ := h.rk
      exact ⟨rk, fun w a n q1 q2 => z w a n q1 ((hk n).mpr q2)⟩
  · intro h
    refine ⟨(hk 0).mpr h.root, (hk 1).mpr h.clash, h.ce, fun w a n q => ?_, h.top, fun n q => h.one n ((hk n).mp q), fun n k c q => h.loose n ((hg n).mp ⟨k, c, q⟩), ?_⟩
    · rcases h.node w a n q with z | z
      · exact .inl ((hk n).mpr z)
      · exact .inr ((hg n).mpr z)
    · obtain ⟨rk, z⟩ := h.rk
      exact ⟨rk, fun w a n q1 q2 => z w a n q1 ((hk n).mp q2)⟩
section
variable {fk : Int → Prop} {en : Int → Str → Int → Prop} {gk : Int → Prop} {w n : Int} {a : Str}
/-- a name more for a file (a new one or one that is there) -/
theorem OrdP.addFile (h : OrdP fk en gk) (hn : ¬ fk n) : OrdP fk (fun w' a' n' => en w' a' n' ∨ (w' = w ∧ a' = a ∧ n' = n)) (fun m => gk m ∨ m = n) := by
  refine ⟨h.root, h.clash, .inl h.ce, fun w' a' m q => ?_, fun w' a' q => ?_, fun m q q0 => ?_, fun m q => ?_, ?_⟩
  · rcases q with q | q
    · rcases h.node _ _ _ q with z | z
      · exact .inl z
      · exact .inr (.inl z)
    · exact .inr (.inr q.2.2)
  · rcases q with q | q
    · exact h.top _ _ q
    · exact hn (by rw [← q.2.2]; exact h.root)
  · obtain ⟨w0, a0, z1, z2⟩ := h.one m q q0
    refine ⟨w0, a0, .inl z1, fun w' a' y => ?_⟩
    rcases y with y | y
    · exact z2 _ _ y
    · rw [y.2.2] at q; exact absurd q hn
  · rcases q with q | q
    · obtain ⟨w0, a0, z⟩ := h.loose m q
      exact ⟨w0, a0, .inl z⟩
    · exact ⟨w, a, .inr ⟨rfl, rfl, q⟩⟩
  · obtain ⟨rk, z⟩ := h.rk
    refine ⟨rk, fun w' a' m q1 q2 => ?_⟩
    rcases q1 with q1 | q1
    · exact z _ _ _ q1 q2
    · rw [q1.2.2] at q2; exact absurd q2 hn
/-- a new folder -/
theorem OrdP.addFold (h : OrdP fk en gk) (hw : fk w) (hn : ¬ fk n) (hg : ¬ gk n) (hno : ∀ b m, ¬ en n b m) : OrdP (fun m => fk m ∨ m = n) (fun w' a' n' => en w' a' n' ∨ (w' = w ∧ a' = a ∧ n' = n)) gk := by
  have hwn : w ≠ n := fun e => hn (by rw [← e]; exact hw)
  have hto : ∀ w' a', ¬ en w' a' n := fun w' a' q => by
    rcases h.node _ _ _ q with z | z
    · exact hn z
    · exact hg z
  refine ⟨.inl h.root, .inl h.clash, .inl h.ce, fun w' a' m q => ?_, fun w' a' q => ?_, fun m q q0 => ?_, fun m q => ?_, ?_⟩
  · rcases q with q | q
    · rcases h.node _ _ _ q with z | z
      · exact .inl (.inl z)
      · exact .inr z
    · exact .inl (.inr q.2.2)
  · rcases q with q | q
    · exact h.top _ _ q
    · exact hn (by rw [← q.2.2]; exact h.root)
  · by_cases e : m = n
    · subst e
      refine ⟨w, a, .inr ⟨rfl, rfl, rfl⟩, fun w' a' y => ?_⟩
      rcases y with y | y
      · exact absurd y (hto _ _)
      · exact ⟨y.1, y.2.1⟩
    · obtain ⟨w0, a0, z1, z2⟩ := h.one m (by rcases q with q | q; exact q; exact absurd q e) q0
      refine ⟨w0, a0, .inl z1, fun w' a' y => ?_⟩
      rcases y with y | y
      · exact z2 _ _ y
      · exact absurd y.2.2 e
  · obtain ⟨w0, a0, z⟩ := h.loose m q
    exact ⟨w0, a0, .inl z⟩
  · classical
    obtain ⟨rk, z⟩ := h.rk
    refine ⟨fun x => if x = n then rk w + 1 else rk x, fun w' a' m q1 q2 => ?_⟩
    rcases q1 with q1 | ⟨e1, e2, e3⟩
    · have hw' : w' ≠ n := fun e => hno _ _ (by rw [← e]; exact q1)
      have hm' : m ≠ n := fun e => hto _ _ (by rw [← e]; exact q1)
      show (if w' = n then rk w + 1 else rk w') < (if m = n then rk w + 1 else rk m)
      rw [if_neg hw', if_neg hm']
      exact z _ _ _ q1 (by rcases q2 with q2 | q2; exact q2; exact absurd q2 hm')
    · rw [e1, e3]
      show (if w = n then rk w + 1 else rk w) < (if n = n then rk w + 1 else rk n)
      rw [if_neg hwn, if_pos rfl]
      exact Nat.lt_succ_self _
/-- an empty folder goes -/
theorem OrdP.delFold (h : OrdP fk en gk) (he : en w a n) (hf : fk n) (hg : ¬ gk n) (h1 : n ≠ 1) (hfun : ∀ m, en w a m → m = n) (hno : ∀ b m, ¬ en n b m) : OrdP (fun m => fk m ∧ m ≠ n) (fun w' a' n' => en w' a' n' ∧ ¬ (w' = w ∧ a' = a)) gk := by
  have hn0 : n ≠ 0 := fun e => h.top w a (by rw [← e]; exact he)
  obtain ⟨w0, a0, y1, y2⟩ := h.one n hf hn0
  have huni : ∀ w' a', en w' a' n → w' = w ∧ a' = a := fun w' a' q => by
    obtain ⟨z1, z2⟩ := y2 _ _ q
    obtain ⟨z3, z4⟩ := y2 _ _ he
    exact ⟨z1.trans z3.symm, z2.trans z4.symm⟩
  have keep : ∀ {w' a' m}, en w' a' m → m ≠ n → en w' a' m ∧ ¬ (w' = w ∧ a' = a) := fun q e => ⟨q, fun z => e (hfun _ (by rw [← z.1, ← z.2]; exact q))⟩
  refine ⟨⟨h.root, hn0.symm⟩, ⟨h.clash, h1.symm⟩, keep h.ce h1.symm, fun w' a' m q => ?_, fun w' a' q => h.top _ _ q.1, fun m q q0 => ?_, fun m q => ?_, ?_⟩
  · rcases h.node _ _ _ q.1 with z | z
    · exact .inl ⟨z, fun e => q.2 (huni _ _ (by rw [← e]; exact q.1))⟩
    · exact .inr z
  · obtain ⟨w1, a1, z1, z2⟩ := h.one m q.1 q0
    exact ⟨w1, a1, keep z1 q.2, fun w' a' y => z2 _ _ y.1⟩
  · obtain ⟨w1, a1, z⟩ := h.loose m q
    by_cases e : m = n
    · rw [e] at q; exact absurd q hg
    · exact ⟨w1, a1, keep z e⟩
  · obtain ⟨rk, z⟩ := h.rk
    exact ⟨rk, fun w' a' m q1 q2 => z _ _ _ q1.1 q2.1⟩
/-- a name of a file goes (and the file, where it was the last one) -/
theorem OrdP.delFile (h : OrdP fk en gk) (he : en w a n) (hf : ¬ fk n) (hfun : ∀ m, en w a m → m = n) {gk' : Int → Prop} (hg : ∀ m, gk' m ↔ gk m ∧ (m ≠ n ∨ ∃ w' a', en w' a' n ∧ ¬ (w' = w ∧ a' = a))) : OrdP fk (fun w' a' n' => en w' a' n' ∧ ¬ (w' = w ∧ a' = a)) gk' := by
  have keep : ∀ {w' a' m}, en w' a' m → m ≠ n → en w' a' m ∧ ¬ (w' = w ∧ a' = a) := fun q e => ⟨q, fun z => e (hfun _ (by rw [← z.1, ← z.2]; exact q))⟩
  have hne : ∀ {m}, fk m → m ≠ n := fun q e => hf (by rw [← e]; exact q)
  refine ⟨h.root, h.clash, keep h.ce (hne h.clash), fun w' a' m q => ?_, fun w' a' q => h.top _ _ q.1, fun m q q0 => ?_, fun m q => ?_, ?_⟩
  · rcases h.node _ _ _ q.1 with z | z
    · exact .inl z
    · refine .inr ((hg m).mpr ⟨z, ?_⟩)
      by_cases e : m = n
      · rw [e] at q; exact .inr ⟨w', a', q⟩
      · exact .inl e
  · obtain ⟨w1, a1, z1, z2⟩ := h.one m q q0
    exact ⟨w1, a1, keep z1 (hne q), fun w' a' y => z2 _ _ y.1⟩
  · obtain ⟨q1, q2⟩ := (hg m).mp q
    by_cases e : m = n
    · rcases q2 with q2 | ⟨w1, a1, q2⟩
      · exact absurd e q2
      · rw [e]; exact ⟨w1, a1, q2⟩
    · obtain ⟨w1, a1, z⟩ := h.loose m q1
      exact ⟨w1, a1, keep z e⟩
  · obtain ⟨rk, z⟩ := h.rk
    exact ⟨rk, fun w' a' m q1 q2 => z _ _ _ q1.1 q2⟩
inductive WayP (en : Int → Str → Int → Prop) : Int → Int → Prop
  | nil {w : Int} : WayP en w w
  | snoc {w m n : Int} {a : Str} : WayP en w m → en m a n → WayP en w n
/-- a name is moved -/
theorem OrdP.move {g : Int} {b : Str} (h : OrdP fk en gk) (he : en w a n) (h1 : n ≠ 1) (hfun : ∀ m, en w a m → m = n) (hgf : fk g) (hb : ¬ WayP en n g) : OrdP fk (fun w' a' n' => (en w' a' n' ∧ ¬ (w' = w ∧ a' = a)) ∨ (w' = g ∧ a' = b ∧ n' = n)) gk := by
  have hn0 : n ≠ 0 := fun e => h.top w a (by rw [← e]; exact he)
  have keep : ∀ {w' a' m}, en w' a' m → m ≠ n → en w' a' m ∧ ¬ (w' = w ∧ a' = a) := fun q e => ⟨q, fun z => e (hfun _ (by rw [← z.1, ← z.2]; exact q))⟩
  have huni : fk n → ∀ w' a', en w' a' n → w' = w ∧ a' = a := fun hf w' a' q => by
    obtain ⟨w0, a0, y1, y2⟩ := h.one n hf hn0
    obtain ⟨z1, z2⟩ := y2 _ _ q
    obtain ⟨z3, z4⟩ := y2 _ _ he
    exact ⟨z1.trans z3.symm, z2.trans z4.symm⟩
  refine ⟨h.root, h.clash, .inl (keep h.ce h1.symm), fun w' a' m q => ?_, fun w' a' q => ?_, fun m q q0 => ?_, fun m q => ?_, ?_⟩
  · rcases q with q | q
    · exact h.node _ _ _ q.1
    · rw [q.2.2]; exact h.node _ _ _ he
  · rcases q with q | q
    · exact h.top _ _ q.1
    · exact hn0 q.2.2.symm
  · by_cases e : m = n
    · subst e
      refine ⟨g, b, .inr ⟨rfl, rfl, rfl⟩, fun w' a' y => ?_⟩
      rcases y with y | y
      · exact absurd (huni q _ _ y.1) y.2
      · exact ⟨y.1, y.2.1⟩
    · obtain ⟨w1, a1, z1, z2⟩ := h.one m q q0
      refine ⟨w1, a1, .inl (keep z1 e), fun w' a' y => ?_⟩
      rcases y with y | y
      · exact z2 _ _ y.1
      · exact absurd y.2.2 e
  · by_cases e : m = n
    · rw [e]; exact ⟨g, b, .inr ⟨rfl, rfl, rfl⟩⟩
    · obtain ⟨w1, a1, z⟩ := h.loose m q
      exact ⟨w1, a1, .inl (keep z e)⟩
  · classical
    obtain ⟨rk, z⟩ := h.rk
    refine ⟨fun x => if WayP en n x then rk x + rk g + 1 else rk x, fun w' a' m q1 q2 => ?_⟩
    show (if WayP en n w' then rk w' + rk g + 1 else rk w') < (if WayP en n m then rk m + rk g + 1 else rk m)
    rcases q1 with q1 | ⟨e1, e2, e3⟩
    · have hz := z _ _ _ q1.1 q2
      by_cases y : WayP en n w'
      · rw [if_pos y, if_pos (.snoc y q1.1)]
        omega
      · rw [if_neg y]
        by_cases y2 : WayP en n m
        · exfalso
          cases y2 with
          | nil => exact q1.2 (huni q2 _ _ q1.1)
          | snoc y3 y4 =>
            rename_i x a2
            have hm0 : m ≠ 0 := fun e => h.top _ _ (by rw [← e]; exact y4)
            obtain ⟨w1, a1, _, z2⟩ := h.one m q2 hm0
            have hx : w' = x := (z2 _ _ q1.1).1.trans (z2 _ _ y4).1.symm
            rw [hx] at y; exact y y3
        · rw [if_neg y2]; exact hz
    · rw [e1, e3, if_neg hb, if_pos .nil]
      omega
end
theorem way_of_wayP {A : FAt} {w n : Int} (h : WayP (enA A) w n) : ∃ ns, Way A w ns n := by
  induction h with
  | nil => exact ⟨[], .nil⟩
  | snoc _ e ih =>
    obtain ⟨ns, h⟩ := ih
    exact ⟨_, h.snoc e⟩
/-- a shelf in order: its numbers up to k, at most r nodes, at most b entries a folder -/
structure ShOk (A : FAt) (G : List (Int × Int × Str)) (k : Int) (r b : Nat) : Prop where
  ord : OrdP (fun n => n ∈ keysA A) (enA A) (fun n => n ∈ G.map (·.1))
  dis : ∀ n ∈ keysA A, n ∉ G.map (·.1)
  fine : FineO (plainF A) G
  last : ∀ n, n ∈ keysA A ∨ n ∈ G.map (·.1) → n ≤ k
  rows : A.length + G.length ≤ r
  len : lenA b A
theorem ShOk.tree {A : FAt} {G : List (Int × Int × Str)} {k : Int} {r b : Nat} (h : ShOk A G k r b) : Tree A := by
  refine ⟨h.ord.top, fun c hc w a w' a' h1 h2 => ?_, fun q => ?_⟩
  · have hc0 : c ≠ 0 := fun e => h.ord.top _ _ (by rw [← e]; exact h1)
    obtain ⟨w0, a0, _, y⟩ := h.ord.one c hc hc0
    obtain ⟨z1, z2⟩ := y _ _ h1
    obtain ⟨z3, z4⟩ := y _ _ h2
    exact ⟨z3.trans z1.symm, z4.trans z2.symm⟩
  · have := (h.fine.fk (-1) (by rw [keysA_plain]; exact q)).1
    omega
theorem ShOk.ranked {A : FAt} {G : List (Int × Int × Str)} {k : Int} {r b : Nat} (h : ShOk A G k r b) : Ranked A := by
  obtain ⟨rk, z⟩ := h.ord.rk
  exact ⟨rk, z⟩
theorem ShOk.name {A : FAt} {G : List (Int × Int × Str)} {k : Int} {r b : Nat} (h : ShOk A G k r b) : ∀ w a m, enA A w a m → isName a = true := fun w a m q => by
  obtain ⟨es, h1, h2⟩ := mem_flat.mp q
  exact (h.fine.ents w es h1 _ h2).1
theorem flat_len {F : List (Int × List (Str × Int))} {b : Nat} (h : ∀ x ∈ F, x.2.length ≤ b) : (flat F).length ≤ F.length * b := by
  induction F with
  | nil => simp [flat]
  | cons x F ih =>
    have h1 := h x List.mem_cons_self
    have h2 := ih fun y m => h y (List.mem_cons_of_mem _ m)
    have e : flat (x :: F) = (x.2.map fun e => (x.1, e.1, e.2)) ++ flat F := by simp [flat]
    rw [e, List.length_append, List.length_map, List.length_cons, Nat.succ_mul]
    omega
theorem flatA_len {A : FAt} {b : Nat} (h : lenA b A) : (flat (plainF A)).length ≤ A.length * b := by
  have := flat_len (F := plainF A) (b := b) fun x hx => by
    obtain ⟨a, hm⟩ := plainF_mem.mp (show (x.1, x.2) ∈ plainF A from hx)
    exact h _ hm
  unfold plainF at this ⊢
  rw [List.length_map] at this
  exact this
theorem fineO_of {A : FAt} {G : List (Int × Int × Str)} (h1 : ∀ w a n, enA A w a n → isName a = true ∧ 0 ≤ n ∧ n < 100000) (h2 : ∀ n ∈ keysA A, 0 ≤ n ∧ n < 100000) (h3 : ∀ n ∈ G.map (·.1), 0 ≤ n ∧ n < 100000) (h4 : ∀ n k c, (n, k, c) ∈ G → PyData.strOk c = true ∧ c.length ≤ 1000) : FineO (plainF A) G :=
  ⟨fun w es m e he => h1 w e.1 e.2 (mem_flat.mpr ⟨es, m, he⟩), fun n m => h2 n (by rw [← keysA_plain]; exact m), h3, h4⟩
theorem FineO.enA {A : FAt} {G : List (Int × Int × Str)} (h : FineO (plainF A) G) {w n : Int} {a : Str} (q : K81.enA A w a n) : isName a = true ∧ 0 ≤ n ∧ n < 100000 := by
  obtain ⟨es, h1, h2⟩ := mem_flat.mp q
  exact h.ents w es h1 _ h2
end K81
set_option maxHeartbeats 4000000
namespace K81
open PySem PySem.Spec PyProof.Rows L2
theorem sqT_frame {K : PySem.W.Frag} {H H' : Hp} {p q : Addr} {xs : List V} {o : HO} (f : ∀ b o, H b = some o → b ≠ p → H' b = some o) (hp : H p = some o) (h1 : ∀ ys, o ≠ .tup ys) (h2 : ∀ od ys, o ≠ .frz od (.tup ys)) (h : SqT K H q xs) : SqT K H' q xs := by
  rcases h with (h | ⟨od, h⟩) | h
  · exact .inl (.inl (f _ _ h (fun e => by subst e; rw [hp] at h; exact h1 _ (Option.some.inj h))))
  · exact .inl (.inr ⟨od, f _ _ h (fun e => by subst e; rw [hp] at h; exact h2 _ _ (Option.some.inj h))⟩)
  · exact .inr h
def DonePost (K : PySem.W.Frag) (R : Hp) (p : Addr) (k : Int) (r b : Nat) (Q : VK) : Prop := ∀ v A' G' k' H', On K R H' (He.ga K "Shelf") p (lastF k') A' G' → k' ≤ k + 1 → ShOk A' G' k' (r + 1) (b + 1) → Q v H'
def spMade (K : PySem.W.Frag) : Sp := fun vs H Q _ => ∃ (p q : Addr) (R : Hp) (A : FAt) (G : List (Int × Int × Str)) (k w : Int) (a : Str) (r b : Nat) (mk : Bool), vs = [.ref p, .ref q] ∧ On K R H (He.ga K "Shelf") p (lastF k) A G ∧ SqT K H q (deedL (if mk = true then .make w a else .fold w a)) ∧
  Legal A G (.fold w a) ∧ ShOk A G k r b ∧ k < 99999 ∧ 0 ≤ k ∧ b ≤ 9000 ∧ r ≤ 9000 ∧ DonePost K R p k r b Q
def spDropped (K : PySem.W.Frag) : Sp := fun vs H Q _ => ∃ (p : Addr) (R : Hp) (A : FAt) (G : List (Int × Int × Str)) (k w : Int) (a : Str) (r b : Nat), vs = [.ref p, .int w, .str a] ∧ On K R H (He.ga K "Shelf") p (lastF k) A G ∧
  Legal A G (.drop w a) ∧ ShOk A G k r b ∧ r ≤ 900 ∧ DonePost K R p k r b Q
def spPutInto (K : PySem.W.Frag) : Sp := fun vs H Q _ => ∃ (p : Addr) (R : Hp) (A : FAt) (G : List (Int × Int × Str)) (k n : Int) (c : Str) (r b : Nat), vs = [.ref p, .int n, .str c] ∧ On K R H (He.ga K "Shelf") p (lastF k) A G ∧
  n ∈ G.map (·.1) ∧ PyData.strOk c = true ∧ c.length ≤ 1000 ∧ ShOk A G k r b ∧ r ≤ 9000 ∧ DonePost K R p k r b Q
def spDone (K : PySem.W.Frag) : Sp := fun vs H Q _ => ∃ (p q : Addr) (R : Hp) (A : FAt) (G : List (Int × Int × Str)) (k : Int) (dd : Deed) (r b : Nat), vs = [.ref p, .ref q] ∧ On K R H (He.ga K "Shelf") p (lastF k) A G ∧ SqT K H q (deedL dd) ∧ deedOk dd ∧
  ShOk A G k r b ∧ k < 99999 ∧ 0 ≤ k ∧ b ≤ 60 ∧ r ≤ 50 ∧ DonePost K R p k r b Q
theorem ShOk.mono {A : FAt} {G : List (Int × Int × Str)} {k : Int} {r b r' b' : Nat} (h : ShOk A G k r b) (h1 : r ≤ r') (h2 : b ≤ b') : ShOk A G k r' b' := ⟨h.ord, h.dis, h.fine, h.last, Nat.le_trans h.rows h1, lenA_mono h.len h2⟩
theorem keys_len {A A' : FAt} (h : keysA A' = keysA A) : A'.length = A.length := by
  have := congrArg List.length h
  unfold keysA at this
  rw [List.length_map, List.length_map] at this
  exact this
theorem map_snoc {G : List (Int × Int × Str)} {n k : Int} {c : Str} {m : Int} : m ∈ (G ++ [(n, k, c)]).map (·.1) ↔ m ∈ G.map (·.1) ∨ m = n := by simp
section
variable {P : Program} {w : World} {K : PySem.W.Frag} {mg : Str → Option Value} {base : Heap}
abbrev N_made : List Str := ["shelf", "deed", "number", "files", "folders"]
theorem sc_made : FnScope N_made ["shelf", "deed"] (defScope s_made) := ⟨rfl, rfl, rfl, by decide +kernel, rfl, by decide +kernel, by decide +kernel⟩
theorem ok_made (T : Tx K mg base) : OkD P w K mg base d_made.at_ 2 ["shelf", "deed"] (spMade K) := by
  have G_Shelf_new_number := ok_Shelf_new_number (P := P) (w := w) T
  have G_Shelf_put_entry := ok_Shelf_put_entry (P := P) (w := w) T
  refine okD_of T.F_made sc_made (fun _ _ _ _ _ _ us hl => match us, hl with | [_, _], _ => rfl) (fun vs H Q E h => ?_) (fun cdv A outer s H vs Q E hr h => ?_)
  · obtain ⟨p, q, R, A, G, k, w, a, r, b, mk, rfl, _⟩ := h
    rfl
  · obtain ⟨p, q, R, A, G, k0, w', a, r, b, mk, rfl, hOn, hq, hL, hS, hk1, hk0, hb, hrr, k⟩ := h
    obtain ⟨hna, hwk, hno⟩ := hL
    have hu := hu_of hr
    refine ⟨_, (pss_cons (ps_set (i := 2) sc_made.nd rfl (by first | exact Or.inl rfl | exact Or.inr rfl) (pe_methO0 G_Shelf_new_number hr (by decide) T.c_Shelf T.m_Shelf_new_number (pv 0)))
      (pss_cons (ps_if (pt_cmpR op_eq (pe_ix (ix_tupK K) (pv 1) pe_int (fun _ _ => rfl)) pe_str (nomark _)) (pss_cons (ps_set (i := 3) sc_made.nd rfl (by first | exact Or.inl rfl | exact Or.inr rfl) (pe_fldK K (pv 0) rfl))
      (pss_one (ps_dput hu (pv 3) (pv 2) (pe_tup (pa_cons pe_int (pa_cons (pe_ix (ix_tupK K) (pv 1) pe_int (fun _ _ => rfl)) pa_nil))) rfl))) (pss_cons (ps_set (i := 4) sc_made.nd rfl (by first | exact Or.inl rfl | exact Or.inr rfl) (pe_fldK K (pv 0) rfl))
      (pss_one (ps_dput hu (pv 4) (pv 2) pe_dnewK rfl))))
      (pss_cons (ps_expr (pe_methO G_Shelf_put_entry hr (by decide) T.c_Shelf T.m_Shelf_put_entry (pv 0) (pa_cons (pe_ix (ix_tupK K) (pv 1) pe_int (fun _ _ => rfl)) (pa_cons (pe_ix (ix_tupK K) (pv 1) pe_int (fun _ _ => rfl)) (pa_cons (pv 2) pa_nil)))))
      (pss_one (ps_ret (pe_tup (pa_cons pe_str (pa_cons (pv 2) pa_nil)))))))), ?_⟩
    have hi := hOn
    obtain ⟨dx, d, e, gs, hi, _⟩ := hi
    have hnk : k0 + 1 ∉ keysA A := fun z => by have := hS.last _ (.inl z); omega
    have hng : k0 + 1 ∉ G.map (·.1) := fun z => by have := hS.last _ (.inr z); omega
    refine ⟨_, rfl, _, _, _, rfl, hi, rfl, p, R, A, G, k0, rfl, hOn, fun H1 hOn1 hfr => ?_⟩
    have hq1 := sqT_frame hfr hi (fun _ z => by cases z) (fun _ _ z => by cases z) hq
    have hlA := hS.len
    cases mk with
    | true =>
      replace hq1 : SqT K H1 q [.str "make", .int w', .str a, .str "some"] := hq1
      refine ⟨_, rfl, _, _, _, _, rfl, rfl, hq1, at0, rfl, _, rfl, ite2 (fun _ => ?_) (fun z => absurd (by decide) z)⟩
      obtain ⟨dx1, d1, e1, gs1, hi1, he1, hD1, hkk⟩ := hOn1.files
      refine ⟨_, rfl, _, _, _, _, _, rfl, hi1, T.c_Shelf, T.n_Shelf_files, rfl, ?_⟩
      refine ⟨_, rfl, _, _, _, _, rfl, rfl, hq1, at3, zl rfl, fun p5 hp5 => ?_⟩
      obtain ⟨H2, hH2⟩ : ∃ z, z = upd H1 p5 (.tup [.int 0, .str "some"]) := ⟨_, rfl⟩
      rw [← hH2]
      have at_p5 : H2 p5 = some (.tup [.int 0, .str "some"]) := by rw [hH2, upd_same]
      have s_H2 : Same H1 H2 := by rw [hH2]; exact same_new hp5
      clear hH2
      have hGl : gs1.length ≤ 9000 := by rw [hD1.len]; have := hS.rows; omega
      refine ⟨_, rfl, _, rfl, _, _, rfl, .inl ⟨gs1, .inl (k0 + 1), s_H2 _ _ he1, rfl, sl (by omega), rfl⟩, ?_⟩
      have hOn3 := hkk H2 (putK gs1 (Sum.inl (k0 + 1)) (.ref p5)) (G ++ [(k0 + 1, (0 : Int), ("some" : Str))]) s_H2 (Dik.snoc (f := (·.1)) (x := (k0 + 1, (0 : Int), ("some" : Str))) (hD1.mono fun _ _ q => q.same s_H2) hng ⟨p5, rfl, SqT.of at_p5⟩) (by
        rw [List.map_append]
        exact List.nodup_append.mpr ⟨hOn1.len, by simp, fun x hx y hy z => by rw [List.map_singleton, List.mem_singleton] at hy; rw [z, hy] at hx; exact hng hx⟩)
      have hq3 := sqT_upd (Same.tup s_H2 hq1) (s_H2 _ _ he1) (o := .dK (putK gs1 (Sum.inl (k0 + 1)) (.ref p5))) (fun _ z => by cases z) (fun _ _ z => by cases z)
      have hi3 := hOn3
      obtain ⟨_, _, _, _, hi3, _⟩ := hi3
      refine ⟨_, rfl, _, _, _, rfl, hi3, rfl, _, rfl, _, _, _, _, rfl, rfl, hq3, at1, _, rfl, _, _, _, _, rfl, rfl, hq3, at2, _, rfl, p, R, A, _, k0 + 1, w', a, k0 + 1, rfl, hOn3, hwk, hno, lenA_mono hlA (by omega), fun A' H4 hOn4 hkeys hrel hlen _ => ?_⟩
      refine ⟨_, rfl, zl rfl, fun p6 hp6 => ?_⟩
      refine k _ A' _ (k0 + 1) _ (hOn4.same (same_new hp6)) (by omega) ⟨?_, ?_, ?_, ?_, ?_, hlen _ hlA⟩
      · exact (hS.ord.addFile (w := w') (n := k0 + 1) (a := a) hnk).congr (fun n => by rw [hkeys]) (fun w2 a2 n2 => hrel _ _ _) (fun m => map_snoc)
      · intro n hn hg
        rw [hkeys] at hn
        rcases map_snoc.mp hg with z | z
        · exact hS.dis n hn z
        · rw [z] at hn; exact hnk hn
      · refine fineO_of (fun w2 a2 n2 h => ?_) (fun n hn => hS.fine.fk n (by rw [keysA_plain, ← hkeys]; exact hn)) (fun n hn => ?_) (fun n kk c hm => ?_)
        · rcases (hrel _ _ _).mp h with z | z
          · exact hS.fine.enA z
          · rw [z.2.1, z.2.2]; exact ⟨hna, by omega, by omega⟩
        · rcases map_snoc.mp hn with z | z
          · exact hS.fine.gk n z
          · rw [z]; omega
        · rcases List.mem_append.mp hm with z | z
          · exact hS.fine.text n kk c z
          · have := List.mem_singleton.mp z
            simp only [Prod.mk.injEq] at this
            rw [this.2.2]
            exact ⟨by decide +kernel, by decide +kernel⟩
      · intro n hn
        rcases hn with z | z
        · rw [hkeys] at z; have := hS.last n (.inl z); omega
        · rcases map_snoc.mp z with z | z
          · have := hS.last n (.inr z); omega
          · omega
      · rw [keys_len hkeys, List.length_append, List.length_singleton]
        have := hS.rows
        omega
    | false =>
      replace hq1 : SqT K H1 q [.str "fold", .int w', .str a] := hq1
      refine ⟨_, rfl, _, _, _, _, rfl, rfl, hq1, at0, rfl, _, rfl, ite2 (fun z => absurd z (by decide)) (fun _ => ?_)⟩
      have hi1 := hOn1
      obtain ⟨_, _, _, _, hi1, _⟩ := hi1
      refine ⟨_, rfl, _, _, _, _, _, rfl, hi1, T.c_Shelf, T.n_Shelf_folders, rfl, fun p5 hp5 => ?_⟩
      obtain ⟨dx1, d1, e1, hi1', hd1, hOn3⟩ := hOn1.addF hnk hp5
      rw [hi1] at hi1'
      have edd := (HO.ins.inj (Option.some.inj hi1')).2.2
      have ed := V.ref.inj (Prod.mk.inj (List.cons.inj edd).1).2
      subst ed
      have hAl : A.length ≤ 9000 := by have := hS.rows; omega
      refine ⟨_, rfl, _, rfl, _, _, rfl, .inl ⟨fKV A, .inl (k0 + 1), same_new hp5 _ _ hd1, rfl, sl (by unfold fKV; rw [List.length_map]; omega), rfl⟩, ?_⟩
      have hq3 := sqT_upd (Same.tup (same_new (o := .dK []) hp5) hq1) (same_new hp5 _ _ hd1) (o := .dK (putK (fKV A) (Sum.inl (k0 + 1)) (.ref p5))) (fun _ z => by cases z) (fun _ _ z => by cases z)
      have hi3 := hOn3
      obtain ⟨_, _, _, _, hi3, _⟩ := hi3
      have hkA : ∀ m, m ∈ keysA (A ++ [(k0 + 1, p5, [])]) ↔ m ∈ keysA A ∨ m = k0 + 1 := fun m => by unfold keysA; simp
      have heA : ∀ w2 a2 n2, enA (A ++ [(k0 + 1, p5, [])]) w2 a2 n2 ↔ enA A w2 a2 n2 := fun w2 a2 n2 => by
        rw [enA_iff, enA_iff]
        constructor
        · rintro ⟨adr, es, h1, h2⟩
          rcases List.mem_append.mp h1 with z | z
          · exact ⟨adr, es, z, h2⟩
          · have := List.mem_singleton.mp z
            simp only [Prod.mk.injEq] at this
            rw [this.2.2] at h2; cases h2
        · rintro ⟨adr, es, h1, h2⟩
          exact ⟨adr, es, List.mem_append.mpr (.inl h1), h2⟩
      have hl3 : lenA b (A ++ [(k0 + 1, p5, [])]) := fun x hx => by
        rcases List.mem_append.mp hx with z | z
        · exact hlA x z
        · rw [List.mem_singleton.mp z]; exact Nat.zero_le _
      refine ⟨_, rfl, _, _, _, rfl, hi3, rfl, _, rfl, _, _, _, _, rfl, rfl, hq3, at1, _, rfl, _, _, _, _, rfl, rfl, hq3, at2, _, rfl, p, R, _, G, k0 + 1, w', a, k0 + 1, rfl, hOn3, (hkA w').mpr (.inl hwk), fun m z => hno m ((heA _ _ _).mp z), lenA_mono hl3 (by omega), fun A' H4 hOn4 hkeys hrel hlen _ => ?_⟩
      have hkeys' : ∀ m, m ∈ keysA A' ↔ m ∈ keysA A ∨ m = k0 + 1 := fun m => by rw [hkeys, hkA]
      have hrel' : ∀ w2 a2 n2, enA A' w2 a2 n2 ↔ enA A w2 a2 n2 ∨ (w2 = w' ∧ a2 = a ∧ n2 = k0 + 1) := fun w2 a2 n2 => by rw [hrel, heA]
      refine ⟨_, rfl, zl rfl, fun p6 hp6 => ?_⟩
      refine k _ A' _ (k0 + 1) _ (hOn4.same (same_new hp6)) (by omega) ⟨?_, ?_, ?_, ?_, ?_, hlen _ hl3⟩
      · exact (hS.ord.addFold (w := w') (n := k0 + 1) (a := a) hwk hnk hng (fun b m z => hnk (enA_key z))).congr (fun n => hkeys' n) (fun w2 a2 n2 => hrel' _ _ _) (fun m => Iff.rfl)
      · intro n hn hg
        rcases (hkeys' n).mp hn with z | z
        · exact hS.dis n z hg
        · rw [z] at hg; exact hng hg
      · refine fineO_of (fun w2 a2 n2 h => ?_) (fun n hn => ?_) hS.fine.gk hS.fine.text
        · rcases (hrel' _ _ _).mp h with z | z
          · exact hS.fine.enA z
          · rw [z.2.1, z.2.2]; exact ⟨hna, by omega, by omega⟩
        · rcases (hkeys' n).mp hn with z | z
          · exact hS.fine.fk n (by rw [keysA_plain]; exact z)
          · rw [z]; omega
      · intro n hn
        rcases hn with z | z
        · rcases (hkeys' n).mp z with z | z
          · have := hS.last n (.inl z); omega
          · omega
        · have := hS.last n (.inr z); omega
      · rw [keys_len hkeys, List.length_append, List.length_singleton]
        have := hS.rows
        omega
abbrev N_dropped : List Str := ["shelf", "folder", "name", "number"]
theorem sc_dropped : FnScope N_dropped ["shelf", "folder", "name"] (defScope s_dropped) := ⟨rfl, rfl, rfl, by decide +kernel, rfl, by decide +kernel, by decide +kernel⟩
theorem ok_dropped (T : Tx K mg base) : OkD P w K mg base d_dropped.at_ 2 ["shelf", "folder", "name"] (spDropped K) := by
  have G_Shelf_entry := ok_Shelf_entry (P := P) (w := w) T
  have G_Shelf_take_entry := ok_Shelf_take_entry (P := P) (w := w) T
  have G_Shelf_has_name := ok_Shelf_has_name (P := P) (w := w) T
  refine okD_of T.F_dropped sc_dropped (fun _ _ _ _ _ _ us hl => match us, hl with | [_, _, _], _ => rfl) (fun vs H Q E h => ?_) (fun cdv A outer s H vs Q E hr h => ?_)
  · obtain ⟨p, R, A, G, k, w, a, r, b, rfl, _⟩ := h
    rfl
  · obtain ⟨p, R, A, G, k0, w', a, r, b, rfl, hOn, hL, hS, hrr, k⟩ := h
    obtain ⟨n, hen, hn1, hemp⟩ := hL
    have hu := hu_of hr
    refine ⟨_, (pss_cons (ps_set (i := 3) sc_dropped.nd rfl (by first | exact Or.inl rfl | exact Or.inr rfl) (pe_methO G_Shelf_entry hr (by decide) T.c_Shelf T.m_Shelf_entry (pv 0) (pa_cons (pv 1) (pa_cons (pv 2) pa_nil))))
      (pss_cons (ps_expr (pe_methO G_Shelf_take_entry hr (by decide) T.c_Shelf T.m_Shelf_take_entry (pv 0) (pa_cons (pv 1) (pa_cons (pv 2) pa_nil))))
      (pss_cons (ps_if (pt_cmp (pc_din hu (pv 3) (pe_fldK K (pv 0) rfl))) (pss_one (ps_expr (pe_dpop1 (pe_fldK K (pv 0) rfl) (pv 3) ⟨rfl, rfl, rfl, rfl⟩))) (pss_one (ps_if (pt_not (pt_val (pe_methO G_Shelf_has_name hr (by decide) T.c_Shelf T.m_Shelf_has_name (pv 0) (pa_cons (pv 3) pa_nil)))) (pss_one (ps_expr (pe_dpop1 (pe_fldK K (pv 0) rfl) (pv 3) ⟨rfl, rfl, rfl, rfl⟩))) pss_nil)))
      (pss_one (ps_ret (pe_tup (pa_cons pe_str pa_nil))))))), ?_⟩
    have hi := hOn
    obtain ⟨dx, d, e, gs, hi, hA, _⟩ := hi
    have hfun : ∀ m, enA A w' a m → m = n := fun m z => hA.fun z hen
    refine ⟨_, rfl, _, _, _, rfl, hi, rfl, _, rfl, _, rfl, p, R, A, G, k0, w', a, rfl, hOn, enA_key hen, fun m hm => ?_, fun hno => absurd hen (hno _)⟩
    obtain rfl := hfun m hm
    clear hm
    refine ⟨_, rfl, _, _, _, rfl, hi, rfl, _, rfl, _, rfl, p, R, lastF k0, A, G, w', a, m, rfl, hOn, hen, fun A' H1 hOn1 sd1 hkeys hrel hlen => ?_⟩
    have hi1 := hOn1
    obtain ⟨dx1, d1, e1, gs1, hi1, hA1, he1, hG1, hGn1, _⟩ := hi1
    have hl1 := hlen _ hS.len
    have hAk : A'.map (·.1) = keysA A := hkeys
    refine ⟨_, rfl, _, rfl, _, _, _, _, _, rfl, hi1, T.c_Shelf, T.n_Shelf_folders, rfl, _, _, rfl, .inl ⟨_, .inl m, .inl hA1.dict, rfl, rfl⟩, _, rfl, ?_⟩
    rw [fKV_some, hAk]
    refine ite2 (fun h1 => ?_) (fun h1 => ?_)
    · have hf : m ∈ keysA A := of_decide_eq_true h1
      obtain ⟨dx2, d2, e2, hi2, hd2, hOn2⟩ := hOn1.delF m
      obtain ⟨adr, es, hmm⟩ := fA_mem (show m ∈ A'.map (·.1) by rw [hAk]; exact hf)
      refine ⟨_, rfl, _, _, _, _, _, rfl, hi2, T.c_Shelf, T.n_Shelf_folders, rfl, _, rfl, .inl ⟨_, .inl hd2⟩, _, rfl, fKV A', .inl m, _, hd2, rfl, hA1.get hmm, ?_⟩
      refine ⟨zl rfl, fun p6 hp6 => ?_⟩
      have hk2 : ∀ x, x ∈ keysA (A'.filter fun x => decide (x.1 ≠ m)) ↔ x ∈ keysA A ∧ x ≠ m := fun x => by
        rw [← hkeys]
        unfold keysA
        constructor
        · intro z
          obtain ⟨y, hy, rfl⟩ := List.mem_map.mp z
          obtain ⟨y1, y2⟩ := List.mem_filter.mp hy
          exact ⟨List.mem_map.mpr ⟨y, y1, rfl⟩, of_decide_eq_true y2⟩
        · rintro ⟨z, zn⟩
          obtain ⟨y, hy, rfl⟩ := List.mem_map.mp z
          exact List.mem_map.mpr ⟨y, List.mem_filter.mpr ⟨hy, decide_eq_true zn⟩, rfl⟩
      have he2 : ∀ w2 a2 n2, enA (A'.filter fun x => decide (x.1 ≠ m)) w2 a2 n2 ↔ enA A w2 a2 n2 ∧ ¬ (w2 = w' ∧ a2 = a) := fun w2 a2 n2 => by
        rw [← hrel, enA_iff, enA_iff]
        constructor
        · rintro ⟨adr, es, z1, z2⟩
          exact ⟨adr, es, (List.mem_filter.mp z1).1, z2⟩
        · rintro ⟨adr, es, z1, z2⟩
          refine ⟨adr, es, List.mem_filter.mpr ⟨z1, decide_eq_true fun z => ?_⟩, z2⟩
          have z : w2 = m := z
          have : enA A' w2 a2 n2 := enA_iff.mpr ⟨adr, es, z1, z2⟩
          exact hemp hf a2 n2 (by rw [← z]; exact ((hrel _ _ _).mp this).1)
      have hsub : (A'.filter fun x => decide (x.1 ≠ m)).Sublist A' := List.filter_sublist
      refine k _ _ _ k0 _ (hOn2.same (same_new hp6)) (by omega) ⟨?_, ?_, ?_, ?_, ?_, fun x hx => Nat.le_succ_of_le (hl1 x (hsub.subset hx))⟩
      · exact (hS.ord.delFold hen hf (hS.dis m hf) hn1 hfun (hemp hf)).congr hk2 he2 (fun _ => Iff.rfl)
      · exact fun x hx => hS.dis x ((hk2 x).mp hx).1
      · exact fineO_of (fun w2 a2 n2 z => hS.fine.enA ((he2 _ _ _).mp z).1) (fun x hx => hS.fine.fk x (by rw [keysA_plain]; exact ((hk2 x).mp hx).1)) hS.fine.gk hS.fine.text
      · intro x hx
        rcases hx with z | z
        · exact hS.last x (.inl ((hk2 x).mp z).1)
        · exact hS.last x (.inr z)
      · have h2 := hsub.length_le
        have h3 := keys_len hkeys
        have := hS.rows
        omega
    · have hf : m ∉ keysA A := fun z => h1 (decide_eq_true z)
      have hmg : m ∈ G.map (·.1) := by
        rcases hS.ord.node _ _ _ hen with z | z
        · exact absurd z hf
        · exact z
      have hAl : A'.length ≤ 1000 := by have := keys_len hkeys; have := hS.rows; omega
      refine ⟨_, rfl, _, _, _, rfl, hi1, rfl, _, rfl, p, R, A', G, k0, m, rfl, hOn1, hAl, fun bb H2 s2 hbb => ⟨_, rfl, ite2 (fun h2 => ?_) (fun h2 => ?_)⟩⟩
      · -- its last name
        have hlast : ∀ w2 a2, ¬ enA A' w2 a2 m := fun w2 a2 z => by
          have := hbb.mpr ⟨w2, a2, z⟩
          rw [this] at h2; cases h2
        have hOn2 := hOn1.same s2
        obtain ⟨dx2, d2, e2, gs2, hi2, he2, hD2, hkk⟩ := hOn2.files
        obtain ⟨y, hy, hym⟩ := List.mem_map.mp hmg
        obtain ⟨vv, hv1, _⟩ := hD2.of hOn2.len hy
        rw [hym] at hv1
        refine ⟨_, rfl, _, _, _, _, _, rfl, hi2, T.c_Shelf, T.n_Shelf_files, rfl, _, rfl, .inl ⟨_, .inl he2⟩, _, rfl, gs2, .inl m, _, he2, rfl, hv1, ?_⟩
        refine ⟨zl rfl, fun p6 hp6 => ?_⟩
        have hOn3 := hkk H2 (dropK gs2 (Sum.inl m)) (G.filter fun x => decide (x.1 ≠ m)) (Same.refl _) (dik_drop m hD2) (hOn2.len.sublist (List.filter_sublist.map _))
        have hg2 : ∀ x, x ∈ (G.filter fun x => decide (x.1 ≠ m)).map (·.1) ↔ x ∈ G.map (·.1) ∧ x ≠ m := fun x => by
          constructor
          · intro z
            obtain ⟨y, hy, rfl⟩ := List.mem_map.mp z
            obtain ⟨y1, y2⟩ := List.mem_filter.mp hy
            exact ⟨List.mem_map.mpr ⟨y, y1, rfl⟩, of_decide_eq_true y2⟩
          · rintro ⟨z, zn⟩
            obtain ⟨y, hy, rfl⟩ := List.mem_map.mp z
            exact List.mem_map.mpr ⟨y, List.mem_filter.mpr ⟨hy, decide_eq_true zn⟩, rfl⟩
        refine k _ _ _ k0 _ (hOn3.same (same_new hp6)) (by omega) ⟨?_, ?_, ?_, ?_, ?_, lenA_mono hl1 (Nat.le_succ _)⟩
        · refine (hS.ord.delFile hen hf hfun (gk' := fun x => x ∈ (G.filter fun x => decide (x.1 ≠ m)).map (·.1)) (fun x => ?_)).congr (fun x => by rw [hkeys]) (fun w2 a2 n2 => hrel _ _ _) (fun _ => Iff.rfl)
          rw [hg2]
          constructor
          · exact fun z => ⟨z.1, .inl z.2⟩
          · rintro ⟨z1, z2 | ⟨w2, a2, z2⟩⟩
            · exact ⟨z1, z2⟩
            · exact absurd ((hrel _ _ _).mpr z2) (hlast _ _)
        · intro x hx hg
          rw [hkeys] at hx
          exact hS.dis x hx ((hg2 x).mp hg).1
        · exact fineO_of (fun w2 a2 n2 z => hS.fine.enA ((hrel _ _ _).mp z).1) (fun x hx => hS.fine.fk x (by rw [keysA_plain, ← hkeys]; exact hx)) (fun x hx => hS.fine.gk x ((hg2 x).mp hx).1) (fun x kk c hx => hS.fine.text x kk c (List.mem_filter.mp hx).1)
        · intro x hx
          rcases hx with z | z
          · rw [hkeys] at z; exact hS.last x (.inl z)
          · exact hS.last x (.inr ((hg2 x).mp z).1)
        · have h3 := keys_len hkeys
          have h4 : (G.filter fun x => decide (x.1 ≠ m)).length ≤ G.length := List.length_filter_le _ _
          have := hS.rows
          omega
      · have hmore : ∃ w2 a2, enA A' w2 a2 m := by
          cases bb with
          | true => exact hbb.mp rfl
          | false => exact absurd rfl h2
        refine ⟨zl rfl, fun p6 hp6 => ?_⟩
        refine k _ _ _ k0 _ ((hOn1.same s2).same (same_new hp6)) (by omega) ⟨?_, ?_, ?_, ?_, ?_, lenA_mono hl1 (Nat.le_succ _)⟩
        · refine (hS.ord.delFile hen hf hfun (gk' := fun x => x ∈ G.map (·.1)) (fun x => ?_)).congr (fun x => by rw [hkeys]) (fun w2 a2 n2 => hrel _ _ _) (fun _ => Iff.rfl)
          constructor
          · intro z
            refine ⟨z, ?_⟩
            obtain ⟨w2, a2, q⟩ := hmore
            exact .inr ⟨w2, a2, (hrel _ _ _).mp q⟩
          · exact fun z => z.1
        · intro x hx
          rw [hkeys] at hx
          exact hS.dis x hx
        · exact fineO_of (fun w2 a2 n2 z => hS.fine.enA ((hrel _ _ _).mp z).1) (fun x hx => hS.fine.fk x (by rw [keysA_plain, ← hkeys]; exact hx)) hS.fine.gk hS.fine.text
        · intro x hx
          rcases hx with z | z
          · rw [hkeys] at z; exact hS.last x (.inl z)
          · exact hS.last x (.inr z)
        · have h3 := keys_len hkeys
          have := hS.rows
          omega
abbrev N_put_into : List Str := ["shelf", "file", "content", "files", "version"]
theorem sc_put_into : FnScope N_put_into ["shelf", "file", "content"] (defScope s_put_into) := ⟨rfl, rfl, rfl, by decide +kernel, rfl, by decide +kernel, by decide +kernel⟩
theorem ok_put_into (T : Tx K mg base) : OkD P w K mg base d_put_into.at_ 1 ["shelf", "file", "content"] (spPutInto K) := by
  refine okD_of T.F_put_into sc_put_into (fun _ _ _ _ _ _ us hl => match us, hl with | [_, _, _], _ => rfl) (fun vs H Q E h => ?_) (fun cdv A outer s H vs Q E hr h => ?_)
  · obtain ⟨p, R, A, G, k, n, c, r, b, rfl, _⟩ := h
    rfl
  · obtain ⟨p, R, A, G, k0, n, c, r, b, rfl, hOn, hng, hc1, hc2, hS, hrr, k⟩ := h
    have hu := hu_of hr
    refine ⟨_, (pss_cons (ps_set (i := 3) sc_put_into.nd rfl (by first | exact Or.inl rfl | exact Or.inr rfl) (pe_fldK K (pv 0) rfl))
      (pss_cons (ps_set (i := 4) sc_put_into.nd rfl (by first | exact Or.inl rfl | exact Or.inr rfl) (pe_op op_add (pe_ix (ix_tupK K) (pe_dget hu (pv 3) (pv 1) (fun _ _ => rfl)) pe_int (fun _ _ => rfl)) pe_int))
      (pss_cons (ps_dput hu (pv 3) (pv 1) (pe_tup (pa_cons (pv 4) (pa_cons (pv 2) pa_nil))) rfl)
      (pss_one (ps_ret (pe_tup (pa_cons pe_str (pa_cons (pv 4) pa_nil)))))))), ?_⟩
    obtain ⟨dx, d, e, gs, hi, he, hD, hkk⟩ := hOn.files
    obtain ⟨⟨n', kk, cc⟩, hm, rfl⟩ := List.mem_map.mp hng
    obtain ⟨vv, hv1, t0, rfl, ht0⟩ := hD.of hOn.len hm
    refine ⟨_, rfl, _, _, _, _, _, rfl, hi, T.c_Shelf, T.n_Shelf_files, rfl, ?_⟩
    refine ⟨_, rfl, _, rfl, _, _, rfl, .inl ⟨_, .inl n', .inl he, rfl, hv1.symm⟩, _, _, _, _, rfl, rfl, ht0, at0, _, _, rfl, rfl, ?_⟩
    refine ⟨_, rfl, _, rfl, zl rfl, fun p5 hp5 => ?_⟩
    obtain ⟨H2, hH2⟩ : ∃ z, z = upd H p5 (.tup [.int (kk + 1), .str c]) := ⟨_, rfl⟩
    rw [← hH2]
    have at_p5 : H2 p5 = some (.tup [.int (kk + 1), .str c]) := by rw [hH2, upd_same]
    have s_H2 : Same H H2 := by rw [hH2]; exact same_new hp5
    clear hH2
    have hGl : gs.length ≤ 9000 := by rw [hD.len]; have := hS.rows; omega
    refine ⟨_, rfl, _, rfl, _, _, rfl, .inl ⟨gs, .inl n', s_H2 _ _ he, rfl, sl (by omega), rfl⟩, ?_⟩
    have hput : putK gs (Sum.inl n') (.ref p5) = gs.map fun kv => if kv.1 = Sum.inl n' then (kv.1, .ref p5) else kv := by
      unfold putK
      rw [valV_any, hv1]
      rfl
    rw [hput]
    obtain ⟨G', hG'⟩ : ∃ z, z = G.map fun x => if x.1 = n' then (n', kk + 1, c) else x := ⟨_, rfl⟩
    have hgk : G'.map (·.1) = G.map (·.1) := by
      rw [hG', List.map_map]
      refine List.map_congr_left fun x _ => ?_
      by_cases z : x.1 = n'
      · simp [z]
      · simp [z]
    have hOn3 := hkk H2 _ G' s_H2 (by rw [hG']; exact dik_set (f := (·.1)) (x' := (n', kk + 1, c)) ⟨p5, rfl, SqT.of at_p5⟩ (hD.mono fun _ _ q => q.same s_H2)) (by rw [hgk]; exact hOn.len)
    refine ⟨_, rfl, zl rfl, fun p6 hp6 => ?_⟩
    refine k _ _ _ k0 _ (hOn3.same (same_new hp6)) (by omega) ⟨?_, ?_, ?_, ?_, ?_, lenA_mono hS.len (Nat.le_succ _)⟩
    · exact hS.ord.congr (fun _ => Iff.rfl) (fun _ _ _ => Iff.rfl) (fun x => by rw [hgk])
    · intro x hx
      rw [hgk]
      exact hS.dis x hx
    · refine fineO_of (fun w2 a2 n2 z => hS.fine.enA z) (fun x hx => hS.fine.fk x (by rw [keysA_plain]; exact hx)) (fun x hx => hS.fine.gk x (by rw [← hgk]; exact hx)) (fun x k2 c2 hx => ?_)
      rw [hG'] at hx
      obtain ⟨y, hy, e⟩ := List.mem_map.mp hx
      by_cases z : y.1 = n'
      · rw [if_pos z] at e
        simp only [Prod.mk.injEq] at e
        rw [← e.2.2]
        exact ⟨hc1, hc2⟩
      · rw [if_neg z] at e
        exact hS.fine.text x k2 c2 (by rw [← e]; exact hy)
    · intro x hx
      rw [hgk] at hx
      exact hS.last x hx
    · rw [hG', List.length_map]
      exact Nat.le_succ_of_le hS.rows
end
end K81
set_option maxHeartbeats 4000000
namespace K81
open PySem PySem.Spec PyProof.Rows L2
section
variable {P : Program} {w : World} {K : PySem.W.Frag} {mg : Str → Option Value} {base : Heap}
abbrev N_done : List Str := ["shelf", "deed", "fault", "number"]
theorem sc_done : FnScope N_done ["shelf", "deed"] (defScope s_done) := ⟨rfl, rfl, rfl, by decide +kernel, rfl, by decide +kernel, by decide +kernel⟩
theorem ok_done (T : Tx K mg base) : OkD P w K mg base d_done.at_ 5 ["shelf", "deed"] (spDone K) := by
  have G_fault_of := ok_fault_of (P := P) (w := w) T
  have G_Shelf_entry := ok_Shelf_entry (P := P) (w := w) T
  have G_Shelf_take_entry := ok_Shelf_take_entry (P := P) (w := w) T
  have G_Shelf_put_entry := ok_Shelf_put_entry (P := P) (w := w) T
  have G_made := ok_made (P := P) (w := w) T
  have G_dropped := ok_dropped (P := P) (w := w) T
  have G_put_into := ok_put_into (P := P) (w := w) T
  refine okD_of T.F_done sc_done (fun _ _ _ _ _ _ us hl => match us, hl with | [_, _], _ => rfl) (fun vs H Q E h => ?_) (fun cdv A outer s H vs Q E hr h => ?_)
  · obtain ⟨p, q, R, A, G, k, dd, r, b, rfl, _⟩ := h
    rfl
  · obtain ⟨p, q, R, A, G, k0, dd, r, b, rfl, hOn, hq, hdo, hS, hk1, hk0, hb, hrr, k⟩ := h
    have hu := hu_of hr
    refine ⟨_, (pss_cons (ps_set (i := 2) sc_done.nd rfl (by first | exact Or.inl rfl | exact Or.inr rfl) (pe_callO G_fault_of hr (by decide) T.g_fault_of (pa_cons (pv 0) (pa_cons (pv 1) pa_nil))))
      (pss_cons (ps_if (pt_cmpR op_ne (pv 2) pe_str (nomark _)) (pss_one (ps_ret (pe_tup (pa_cons pe_str (pa_cons (pv 2) pa_nil))))) pss_nil)
      (pss_cons (ps_if (pt_cmpR op_in_seq (pe_ix (ix_tupK K) (pv 1) pe_int (fun _ _ => rfl)) (pe_tup (pa_cons pe_str (pa_cons pe_str pa_nil))) rfl) (pss_one (ps_ret (pe_callO G_made hr (by decide) T.g_made (pa_cons (pv 0) (pa_cons (pv 1) pa_nil))))) pss_nil)
      (pss_cons (ps_if (pt_cmpR op_eq (pe_ix (ix_tupK K) (pv 1) pe_int (fun _ _ => rfl)) pe_str (nomark _)) (pss_one (ps_ret (pe_callO G_dropped hr (by decide) T.g_dropped (pa_cons (pv 0) (pa_cons (pe_ix (ix_tupK K) (pv 1) pe_int (fun _ _ => rfl)) (pa_cons (pe_ix (ix_tupK K) (pv 1) pe_int (fun _ _ => rfl)) pa_nil)))))) pss_nil)
      (pss_cons (ps_if (pt_cmpR op_eq (pe_ix (ix_tupK K) (pv 1) pe_int (fun _ _ => rfl)) pe_str (nomark _)) (pss_one (ps_ret (pe_callO G_put_into hr (by decide) T.g_put_into (pa_cons (pv 0) (pa_cons (pe_ix (ix_tupK K) (pv 1) pe_int (fun _ _ => rfl)) (pa_cons (pe_ix (ix_tupK K) (pv 1) pe_int (fun _ _ => rfl)) pa_nil)))))) pss_nil)
      (pss_cons (ps_if (pt_cmpR op_eq (pe_ix (ix_tupK K) (pv 1) pe_int (fun _ _ => rfl)) pe_str (nomark _)) (pss_cons (ps_expr (pe_methO G_Shelf_put_entry hr (by decide) T.c_Shelf T.m_Shelf_put_entry (pv 0) (pa_cons (pe_ix (ix_tupK K) (pv 1) pe_int (fun _ _ => rfl)) (pa_cons (pe_ix (ix_tupK K) (pv 1) pe_int (fun _ _ => rfl)) (pa_cons (pe_ix (ix_tupK K) (pv 1) pe_int (fun _ _ => rfl)) pa_nil)))))
      (pss_one (ps_ret (pe_tup (pa_cons pe_str pa_nil))))) pss_nil)
      (pss_cons (ps_set (i := 3) sc_done.nd rfl (by first | exact Or.inl rfl | exact Or.inr rfl) (pe_methO G_Shelf_entry hr (by decide) T.c_Shelf T.m_Shelf_entry (pv 0) (pa_cons (pe_ix (ix_tupK K) (pv 1) pe_int (fun _ _ => rfl)) (pa_cons (pe_ix (ix_tupK K) (pv 1) pe_int (fun _ _ => rfl)) pa_nil))))
      (pss_cons (ps_expr (pe_methO G_Shelf_take_entry hr (by decide) T.c_Shelf T.m_Shelf_take_entry (pv 0) (pa_cons (pe_ix (ix_tupK K) (pv 1) pe_int (fun _ _ => rfl)) (pa_cons (pe_ix (ix_tupK K) (pv 1) pe_int (fun _ _ => rfl)) pa_nil))))
      (pss_cons (ps_expr (pe_methO G_Shelf_put_entry hr (by decide) T.c_Shelf T.m_Shelf_put_entry (pv 0) (pa_cons (pe_ix (ix_tupK K) (pv 1) pe_int (fun _ _ => rfl)) (pa_cons (pe_ix (ix_tupK K) (pv 1) pe_int (fun _ _ => rfl)) (pa_cons (pv 3) pa_nil)))))
      (pss_one (ps_ret (pe_tup (pa_cons pe_str pa_nil))))))))))))), ?_⟩
    have hfl : (flat (plainF A)).length ≤ 3000 := by
      have h1 := flatA_len hS.len
      have h2 := hS.rows
      have h3 : A.length * b ≤ 50 * 60 := Nat.mul_le_mul (by omega) hb
      omega
    refine ⟨_, rfl, _, rfl, p, q, R, A, G, k0, dd, rfl, hOn, hq, hdo, hS.tree, hS.ranked, hS.name, hfl, fun z H1 s1 hz => ?_⟩
    have hOn1 := hOn.same s1
    have hlA := hS.len
    refine ⟨_, rfl, rfl, _, rfl, ite2 (fun _ => ?_) (fun h2 => ?_)⟩
    · exact ⟨_, rfl, zl rfl, fun p6 hp6 => k _ A G k0 _ (hOn1.same (same_new hp6)) (by omega) (hS.mono (Nat.le_succ _) (Nat.le_succ _))⟩
    have hz0 : z = "" := Classical.byContradiction fun q => h2 (by simp [q])
    have hL := hz hz0
    clear hz hz0 h2
    have hq1 := Same.tup s1 hq
    have hi := hOn1
    obtain ⟨dx, d, e, gs, hi, hA, _⟩ := hi
    cases dd with
    | make w1 a1 =>
      replace hq1 : SqT K H1 q [.str "make", .int w1, .str a1, .str "some"] := hq1
      refine ⟨_, rfl, _, _, _, _, rfl, rfl, hq1, at0, zl rfl, fun p2 hp2 => ?_⟩
      obtain ⟨H2, hH2⟩ : ∃ z, z = upd H1 p2 (.tup [.str "make", .str "fold"]) := ⟨_, rfl⟩
      rw [← hH2]
      have at_p2 : H2 p2 = some (.tup [.str "make", .str "fold"]) := by rw [hH2, upd_same]
      have s_H2 : Same H1 H2 := by rw [hH2]; exact same_new hp2
      clear hH2
      have hq2 := Same.tup s_H2 hq1
      have hOn2 := hOn1.same s_H2
      refine ⟨_, _, rfl, .inr (SqT.of at_p2), rfl, rfl, _, rfl, ite2 (fun _ => ?_) (fun z => absurd (by decide +kernel) z)⟩
      exact ⟨_, rfl, _, rfl, p, q, R, A, G, k0, w1, a1, r, b, true, rfl, hOn2, hq2, hL, hS, hk1, hk0, by omega, by omega, k⟩
    | fold w1 a1 =>
      replace hq1 : SqT K H1 q [.str "fold", .int w1, .str a1] := hq1
      refine ⟨_, rfl, _, _, _, _, rfl, rfl, hq1, at0, zl rfl, fun p2 hp2 => ?_⟩
      obtain ⟨H2, hH2⟩ : ∃ z, z = upd H1 p2 (.tup [.str "make", .str "fold"]) := ⟨_, rfl⟩
      rw [← hH2]
      have at_p2 : H2 p2 = some (.tup [.str "make", .str "fold"]) := by rw [hH2, upd_same]
      have s_H2 : Same H1 H2 := by rw [hH2]; exact same_new hp2
      clear hH2
      have hq2 := Same.tup s_H2 hq1
      have hOn2 := hOn1.same s_H2
      refine ⟨_, _, rfl, .inr (SqT.of at_p2), rfl, rfl, _, rfl, ite2 (fun _ => ?_) (fun z => absurd (by decide +kernel) z)⟩
      exact ⟨_, rfl, _, rfl, p, q, R, A, G, k0, w1, a1, r, b, false, rfl, hOn2, hq2, hL, hS, hk1, hk0, by omega, by omega, k⟩
    | link w1 a1 n1 =>
      replace hq1 : SqT K H1 q [.str "link", .int w1, .str a1, .int n1] := hq1
      refine ⟨_, rfl, _, _, _, _, rfl, rfl, hq1, at0, zl rfl, fun p2 hp2 => ?_⟩
      obtain ⟨H2, hH2⟩ : ∃ z, z = upd H1 p2 (.tup [.str "make", .str "fold"]) := ⟨_, rfl⟩
      rw [← hH2]
      have at_p2 : H2 p2 = some (.tup [.str "make", .str "fold"]) := by rw [hH2, upd_same]
      have s_H2 : Same H1 H2 := by rw [hH2]; exact same_new hp2
      clear hH2
      have hq2 := Same.tup s_H2 hq1
      have hOn2 := hOn1.same s_H2
      refine ⟨_, _, rfl, .inr (SqT.of at_p2), rfl, rfl, _, rfl, ite2 (fun z => absurd z (by decide +kernel)) (fun _ => ?_)⟩
      refine ⟨_, rfl, _, _, _, _, rfl, rfl, hq2, at0, rfl, _, rfl, ite2 (fun z => absurd z (by decide +kernel)) (fun _ => ?_)⟩
      refine ⟨_, rfl, _, _, _, _, rfl, rfl, hq2, at0, rfl, _, rfl, ite2 (fun z => absurd z (by decide +kernel)) (fun _ => ?_)⟩
      refine ⟨_, rfl, _, _, _, _, rfl, rfl, hq2, at0, rfl, _, rfl, ite2 (fun _ => ?_) (fun z => absurd (by decide +kernel) z)⟩
      have hi2 := s_H2 _ _ hi
      obtain ⟨hna, hwk, hno, hng⟩ := hL
      refine ⟨_, rfl, _, _, _, rfl, hi2, rfl, _, rfl, _, _, _, _, rfl, rfl, hq2, at1, _, rfl, _, _, _, _, rfl, rfl, hq2, at2, _, rfl, _, _, _, _, rfl, rfl, hq2, at3, p, R, A, G, k0, w1, a1, n1, rfl, hOn2, hwk, hno, lenA_mono hlA (by omega), fun A' H4 hOn4 hkeys hrel hlen _ => ?_⟩
      refine ⟨zl rfl, fun p6 hp6 => ?_⟩
      have hnk : n1 ∉ keysA A := fun z => hS.dis n1 z hng
      refine k _ A' G k0 _ (hOn4.same (same_new hp6)) (by omega) ⟨?_, fun n hn => hS.dis n (by rw [← hkeys]; exact hn), ?_, fun n hn => hS.last n (by rw [← hkeys]; exact hn), by rw [keys_len hkeys]; exact Nat.le_succ_of_le hS.rows, hlen _ hlA⟩
      · refine (hS.ord.addFile (w := w1) (n := n1) (a := a1) hnk).congr (fun n => by rw [hkeys]) (fun w2 a2 n2 => hrel _ _ _) (fun m => ?_)
        constructor
        · exact .inl
        · rintro (z | z)
          · exact z
          · rw [z]; exact hng
      · refine fineO_of (fun w2 a2 n2 h => ?_) (fun n hn => hS.fine.fk n (by rw [keysA_plain, ← hkeys]; exact hn)) hS.fine.gk hS.fine.text
        rcases (hrel _ _ _).mp h with z | z
        · exact hS.fine.enA z
        · rw [z.2.1, z.2.2]; exact ⟨hna, hS.fine.gk n1 hng⟩
    | drop w1 a1 =>
      replace hq1 : SqT K H1 q [.str "drop", .int w1, .str a1] := hq1
      refine ⟨_, rfl, _, _, _, _, rfl, rfl, hq1, at0, zl rfl, fun p2 hp2 => ?_⟩
      obtain ⟨H2, hH2⟩ : ∃ z, z = upd H1 p2 (.tup [.str "make", .str "fold"]) := ⟨_, rfl⟩
      rw [← hH2]
      have at_p2 : H2 p2 = some (.tup [.str "make", .str "fold"]) := by rw [hH2, upd_same]
      have s_H2 : Same H1 H2 := by rw [hH2]; exact same_new hp2
      clear hH2
      have hq2 := Same.tup s_H2 hq1
      have hOn2 := hOn1.same s_H2
      refine ⟨_, _, rfl, .inr (SqT.of at_p2), rfl, rfl, _, rfl, ite2 (fun z => absurd z (by decide +kernel)) (fun _ => ?_)⟩
      refine ⟨_, rfl, _, _, _, _, rfl, rfl, hq2, at0, rfl, _, rfl, ite2 (fun _ => ?_) (fun z => absurd (by decide +kernel) z)⟩
      exact ⟨_, rfl, _, rfl, _, _, _, _, rfl, rfl, hq2, at1, _, rfl, _, _, _, _, rfl, rfl, hq2, at2, p, R, A, G, k0, w1, a1, r, b, rfl, hOn2, hL, hS, by omega, k⟩
    | move w1 a1 g1 b1 =>
      replace hq1 : SqT K H1 q [.str "move", .int w1, .str a1, .int g1, .str b1] := hq1
      refine ⟨_, rfl, _, _, _, _, rfl, rfl, hq1, at0, zl rfl, fun p2 hp2 => ?_⟩
      obtain ⟨H2, hH2⟩ : ∃ z, z = upd H1 p2 (.tup [.str "make", .str "fold"]) := ⟨_, rfl⟩
      rw [← hH2]
      have at_p2 : H2 p2 = some (.tup [.str "make", .str "fold"]) := by rw [hH2, upd_same]
      have s_H2 : Same H1 H2 := by rw [hH2]; exact same_new hp2
      clear hH2
      have hq2 := Same.tup s_H2 hq1
      have hOn2 := hOn1.same s_H2
      refine ⟨_, _, rfl, .inr (SqT.of at_p2), rfl, rfl, _, rfl, ite2 (fun z => absurd z (by decide +kernel)) (fun _ => ?_)⟩
      refine ⟨_, rfl, _, _, _, _, rfl, rfl, hq2, at0, rfl, _, rfl, ite2 (fun z => absurd z (by decide +kernel)) (fun _ => ?_)⟩
      refine ⟨_, rfl, _, _, _, _, rfl, rfl, hq2, at0, rfl, _, rfl, ite2 (fun z => absurd z (by decide +kernel)) (fun _ => ?_)⟩
      refine ⟨_, rfl, _, _, _, _, rfl, rfl, hq2, at0, rfl, _, rfl, ite2 (fun z => absurd z (by decide +kernel)) (fun _ => ?_)⟩
      have hi2 := s_H2 _ _ hi
      obtain ⟨hnb, hgk, ⟨n, hen, hn1, hway⟩, hno⟩ := hL
      have hfun : ∀ m, enA A w1 a1 m → m = n := fun m z => hA.fun z hen
      refine ⟨_, rfl, _, _, _, rfl, hi2, rfl, _, rfl, _, _, _, _, rfl, rfl, hq2, at1, _, rfl, _, _, _, _, rfl, rfl, hq2, at2, p, R, A, G, k0, w1, a1, rfl, hOn2, enA_key hen, fun m hm => ?_, fun hno => absurd hen (hno _)⟩
      obtain rfl := hfun m hm
      clear hm
      refine ⟨_, rfl, _, _, _, rfl, hi2, rfl, _, rfl, _, _, _, _, rfl, rfl, hq2, at1, _, rfl, _, _, _, _, rfl, rfl, hq2, at2, p, R, lastF k0, A, G, w1, a1, m, rfl, hOn2, hen, fun A1 H3 hOn3 sd3 hkeys hrel hlen => ?_⟩
      have hq3 := sd3.tup hq2
      have hi3 := hOn3
      obtain ⟨_, _, _, _, hi3, _⟩ := hi3
      have hl3 := hlen _ hlA
      refine ⟨_, rfl, _, _, _, rfl, hi3, rfl, _, rfl, _, _, _, _, rfl, rfl, hq3, at3, _, rfl, _, _, _, _, rfl, rfl, hq3, at4, _, rfl, p, R, A1, G, k0, g1, b1, m, rfl, hOn3, by rw [hkeys]; exact hgk, fun x z => hno x ((hrel _ _ _).mp z).1, lenA_mono hl3 (by omega), fun A' H4 hOn4 hkeys2 hrel2 hlen2 _ => ?_⟩
      refine ⟨zl rfl, fun p6 hp6 => ?_⟩
      have hkk : keysA A' = keysA A := hkeys2.trans hkeys
      have hrr2 : ∀ w2 a2 n2, enA A' w2 a2 n2 ↔ (enA A w2 a2 n2 ∧ ¬ (w2 = w1 ∧ a2 = a1)) ∨ (w2 = g1 ∧ a2 = b1 ∧ n2 = m) := fun w2 a2 n2 => by rw [hrel2, hrel]
      refine k _ A' G k0 _ (hOn4.same (same_new hp6)) (by omega) ⟨?_, fun n hn => hS.dis n (by rw [← hkk]; exact hn), ?_, fun n hn => hS.last n (by rw [← hkk]; exact hn), by rw [keys_len hkk]; exact Nat.le_succ_of_le hS.rows, hlen2 _ hl3⟩
      · refine (hS.ord.move (g := g1) (b := b1) hen hn1 hfun hgk (fun z => ?_)).congr (fun n => by rw [hkk]) hrr2 (fun _ => Iff.rfl)
        obtain ⟨ns, y⟩ := way_of_wayP z
        exact hway ns y
      · refine fineO_of (fun w2 a2 n2 h => ?_) (fun n hn => hS.fine.fk n (by rw [keysA_plain, ← hkk]; exact hn)) hS.fine.gk hS.fine.text
        rcases (hrr2 _ _ _).mp h with z | z
        · exact hS.fine.enA z.1
        · rw [z.2.1, z.2.2]; exact ⟨hnb, (hS.fine.enA hen).2⟩
    | put n1 v1 =>
      replace hq1 : SqT K H1 q [.str "put", .int n1, .int v1, .str "else"] := hq1
      refine ⟨_, rfl, _, _, _, _, rfl, rfl, hq1, at0, zl rfl, fun p2 hp2 => ?_⟩
      obtain ⟨H2, hH2⟩ : ∃ z, z = upd H1 p2 (.tup [.str "make", .str "fold"]) := ⟨_, rfl⟩
      rw [← hH2]
      have at_p2 : H2 p2 = some (.tup [.str "make", .str "fold"]) := by rw [hH2, upd_same]
      have s_H2 : Same H1 H2 := by rw [hH2]; exact same_new hp2
      clear hH2
      have hq2 := Same.tup s_H2 hq1
      have hOn2 := hOn1.same s_H2
      refine ⟨_, _, rfl, .inr (SqT.of at_p2), rfl, rfl, _, rfl, ite2 (fun z => absurd z (by decide +kernel)) (fun _ => ?_)⟩
      refine ⟨_, rfl, _, _, _, _, rfl, rfl, hq2, at0, rfl, _, rfl, ite2 (fun z => absurd z (by decide +kernel)) (fun _ => ?_)⟩
      refine ⟨_, rfl, _, _, _, _, rfl, rfl, hq2, at0, rfl, _, rfl, ite2 (fun _ => ?_) (fun z => absurd (by decide +kernel) z)⟩
      exact ⟨_, rfl, _, rfl, _, _, _, _, rfl, rfl, hq2, at1, _, rfl, _, _, _, _, rfl, rfl, hq2, at3, p, R, A, G, k0, n1, "else", r, b, rfl, hOn2, hL, by decide +kernel, by decide +kernel, hS, by omega, k⟩
end
end K81
set_option maxHeartbeats 4000000
namespace K81
open PySem PySem.Spec PyProof.Rows L2
/-! ### the law's draws -/
def nonneg (ns : List Int) : Prop := ns ≠ [] ∧ ∀ n ∈ ns, 0 ≤ n
def LeftAt (H : Hp) (q : Addr) : Prop := ∃ ns : List Int, H q = some (.lst (ns.map V.int)) ∧ nonneg ns
/-- all but the draws' list stays -/
def Keep (q : Addr) (H H' : Hp) : Prop := Same (del H q) H'
theorem Keep.refl (q : Addr) (H : Hp) : Keep q H H := del_same H q
theorem Keep.trans {q : Addr} {H H1 H2 : Hp} (a : Keep q H H1) (b : Keep q H1 H2) : Keep q H H2 := fun c o h => by
  have hc : c ≠ q := fun e => by subst e; rw [del_self] at h; cases h
  exact b c o (del_at (a c o h) hc)
theorem Keep.same {q : Addr} {H H1 H2 : Hp} (a : Keep q H H1) (b : Same H1 H2) : Keep q H H2 := Same.trans a b
theorem Keep.of {q : Addr} {H H1 : Hp} (a : Same H H1) : Keep q H H1 := (del_same H q).trans a
theorem Keep.at {q b : Addr} {H H1 : Hp} {o : HO} (a : Keep q H H1) (h : H b = some o) (n : b ≠ q) : H1 b = some o := a b o (del_at h n)
theorem Keep.upd (q : Addr) (H : Hp) (o : HO) : Keep q H (L2.upd H q o) := fun b u h => by
  have hb : b ≠ q := fun e => by subst e; rw [del_self] at h; cases h
  rw [upd_ne hb]
  exact del_same H q b u h
theorem Keep.off {q b : Addr} {H H1 : Hp} {o : HO} (a : Keep q H H1) (h : H b = none) : Keep q H (L2.upd H1 b o) := Same.off a (del_none h)
theorem Keep.del {q : Addr} {H H1 : Hp} (a : Keep q H H1) : Same (K81.del H q) (K81.del H1 q) := fun b o h => by
  have hb : b ≠ q := fun e => by subst e; rw [del_self] at h; cases h
  exact del_at (a b o h) hb
theorem LeftAt.same {q : Addr} {H H1 : Hp} (s : Same H H1) (h : LeftAt H q) : LeftAt H1 q := let ⟨ns, a, b⟩ := h; ⟨ns, s _ _ a, b⟩
theorem set_last {α : Type} (b a : α) : ∀ l : List α, (l ++ [a]).set l.length b = l ++ [b]
  | [] => rfl
  | x :: l => by simp
def spMix : Sp := fun vs H Q _ => ∃ c k : Int, vs = [.int c, .int k] ∧ 0 ≤ k ∧ k ≤ 100000 ∧ ∀ i, 0 ≤ i → Q (.int i) H
def spLeft : Sp := fun vs H Q _ => ∃ c k : Int, vs = [.int c, .int k] ∧ 0 ≤ k ∧ k ≤ 1000 ∧ ∀ q ns H', Same H H' → H q = none → H' q = some (.lst (ns.map V.int)) → nonneg ns → Q (.ref q) H'
def spPick : Sp := fun vs H Q _ => ∃ (q : Addr) (ns : List Int) (m : Int), vs = [.ref q, .int m] ∧ H q = some (.lst (ns.map V.int)) ∧ nonneg ns ∧ 0 < m ∧ m < 1000000 ∧ ∀ i ns', 0 ≤ i → i < m → nonneg ns' → Q (.int i) (upd H q (.lst (ns'.map V.int)))
section
variable {P : Program} {w : World} {K : PySem.W.Frag} {mg : Str → Option Value} {base : Heap}
abbrev N_l_mix : List Str := ["_law_cell", "_law_k", "_law_m"]
theorem sc_l_mix : FnScope N_l_mix ["_law_cell", "_law_k"] (defScope s_l_mix) := ⟨rfl, rfl, rfl, by decide +kernel, rfl, by decide +kernel, by decide +kernel⟩
theorem ok_l_mix (T : Tx K mg base) : OkD P w K mg base d_l_mix.at_ 1 ["_law_cell", "_law_k"] spMix := by
  refine okD_of T.F_l_mix sc_l_mix (fun _ _ _ _ _ _ us hl => match us, hl with | [_, _], _ => rfl) (fun vs H Q E h => ?_) (fun cdv A outer s H vs Q E hr h => ?_)
  · obtain ⟨c, k, rfl, _⟩ := h
    rfl
  · obtain ⟨c, k0, rfl, h0, h1, k⟩ := h
    have hu := hu_of hr
    refine ⟨_, (pss_cons (ps_set (i := 2) sc_l_mix.nd rfl (by first | exact Or.inl rfl | exact Or.inr rfl) (pe_op op_mod (pe_op op_mul (pe_op op_add (pe_op op_add (pe_op op_mod (pv 0) pe_int) (pe_op op_mul (pe_op op_mul (pv 1) (pv 1)) pe_int)) pe_int) pe_int) pe_int))
      (pss_one (ps_ret (pe_op op_mod (pe_op op_mul (pv 2) (pv 2)) pe_int)))), ?_⟩
    have e64 : (2 : Int) ^ 64 = 18446744073709551616 := by decide
    have b0 : 0 ≤ ((c % 2147483629 + k0 * k0 * 7919 + 11) * 48271 % 2147483647 : Int) := Int.emod_nonneg _ (by decide)
    have b1 : ((c % 2147483629 + k0 * k0 * 7919 + 11) * 48271 % 2147483647 : Int) < 2147483647 := Int.emod_lt_of_pos _ (by decide)
    refine ⟨_, rfl, _, _, rfl, rfl, (show (0 : Int) < 2147483629 by decide), _, rfl, _, rfl, _, _, rfl, rfl, .inl ⟨by rw [e64]; omega, by rw [e64]; omega⟩, _, _, rfl, rfl, .inr ⟨by decide, by decide⟩, _, _, rfl, rfl, _, _, rfl, rfl, _, _, rfl, rfl, .inr ⟨by decide, by decide⟩, _, _, rfl, rfl, (show (0 : Int) < 2147483647 by decide), ?_⟩
    exact ⟨_, rfl, _, rfl, _, _, rfl, rfl, .inl ⟨by rw [e64]; omega, by rw [e64]; omega⟩, _, _, rfl, rfl, (show (0 : Int) < 1999999973 by decide), k _ (Int.emod_nonneg _ (by decide))⟩
abbrev N_l_left : List Str := ["_law_cell", "_law_k", "_law_number_here", "_law_j"]
theorem sc_l_left : FnScope N_l_left ["_law_cell", "_law_k"] (defScope s_l_left) := ⟨rfl, rfl, rfl, by decide +kernel, rfl, by decide +kernel, by decide +kernel⟩
theorem ok_l_left (T : Tx K mg base) : OkD P w K mg base d_l_left.at_ 2 ["_law_cell", "_law_k"] spLeft := by
  have G_l_mix := ok_l_mix (P := P) (w := w) T
  refine okD_of T.F_l_left sc_l_left (fun _ _ _ _ _ _ us hl => match us, hl with | [_, _], _ => rfl) (fun vs H Q E h => ?_) (fun cdv A outer s H vs Q E hr h => ?_)
  · obtain ⟨c, k, rfl, _⟩ := h
    rfl
  · obtain ⟨c, k0, rfl, h0, h1, k⟩ := h
    have hu := hu_of hr
    refine ⟨_, (pss_cons (ps_set (i := 2) sc_l_left.nd rfl (by first | exact Or.inl rfl | exact Or.inr rfl) pe_int)
      (pss_cons (ps_for PassesOwn.never rfl (pi_range1 rfl T.z_range (pa_cons pe_int pa_nil)) (pg_name (i := 3) sc_l_left.nd rfl (by first | exact Or.inl rfl | exact Or.inr rfl)) (pss_one (ps_set (i := 2) sc_l_left.nd rfl (by first | exact Or.inl rfl | exact Or.inr rfl) (pe_op op_add (pe_op op_mul (pv 2) pe_int) (pe_callO G_l_mix hr (by decide) T.g_law_mix (pa_cons (pv 0) (pa_cons (pe_op op_add (pe_op op_mul pe_int (pv 1)) (pv 3)) pa_nil)))))))
      (pss_cons (ps_if (pt_cmpR op_ge (pe_callB call_abs (by rfl) T.z_abs (show bootBuiltins "abs" = some (.builtin "abs") by decide +kernel) (pa_cons (pv 0) pa_nil)) (pe_op op_pow pe_int pe_int) (nomark _)) (pss_one (ps_ret (pe_lst (pa_cons (pv 2) (pa_cons (pe_callB call_abs (by rfl) T.z_abs (show bootBuiltins "abs" = some (.builtin "abs") by decide +kernel) (pa_cons (pv 0) pa_nil)) pa_nil))))) pss_nil)
      (pss_one (ps_ret (pe_lst (pa_cons (pv 2) pa_nil))))))), ?_⟩
    refine ⟨_, rfl, by decide, by decide, ?_⟩
    refine for_it walk_range (fun i σ H' => ∃ (n : Int) (y : Option V), σ = [some (.int c), some (.int k0), some (.int n), y] ∧ H' = H ∧ 0 ≤ n) ⟨0, _, rfl, rfl, Int.le_refl _⟩ (fun _ _ _ _ _ => trivial) ?_ ?_
    · rintro i v σ H1 H' hi ⟨n, _, rfl, rfl, hn⟩ ⟨rfl, rfl⟩
      have e64 : (2 : Int) ^ 64 = 18446744073709551616 := by decide
      have hi' : i < 72 := hi
      refine ⟨_, rfl, _, _, rfl, rfl, .inr ⟨by decide, by decide⟩, _, rfl, _, rfl, _, _, rfl, rfl, .inl ⟨by decide, by decide⟩, _, rfl, _, _, rfl, rfl, _, _, rfl, by omega, by omega, fun m hm => ⟨_, _, rfl, rfl, n * 1999999973 + m, _, rfl, rfl, by omega⟩⟩
    · rintro σ H1 ⟨n, _, rfl, rfl, hn⟩
      refine ⟨_, rfl, _, rfl, _, _, rfl, rfl, ⟨by decide, by decide, by decide⟩, _, _, rfl, rfl, _, rfl, ite2 (fun h => ?_) (fun h => ?_)⟩
      · refine ⟨_, rfl, _, rfl, _, rfl, zl rfl, fun q hq => k q [n, if c < 0 then -c else c] _ (same_new hq) hq (upd_same ..) ⟨by simp, fun x hx => ?_⟩⟩
        rcases List.mem_cons.mp hx with z | z
        · rw [z]; exact hn
        · rw [List.mem_singleton.mp z]
          by_cases y : c < 0
          · rw [if_pos y]; omega
          · rw [if_neg y]; omega
      · refine ⟨_, rfl, zl rfl, fun q hq => k q [n] _ (same_new hq) hq (upd_same ..) ⟨by simp, fun x hx => ?_⟩⟩
        rw [List.mem_singleton.mp hx]; exact hn
abbrev N_l_pick : List Str := ["_law_left_here", "_law_many", "_law_digit"]
theorem sc_l_pick : FnScope N_l_pick ["_law_left_here", "_law_many"] (defScope s_l_pick) := ⟨rfl, rfl, rfl, by decide +kernel, rfl, by decide +kernel, by decide +kernel⟩
theorem ok_l_pick (T : Tx K mg base) : OkD P w K mg base d_l_pick.at_ 1 ["_law_left_here", "_law_many"] spPick := by
  refine okD_of T.F_l_pick sc_l_pick (fun _ _ _ _ _ _ us hl => match us, hl with | [_, _], _ => rfl) (fun vs H Q E h => ?_) (fun cdv A outer s H vs Q E hr h => ?_)
  · obtain ⟨q, ns, m, rfl, _⟩ := h
    rfl
  · obtain ⟨q, ns, m, rfl, hq, hns, hm0, hm1, k⟩ := h
    have hu := hu_of hr
    refine ⟨_, (pss_cons (ps_set (i := 2) sc_l_pick.nd rfl (by first | exact Or.inl rfl | exact Or.inr rfl) (pe_op op_mod (pe_ix (ix_listK K) (pv 0) (pe_un un_neg pe_int) (fun _ _ => rfl)) (pv 1)))
      (pss_cons (ps_asg (pe_op op_fdiv (pe_ix (ix_listK K) (pv 0) (pe_un un_neg pe_int) (fun _ _ => rfl)) (pv 1)) (pg_sub (pv 0) (pe_un un_neg pe_int) set_list))
      (pss_cons (ps_if (PW.pt (pw_and (pt_cmpR op_eq (pe_ix (ix_listK K) (pv 0) (pe_un un_neg pe_int) (fun _ _ => rfl)) pe_int (nomark _)) (pw_and1 (pt_cmpR op_gt (pe_callB call_len_seq (by rfl) T.z_len (show bootBuiltins "len" = some (.builtin "len") by decide +kernel) (pa_cons (pv 0) pa_nil)) pe_int (nomark _))))) (pss_one (ps_expr (pe_bm0 PySem.F.plainAttrs_list PySem.F.slot_list_pop PySem.F.type_list_pop mt_pop (pv 0)))) pss_nil)
      (pss_one (ps_ret (pv 2)))))), ?_⟩
    obtain ⟨hne, hnn⟩ := hns
    obtain ⟨ns', n, rfl⟩ : ∃ ns' n, ns = ns' ++ [n] := ⟨ns.dropLast, ns.getLast hne, (List.dropLast_concat_getLast hne).symm⟩
    have hn : 0 ≤ n := hnn n (by simp)
    rw [List.map_append, List.map_singleton] at hq
    have hn2 : 0 ≤ n / m := Int.ediv_nonneg hn (by omega)
    have hl : (ns'.map V.int).length = ns'.length := List.length_map _
    have hix : ixN (ns'.map V.int ++ [V.int n]).length (-1) = some (ns'.map V.int).length := by
      have e : (ns'.map V.int ++ [V.int n]).length = ns'.length + 1 := by simp
      rw [e, hl]
      unfold ixN
      rw [if_neg (by omega), if_pos (by omega)]
      congr 1
      omega
    refine ⟨_, rfl, _, rfl, _, _, _, _, rfl, rfl, SqL.of hq, atI_last _ _, _, rfl, _, _, rfl, rfl, hm0, ?_⟩
    refine ⟨_, rfl, _, rfl, _, _, _, _, rfl, rfl, SqL.of hq, atI_last _ _, _, rfl, _, _, rfl, rfl, ⟨hm0, by omega⟩, _, rfl, _, rfl, _, _, _, _, rfl, rfl, hq, hix, ?_⟩
    rw [set_last]
    have hq2 : (upd H q (.lst (ns'.map V.int ++ [V.int (n / m)]))) q = some (.lst (ns'.map V.int ++ [V.int (n / m)])) := upd_same ..
    have fin : ∀ ns2 : List Int, nonneg ns2 → Q (.int (n % m)) (upd H q (.lst (ns2.map V.int))) := fun ns2 h => k _ ns2 (Int.emod_nonneg _ (by omega)) (Int.emod_lt_of_pos _ hm0) h
    have fin1 : Q (.int (n % m)) (upd H q (.lst (ns'.map V.int ++ [V.int (n / m)]))) := by
      have := fin (ns' ++ [n / m]) ⟨by simp, fun x hx => by
        rcases List.mem_append.mp hx with z | z
        · exact hnn x (List.mem_append.mpr (.inl z))
        · rw [List.mem_singleton.mp z]; exact hn2⟩
      rw [List.map_append, List.map_singleton] at this
      exact this
    refine ⟨_, rfl, _, rfl, _, _, _, _, rfl, rfl, SqL.of hq2, atI_last _ _, rfl, _, rfl, ite2 (fun h1 => ?_) (fun h1 => iteF ⟨_, rfl, fin1⟩)⟩
    refine ⟨_, rfl, _, _, rfl, .inl (SqL.of hq2), _, _, rfl, rfl, _, rfl, ite2 (fun h2 => ?_) (fun h2 => ⟨_, rfl, fin1⟩)⟩
    have hne' : ns' ≠ [] := fun z => by rw [z] at h2; exact absurd h2 (by simp)
    refine ⟨_, rfl, tyL (SqL.of hq2), _, _, _, rfl, rfl, hq2, last_at _ _, ?_⟩
    rw [List.dropLast_concat, L2.upd_upd]
    exact ⟨_, rfl, fin ns' ⟨hne', fun x hx => hnn x (List.mem_append.mpr (.inl hx))⟩⟩
end
end K81
set_option maxHeartbeats 4000000
namespace K81
open PySem PySem.Spec PyProof.Rows L2
/-! ### texts drawn -/
def okT (z : Str) : Prop := ∀ c ∈ z.cps.toList, c < 0x110000
theorem strOk_of {z : Str} (h : okT z) : PyData.strOk z = true := by
  unfold PyData.strOk
  rw [← Array.all_toList, List.all_eq_true]
  exact fun c hc => decide_eq_true (h c hc)
theorem joinL_nil_mem {c : Nat} : ∀ {ls : List (List Nat)}, c ∈ TL.joinL [] ls → ∃ l ∈ ls, c ∈ l
  | [], h => by cases h
  | [p], h => ⟨p, List.mem_singleton.mpr rfl, h⟩
  | p :: q :: r, h => by
    have h' : c ∈ p ++ ([] ++ TL.joinL [] (q :: r)) := h
    rcases List.mem_append.mp h' with z | z
    · exact ⟨p, List.mem_cons_self, z⟩
    · obtain ⟨l, h1, h2⟩ := joinL_nil_mem (ls := q :: r) z
      exact ⟨l, List.mem_cons_of_mem _ h1, h2⟩
theorem joinL_nil_len : ∀ {ls : List (List Nat)}, (∀ l ∈ ls, l.length = 1) → (TL.joinL [] ls).length = ls.length
  | [], _ => rfl
  | [p], h => h p (List.mem_singleton.mpr rfl)
  | p :: q :: r, h => by
    show (p ++ ([] ++ TL.joinL [] (q :: r))).length = _
    rw [List.length_append, List.nil_append, joinL_nil_len (ls := q :: r) fun l m => h l (List.mem_cons_of_mem _ m), h p List.mem_cons_self]
    simp only [List.length_cons]
    omega
theorem okT_join {ys : List Str} (h : ∀ y ∈ ys, okT y) : okT (Txt.join "" ys) := by
  intro c hc
  rw [TL.join_eq] at hc
  have hc' : c ∈ TL.tl (Str.join "" ys) := hc
  rw [TL.tl_join] at hc'
  obtain ⟨l, h1, h2⟩ := joinL_nil_mem (show c ∈ TL.joinL [] (ys.map TL.tl) from hc')
  obtain ⟨y, hy, rfl⟩ := List.mem_map.mp h1
  exact h y hy c h2
theorem join_len {ys : List Str} (h : ∀ y ∈ ys, y.length = 1) : (Txt.join "" ys).length = ys.length := by
  rw [TL.join_eq, ← len_tl, TL.tl_join]
  have := joinL_nil_len (ls := ys.map TL.tl) (fun l m => by
    obtain ⟨y, hy, rfl⟩ := List.mem_map.mp m
    rw [len_tl]; exact h y hy)
  rw [List.length_map] at this
  exact this
theorem foldl_mem {c : Nat} {a : Array Nat} : ∀ (n : Nat) (acc : Array Nat), c ∈ ((List.replicate n a).foldl (· ++ ·) acc).toList → c ∈ acc.toList ∨ c ∈ a.toList
  | 0, _, h => .inl h
  | n + 1, acc, h => by
    rw [List.replicate_succ, List.foldl_cons] at h
    rcases foldl_mem n _ h with z | z
    · rw [Array.toList_append] at z
      exact List.mem_append.mp z
    · exact .inr z
theorem okT_mul {z : Str} (h : okT z) (k : Int) : okT (Txt.mul z k) := by
  unfold Txt.mul
  split
  · intro c hc; cases hc
  · split
    · exact h
    · intro c hc
      rcases foldl_mem _ _ hc with q | q
      · cases q
      · exact h c q
theorem okT_cut {z : Str} (h : okT z) (lo hi : Option Int) : okT (cutS z lo hi) := by
  intro c hc
  have hc' : c ∈ (z.cps.toList.drop (HT.sIx z.length 0 lo)).take (HT.sIx z.length z.length hi - HT.sIx z.length 0 lo) := by
    unfold cutS at hc
    simpa using hc
  exact h c (List.mem_of_mem_drop (List.mem_of_mem_take hc'))
theorem cutS_len (z : Str) (lo hi : Option Int) : (cutS z lo hi).length ≤ z.length := by
  rw [← len_tl, ← len_tl]
  unfold cutS TL.tl
  simp only [List.length_take, List.length_drop]
  omega
def spContent : Sp := fun vs H Q _ => ∃ q : Addr, vs = [.ref q] ∧ LeftAt H q ∧ ∀ z H', LeftAt H' q → Keep q H H' → PyData.strOk z = true → z.length ≤ 1000 → Q (.str z) H'
def spNumber (K : PySem.W.Frag) : Sp := fun vs H Q _ => ∃ (q tq : Addr) (ts : List Int), vs = [.ref q, .ref tq] ∧ LeftAt H q ∧ H tq = some (.lst (ts.map V.int)) ∧ tq ≠ q ∧ (∀ n ∈ ts, n ≤ 99000 + ts.length) ∧ ts.length ≤ 100 ∧
  ∀ (n : Int) H', LeftAt H' q → Keep q H H' → 0 ≤ n → n ≤ 99000 + ts.length + 1 → Q (.int n) H'
def spShuffled (K : PySem.W.Frag) : Sp := fun vs H Q _ => ∃ (q sq : Addr) (xs : List V), vs = [.ref q, .ref sq] ∧ LeftAt H q ∧ SqL K (del H q) sq xs ∧ xs.length ≤ 1000 ∧
  ∀ p ys H', LeftAt H' q → Keep q H H' → H p = none → H' p = some (.lst ys) → ys.Perm xs → Q (.ref p) H'
section
variable {P : Program} {w : World} {K : PySem.W.Frag} {mg : Str → Option Value} {base : Heap}
abbrev N_l_content : List Str := ["_law_left_here", "_law_signs", "_law_size", "_law_few", "_law_k"]
theorem sc_l_content : FnScope N_l_content ["_law_left_here"] (defScope s_l_content) := ⟨rfl, rfl, rfl, by decide +kernel, rfl, by decide +kernel, by decide +kernel⟩
theorem ok_l_content (T : Tx K mg base) : OkD P w K mg base d_l_content.at_ 2 ["_law_left_here"] spContent := by
  have G_l_pick := ok_l_pick (P := P) (w := w) T
  refine okD_of T.F_l_content sc_l_content (fun _ _ _ _ _ _ us hl => match us, hl with | [_], _ => rfl) (fun vs H Q E h => ?_) (fun cdv A outer s H vs Q E hr h => ?_)
  · obtain ⟨q, rfl, _⟩ := h
    rfl
  · obtain ⟨q, rfl, hq, k⟩ := h
    have hu := hu_of hr
    refine ⟨_, (pss_cons (ps_set (i := 1) sc_l_content.nd rfl (by first | exact Or.inl rfl | exact Or.inr rfl) pe_str)
      (pss_cons (ps_set (i := 2) sc_l_content.nd rfl (by first | exact Or.inl rfl | exact Or.inr rfl) (pe_ix (ix_listK K) (pe_lst (pa_cons pe_int (pa_cons pe_int (pa_cons pe_int (pa_cons pe_int (pa_cons pe_int pa_nil)))))) (pe_callO G_l_pick hr (by decide) T.g_law_pick (pa_cons (pv 0) (pa_cons pe_int pa_nil))) (fun _ _ => rfl)))
      (pss_cons (ps_set (i := 3) sc_l_content.nd rfl (by first | exact Or.inl rfl | exact Or.inr rfl) (pe_join pe_str (pe_lc (own := [("_law_k", 4)]) rfl sc_l_content.nd (pi_range1 rfl T.z_range (pa_cons pe_int pa_nil)) (blkOk_by (N := N_l_content) (sc := defScope s_l_content) (by decide +kernel)) (fun _ _ _ _ _ => (pg_name (i := 4) sc_l_content.nd rfl (Or.inl rfl))) (fun _ _ _ _ _ => pts_nil) (fun _ _ _ _ _ => (pe_ix ix_str (pv 1) (pe_callO G_l_pick hr (by decide) T.g_law_pick (pa_cons (pv 0) (pa_cons pe_int pa_nil))) (fun _ _ => rfl))))))
      (pss_one (ps_ret (pe_slice sl_str (pe_op op_mul_str (pv 3) pe_int) po_none (po_some (pv 2)))))))), ?_⟩
    obtain ⟨ns, hq, hns⟩ := hq
    refine ⟨zl rfl, fun p1 hp1 => ?_⟩
    obtain ⟨H1, hH1⟩ : ∃ z, z = upd H p1 (.lst [.int 0, .int 1, .int 2, .int 5, .int 200]) := ⟨_, rfl⟩
    rw [← hH1]
    have at_p1 : H1 p1 = some (.lst [.int 0, .int 1, .int 2, .int 5, .int 200]) := by rw [hH1, upd_same]
    have s_H1 : Same H H1 := by rw [hH1]; exact same_new hp1
    clear hH1
    have hqp : p1 ≠ q := ne_of_none' hp1 hq
    refine ⟨_, rfl, q, ns, 5, rfl, s_H1 _ _ hq, hns, by decide, by decide, fun i ns2 hi0 hi1 hns2 => ?_⟩
    have hsz : ∃ sz : Int, atI [V.int 0, V.int 1, V.int 2, V.int 5, V.int 200] i = some (.int sz) ∧ 0 ≤ sz ∧ sz ≤ 200 := by
      obtain ⟨i, rfl⟩ := Int.eq_ofNat_of_zero_le hi0
      match i, hi1 with
      | 0, _ => exact ⟨0, atI_at rfl, by decide, by decide⟩
      | 1, _ => exact ⟨1, atI_at rfl, by decide, by decide⟩
      | 2, _ => exact ⟨2, atI_at rfl, by decide, by decide⟩
      | 3, _ => exact ⟨5, atI_at rfl, by decide, by decide⟩
      | 4, _ => exact ⟨200, atI_at rfl, by decide, by decide⟩
      | n + 5, h => exact absurd h (by omega)
    obtain ⟨sz, hsz, hsz0, hsz1⟩ := hsz
    obtain ⟨H2, hH2⟩ : ∃ z, z = upd H1 q (.lst (ns2.map V.int)) := ⟨_, rfl⟩
    rw [← hH2]
    have q2 : H2 q = some (.lst (ns2.map V.int)) := by rw [hH2, upd_same]
    have p2 : H2 p1 = some (.lst [.int 0, .int 1, .int 2, .int 5, .int 200]) := by rw [hH2]; exact upd_at_ne at_p1 hqp
    have k2 : Keep q H H2 := by rw [hH2]; exact (Keep.of s_H1).trans (Keep.upd q H1 _)
    clear hH2
    refine ⟨_, _, _, _, rfl, rfl, SqL.of p2, hsz, ?_⟩
    refine ⟨⟨_, rfl⟩, _, rfl, by decide, by decide, fun D hD => ?_⟩
    have hDq : D ≠ q := ne_of_none' hD q2
    refine lc_it walk_range (fun i H' => LeftAt H' q ∧ Keep q H2 H' ∧ ∃ cs : List Nat, H' D = some (.lst (cs.map fun c => V.str ⟨#[c]⟩)) ∧ cs.length = i ∧ ∀ c ∈ cs, c < 0x110000) ⟨⟨ns2, same_new hD _ _ q2, hns2⟩, (Keep.of (same_new hD)), [], upd_same .., rfl, fun c h => (nomatch h)⟩ (fun _ _ _ _ => trivial) ?_ ?_
    · rintro i x H3 H' hi ⟨⟨ns3, q3, hns3⟩, k3, cs, hD3, hcl, hcs⟩ ⟨rfl, rfl⟩
      refine ⟨rfl, tyes ⟨_, rfl, _, rfl, q, ns3, 37, rfl, q3, hns3, by decide, by decide, fun j ns4 hj0 hj1 hns4 => ?_⟩⟩
      obtain ⟨j, rfl⟩ := Int.eq_ofNat_of_zero_le hj0
      have hjl : j < ("abcdefghijklmnopqrstuvwxyz0123456789." : Str).cps.toList.length := by
        rw [show ("abcdefghijklmnopqrstuvwxyz0123456789." : Str).cps.toList.length = 37 from by decide +kernel]
        omega
      obtain ⟨c, hc⟩ : ∃ c, ("abcdefghijklmnopqrstuvwxyz0123456789." : Str).cps.toList[j]? = some c := ⟨_, List.getElem?_eq_getElem hjl⟩
      have hcs37 : ∀ c ∈ ("abcdefghijklmnopqrstuvwxyz0123456789." : Str).cps.toList, c < 0x110000 := by decide +kernel
      refine ⟨_, (j : Int), c, rfl, rfl, sl' (show 37 ≤ 100000 by decide), atI_at hc, ?_⟩
      refine ⟨cs.map fun c => V.str ⟨#[c]⟩, upd_at_ne hD3 hDq, sl (by rw [List.length_map]; omega), ⟨ns4, by rw [upd_ne hDq.symm, upd_same], hns4⟩, ?_, cs ++ [c], by rw [upd_same, List.map_append]; rfl, by simp [hcl], fun c' h' => ?_⟩
      · exact (k3.trans (Keep.upd q _ _)).off hD
      · rcases List.mem_append.mp h' with z | z
        · exact hcs c' z
        · rw [List.mem_singleton.mp z]; exact hcs37 c (List.mem_of_getElem? hc)
    · rintro H3 ⟨q3, k3, cs, hD3, hcl, hcs⟩
      have hcl3 : cs.length = 3 := hcl
      have hmm : (cs.map fun c => V.str ⟨#[c]⟩) = (cs.map fun c => (⟨#[c]⟩ : Str)).map V.str := by rw [List.map_map]; rfl
      rw [hmm] at hD3
      have hl1 : ∀ y ∈ cs.map fun c => (⟨#[c]⟩ : Str), y.length = 1 := fun y hy => by
        obtain ⟨c, _, rfl⟩ := List.mem_map.mp hy
        rfl
      have hfew : (Txt.join "" (cs.map fun c => (⟨#[c]⟩ : Str))).length = 3 := by rw [join_len hl1, List.length_map]; exact hcl3
      have hok : okT (Txt.join "" (cs.map fun c => (⟨#[c]⟩ : Str))) := okT_join fun y hy => by
        obtain ⟨c, hc, rfl⟩ := List.mem_map.mp hy
        intro c' h'
        have : c' = c := by simpa using h'
        rw [this]; exact hcs c hc
      refine ⟨_, _, _, rfl, rfl, .inl (SqL.of hD3), ?_, ?_⟩
      · rw [show ("" : Str).length = 0 from rfl]
        have : ((cs.map fun c => (⟨#[c]⟩ : Str)).map (·.length)).sum ≤ 3 := by
          match cs, hcl3 with
          | [a, b, c], _ => exact Nat.le_refl _
        omega
      · generalize Txt.join "" (cs.map fun c => (⟨#[c]⟩ : Str)) = few at hfew hok
        have hml := txt_mul_len few 67 (by decide)
        rw [hfew] at hml
        refine ⟨_, rfl, _, _, rfl, rfl, by omega, by decide, by decide, _, rfl, _, rfl, _, rfl, sl' (by rw [hml]; decide), k _ H3 q3 (k2.trans k3) (strOk_of (okT_cut (okT_mul hok 67) _ _)) ?_⟩
        have := cutS_len (Txt.mul few 67) none (some sz)
        rw [hml] at this
        exact Nat.le_trans this (by decide)
end
end K81
set_option maxHeartbeats 4000000
namespace K81
open PySem PySem.Spec PyProof.Rows L2
section
variable {P : Program} {w : World} {K : PySem.W.Frag} {mg : Str → Option Value} {base : Heap}
abbrev N_l_number : List Str := ["_law_left_here", "_law_told", "_law_number_here"]
theorem sc_l_number : FnScope N_l_number ["_law_left_here", "_law_told"] (defScope s_l_number) := ⟨rfl, rfl, rfl, by decide +kernel, rfl, by decide +kernel, by decide +kernel⟩
theorem ok_l_number (T : Tx K mg base) : OkD P w K mg base d_l_number.at_ 2 ["_law_left_here", "_law_told"] (spNumber K) := by
  have G_l_pick := ok_l_pick (P := P) (w := w) T
  refine okD_of T.F_l_number sc_l_number (fun _ _ _ _ _ _ us hl => match us, hl with | [_, _], _ => rfl) (fun vs H Q E h => ?_) (fun cdv A outer s H vs Q E hr h => ?_)
  · obtain ⟨q, tq, ts, rfl, _⟩ := h
    rfl
  · obtain ⟨q, tq, ts, rfl, hq, ht, htq, hts, htl, k⟩ := h
    have hu := hu_of hr
    refine ⟨_, (pss_cons (ps_set (i := 2) sc_l_number.nd rfl (by first | exact Or.inl rfl | exact Or.inr rfl) (pe_op op_add pe_int (pe_callO G_l_pick hr (by decide) T.g_law_pick (pa_cons (pv 0) (pa_cons pe_int pa_nil)))))
      (Evl.pss_cut (ps_if (pt_cmpR op_eq (pe_callO G_l_pick hr (by decide) T.g_law_pick (pa_cons (pv 0) (pa_cons pe_int pa_nil))) pe_int (nomark _)) (pss_one (ps_set (i := 2) sc_l_number.nd rfl (by first | exact Or.inl rfl | exact Or.inr rfl) (pe_callO G_l_pick hr (by decide) T.g_law_pick (pa_cons (pv 0) (pa_cons pe_int pa_nil))))) pss_nil)
      (pss_cons (ps_while PassesOwn.never (PW.pt (pw_or (pt_cmpR op_in_seq (pv 2) (pv 1) rfl) (pw_or1 (pt_cmpR op_lt (pv 2) pe_int (nomark _))))) (pss_one (ps_set (i := 2) sc_l_number.nd rfl (by first | exact Or.inl rfl | exact Or.inr rfl) (pe_op op_add (pv 2) pe_int))))
      (pss_one (ps_ret (pv 2)))))), ?_⟩
    obtain ⟨ns, hq, hns⟩ := hq
    refine ⟨_, rfl, q, ns, 30, rfl, hq, hns, by decide, by decide, fun i ns1 hi0 hi1 hns1 => ⟨_, _, rfl, rfl, ?_⟩⟩
    refine ⟨fun σ' H' => ∃ n : Int, σ' = [some (.ref q), some (.ref tq), some (.int n)] ∧ LeftAt H' q ∧ Keep q H H' ∧ 0 ≤ n ∧ n ≤ 99000, ?_, ?_⟩
    · refine ⟨_, rfl, q, ns1, 6, rfl, upd_same .., hns1, by decide, by decide, fun j ns2 hj0 hj1 hns2 => ?_⟩
      rw [L2.upd_upd]
      refine ⟨rfl, _, rfl, ite2 (fun _ => ?_) (fun _ => ?_)⟩
      · refine ⟨_, rfl, q, ns2, 99000, rfl, upd_same .., hns2, by decide, by decide, fun m ns3 hm0 hm1 hns3 => ?_⟩
        rw [L2.upd_upd]
        exact ⟨m, rfl, ⟨ns3, upd_same .., hns3⟩, Keep.upd q H _, hm0, by omega⟩
      · exact ⟨2 + i, rfl, ⟨ns2, upd_same .., hns2⟩, Keep.upd q H _, by omega, by omega⟩
    · rintro _ H1 ⟨n, rfl, hq1, k1, hn0, hn1⟩
      have ht1 := k1.at ht htq
      refine ⟨fun m σ' H' => ∃ n : Int, σ' = [some (.ref q), some (.ref tq), some (.int n)] ∧ H' = H1 ∧ 0 ≤ n ∧ n ≤ 99000 + ts.length + 1 ∧ m = (99002 + ts.length - n).toNat, ⟨_, n, rfl, rfl, hn0, by omega, rfl⟩, ?_⟩
      rintro m σ H' ⟨n, rfl, rfl, hn0, hn1, rfl⟩
      refine' (fun (th : (n ∈ ts ∨ n < 2) → (_ : Prop)) => ?main) ?th
      case main =>
        refine ⟨_, rfl, _, rfl, _, _, rfl, .inl (SqL.of ht1), rfl, flat_ints ts, _, rfl, ?_⟩
        rw [if_neg (by decide), inV_int]
        refine ite2 (fun h => ?_) (fun h => ?_)
        · refine (?_ : if true = true then _ else _)
          rw [if_pos rfl]
          exact th (.inl (of_decide_eq_true h))
        · refine ⟨_, rfl, _, _, rfl, rfl, _, rfl, ite2 (fun h2 => th (.inr (of_decide_eq_true h2))) (fun h2 => ?_)⟩
          exact ⟨_, rfl, k n _ hq1 k1 hn0 hn1⟩
      case th =>
        intro hc
        have hb : n ≤ 99000 + ts.length := by
          rcases hc with z | z
          · exact hts n z
          · omega
        refine ⟨fun σ' H'' => ∃ m', m' < (99002 + ts.length - n).toNat ∧ ∃ n : Int, σ' = [some (.ref q), some (.ref tq), some (.int n)] ∧ H'' = H' ∧ 0 ≤ n ∧ n ≤ 99000 + ts.length + 1 ∧ m' = (99002 + ts.length - n).toNat, fun σ' H'' h => h, ?_⟩
        exact ⟨_, rfl, _, _, rfl, rfl, _, by omega, n + 1, rfl, rfl, by omega, by omega, rfl⟩
abbrev N_l_shuffled : List Str := ["_law_left_here", "_law_some", "_law_found", "_law_one"]
theorem sc_l_shuffled : FnScope N_l_shuffled ["_law_left_here", "_law_some"] (defScope s_l_shuffled) := ⟨rfl, rfl, rfl, by decide +kernel, rfl, by decide +kernel, by decide +kernel⟩
theorem ok_l_shuffled (T : Tx K mg base) : OkD P w K mg base d_l_shuffled.at_ 2 ["_law_left_here", "_law_some"] (spShuffled K) := by
  have G_l_pick := ok_l_pick (P := P) (w := w) T
  refine okD_of T.F_l_shuffled sc_l_shuffled (fun _ _ _ _ _ _ us hl => match us, hl with | [_, _], _ => rfl) (fun vs H Q E h => ?_) (fun cdv A outer s H vs Q E hr h => ?_)
  · obtain ⟨q, sq, xs, rfl, _⟩ := h
    rfl
  · obtain ⟨q, sq, xs, rfl, hq, hs, hxl, k⟩ := h
    have hu := hu_of hr
    refine ⟨_, (pss_cons (ps_set (i := 2) sc_l_shuffled.nd rfl (by first | exact Or.inl rfl | exact Or.inr rfl) (pe_lst pa_nil))
      (pss_cons (ps_for PassesOwn.never rfl (pi_list (pv 1)) (pg_name (i := 3) sc_l_shuffled.nd rfl (by first | exact Or.inl rfl | exact Or.inr rfl)) (pss_one (ps_expr (pe_bm PySem.F.plainAttrs_list PySem.F.slot_list_insert PySem.F.type_list_insert mt_insert (pv 2) (pa_cons (pe_callO G_l_pick hr (by decide) T.g_law_pick (pa_cons (pv 0) (pa_cons (pe_op op_add (pe_callB call_len_seq (by rfl) T.z_len (show bootBuiltins "len" = some (.builtin "len") by decide +kernel) (pa_cons (pv 2) pa_nil)) pe_int) pa_nil))) (pa_cons (pv 3) pa_nil))))))
      (pss_one (ps_ret (pv 2))))), ?_⟩
    refine ⟨zl rfl, fun p hp => ?_⟩
    obtain ⟨H1, hH1⟩ : ∃ z, z = upd H p (.lst []) := ⟨_, rfl⟩
    rw [← hH1]
    have at_p : H1 p = some (.lst []) := by rw [hH1, upd_same]
    have s_H1 : Same H H1 := by rw [hH1]; exact same_new hp
    clear hH1
    have hpq : p ≠ q := by obtain ⟨ns, hq, _⟩ := hq; exact ne_of_none' hp hq
    have hs1 : ∀ {H'}, Keep q H H' → SqL K H' sq xs := fun kk => Same.seq kk hs
    refine ⟨_, rfl, _, rfl, ⟨_, hs1 (Keep.of s_H1)⟩, ?_⟩
    refine for_it (walk_list (xs := xs)) (fun i σ H' => ∃ (y : Option V) (ys : List V), σ = [some (.ref q), some (.ref sq), some (.ref p), y] ∧ LeftAt H' q ∧ Keep q H H' ∧ H' p = some (.lst ys) ∧ ys.Perm (xs.take i)) ⟨_, [], rfl, hq.same s_H1, Keep.of s_H1, at_p, by simp⟩ (fun i σ H' _ hp => ?_) ?_ ?_
    · obtain ⟨_, _, _, _, kk, _⟩ := hp
      exact hs1 kk
    · rintro i v σ H2 H' hi ⟨_, ys, rfl, ⟨ns, hq2, hns⟩, k2, p2, hperm⟩ ⟨rfl, hv⟩
      have hyl : ys.length = i := by
        rw [hperm.length_eq, List.length_take]
        omega
      refine ⟨_, rfl, tyL (SqL.of p2), _, rfl, _, rfl, _, _, rfl, .inl (SqL.of p2), _, _, rfl, rfl, q, ns, (ys.length : Int) + 1, rfl, hq2, hns, by omega, by omega, fun j ns2 hj0 hj1 hns2 => ?_⟩
      have p3 : (upd H' q (.lst (ns2.map V.int))) p = some (.lst ys) := upd_at_ne p2 hpq
      refine ⟨_, rfl, _, _, j, v, rfl, rfl, p3, sl (by omega), hj0, by omega, ?_⟩
      refine ⟨_, _, rfl, ⟨ns2, by rw [upd_ne hpq.symm, upd_same], hns2⟩, (k2.trans (Keep.upd q _ _)).off hp, upd_same .., ?_⟩
      rw [take_get hv]
      refine List.Perm.trans ?_ (hperm.append_right [v])
      have e1 : (ys.take j.toNat ++ [v] ++ ys.drop j.toNat).Perm (ys.take j.toNat ++ ys.drop j.toNat ++ [v]) := by
        rw [List.append_assoc, List.append_assoc]
        exact List.Perm.append_left _ List.perm_append_comm
      rw [List.take_append_drop] at e1
      exact e1
    · rintro σ H2 ⟨_, ys, rfl, hq2, k2, p2, hperm⟩
      rw [List.take_length] at hperm
      exact ⟨_, rfl, k p ys H2 hq2 k2 hp p2 hperm⟩
end
end K81
set_option maxHeartbeats 4000000
namespace K81
open PySem PySem.Spec PyProof.Rows L2
/-! ### the law's folders, entries, nodes -/
theorem dik_keys_set {α : Type} {f : α → Int} {x' : α} (l : List α) : (l.map fun x => if f x = f x' then x' else x).map f = l.map f := by
  rw [List.map_map]
  refine List.map_congr_left fun x _ => ?_
  show f (if f x = f x' then x' else x) = f x
  by_cases e : f x = f x'
  · rw [if_pos e, e]
  · rw [if_neg e]
theorem dik_merge {α : Type} {f : α → Int} {P : V → α → Prop} : ∀ {more : List (Key × V)} {F : List α} {kvs0 : List (Key × V)} {F0 : List α}, Dik f P kvs0 F0 → (F0.map f).Nodup → Dik f P more F →
    ∃ F', Dik f P (mergeK kvs0 more) F' ∧ (F'.map f).Nodup ∧ (∀ x ∈ F', x ∈ F0 ∨ x ∈ F) ∧ (((F0 ++ F).map f).Nodup → F' = F0 ++ F) ∧ (∀ n, n ∈ F'.map f ↔ n ∈ F0.map f ∨ n ∈ F.map f) ∧ F'.length ≤ F0.length + F.length
  | _, _, kvs0, F0, h0, hn, .nil => ⟨F0, h0, hn, fun x h => .inl h, fun _ => by simp, fun n => by simp, Nat.le_refl _⟩
  | kv :: more, x :: F, kvs0, F0, h0, hn, .cons q t => by
    obtain ⟨k, v⟩ := kv
    obtain ⟨rfl, q⟩ := q
    show ∃ F', Dik f P (mergeK (putK kvs0 (Sum.inl (f x)) v) more) F' ∧ _
    by_cases hx : f x ∈ F0.map f
    · have hp : putK kvs0 (Sum.inl (f x)) v = kvs0.map fun kv => if kv.1 = Sum.inl (f x) then (kv.1, v) else kv := by
        unfold putK
        rw [valV_any, h0.isSome, decide_eq_true hx]
        rfl
      rw [hp]
      have h1 := dik_set (x' := x) q h0
      have hk := dik_keys_set (f := f) (x' := x) F0
      obtain ⟨F', a1, a2, a3, a4, a5, a6⟩ := dik_merge h1 (by rw [hk]; exact hn) t
      refine ⟨F', a1, a2, fun y hy => ?_, fun hnd => ?_, fun n => ?_, ?_⟩
      · rcases a3 y hy with z | z
        · obtain ⟨w, hw, e⟩ := List.mem_map.mp z
          by_cases y2 : f w = f x
          · rw [if_pos y2] at e; rw [← e]; exact .inr List.mem_cons_self
          · rw [if_neg y2] at e; rw [← e]; exact .inl hw
        · exact .inr (List.mem_cons_of_mem _ z)
      · rw [List.map_append] at hnd
        exact absurd rfl ((List.nodup_append.mp hnd).2.2 _ hx (f x) (by simp))
      · rw [a5, hk, List.map_cons, List.mem_cons]
        constructor
        · rintro (z | z)
          · exact .inl z
          · exact .inr (.inr z)
        · rintro (z | z | z)
          · exact .inl z
          · rw [z]; exact .inl hx
          · exact .inr z
      · rw [List.length_map] at a6
        rw [List.length_cons]; omega
    · have h1 := Dik.snoc h0 hx q
      obtain ⟨F', a1, a2, a3, a4, a5, a6⟩ := dik_merge h1 (by
        rw [List.map_append]
        exact List.nodup_append.mpr ⟨hn, by simp, fun a ha b hb e => by rw [List.map_singleton, List.mem_singleton] at hb; rw [e, hb] at ha; exact hx ha⟩) t
      refine ⟨F', a1, a2, fun y hy => ?_, fun hnd => ?_, fun n => ?_, ?_⟩
      · rcases a3 y hy with z | z
        · rcases List.mem_append.mp z with z | z
          · exact .inl z
          · rw [List.mem_singleton.mp z]; exact .inr List.mem_cons_self
        · exact .inr (List.mem_cons_of_mem _ z)
      · rw [a4 (by rw [List.append_assoc]; exact hnd), List.append_assoc]
        rfl
      · rw [a5, List.map_append, List.mem_append, List.map_singleton, List.mem_singleton, List.map_cons, List.mem_cons]
        exact or_assoc
      · rw [List.length_append, List.length_singleton] at a6
        rw [List.length_cons]; omega
theorem same_del {H H' : Hp} {D : Addr} (s : Same H H') (h : H D = none) : Same H (del H' D) := fun b o q => del_at (s b o q) (ne_of_none q h)
/-- the folders that a table tells (the last row wins) -/
structure FoldsOf (t : List Row) (F : List (Int × List (Str × Int))) : Prop where
  nd : (F.map (·.1)).Nodup
  sub : ∀ x ∈ F, x ∈ fo t
  eq : ((fo t).map (·.1)).Nodup → F = fo t
  keys : ∀ n, n ∈ F.map (·.1) ↔ n ∈ (fo t).map (·.1)
  len : F.length ≤ (fo t).length
def RawV (K : PySem.W.Frag) (H : Hp) (v : V) (x : Int × List (Str × Int)) : Prop := EntsAt K H v x.2
theorem RawV.same {K : PySem.W.Frag} {H H' : Hp} {v : V} {x : Int × List (Str × Int)} (s : Same H H') (h : RawV K H v x) : RawV K H' v x := EntsAt.same s h
def spFolders (K : PySem.W.Frag) : Sp := fun vs H Q _ => ∃ (tab : V) (t : List Row), vs = [tab] ∧ TabAt K H tab t ∧ t.length ≤ 1000 ∧
  ∀ d kvs F H', Same H H' → H d = none → H' d = some (.dK kvs) → Dik (·.1) (RawV K H') kvs F → FoldsOf t F → Q (.ref d) H'
def rowF : Row → Option (Int × List (Str × Int))
  | .fold n es => some (n, es)
  | .file _ _ _ => none
theorem fo_eq : ∀ t : List Row, t.filterMap rowF = fo t
  | [] => rfl
  | .fold n es :: t => by rw [List.filterMap_cons]; show (n, es) :: t.filterMap rowF = _; rw [fo_eq t]; rfl
  | .file _ _ _ :: t => by rw [List.filterMap_cons]; show t.filterMap rowF = _; rw [fo_eq t]; rfl
def FoPair (K : PySem.W.Frag) (H : Hp) (v : V) (x : Int × List (Str × Int)) : Prop := ∃ tp u, v = .ref tp ∧ SqT K H tp [.int x.1, u] ∧ EntsAt K H u x.2
theorem FoPair.mono {K : PySem.W.Frag} : ∀ H H' v b, Same H H' → FoPair K H v b → FoPair K H' v b := fun H H' v b s ⟨tp, u, e, q1, q2⟩ => ⟨tp, u, e, Same.tup s q1, q2.same s⟩
theorem foPairs {K : PySem.W.Frag} {H : Hp} : ∀ {ys : List V} {F : List (Int × List (Str × Int))}, Paired (FoPair K H) ys F → ∃ (ps : List Addr) (kvs : List (Key × V)), ys = ps.map V.ref ∧ Paired (fun p kv => SqT K H p [kV kv.1, kv.2]) ps kvs ∧ Dik (·.1) (RawV K H) kvs F
  | _, _, .nil => ⟨[], [], rfl, .nil, .nil⟩
  | _, _, .cons ⟨tp, u, e, q1, q2⟩ t => by
    obtain ⟨ps, kvs, e2, h1, h2⟩ := foPairs t
    exact ⟨tp :: ps, (Sum.inl _, u) :: kvs, by rw [e, e2]; rfl, .cons q1 h1, .cons ⟨rfl, q2⟩ h2⟩
section
variable {P : Program} {w : World} {K : PySem.W.Frag} {mg : Str → Option Value} {base : Heap}
abbrev N_l_folders : List Str := ["_law_table", "_law_row"]
theorem sc_l_folders : FnScope N_l_folders ["_law_table"] (defScope s_l_folders) := ⟨rfl, rfl, rfl, by decide +kernel, rfl, by decide +kernel, by decide +kernel⟩
theorem ok_l_folders (T : Tx K mg base) : OkD P w K mg base d_l_folders.at_ 1 ["_law_table"] (spFolders K) := by
  refine okD_of T.F_l_folders sc_l_folders (fun _ _ _ _ _ _ us hl => match us, hl with | [_], _ => rfl) (fun vs H Q E h => ?_) (fun cdv A outer s H vs Q E hr h => ?_)
  · obtain ⟨tab, t, rfl, _⟩ := h
    rfl
  · obtain ⟨tab, t, rfl, ht, htl, k⟩ := h
    have hu := hu_of hr
    refine ⟨_, (pss_one (ps_ret (pe_callTy (call_dictP rfl) (by rfl) T.z_dict (show bootBuiltins "dict" = some (.type "dict") by decide +kernel) (pa_cons (pe_lc (own := [("_law_row", 1)]) rfl sc_l_folders.nd (pi_list (pv 0)) (blkOk_by (N := N_l_folders) (sc := defScope s_l_folders) (by decide +kernel)) (fun _ _ _ _ _ => (pg_name (i := 1) sc_l_folders.nd rfl (Or.inl rfl))) (fun _ _ _ _ _ => (pts_one (pt_cmpR op_eq (pe_ix (ix_tupK K) (pv 1) pe_int (fun _ _ => rfl)) pe_str (nomark _)))) (fun _ _ _ _ _ => (pe_tup (pa_cons (pe_ix (ix_tupK K) (pv 1) pe_int (fun _ _ => rfl)) (pa_cons (pe_ix (ix_tupK K) (pv 1) pe_int (fun _ _ => rfl)) pa_nil))))) pa_nil)))), ?_⟩
    obtain ⟨la, rows, rfl, hla, hrw⟩ := ht
    refine ⟨_, rfl, _, rfl, ⟨_, hla⟩, fun D hD => lc_rel walk_list t (paired_len hrw) rowF (FoPair K) FoPair.mono hD (fun _ s => Same.seq s hla) ?_ ?_⟩
    · rintro i r v H1 H' hri pv s1 ⟨rfl, hv⟩
      obtain ⟨r', hr1, hr2⟩ := paired_at hrw hv
      rw [hri] at hr1
      obtain rfl := Option.some.inj hr1
      cases r with
      | fold n es =>
        obtain ⟨tp, u, rfl, htp0, hen0⟩ := hr2
        have htp := Same.tup s1 htp0
        refine ⟨rfl, _, rfl, _, _, _, _, rfl, rfl, htp, at0, rfl, _, rfl, ite2 (fun _ => ?_) (fun z => absurd (by decide) z)⟩
        refine ⟨_, rfl, _, _, _, _, rfl, rfl, htp, at1, _, rfl, _, _, _, _, rfl, rfl, htp, at2, zl rfl, fun p hp => ?_⟩
        have pv' := pv
        obtain ⟨_, acc, hacc, _⟩ := pv'
        exact pv.yes FoPair.mono hD (by omega) hri (same_new hp) rfl ⟨p, u, rfl, SqT.of (del_at (upd_same ..) (ne_of_none' hp hacc)), hen0.same (same_del (s1.trans (same_new hp)) hD)⟩
      | file n kk c =>
        obtain ⟨tp, rfl, htp⟩ := hr2.same s1
        refine ⟨rfl, _, rfl, _, _, _, _, rfl, rfl, htp, at0, rfl, _, rfl, ite2 (fun z => absurd z (by decide)) (fun _ => ?_)⟩
        exact pv.no FoPair.mono hri (Same.refl _) rfl
    · intro H1 ys s1 hD1 hys
      rw [fo_eq] at hys
      obtain ⟨ps, kvs, rfl, h1, h2⟩ := foPairs (paired_mono hys fun _ _ z => FoPair.mono _ _ _ _ (del_same _ _) z)
      obtain ⟨F', a1, a2, a3, a4, a5, a6⟩ := dik_merge (kvs0 := []) (F0 := []) .nil .nil h2
      refine ⟨_, ps, kvs, rfl, SqL.of hD1, h1, fun p hp => k p _ F' _ (s1.trans (same_new hp)) (s1.free hp) (upd_same ..) (a1.mono fun _ _ q => q.same (same_new hp)) ⟨a2, fun x hx => ?_, fun hn => by simpa using a4 (by simpa using hn), fun n => ?_, by simpa using a6⟩⟩
      · rcases a3 x hx with z | z
        · cases z
        · exact z
      · have := a5 n
        simpa using this
end
end K81
set_option maxHeartbeats 4000000
namespace K81
open PySem PySem.Spec PyProof.Rows L2
abbrev Trip : Type := Int × Str × Int
def encT (e : Trip) : PyData := .tuple [.int e.1, .str e.2.1, .int e.2.2]
abbrev tle (a b : Trip) : Bool := PySem.W.dataLe false encT a b
def TripAt (K : PySem.W.Frag) (H : Hp) (v : V) (e : Trip) : Prop := ∃ t, v = .ref t ∧ SqT K H t [.int e.1, .str e.2.1, .int e.2.2]
theorem TripAt.same {K : PySem.W.Frag} {H H' : Hp} {v : V} {e : Trip} (s : Same H H') (h : TripAt K H v e) : TripAt K H' v e := let ⟨t, a, b⟩ := h; ⟨t, a, Same.tup s b⟩
theorem TripAt.mono {K : PySem.W.Frag} : ∀ H H' v b, Same H H' → TripAt K H v b → TripAt K H' v b := fun _ _ _ _ s q => q.same s
theorem trips_dp {K : PySem.W.Frag} {H : Hp} : ∀ {xs : List V} {es : List Trip}, Paired (TripAt K H) xs es → DpAll K H xs (es.map encT)
  | _, _, .nil => .nil
  | _, _, .cons ⟨t, e, h⟩ r => .cons (by rw [e]; exact .tup h (.cons (.int _) (.cons (.str _) (.cons (.int _) .nil)))) (trips_dp r)
theorem trips_of_dp {K : PySem.W.Frag} {H : Hp} : ∀ {xs : List V} {es : List Trip}, DpAll K H xs (es.map encT) → Paired (TripAt K H) xs es
  | [], [], _ => .nil
  | x :: xs, e :: es, h => by
    cases h with
    | cons h1 h2 =>
      refine .cons ?_ (trips_of_dp h2)
      cases h1 with
      | tup hs ha =>
        cases ha with
        | cons b1 ha => cases ha with
          | cons b2 ha => cases ha with
            | cons b3 ha =>
              cases ha; cases b1; cases b2; cases b3
              exact ⟨_, rfl, hs⟩
  | [], _ :: _, h => by cases h
  | _ :: _, [], h => by cases h
theorem sort_encT (es : List Trip) : (es.map encT).mergeSort dle = (es.mergeSort tle).map encT := (List.map_mergeSort (r := tle) (s := dle) (f := encT) (l := es) (fun a _ b _ => rfl)).symm
/-- the place in a folder: (folder, name) -/
def spot (e : Trip) : Int × Str := (e.1, e.2.1)
def plt (a b : Int × Str) : Prop := a.1 < b.1 ∨ (a.1 = b.1 ∧ slt a.2 b.2)
theorem plt_trans {a b c : Int × Str} (h : plt a b) (h2 : plt b c) : plt a c := by
  rcases h with h | ⟨h, h'⟩ <;> rcases h2 with h2 | ⟨h2, h2'⟩
  · exact .inl (Int.lt_trans h h2)
  · exact .inl (by rw [← h2]; exact h)
  · exact .inl (by rw [h]; exact h2)
  · exact .inr ⟨h.trans h2, slt_trans h' h2'⟩
theorem plt_irrefl (a : Int × Str) : ¬ plt a a := by
  rintro (h | ⟨_, h⟩)
  · exact Int.lt_irrefl _ h
  · exact slt_irrefl _ h
theorem tle_spot {a b : Trip} (h : tle a b = true) : spot a = spot b ∨ plt (spot a) (spot b) := by
  obtain ⟨a1, a2, a3⟩ := a
  obtain ⟨b1, b2, b3⟩ := b
  have h' : (!PySem.W.dataLt (encT (b1, b2, b3)) (encT (a1, a2, a3))) = true := h
  unfold encT at h'
  rw [PySem.W.dataLt_tuple, PySem.W.dataLt_cons (by simp [PySem.W.alike])] at h'
  unfold spot plt
  by_cases e1 : b1 = a1
  · subst e1
    rw [if_pos (by simp [PyData.eqv]), PySem.W.dataLt_cons (by simp [PySem.W.alike])] at h'
    by_cases e2 : b2 = a2
    · subst e2; exact .inl rfl
    · rw [if_neg (by simp [PyData.eqv, e2]), PySem.W.dataLt_str] at h'
      simp only [Bool.not_eq_true', decide_eq_false_iff_not] at h'
      exact .inr (.inr ⟨rfl, slt_of_le_ne (List.not_lt.mp h') fun e => e2 e.symm⟩)
  · rw [if_neg (by simp [PyData.eqv, e1]), PySem.W.dataLt_int] at h'
    simp only [Bool.not_eq_true', decide_eq_false_iff_not] at h'
    exact .inr (.inl (by show a1 < b1; omega))
theorem adjT_nodup : ∀ {l : List Trip}, l.Pairwise (fun a b => tle a b = true) → (∀ k a b, l[k]? = some a → l[k + 1]? = some b → spot a ≠ spot b) → (l.map spot).Pairwise plt
  | [], _, _ => .nil
  | [a], _, _ => by simp
  | a :: b :: r, hp, hd => by
    have hp' := List.pairwise_cons.mp hp
    have ih := adjT_nodup hp'.2 fun k x y h1 h2 => hd (k + 1) x y h1 h2
    have hab : plt (spot a) (spot b) := by
      rcases tle_spot (hp'.1 b List.mem_cons_self) with e | q
      · exact absurd e (hd 0 a b rfl rfl)
      · exact q
    rw [List.map_cons]
    refine List.pairwise_cons.mpr ⟨fun c hc => ?_, ih⟩
    rw [List.map_cons] at hc ih
    rcases List.mem_cons.mp hc with z | hc
    · rw [z]; exact hab
    · exact plt_trans hab ((List.pairwise_cons.mp ih).1 c hc)
theorem adjT_not {l : List Trip} {k : Nat} {a b : Trip} (h1 : l[k]? = some a) (h2 : l[k + 1]? = some b) (e : spot a = spot b) : ¬ (l.map spot).Nodup := by
  intro hn
  obtain ⟨i1, e1⟩ := List.getElem?_eq_some_iff.mp h1
  obtain ⟨i2, e2⟩ := List.getElem?_eq_some_iff.mp h2
  have := List.pairwise_iff_getElem.mp hn k (k + 1) (by rw [List.length_map]; omega) (by rw [List.length_map]; omega) (by omega)
  rw [List.getElem_map, List.getElem_map, e1, e2] at this
  exact this e
/-- no name twice in a folder: no spot twice -/
theorem spots_nodup {F : List (Int × List (Str × Int))} (hn : (F.map (·.1)).Nodup) : ((flat F).map spot).Nodup ↔ ∀ w es, (w, es) ∈ F → (es.map (·.1)).Nodup := by
  constructor
  · intro h w es hm
    induction F with
    | nil => cases hm
    | cons x F ih =>
      have e : flat (x :: F) = (x.2.map fun e => (x.1, e.1, e.2)) ++ flat F := by simp [flat]
      rw [e, List.map_append] at h
      obtain ⟨h1, h2, _⟩ := List.nodup_append.mp h
      rcases List.mem_cons.mp hm with z | z
      · rw [← z, List.map_map] at h1
        refine List.pairwise_map.mpr ((List.pairwise_map.mp h1).imp fun {a b} ne e => ne ?_)
        show (w, a.1) = (w, b.1)
        rw [e]
      · exact ih (List.nodup_cons.mp hn).2 h2 z
  · intro h
    induction F with
    | nil => exact .nil
    | cons x F ih =>
      have hn' := List.nodup_cons.mp hn
      have e : flat (x :: F) = (x.2.map fun e => (x.1, e.1, e.2)) ++ flat F := by simp [flat]
      rw [e, List.map_append]
      refine List.nodup_append.mpr ⟨?_, ih hn'.2 (fun w es m => h w es (List.mem_cons_of_mem _ m)), fun a ha b hb hab => ?_⟩
      · rw [List.map_map]
        refine List.pairwise_map.mpr ((List.pairwise_map.mp (h x.1 x.2 List.mem_cons_self)).imp fun {a b} ne q => ne ?_)
        exact (Prod.mk.inj q).2
      · obtain ⟨y, hy, rfl⟩ := List.mem_map.mp ha
        obtain ⟨y', hy', rfl⟩ := List.mem_map.mp hy
        obtain ⟨z, hz, rfl⟩ := List.mem_map.mp hb
        have hz' : (z.1, z.2.1, z.2.2) ∈ flat F := hz
        obtain ⟨es', h1, _⟩ := mem_flat.mp hz'
        have : x.1 = z.1 := (Prod.mk.inj hab).1
        exact hn'.1 (List.mem_map.mpr ⟨_, h1, this.symm⟩)
theorem flat_app (F G : List (Int × List (Str × Int))) : flat (F ++ G) = flat F ++ flat G := by simp [flat]
def spEntries (K : PySem.W.Frag) : Sp := fun vs H Q _ => ∃ (tab : V) (t : List Row), vs = [tab] ∧ TabAt K H tab t ∧ Small 63 1000 t ∧
  ∀ p ys zs F H', Same H H' → H' p = some (.lst ys) → Paired (TripAt K H') ys zs → zs.Perm (flat F) → zs.Pairwise (fun a b => tle a b = true) → FoldsOf t F → Q (.ref p) H'
/-- a node's data -/
def encN : Row → PyData
  | .fold n _ => .tuple [.int n, .str "folder"]
  | .file n k c => .tuple [.int n, .str "file", .int k, .str c]
def spNodes (K : PySem.W.Frag) : Sp := fun vs H Q _ => ∃ (tab : V) (t : List Row), vs = [tab] ∧ TabAt K H tab t ∧ t.length ≤ 1000 ∧
  ∀ p ys H', Same H H' → H' p = some (.lst ys) → DpAll K H' ys ((t.map encN).mergeSort dle) → Q (.ref p) H'
section
variable {P : Program} {w : World} {K : PySem.W.Frag} {mg : Str → Option Value} {base : Heap}
abbrev N_l_entries : List Str := ["_law_table", "_law_found", "_law_folder", "_law_entries_here", "_law_name", "_law_number_here"]
theorem sc_l_entries : FnScope N_l_entries ["_law_table"] (defScope s_l_entries) := ⟨rfl, rfl, rfl, by decide +kernel, rfl, by decide +kernel, by decide +kernel⟩
theorem ok_l_entries (T : Tx K mg base) : OkD P w K mg base d_l_entries.at_ 2 ["_law_table"] (spEntries K) := by
  have G_l_folders := ok_l_folders (P := P) (w := w) T
  refine okD_of T.F_l_entries sc_l_entries (fun _ _ _ _ _ _ us hl => match us, hl with | [_], _ => rfl) (fun vs H Q E h => ?_) (fun cdv A outer s H vs Q E hr h => ?_)
  · obtain ⟨tab, t, rfl, _⟩ := h
    rfl
  · obtain ⟨tab, t, rfl, ht, hsm, k⟩ := h
    have hu := hu_of hr
    have hrows := hsm.rows
    refine ⟨_, (pss_cons (ps_set (i := 1) sc_l_entries.nd rfl (by first | exact Or.inl rfl | exact Or.inr rfl) (pe_lst pa_nil))
      (pss_cons (ps_for PassesOwn.never rfl (pi_items (pe_frz (pe_callO G_l_folders hr (by decide) T.g_law_folders (pa_cons (pv 0) pa_nil)))) (pg_tupK K (n := 2) rfl (pgs_cons (pg_name (i := 2) sc_l_entries.nd rfl (by first | exact Or.inl rfl | exact Or.inr rfl)) (pgs_cons (pg_name (i := 3) sc_l_entries.nd rfl (by first | exact Or.inl rfl | exact Or.inr rfl)) pgs_nil))) (pss_one (ps_set (i := 1) sc_l_entries.nd rfl (by first | exact Or.inl rfl | exact Or.inr rfl) (pe_op op_cat (pv 1) (pe_lc (own := [("_law_name", 4), ("_law_number_here", 5)]) rfl sc_l_entries.nd (pi_list (pv 3)) (blkOk_by (N := N_l_entries) (sc := defScope s_l_entries) (by decide +kernel)) (fun _ _ _ _ _ => (pg_tupK K (n := 2) rfl (pgs_cons (pg_name (i := 4) sc_l_entries.nd rfl (Or.inl rfl)) (pgs_cons (pg_name (i := 5) sc_l_entries.nd rfl (Or.inl rfl)) pgs_nil)))) (fun _ _ _ _ _ => pts_nil) (fun _ _ _ _ _ => (pe_tup (pa_cons (pv 2) (pa_cons (pv 4) (pa_cons (pv 5) pa_nil))))))))))
      (pss_one (ps_ret (pe_callB (cr_sortedK hr.units) (by rfl) T.z_sorted (show bootBuiltins "sorted" = some (.builtin "sorted") by decide +kernel) (pa_cons (pv 1) pa_nil)))))), ?_⟩
    refine ⟨zl rfl, fun p0 hp0 => ?_⟩
    obtain ⟨H0, hH0⟩ : ∃ z, z = upd H p0 (.lst []) := ⟨_, rfl⟩
    rw [← hH0]
    have at_p0 : H0 p0 = some (.lst []) := by rw [hH0, upd_same]
    have s_H0 : Same H H0 := by rw [hH0]; exact same_new hp0
    clear hH0
    refine ⟨_, rfl, tab, t, rfl, ht.same s_H0, by omega, fun d kvs F H1 s1 hd0 hd1 hD hF => ?_⟩
    refine ⟨d, _, rfl, hd1, trivial, fun od => ⟨d, od, kvs, rfl, upd_same .., ?_⟩⟩
    obtain ⟨Hf, hHf⟩ : ∃ z, z = upd H1 d (.frz od (.dK kvs)) := ⟨_, rfl⟩
    rw [← hHf]
    have ff : Hf d = some (.frz od (.dK kvs)) := by rw [hHf, upd_same]
    have s0f : Same H0 Hf := by rw [hHf]; exact Same.off s1 hd0
    have hDf : Dik (·.1) (RawV K Hf) kvs F := by rw [hHf]; exact hD.mono fun _ _ q => EntsAt.sd (SameD.upd hd1) q
    clear hHf
    have hFl := hF.len
    have hfol := hsm.fo
    have hFe : ∀ x ∈ F, x.2.length ≤ 1000 := fun x hx => hsm.ents x.1 x.2 (hF.sub x hx)
    refine for_it walk_items (fun i σ H' => ∃ fq ys a b c e, σ = [some tab, some (.ref fq), a, b, c, e] ∧ Same Hf H' ∧ H' fq = some (.lst ys) ∧ Paired (TripAt K H') ys (flat (F.take i))) ⟨p0, [], _, _, _, _, rfl, Same.refl _, s0f _ _ at_p0, .nil⟩ (fun i σ H' _ hp => ?_) ?_ ?_
    · obtain ⟨_, _, _, _, _, _, _, s, _⟩ := hp
      exact s _ _ ff
    · rintro i v σ H2 H' hi2 ⟨fq, ys, _, _, c0, e0, rfl, s2, hfq, hys⟩ ⟨T', y1, y2, rfl, hT', rfl, hy1, hy2⟩
      obtain ⟨kv, hkv⟩ : ∃ kv, kvs[i]? = some kv := ⟨_, List.getElem?_eq_getElem hi2⟩
      obtain ⟨⟨n, es⟩, hFi, hk, hraw⟩ := paired_at hDf hkv
      obtain ⟨kk, vv⟩ := kv
      simp only at hk
      subst hk
      replace hy1 : (kvs[i]?.map fun kv => kV kv.1) = some y1 := hy1
      replace hy2 : (kvs[i]?.map Prod.snd) = some y2 := hy2
      rw [hkv] at hy1 hy2
      obtain rfl := Option.some.inj hy1
      obtain rfl := Option.some.inj hy2
      obtain ⟨lu, xs, e, hlu, hxs⟩ := hraw
      simp only at e
      subst e
      obtain ⟨H3, hH3⟩ : ∃ z, z = upd H2 T' (.tup [kV (Sum.inl n), .ref lu]) := ⟨_, rfl⟩
      have atT : H3 T' = some (.tup [kV (Sum.inl n), .ref lu]) := by rw [hH3, upd_same]
      have s3 : Same H2 H3 := by rw [hH3]; exact same_new hT'
      rw [← hH3]
      clear hH3
      have s23 := s2.trans s3
      have hel : es.length ≤ 1000 := hFe _ (List.mem_of_getElem? hFi)
      refine ⟨_, _, rfl, SqT.of atT, rfl, _, _, rfl, _, _, rfl, rfl, ?_⟩
      refine ⟨_, rfl, _, rfl, _, rfl, ⟨_, Same.seq s23 hlu⟩, fun D hD4 => lc_rel walk_list es (paired_len hxs) (fun e => some ((n, e.1, e.2) : Trip)) (TripAt K) TripAt.mono hD4 (fun _ s => Same.seq (s23.trans s) hlu) ?_ ?_⟩
      · rintro j e v H4 H5 hj pv s4 ⟨rfl, hv⟩
        obtain ⟨e', he', tt, rfl, htt⟩ := paired_at hxs hv
        rw [hj] at he'
        obtain rfl := Option.some.inj he'
        refine ⟨_, _, rfl, Same.tup (s23.trans s4) htt, rfl, _, _, rfl, _, _, rfl, rfl, rfl, tyes ⟨_, rfl, _, rfl, _, rfl, zl rfl, fun p hp => ?_⟩⟩
        have pv' := pv
        obtain ⟨_, acc, hacc, _⟩ := pv'
        exact pv.yes TripAt.mono hD4 (by omega) hj (same_new hp) rfl ⟨p, rfl, SqT.of (del_at (upd_same ..) (ne_of_none' hp hacc))⟩
      · intro H4 ys4 s4 hD5 hys4
        rw [filterMap_some] at hys4
        have s34 := s3.trans s4
        have hyl : ys.length ≤ 63000 := by
          rw [paired_len hys]
          have h1 := flat_len (F := F.take i) (b := 1000) fun x hx => hFe x (List.mem_of_mem_take hx)
          have h2 : (F.take i).length ≤ 63 := by rw [List.length_take]; omega
          have h3 : (F.take i).length * 1000 ≤ 63 * 1000 := Nat.mul_le_mul_right _ h2
          omega
        have hyl4 := paired_len hys4
        rw [List.length_map] at hyl4
        refine ⟨_, _, _, _, rfl, rfl, s34 _ _ hfq, hD5, sl' (by omega), fun p hp => ?_⟩
        have s5 : Same H4 (upd H4 p (.lst (ys ++ ys4))) := same_new hp
        refine ⟨p, ys ++ ys4, _, _, _, _, rfl, (s23.trans s4).trans s5, upd_same .., ?_⟩
        rw [take_get hFi, flat_app]
        refine paired_app (paired_mono hys fun _ _ q => q.same (s34.trans s5)) ?_
        rw [show flat [(n, es)] = es.map fun e => (n, e.1, e.2) from by simp [flat]]
        exact paired_mono hys4 fun _ _ q => (q.same (del_same _ _)).same s5
    · rintro σ H2 ⟨fq, ys, _, _, c0, e0, rfl, s2, hfq, hys⟩
      rw [hDf.len, List.take_length] at hys
      refine ⟨_, rfl, fq, ys, (flat F).map encT, rfl, SqL.of hfq, trips_dp hys, fun d hd d' hd' => ?_, .inl fun d hd => ?_, fun d hd => ?_, fun zs p hzs hp => ?_⟩
      · obtain ⟨a, _, rfl⟩ := List.mem_map.mp hd
        obtain ⟨b, _, rfl⟩ := List.mem_map.mp hd'
        simp [encT, PySem.W.alike, PySem.W.alikeAll]
      · obtain ⟨a, _, rfl⟩ := List.mem_map.mp hd
        exact ⟨_, _, rfl⟩
      · obtain ⟨a, _, rfl⟩ := List.mem_map.mp hd
        simp [encT, PyData.depth, PyData.depthAll]
      · rw [sort_encT] at hzs
        have sH2 : Same H H2 := s_H0.trans (s0f.trans s2)
        exact k p zs _ F _ (sH2.trans (same_new hp)) (upd_same ..) (paired_mono (trips_of_dp hzs) fun _ _ q => q.same (same_new hp)) (srt_perm encT _) (srt_pw encT _) hF
end
end K81
set_option maxHeartbeats 4000000
namespace K81
open PySem PySem.Spec PyProof.Rows L2
def RNode (K : PySem.W.Frag) (H : Hp) (v : V) (r : Row) : Prop := Dp K H v (encN r)
theorem RNode.mono {K : PySem.W.Frag} : ∀ H H' v b, Same H H' → RNode K H v b → RNode K H' v b := fun _ _ _ _ s q => Same.dp s q
theorem nodes_dp {K : PySem.W.Frag} {H : Hp} : ∀ {xs : List V} {es : List Row}, Paired (RNode K H) xs es → DpAll K H xs (es.map encN)
  | _, _, .nil => .nil
  | _, _, .cons h r => .cons h (nodes_dp r)
/-! ### cuts of short tuples -/
theorem cut12 (a b : V) (xs : List V) : cutV (a :: b :: xs) (some 1) (some 2) = [b] := by
  have e1 : HT.sIx (xs.length + 1 + 1) 0 (some 1) = 1 := (HT.sIx_nat _ 0 1).trans (by omega)
  have e2 : HT.sIx (xs.length + 1 + 1) (xs.length + 1 + 1) (some 2) = 2 := (HT.sIx_nat _ _ 2).trans (by omega)
  simp [cutV, e1, e2]
theorem cut01 (a b : V) (xs : List V) : cutV (a :: b :: xs) none (some 1) = [a] := by
  have e1 : HT.sIx (xs.length + 1 + 1) 0 none = 0 := rfl
  have e2 : HT.sIx (xs.length + 1 + 1) (xs.length + 1 + 1) (some 1) = 1 := (HT.sIx_nat _ _ 1).trans (by omega)
  simp [cutV, e1, e2]
theorem cut02 (a b : V) (xs : List V) : cutV (a :: b :: xs) none (some 2) = [a, b] := by
  have e1 : HT.sIx (xs.length + 1 + 1) 0 none = 0 := rfl
  have e2 : HT.sIx (xs.length + 1 + 1) (xs.length + 1 + 1) (some 2) = 2 := (HT.sIx_nat _ _ 2).trans (by omega)
  simp [cutV, e1, e2]
theorem cut2 (a b : V) (xs : List V) : cutV (a :: b :: xs) (some 2) none = xs := by
  have e1 : HT.sIx (xs.length + 1 + 1) 0 (some 2) = 2 := (HT.sIx_nat _ 0 2).trans (by omega)
  have e2 : HT.sIx (xs.length + 1 + 1) (xs.length + 1 + 1) none = xs.length + 1 + 1 := rfl
  simp [cutV, e1, e2]
section
variable {P : Program} {w : World} {K : PySem.W.Frag} {mg : Str → Option Value} {base : Heap}
abbrev N_l_nodes : List Str := ["_law_table", "_law_row"]
theorem sc_l_nodes : FnScope N_l_nodes ["_law_table"] (defScope s_l_nodes) := ⟨rfl, rfl, rfl, by decide +kernel, rfl, by decide +kernel, by decide +kernel⟩
theorem ok_l_nodes (T : Tx K mg base) : OkD P w K mg base d_l_nodes.at_ 1 ["_law_table"] (spNodes K) := by
  refine okD_of T.F_l_nodes sc_l_nodes (fun _ _ _ _ _ _ us hl => match us, hl with | [_], _ => rfl) (fun vs H Q E h => ?_) (fun cdv A outer s H vs Q E hr h => ?_)
  · obtain ⟨tab, t, rfl, _⟩ := h
    rfl
  · obtain ⟨tab, t, rfl, ht, htl, k⟩ := h
    have hu := hu_of hr
    refine ⟨_, (pss_one (ps_ret (pe_callB (cr_sortedK hr.units) (by rfl) T.z_sorted (show bootBuiltins "sorted" = some (.builtin "sorted") by decide +kernel) (pa_cons (pe_lc (own := [("_law_row", 1)]) rfl sc_l_nodes.nd (pi_list (pv 0)) (blkOk_by (N := N_l_nodes) (sc := defScope s_l_nodes) (by decide +kernel)) (fun _ _ _ _ _ => (pg_name (i := 1) sc_l_nodes.nd rfl (Or.inl rfl))) (fun _ _ _ _ _ => pts_nil) (fun _ _ _ _ _ => (pe_op (op_catAK K) (pe_op (op_catAK K) (pe_slice (sl_tupAK K) (pv 1) (po_some pe_int) (po_some pe_int)) (pe_slice (sl_tupAK K) (pv 1) po_none (po_some pe_int))) (pe_op (op_repTnK K) (pe_slice (sl_tupAK K) (pv 1) (po_some pe_int) po_none) (pe_callTy call_int1 (by rfl) T.z_int (show bootBuiltins "int" = some (.type "int") by decide +kernel) (pa_cons (pe_cmpR op_eq (pe_ix (ix_tupK K) (pv 1) pe_int (fun _ _ => rfl)) pe_str (nomark _)) pa_nil)))))) pa_nil)))), ?_⟩
    obtain ⟨la, rows, rfl, hla, hrw⟩ := ht
    refine ⟨_, rfl, _, rfl, ⟨_, hla⟩, fun D hD => lc_rel walk_list t (paired_len hrw) (fun r => some r) (RNode K) RNode.mono hD (fun _ s => Same.seq s hla) ?_ ?_⟩
    · rintro i r v H1 H' hri pv s1 ⟨rfl, hv⟩
      obtain ⟨r', hr1, hr2⟩ := paired_at hrw hv
      rw [hri] at hr1
      obtain rfl := Option.some.inj hr1
      have pv' := pv
      obtain ⟨_, acc, hacc, _⟩ := pv'
      cases r with
      | fold n es =>
        obtain ⟨tp, u, rfl, htp0, hen0⟩ := hr2
        have htp := Same.tup s1 htp0
        refine ⟨rfl, tyes ⟨_, rfl, _, rfl, _, rfl, _, _, rfl, htp, fun z => absurd z (show ¬ (HT.sIx 3 0 (some 1) = 0 ∧ HT.sIx 3 3 (some 2) = 3) by decide), fun _ p1 hp1 => ?_⟩⟩
        rw [cut12]
        obtain ⟨H2, hH2⟩ : ∃ z, z = upd H' p1 (.tup [.int n]) := ⟨_, rfl⟩
        rw [← hH2]
        have at_p1 : H2 p1 = some (.tup [.int n]) := by rw [hH2, upd_same]
        have s_H2 : Same H' H2 := by rw [hH2]; exact same_new hp1
        clear hH2
        refine ⟨_, rfl, _, rfl, _, _, rfl, Same.tup s_H2 htp, fun z => absurd z (show ¬ (HT.sIx 3 0 none = 0 ∧ HT.sIx 3 3 (some 1) = 3) by decide), fun _ p2 hp2 => ?_⟩
        rw [cut01]
        obtain ⟨H3, hH3⟩ : ∃ z, z = upd H2 p2 (.tup [.str "folder"]) := ⟨_, rfl⟩
        rw [← hH3]
        have at_p2 : H3 p2 = some (.tup [.str "folder"]) := by rw [hH3, upd_same]
        have s_H3 : Same H2 H3 := by rw [hH3]; exact same_new hp2
        clear hH3
        have s3 := s_H2.trans s_H3
        refine ⟨_, _, _, _, rfl, rfl, SqT.of (s_H3 _ _ at_p1), SqT.of at_p2, sl' (show 2 ≤ 100000 by decide), fun z => absurd z (by simp), fun _ z => absurd z (by simp), fun _ _ p3 hp3 => ?_⟩
        obtain ⟨H4, hH4⟩ : ∃ z, z = upd H3 p3 (.tup ([.int n] ++ [.str "folder"])) := ⟨_, rfl⟩
        rw [← hH4]
        have at_p3 : H4 p3 = some (.tup ([.int n] ++ [.str "folder"])) := by rw [hH4, upd_same]
        have s_H4 : Same H3 H4 := by rw [hH4]; exact same_new hp3
        clear hH4
        have s4 := s3.trans s_H4
        refine ⟨_, rfl, _, rfl, _, _, rfl, Same.tup s4 htp, fun z => absurd z (show ¬ (HT.sIx 3 0 (some 2) = 0 ∧ HT.sIx 3 3 none = 3) by decide), fun _ p4 hp4 => ?_⟩
        rw [cut2]
        obtain ⟨H5, hH5⟩ : ∃ z, z = upd H4 p4 (.tup [u]) := ⟨_, rfl⟩
        rw [← hH5]
        have at_p4 : H5 p4 = some (.tup [u]) := by rw [hH5, upd_same]
        have s_H5 : Same H4 H5 := by rw [hH5]; exact same_new hp4
        clear hH5
        have s5 := s4.trans s_H5
        refine ⟨_, rfl, _, _, _, _, rfl, rfl, Same.tup s5 htp, at0, rfl, .inr ⟨_, rfl, ?_⟩⟩
        refine ⟨_, _, _, rfl, rfl, SqT.of at_p4, by simp, .inl (by decide), fun z => absurd z (by decide), fun _ p5 hp5 => ?_⟩
        obtain ⟨H6, hH6⟩ : ∃ z, z = upd H5 p5 (.tup []) := ⟨_, rfl⟩
        rw [← hH6]
        have at_p5 : H6 p5 = some (.tup []) := by rw [hH6, upd_same]
        have s_H6 : Same H5 H6 := by rw [hH6]; exact same_new hp5
        clear hH6
        have s36 := s_H5.trans s_H6
        refine ⟨_, _, _, _, rfl, rfl, SqT.of (s36 _ _ at_p3), SqT.of at_p5, sl' (show 2 ≤ 100000 by decide), fun z => absurd z (by simp), fun _ _ => ?_, fun _ z => absurd rfl z⟩
        refine pv.yes RNode.mono hD (by omega) hri (s5.trans s_H6) rfl ?_
        exact .tup (SqT.of (del_at (s36 _ _ at_p3) (ne_of_none' hp3 (s3 _ _ hacc)))) (.cons (.int _) (.cons (.str _) .nil))
      | file n kk c =>
        obtain ⟨tp, rfl, htp0⟩ := hr2
        have htp := Same.tup s1 htp0
        refine ⟨rfl, tyes ⟨_, rfl, _, rfl, _, rfl, _, _, rfl, htp, fun z => absurd z (show ¬ (HT.sIx 4 0 (some 1) = 0 ∧ HT.sIx 4 4 (some 2) = 4) by decide), fun _ p1 hp1 => ?_⟩⟩
        rw [cut12]
        obtain ⟨H2, hH2⟩ : ∃ z, z = upd H' p1 (.tup [.int n]) := ⟨_, rfl⟩
        rw [← hH2]
        have at_p1 : H2 p1 = some (.tup [.int n]) := by rw [hH2, upd_same]
        have s_H2 : Same H' H2 := by rw [hH2]; exact same_new hp1
        clear hH2
        refine ⟨_, rfl, _, rfl, _, _, rfl, Same.tup s_H2 htp, fun z => absurd z (show ¬ (HT.sIx 4 0 none = 0 ∧ HT.sIx 4 4 (some 1) = 4) by decide), fun _ p2 hp2 => ?_⟩
        rw [cut01]
        obtain ⟨H3, hH3⟩ : ∃ z, z = upd H2 p2 (.tup [.str "file"]) := ⟨_, rfl⟩
        rw [← hH3]
        have at_p2 : H3 p2 = some (.tup [.str "file"]) := by rw [hH3, upd_same]
        have s_H3 : Same H2 H3 := by rw [hH3]; exact same_new hp2
        clear hH3
        have s3 := s_H2.trans s_H3
        refine ⟨_, _, _, _, rfl, rfl, SqT.of (s_H3 _ _ at_p1), SqT.of at_p2, sl' (show 2 ≤ 100000 by decide), fun z => absurd z (by simp), fun _ z => absurd z (by simp), fun _ _ p3 hp3 => ?_⟩
        obtain ⟨H4, hH4⟩ : ∃ z, z = upd H3 p3 (.tup ([.int n] ++ [.str "file"])) := ⟨_, rfl⟩
        rw [← hH4]
        have at_p3 : H4 p3 = some (.tup ([.int n] ++ [.str "file"])) := by rw [hH4, upd_same]
        have s_H4 : Same H3 H4 := by rw [hH4]; exact same_new hp3
        clear hH4
        have s4 := s3.trans s_H4
        refine ⟨_, rfl, _, rfl, _, _, rfl, Same.tup s4 htp, fun z => absurd z (show ¬ (HT.sIx 4 0 (some 2) = 0 ∧ HT.sIx 4 4 none = 4) by decide), fun _ p4 hp4 => ?_⟩
        rw [cut2]
        obtain ⟨H5, hH5⟩ : ∃ z, z = upd H4 p4 (.tup [.int kk, .str c]) := ⟨_, rfl⟩
        rw [← hH5]
        have at_p4 : H5 p4 = some (.tup [.int kk, .str c]) := by rw [hH5, upd_same]
        have s_H5 : Same H4 H5 := by rw [hH5]; exact same_new hp4
        clear hH5
        have s5 := s4.trans s_H5
        refine ⟨_, rfl, _, _, _, _, rfl, rfl, Same.tup s5 htp, at0, rfl, .inr ⟨_, rfl, ?_⟩⟩
        refine ⟨_, _, _, rfl, rfl, SqT.of at_p4, by simp, .inr (by decide), fun _ => ?_, fun z => absurd z (by decide)⟩
        refine ⟨_, _, _, _, rfl, rfl, SqT.of (s_H5 _ _ at_p3), SqT.of at_p4, sl' (show 4 ≤ 100000 by decide), fun z => absurd z (by simp), fun _ z => absurd z (by simp), fun _ _ p5 hp5 => ?_⟩
        refine pv.yes RNode.mono hD (by omega) hri (s5.trans (same_new hp5)) rfl ?_
        exact .tup (SqT.of (del_at (upd_same ..) (ne_of_none' hp5 (s5 _ _ hacc)))) (.cons (.int _) (.cons (.str _) (.cons (.int _) (.cons (.str _) .nil))))
    · intro H1 ys s1 hD1 hys
      rw [filterMap_some, List.map_id'] at hys
      refine ⟨_, ys, t.map encN, rfl, SqL.of hD1, nodes_dp (paired_mono hys fun _ _ q => RNode.mono _ _ _ _ (del_same _ _) q), fun d hd d' hd' => ?_, .inl fun d hd => ?_, fun d hd => ?_, fun zs p hzs hp => k p zs _ (s1.trans (same_new hp)) (upd_same ..) (Same.dpAll (same_new hp) hzs)⟩
      · obtain ⟨a, _, rfl⟩ := List.mem_map.mp hd
        obtain ⟨b, _, rfl⟩ := List.mem_map.mp hd'
        cases a <;> cases b <;> simp [encN, PySem.W.alike, PySem.W.alikeAll]
      · obtain ⟨a, _, rfl⟩ := List.mem_map.mp hd
        cases a <;> exact ⟨_, _, rfl⟩
      · obtain ⟨a, _, rfl⟩ := List.mem_map.mp hd
        cases a <;> simp [encN, PyData.depth, PyData.depthAll]
end
end K81
set_option maxHeartbeats 4000000
namespace K81
open PySem PySem.Spec PyProof.Rows L2
def mKV (ms : List Int) : List (Key × V) := ms.map fun n => (Sum.inl n, V.bl true)
theorem mKV_some (ms : List Int) (n : Int) : (valV (mKV ms) (Sum.inl n)).isSome = decide (n ∈ ms) := by
  have h : Dik (fun x : Int => x) (fun v _ => v = .bl true) (mKV ms) ms := by
    unfold mKV
    induction ms with
    | nil => exact .nil
    | cons a l ih => exact .cons ⟨rfl, rfl⟩ ih
  rw [h.isSome, List.map_id']
theorem mKV_put {ms : List Int} {n : Int} (h : n ∉ ms) : putK (mKV ms) (Sum.inl n) (.bl true) = mKV (ms ++ [n]) := by
  unfold putK
  rw [valV_any, mKV_some, decide_eq_false h]
  simp [mKV]
/-- how the search below the root stands -/
structure BelS (F : List (Int × List (Str × Int))) (ms rs : List Int) : Prop where
  nd : ms.Nodup
  zero : 0 ∈ ms
  sub : ∀ m ∈ ms, m = 0 ∨ m ∈ F.map (·.1)
  rsub : ∀ m ∈ rs, m ∈ ms
  rnd : rs.Nodup
  clo : ∀ x ∈ ms, x ∉ rs → ∀ es, (x, es) ∈ F → ∀ e ∈ es, e.2 ∈ F.map (·.1) → e.2 ∈ ms
theorem bel_len {F : List (Int × List (Str × Int))} {ms rs : List Int} (S : BelS F ms rs) : ms.length ≤ F.length + 1 := by
  have := nodup_len (l := ms) (m := 0 :: F.map (·.1)) S.nd fun x hx => by
    rcases S.sub x hx with z | z
    · rw [z]; exact List.mem_cons_self
    · exact List.mem_cons_of_mem _ z
  rw [List.length_cons, List.length_map] at this
  exact this
theorem bel_end {t : List Row} {F : List (Int × List (Str × Int))} {ms : List Int} (S : BelS F ms []) (hF : FoldsOf t F) (hon : Once t) (ho : Ord (shT t)) : (fo t).length ≤ ms.length := by
  have hFt := hF.eq hon.fo
  subst hFt
  obtain ⟨rk, hrk⟩ := ho.rk
  have key : ∀ b n, rk n < b → (shT t).fk n → n ∈ ms := by
    intro b
    induction b with
    | zero => intro n h; exact absurd h (Nat.not_lt_zero _)
    | succ b ih =>
      intro n h hn
      by_cases h0 : n = 0
      · rw [h0]; exact S.zero
      · obtain ⟨w, a, h1, _⟩ := ho.one n hn h0
        have hlt := hrk w a n h1 hn
        have hw := ih w (by omega) (en_fk h1)
        obtain ⟨es, h2, h3⟩ := mem_flat.mp h1
        exact S.clo w hw (by simp) es h2 _ h3 (fk_iff.mp hn)
  have := nodup_len hon.fo (m := ms) fun n hn => key (rk n + 1) n (Nat.lt_succ_self _) (fk_iff.mpr hn)
  rw [List.length_map] at this
  exact this
def spBelow (K : PySem.W.Frag) : Sp := fun vs H Q _ => ∃ (tab : V) (t : List Row), vs = [tab] ∧ TabAt K H tab t ∧ Small 63 1000 t ∧
  ∀ p (ms : List Int) H', Same H H' → H' p = some (.lst (ms.map V.int)) → (Once t → Ord (shT t) → (fo t).length ≤ ms.length) → Q (.ref p) H'
section
variable {P : Program} {w : World} {K : PySem.W.Frag} {mg : Str → Option Value} {base : Heap}
abbrev N_l_below : List Str := ["_law_table", "_law_folders_here", "_law_met", "_law_row", "_law_name", "_law_number_here"]
theorem sc_l_below : FnScope N_l_below ["_law_table"] (defScope s_l_below) := ⟨rfl, rfl, rfl, by decide +kernel, rfl, by decide +kernel, by decide +kernel⟩
theorem ok_l_below (T : Tx K mg base) : OkD P w K mg base d_l_below.at_ 2 ["_law_table"] (spBelow K) := by
  have G_l_folders := ok_l_folders (P := P) (w := w) T
  refine okD_of T.F_l_below sc_l_below (fun _ _ _ _ _ _ us hl => match us, hl with | [_], _ => rfl) (fun vs H Q E h => ?_) (fun cdv A outer s H vs Q E hr h => ?_)
  · obtain ⟨tab, t, rfl, _⟩ := h
    rfl
  · obtain ⟨tab, t, rfl, ht, hsm, k⟩ := h
    have hu := hu_of hr
    have hrows := hsm.rows
    refine ⟨_, (pss_cons (ps_set (i := 1) sc_l_below.nd rfl (by first | exact Or.inl rfl | exact Or.inr rfl) (pe_callO G_l_folders hr (by decide) T.g_law_folders (pa_cons (pv 0) pa_nil)))
      (pss_cons (ps_set (i := 2) sc_l_below.nd rfl (by first | exact Or.inl rfl | exact Or.inr rfl) (pe_disp (pps_cons pe_int pe_bl pps_nil) (by rfl) (by rfl) (fun z => by cases z) (by decide)))
      (pss_cons (ps_set (i := 3) sc_l_below.nd rfl (by first | exact Or.inl rfl | exact Or.inr rfl) (pe_lst (pa_cons pe_int pa_nil)))
      (pss_cons (ps_while PassesOwn.never (pt_cmpR (op_neD hr.units) (pv 3) (pe_lst pa_nil) (nomark _)) (pss_one (ps_for PassesOwn.never rfl (pi_list (pe_dget2 hu (pv 1) (pe_bm0 PySem.F.plainAttrs_list PySem.F.slot_list_pop PySem.F.type_list_pop mt_pop (pv 3)) (pe_lst pa_nil) ⟨rfl, rfl, rfl, rfl⟩)) (pg_tupK K (n := 2) rfl (pgs_cons (pg_name (i := 4) sc_l_below.nd rfl (by first | exact Or.inl rfl | exact Or.inr rfl)) (pgs_cons (pg_name (i := 5) sc_l_below.nd rfl (by first | exact Or.inl rfl | exact Or.inr rfl)) pgs_nil))) (pss_one (ps_if (PW.pt (pw_and (pt_cmp (pc_din hu (pv 5) (pv 1))) (pw_and1 (pt_cmp (pc_dnotin hu (pv 5) (pv 2)))))) (pss_cons (ps_dput hu (pv 2) (pv 5) pe_bl rfl)
      (pss_one (ps_expr (pe_bm PySem.F.plainAttrs_list PySem.F.slot_list_append PySem.F.type_list_append mt_append (pv 3) (pa_cons (pv 5) pa_nil))))) pss_nil)))))
      (pss_one (ps_ret (pe_callTy (call_listD rfl) (by rfl) T.z_list (show bootBuiltins "list" = some (.type "list") by decide +kernel) (pa_cons (pv 2) pa_nil)))))))), ?_⟩
    refine ⟨_, rfl, tab, t, rfl, ht, by omega, fun d kvs F H1 s1 hd0 hd1 hD hF => ?_⟩
    have hFl := hF.len
    have hfol := hsm.fo
    intro mq hmq
    refine ⟨upd_same .., [(Sum.inl 0, .bl true)], rfl, (show 1 ≤ 15 by decide), ?_⟩
    rw [L2.upd_upd, show mergeK [] [((Sum.inl 0 : Key), V.bl true)] = mKV [0] from rfl]
    obtain ⟨H2, hH2⟩ : ∃ z, z = upd H1 mq (.dK (mKV [0])) := ⟨_, rfl⟩
    rw [← hH2]
    have at_mq : H2 mq = some (.dK (mKV [0])) := by rw [hH2, upd_same]
    have s_H2 : Same H1 H2 := by rw [hH2]; exact same_new hmq
    clear hH2
    refine ⟨zl rfl, fun rq hrq => ?_⟩
    obtain ⟨H3, hH3⟩ : ∃ z, z = upd H2 rq (.lst [.int 0]) := ⟨_, rfl⟩
    rw [← hH3]
    have at_rq : H3 rq = some (.lst [.int 0]) := by rw [hH3, upd_same]
    have s_H3 : Same H2 H3 := by rw [hH3]; exact same_new hrq
    clear hH3
    have m3 := s_H3 _ _ at_mq
    have hmr : mq ≠ rq := ne_of_none at_mq hrq
    obtain ⟨R1, hR1⟩ : ∃ z, z = dels H3 [mq, rq] := ⟨_, rfl⟩
    have sR1 : Same R1 H3 := by rw [hR1]; exact dels_same _ _
    have mR : R1 mq = none := by rw [hR1]; exact dels_in (by simp)
    have rR : R1 rq = none := by rw [hR1]; exact dels_in (by simp)
    have s1R : Same H1 R1 := fun b o h => by
      rw [hR1, dels_out]
      · exact s_H3 _ _ (s_H2 _ _ h)
      · intro q
        rcases List.mem_cons.mp q with z | q
        · rw [z, hmq] at h; cases h
        · rw [List.mem_singleton.mp q, s_H2.free hrq] at h; cases h
    have dR := s1R _ _ hd1
    have hDR : Dik (·.1) (RawV K R1) kvs F := hD.mono fun _ _ q => q.same s1R
    clear hR1 s_H3 s_H2
    have S0 : BelS F [0] [0] := ⟨by simp, by simp, fun m hm => .inl (List.mem_singleton.mp hm), fun m hm => hm, by simp, fun x h1 h2 => absurd h1 h2⟩
    refine ⟨fun m σ H' => ∃ ms rs x y, σ = [some tab, some (.ref d), some (.ref mq), some (.ref rq), x, y] ∧ Same R1 H' ∧ H' mq = some (.dK (mKV ms)) ∧ H' rq = some (.lst (rs.map V.int)) ∧ BelS F ms rs ∧ m + 2 * ms.length = 2 * (F.length + 1) + rs.length, ⟨2 * F.length + 1, [0], [0], _, _, rfl, sR1, m3, at_rq, S0, by simp; omega⟩, ?_⟩
    rintro m σ H4 ⟨ms, rs, x0, y0, rfl, s4, m4, r4, S, hm⟩
    have hml := bel_len S
    refine ⟨_, rfl, zl rfl, fun c hc => ⟨_, _, dp_list (same_new hc _ _ r4), dp_nil (upd_same ..), shaped_ints rs, rfl, _, rfl, ?_⟩⟩
    obtain ⟨H5, hH5⟩ : ∃ z, z = upd H4 c (.lst []) := ⟨_, rfl⟩
    rw [← hH5]
    have at_c : H5 c = some (.lst []) := by rw [hH5, upd_same]
    have s_H5 : Same H4 H5 := by rw [hH5]; exact same_new hc
    clear hH5
    have s5 := s4.trans s_H5
    have m5 := s_H5 _ _ m4
    have r5 := s_H5 _ _ r4
    rw [eqv_nil_ints]
    refine ite2 (fun h2 => ?_) (fun h2 => ?_)
    · obtain ⟨rs', n, rfl⟩ : ∃ rs' n, rs = rs' ++ [n] := by
        have hne : rs ≠ [] := by simpa using h2
        exact ⟨rs.dropLast, rs.getLast hne, (List.dropLast_concat_getLast hne).symm⟩
      refine ⟨fun σ' H'' => ∃ m', m' < m ∧ ∃ ms rs x y, σ' = [some tab, some (.ref d), some (.ref mq), some (.ref rq), x, y] ∧ Same R1 H'' ∧ H'' mq = some (.dK (mKV ms)) ∧ H'' rq = some (.lst (rs.map V.int)) ∧ BelS F ms rs ∧ m' + 2 * ms.length = 2 * (F.length + 1) + rs.length, fun σ' H'' h => h, ?_⟩
      rw [List.map_append] at r5
      refine ⟨_, rfl, _, rfl, .inl ⟨_, .inl (s5 _ _ dR)⟩, _, rfl, tyL (SqL.of r5), _, _, _, rfl, rfl, r5, last_at _ _, zl rfl, fun p6 hp6 => ?_⟩
      rw [List.map_singleton, List.dropLast_concat] at *
      obtain ⟨H6, hH6⟩ : ∃ z, z = upd H5 rq (.lst (rs'.map V.int)) := ⟨_, rfl⟩
      rw [← hH6] at hp6 ⊢
      have r6 : H6 rq = some (.lst (rs'.map V.int)) := by rw [hH6, upd_same]
      have m6 : H6 mq = some (.dK (mKV ms)) := by rw [hH6]; exact upd_at_ne m5 hmr
      have s6 : Same R1 H6 := by rw [hH6]; exact Same.off s5 rR
      clear hH6
      obtain ⟨t1, t2, t3, t4⟩ := hold (o := .lst []) s6 hp6
      have mR2 := t4 m6 mR
      have rR2 := t4 r6 rR
      obtain ⟨R2, hR2⟩ : ∃ z, z = upd R1 p6 (.lst []) := ⟨_, rfl⟩
      obtain ⟨H7, hH7⟩ : ∃ z, z = upd H6 p6 (.lst []) := ⟨_, rfl⟩
      rw [← hH7]
      have at_p6 : H7 p6 = some (.lst []) := by rw [hH7, upd_same]
      have s_H7 : Same H6 H7 := by rw [hH7]; exact same_new hp6
      rw [← hR2] at t1 t2 t3 mR2 rR2
      rw [← hH7] at t2
      have m7 := s_H7 _ _ m6
      have r7 := s_H7 _ _ r6
      clear hH7 hR2
      obtain ⟨lu, xs, es, hv, hlu, hxs, hesF⟩ : ∃ lu xs es, (valV kvs (Sum.inl n)).getD (.ref p6) = .ref lu ∧ SqL K R2 lu xs ∧ Paired (EntAt K R2) xs es ∧ (∀ es', (n, es') ∈ F → es' = es) := by
        cases q : valV kvs (Sum.inl n) with
        | none =>
          refine ⟨p6, [], [], rfl, SqL.of t3, .nil, fun es' h' => ?_⟩
          exact absurd (List.mem_map.mpr ⟨_, h', rfl⟩) (hDR.non.mp q)
        | some v =>
          obtain ⟨⟨n', es⟩, h1, rfl, lu, xs, rfl, h2, h3⟩ := hDR.get q
          refine ⟨lu, xs, es, rfl, Same.seq t1 h2, paired_mono h3 fun _ _ z => z.same t1, fun es' h' => ?_⟩
          have := nodup_key (f := (·.1)) hF.nd h1 h' rfl
          exact (Prod.mk.inj this).2.symm
      have hnms : n ∈ ms := S.rsub n (by simp)
      have hnd' := List.nodup_append.mp S.rnd
      have hnrs' : n ∉ rs' := fun z => hnd'.2.2 n z n (by simp) rfl
      refine ⟨_, .inl ⟨_, .inl n, .inl ((t1.trans t2) _ _ dR), rfl, rfl⟩, lu, (by rw [hv]), ⟨xs, Same.seq t2 hlu⟩, ?_⟩
      rw [List.length_append, List.length_singleton] at hm
      refine for_it (walk_list (xs := xs)) (fun j σ H' => ∃ ms2 rs2 x y, σ = [some tab, some (.ref d), some (.ref mq), some (.ref rq), x, y] ∧ Same R2 H' ∧ H' mq = some (.dK (mKV ms2)) ∧ H' rq = some (.lst (rs2.map V.int)) ∧ ms2.Nodup ∧ (∀ x ∈ ms, x ∈ ms2) ∧ (∀ m ∈ ms2, m = 0 ∨ m ∈ F.map (·.1)) ∧ (∀ m ∈ rs2, m ∈ ms2) ∧ rs2.Nodup ∧ n ∉ rs2 ∧
          (∀ x ∈ ms2, x ∉ rs2 → x ∈ ms ∧ x ∉ rs') ∧ (∀ e ∈ es.take j, e.2 ∈ F.map (·.1) → e.2 ∈ ms2) ∧ rs2.length + ms.length = rs'.length + ms2.length)
        ⟨ms, rs', _, _, rfl, t2, m7, r7, S.nd, fun _ h => h, S.sub, fun m h => S.rsub m (List.mem_append.mpr (.inl h)), hnd'.1, hnrs', fun x h1 h2 => ⟨h1, h2⟩, fun e he => by simp at he, by omega⟩ (fun j σ H' _ hp => ?_) ?_ ?_
      · obtain ⟨_, _, _, _, _, s, _⟩ := hp
        exact Same.seq s hlu
      · rintro j v σ H8 H9 hj ⟨ms2, rs2, _, _, rfl, s8, m8, r8, a1, a2, a3, a4, a5, a6, a7, a8, a9⟩ ⟨rfl, hv2⟩
        obtain ⟨⟨nm, x⟩, hx1, tt, rfl, htt⟩ := paired_at hxs hv2
        have keep : (x ∈ F.map (·.1) → x ∈ ms2) → ∀ e ∈ es.take (j + 1), e.2 ∈ F.map (·.1) → e.2 ∈ ms2 := fun h e he hk => by
          rcases (mem_take_succ hx1).mp he with z | z
          · exact a8 e z hk
          · rw [z] at hk ⊢; exact h hk
        refine ⟨_, _, rfl, Same.tup s8 htt, rfl, _, _, rfl, _, _, rfl, rfl, ?_⟩
        refine ⟨_, rfl, _, rfl, _, _, rfl, .inl ⟨_, .inl x, .inl ((t1.trans s8) _ _ dR), rfl, rfl⟩, _, rfl, ?_⟩
        rw [hDR.isSome]
        refine ite2 (fun h3 => ?_) (fun h3 => ?_)
        · have hxF : x ∈ F.map (·.1) := of_decide_eq_true h3
          refine ⟨_, rfl, _, rfl, _, _, rfl, .inl ⟨_, .inl x, .inl m8, rfl, rfl⟩, _, rfl, ?_⟩
          rw [mKV_some]
          refine ite2 (fun h4 => ?_) (fun h4 => ?_)
          · have hxm : x ∉ ms2 := by simpa using h4
            have hm2l : ms2.length ≤ 100 := by
              have := nodup_len (l := ms2) (m := 0 :: F.map (·.1)) a1 fun y hy => by
                rcases a3 y hy with z | z
                · rw [z]; exact List.mem_cons_self
                · exact List.mem_cons_of_mem _ z
              rw [List.length_cons, List.length_map] at this
              omega
            have hr2l : rs2.length ≤ 100 := by
              have := nodup_len a5 a4
              omega
            refine ⟨_, rfl, _, rfl, _, _, rfl, .inl ⟨mKV ms2, .inl x, m8, rfl, sl (by unfold mKV; rw [List.length_map]; omega), rfl⟩, ?_⟩
            rw [mKV_put hxm]
            have r9 : (upd H9 mq (.dK (mKV (ms2 ++ [x])))) rq = some (.lst (rs2.map V.int)) := upd_at_ne r8 hmr.symm
            refine ⟨_, rfl, tyL (SqL.of r9), _, rfl, _, _, _, rfl, rfl, r9, sl (by rw [List.length_map]; omega), ?_⟩
            refine ⟨ms2 ++ [x], rs2 ++ [x], _, _, rfl, Same.off (Same.off s8 mR2) rR2, by rw [upd_ne hmr, upd_same], by rw [upd_same, List.map_append]; rfl, ?_, fun y hy => List.mem_append.mpr (.inl (a2 y hy)), fun y hy => ?_, fun y hy => ?_, ?_, fun z => ?_, fun y h5 h6 => ?_, fun e he hk => ?_, by simp only [List.length_append, List.length_singleton]; omega⟩
            · exact List.nodup_append.mpr ⟨a1, by simp, fun y hy z hz e => by rw [List.mem_singleton] at hz; rw [e, hz] at hy; exact hxm hy⟩
            · rcases List.mem_append.mp hy with z | z
              · exact a3 y z
              · rw [List.mem_singleton.mp z]; exact .inr hxF
            · rcases List.mem_append.mp hy with z | z
              · exact List.mem_append.mpr (.inl (a4 y z))
              · exact List.mem_append.mpr (.inr z)
            · exact List.nodup_append.mpr ⟨a5, by simp, fun y hy z hz e => by rw [List.mem_singleton] at hz; rw [e, hz] at hy; exact hxm (a4 _ hy)⟩
            · rcases List.mem_append.mp z with z | z
              · exact a6 z
              · rw [List.mem_singleton] at z
                exact hxm (by rw [← z]; exact a2 n hnms)
            · rcases List.mem_append.mp h5 with z | z
              · exact a7 y z fun q => h6 (List.mem_append.mpr (.inl q))
              · exact absurd (List.mem_append.mpr (.inr z)) h6
            · rcases (mem_take_succ hx1).mp he with z | z
              · exact List.mem_append.mpr (.inl (a8 e z hk))
              · rw [z]; simp
          · have hxm : x ∈ ms2 := by simpa using h4
            exact ⟨ms2, rs2, _, _, rfl, s8, m8, r8, a1, a2, a3, a4, a5, a6, a7, keep fun _ => hxm, a9⟩
        · refine iteF ⟨ms2, rs2, _, _, rfl, s8, m8, r8, a1, a2, a3, a4, a5, a6, a7, keep fun z => absurd (decide_eq_true z) h3, a9⟩
      · rintro σ H8 ⟨ms2, rs2, _, _, rfl, s8, m8, r8, a1, a2, a3, a4, a5, a6, a7, a8, a9⟩
        rw [paired_len hxs, List.take_length] at a8
        have hm2l := nodup_len a1 (m := 0 :: F.map (·.1)) fun y hy => by
          rcases a3 y hy with z | z
          · rw [z]; exact List.mem_cons_self
          · exact List.mem_cons_of_mem _ z
        rw [List.length_cons, List.length_map] at hm2l
        have hle : ms.length ≤ ms2.length := nodup_len S.nd a2
        refine ⟨2 * (F.length + 1) + rs2.length - 2 * ms2.length, by omega, ms2, rs2, _, _, rfl, t1.trans s8, m8, r8, ⟨a1, a2 0 S.zero, a3, a4, a5, fun y h1 h2 es' h3 e he hk => ?_⟩, by omega⟩
        obtain ⟨h4, h5⟩ := a7 y h1 h2
        by_cases z : y = n
        · subst z
          rw [hesF es' h3] at he
          exact a8 e he hk
        · exact a2 _ (S.clo y h4 (fun q => by
            rcases List.mem_append.mp q with q | q
            · exact h5 q
            · exact z (List.mem_singleton.mp q)) es' h3 e he hk)
    · have hre : rs = [] := by simpa using h2
      subst hre
      refine ⟨_, rfl, _, _, rfl, .inl m5, fun p hp => ?_⟩
      have e1 : ((mKV ms).map fun kv => kV kv.1) = ms.map V.int := by simp [mKV, kV]
      rw [e1]
      exact k p ms _ ((s1.trans s1R).trans (s5.trans (same_new hp))) (upd_same ..) (fun hon ho => bel_end S hF hon ho)
end
end K81
set_option maxHeartbeats 4000000
namespace K81
open PySem PySem.Spec PyProof.Rows L2
theorem adjI_nodup : ∀ {l : List Int}, l.Pairwise (· ≤ ·) → (∀ k a b, l[k]? = some a → l[k + 1]? = some b → a ≠ b) → l.Nodup
  | [], _, _ => .nil
  | [a], _, _ => by simp
  | a :: b :: r, hp, hd => by
    have hp' := List.pairwise_cons.mp hp
    have ih := adjI_nodup hp'.2 fun k x y h1 h2 => hd (k + 1) x y h1 h2
    have hab : a < b := by
      have h1 := hp'.1 b List.mem_cons_self
      have h2 := hd 0 a b rfl rfl
      omega
    refine List.nodup_cons.mpr ⟨fun hm => ?_, ih⟩
    rcases List.mem_cons.mp hm with z | hc
    · omega
    · have := (List.pairwise_cons.mp hp'.2).1 a hc
      omega
theorem adjI_not {l : List Int} {k : Nat} {a b : Int} (h1 : l[k]? = some a) (h2 : l[k + 1]? = some b) (e : a = b) : ¬ l.Nodup := by
  intro hn
  obtain ⟨i1, e1⟩ := List.getElem?_eq_some_iff.mp h1
  obtain ⟨i2, e2⟩ := List.getElem?_eq_some_iff.mp h2
  have := List.pairwise_iff_getElem.mp hn k (k + 1) i1 i2 (by omega)
  rw [e1, e2] at this
  exact this e
theorem eqv_encT (a b : Trip) : PyData.eqv (encT a) (encT b) = decide (a = b) := by
  obtain ⟨a1, a2, a3⟩ := a
  obtain ⟨b1, b2, b3⟩ := b
  simp only [encT, PyData.eqv, PyData.eqvAll, Bool.and_true]
  by_cases h1 : a1 = b1
  · subst h1
    by_cases h2 : a2 = b2
    · subst h2
      by_cases h3 : a3 = b3
      · subst h3; simp
      · simp [h3]
    · simp [h2]
  · simp [h1]
theorem any_encT (es : List Trip) (a : Trip) : ((es.map encT).any fun z => PyData.eqv z (encT a)) = decide (a ∈ es) := by
  induction es with
  | nil => rfl
  | cons b l ih =>
    rw [List.map_cons, List.any_cons, ih, eqv_encT]
    by_cases h : b = a
    · subst h; simp
    · have h' : ¬ a = b := fun e => h e.symm
      simp [h, h']
theorem lay_encT {es : List Trip} (h : ∀ e ∈ es, isName e.2.1 = true) : PyData.canLayAll0 (es.map encT) = true := by
  induction es with
  | nil => rfl
  | cons a l ih =>
    have h1 := isName_ok (h a List.mem_cons_self)
    have h2 := ih fun e m => h e (List.mem_cons_of_mem _ m)
    simp only [List.map_cons, PyData.canLayAll0, encT, PyData.canLay0, h1, h2]
    rfl
theorem depth_encT : ∀ es : List Trip, PyData.depthAll (es.map encT) ≤ 1
  | [] => by simp [PyData.depthAll]
  | a :: l => by
    have := depth_encT l
    simp only [List.map_cons, PyData.depthAll, encT, PyData.depth]
    omega
theorem shaped_encTs {es : List Trip} (h : ∀ e ∈ es, isName e.2.1 = true) : SeqAt.shaped (.list (es.map encT)) = true := by
  have h1 := depth_encT es
  show (PyData.canLay0 (.list (es.map encT)) && decide (PyData.depth (.list (es.map encT)) ≤ 64)) = true
  rw [Bool.and_eq_true]
  refine ⟨by simp only [PyData.canLay0]; exact lay_encT h, decide_eq_true ?_⟩
  simp only [PyData.depth]
  omega
theorem count_led (zs : List Trip) (n : Int) : (zs.map (·.2.2)).count n = (ledOf zs n).length := by
  unfold ledOf
  rw [List.length_map, List.count, List.countP_map, List.countP_eq_length_filter]
  congr 1
def spFirst (K : PySem.W.Frag) : Sp := spLooked K
section
variable {P : Program} {w : World} {K : PySem.W.Frag} {mg : Str → Option Value} {base : Heap}
abbrev N_l_first : List Str := ["_law_table", "_law_numbers", "_law_folders_here", "_law_entries_here", "_law_one", "_law_other", "_law_folder", "_law_name", "_law_number_here", "_law_goals", "_law_entry", "_law_row"]
theorem sc_l_first : FnScope N_l_first ["_law_table"] (defScope s_l_first) := ⟨rfl, rfl, rfl, by decide +kernel, rfl, by decide +kernel, by decide +kernel⟩
theorem ok_l_first (T : Tx K mg base) : OkD P w K mg base d_l_first.at_ 3 ["_law_table"] (spFirst K) := by
  have G_l_folders := ok_l_folders (P := P) (w := w) T
  have G_l_entries := ok_l_entries (P := P) (w := w) T
  have G_l_below := ok_l_below (P := P) (w := w) T
  refine okD_of T.F_l_first sc_l_first (fun _ _ _ _ _ _ us hl => match us, hl with | [_], _ => rfl) (fun vs H Q E h => ?_) (fun cdv A outer s H vs Q E hr h => ?_)
  · obtain ⟨tab, t, rfl, _⟩ := h
    rfl
  · obtain ⟨tab, t, rfl, ht, hf, hsm, k⟩ := h
    have hu := hu_of hr
    have hrows := hsm.rows
    have hfol := hsm.fo
    refine ⟨_, (pss_cons (ps_set (i := 1) sc_l_first.nd rfl (by first | exact Or.inl rfl | exact Or.inr rfl) (pe_callB cr_sortedI (by rfl) T.z_sorted (show bootBuiltins "sorted" = some (.builtin "sorted") by decide +kernel) (pa_cons (pe_lc (own := [("_law_row", 11)]) rfl sc_l_first.nd (pi_list (pv 0)) (blkOk_by (N := N_l_first) (sc := defScope s_l_first) (by decide +kernel)) (fun _ _ _ _ _ => (pg_name (i := 11) sc_l_first.nd rfl (Or.inl rfl))) (fun _ _ _ _ _ => pts_nil) (fun _ _ _ _ _ => (pe_ix (ix_tupK K) (pv 11) pe_int (fun _ _ => rfl)))) pa_nil)))
      (pss_cons (ps_set (i := 2) sc_l_first.nd rfl (by first | exact Or.inl rfl | exact Or.inr rfl) (pe_callO G_l_folders hr (by decide) T.g_law_folders (pa_cons (pv 0) pa_nil)))
      (pss_cons (ps_set (i := 3) sc_l_first.nd rfl (by first | exact Or.inl rfl | exact Or.inr rfl) (pe_callO G_l_entries hr (by decide) T.g_law_entries (pa_cons (pv 0) pa_nil)))
      (pss_cons (ps_for PassesOwn.never rfl (pi_zip (by rfl) T.z_zip (pa_cons (pv 1) (pa_cons (pe_slice sl_list (pv 1) (po_some pe_int) po_none) pa_nil))) (pg_tupK K (n := 2) rfl (pgs_cons (pg_name (i := 4) sc_l_first.nd rfl (by first | exact Or.inl rfl | exact Or.inr rfl)) (pgs_cons (pg_name (i := 5) sc_l_first.nd rfl (by first | exact Or.inl rfl | exact Or.inr rfl)) pgs_nil))) (pss_one (ps_if (pt_cmpR (op_eqD hr.units) (pv 4) (pv 5) (nomark _)) (pss_one (ps_ret (pe_tup (pa_cons pe_str (pa_cons (pv 4) pa_nil))))) pss_nil)))
      (Evl.pss_cut (ps_if (PW.pt (pw_or (pt_cmp (pc_dnotin hu pe_int (pv 2))) (pw_or (pt_cmp (pc_dnotin hu pe_int (pv 2))) (pw_or1 (pt_cmpR (op_notInD (hu65 hr)) (pe_tup (pa_cons pe_int (pa_cons pe_str (pa_cons pe_int pa_nil)))) (pv 3) rfl))))) (pss_one (ps_ret (pe_tup (pa_cons pe_str pa_nil)))) pss_nil)
      (pss_cons (ps_for PassesOwn.never rfl (pi_zip (by rfl) T.z_zip (pa_cons (pv 3) (pa_cons (pe_slice sl_list (pv 3) (po_some pe_int) po_none) pa_nil))) (pg_tupK K (n := 2) rfl (pgs_cons (pg_name (i := 4) sc_l_first.nd rfl (by first | exact Or.inl rfl | exact Or.inr rfl)) (pgs_cons (pg_name (i := 5) sc_l_first.nd rfl (by first | exact Or.inl rfl | exact Or.inr rfl)) pgs_nil))) (pss_one (ps_if (pt_cmpR (op_eqD hr.units) (pe_slice (sl_tupAK K) (pv 4) po_none (po_some pe_int)) (pe_slice (sl_tupAK K) (pv 5) po_none (po_some pe_int)) (nomark _)) (pss_one (ps_ret (pe_tup (pa_cons pe_str (pa_cons (pe_ix (ix_tupK K) (pv 4) pe_int (fun _ _ => rfl)) (pa_cons (pe_ix (ix_tupK K) (pv 4) pe_int (fun _ _ => rfl)) pa_nil)))))) pss_nil)))
      (pss_cons (ps_for PassesOwn.never rfl (pi_list (pv 3)) (pg_tupK K (n := 3) rfl (pgs_cons (pg_name (i := 6) sc_l_first.nd rfl (by first | exact Or.inl rfl | exact Or.inr rfl)) (pgs_cons (pg_name (i := 7) sc_l_first.nd rfl (by first | exact Or.inl rfl | exact Or.inr rfl)) (pgs_cons (pg_name (i := 8) sc_l_first.nd rfl (by first | exact Or.inl rfl | exact Or.inr rfl)) pgs_nil)))) (pss_one (ps_if (pt_cmpR op_notIn_seq (pv 8) (pv 1) rfl) (pss_one (ps_ret (pe_tup (pa_cons pe_str (pa_cons (pv 6) (pa_cons (pv 7) pa_nil)))))) pss_nil)))
      (pss_cons (ps_setLc (i := 9) (own := [("_law_entry", 10)]) rfl sc_l_first.nd rfl rfl (sw_true rfl rfl rfl (by decide +kernel)) (pi_list (pv 3)) (blkOk_by (N := N_l_first) (sc := defScope s_l_first) (by decide +kernel)) (fun _ _ _ _ _ => (pg_name (i := 10) sc_l_first.nd rfl (Or.inl rfl))) (fun _ _ _ _ _ => pts_nil) (fun _ _ _ _ _ => (pe_ix (ix_tupK K) (pv 10) pe_int (fun _ _ => rfl))))
      (pss_cons (ps_for PassesOwn.never rfl (pi_list (pe_callB (call_sortedDI rfl) (by rfl) T.z_sorted (show bootBuiltins "sorted" = some (.builtin "sorted") by decide +kernel) (pa_cons (pv 2) pa_nil))) (pg_name (i := 6) sc_l_first.nd rfl (by first | exact Or.inl rfl | exact Or.inr rfl)) (pss_one (ps_if (pt_cmpR op_ne (pe_bm PySem.F.plainAttrs_list PySem.F.slot_list_count PySem.F.type_list_count mt_lcount (pv 9) (pa_cons (pv 6) pa_nil)) (pe_callTy call_int1 (by rfl) T.z_int (show bootBuiltins "int" = some (.type "int") by decide +kernel) (pa_cons (pe_cmpR op_gt (pv 6) pe_int (nomark _)) pa_nil)) (nomark _)) (pss_one (ps_ret (pe_tup (pa_cons pe_str (pa_cons (pv 6) pa_nil))))) pss_nil)))
      (pss_cons (ps_for PassesOwn.never rfl (pi_list (pv 1)) (pg_name (i := 8) sc_l_first.nd rfl (by first | exact Or.inl rfl | exact Or.inr rfl)) (pss_one (ps_if (PW.pt (pw_and (pt_cmp (pc_dnotin hu (pv 8) (pv 2))) (pw_and1 (pt_cmpR op_notIn_seq (pv 8) (pv 9) rfl)))) (pss_one (ps_ret (pe_tup (pa_cons pe_str (pa_cons (pv 8) pa_nil))))) pss_nil)))
      (pss_cons (ps_if (pt_cmpR op_lt (pe_callB call_len_seq (by rfl) T.z_len (show bootBuiltins "len" = some (.builtin "len") by decide +kernel) (pa_cons (pe_callO G_l_below hr (by decide) T.g_law_below (pa_cons (pv 0) pa_nil)) pa_nil)) (pe_callB call_lenD (by rfl) T.z_len (show bootBuiltins "len" = some (.builtin "len") by decide +kernel) (pa_cons (pv 2) pa_nil)) (nomark _)) (pss_one (ps_ret (pe_tup (pa_cons pe_str pa_nil)))) pss_nil)
      (pss_one (ps_ret pe_non))))))))))))), ?_⟩
    have ht' := ht
    obtain ⟨la, rows, rfl, hla, hrw⟩ := ht'
    -- numbers
    refine ⟨_, rfl, _, rfl, ⟨_, hla⟩, fun D hD => lc_rel walk_list t (paired_len hrw) (fun r => some r.num) (fun _ v z => v = .int z) (fun _ _ _ _ _ q => q) hD (fun _ s => Same.seq s hla) ?_ ?_⟩
    · rintro i r v H1 H' hri pv s1 ⟨rfl, hv⟩
      obtain ⟨r', hr1, hr2⟩ := paired_at hrw hv
      rw [hri] at hr1
      obtain rfl := Option.some.inj hr1
      obtain ⟨tp, kk, rest, rfl, htp⟩ := rowAt_num (hr2.same s1)
      exact ⟨rfl, tyes ⟨_, rfl, _, _, _, _, rfl, rfl, htp, at1, pv.yes (fun _ _ _ _ _ q => q) hD (by omega) hri (Same.refl _) rfl rfl⟩⟩
    intro H1 ys s1 hD1 hys
    obtain rfl := paired_map hys
    rw [filterMap_some] at hD1
    refine ⟨_, _, rfl, SqL.of hD1, fun ns pn perm pw hpn => ?_⟩
    obtain ⟨H2, hH2⟩ : ∃ z, z = upd H1 pn (.lst (ns.map V.int)) := ⟨_, rfl⟩
    rw [← hH2]
    have at_pn : H2 pn = some (.lst (ns.map V.int)) := by rw [hH2, upd_same]
    have s_H2 : Same H1 H2 := by rw [hH2]; exact same_new hpn
    clear hH2
    have s2 := s1.trans s_H2
    have permN : ns.Perm (nums t) := perm
    -- folders, entries
    refine ⟨_, rfl, _, t, rfl, ht.same s2, by omega, fun d kvs F H3 s3 hd0 hd3 hD3 hF => ?_⟩
    have sH3 := s2.trans s3
    refine ⟨_, rfl, _, t, rfl, ht.same sH3, hsm, fun pe es zs F2 H4 s4 hpe hes hzp hzs hF2 => ?_⟩
    have sH4 := sH3.trans s4
    have n4 : H4 pn = some (.lst (ns.map V.int)) := s4 _ _ (s3 _ _ at_pn)
    have d4 := s4 _ _ hd3
    have hD4 : Dik (·.1) (RawV K H4) kvs F := hD3.mono fun _ _ q => q.same s4
    clear hD3 s_H2 at_pn hD1 hys perm
    have hzn : ∀ e ∈ zs, isName e.2.1 = true := fun e he => by
      obtain ⟨es', h1, h2⟩ := mem_flat.mp (show (e.1, e.2.1, e.2.2) ∈ flat F2 from hzp.subset he)
      exact (hf.ents _ _ (hF2.sub _ h1) _ h2).1
    -- twice
    refine ⟨_, rfl, _, rfl, _, rfl, _, _, rfl, SqL.of n4, fun p5 hp5 => ?_⟩
    rw [cut_tail]
    obtain ⟨H5, hH5⟩ : ∃ z, z = upd H4 p5 (.lst (ns.map V.int).tail) := ⟨_, rfl⟩
    rw [← hH5]
    have at_p5 : H5 p5 = some (.lst (ns.map V.int).tail) := by rw [hH5, upd_same]
    have s_H5 : Same H4 H5 := by rw [hH5]; exact same_new hp5
    clear hH5
    have tl_at : ∀ (xs : List V) (j : Nat), xs.tail[j]? = xs[j + 1]? := fun xs j => by cases xs <;> simp
    refine ⟨_, _, _, _, rfl, SqL.of (s_H5 _ _ n4), SqL.of at_p5, ?_⟩
    refine for_it (walk_zip (xs := ns.map V.int) (ys := (ns.map V.int).tail) rfl) (fun j σ H' => ∃ a b, σ = [some (.ref la), some (.ref pn), some (.ref d), some (.ref pe), a, b, none, none, none, none, none, none] ∧ Same H5 H' ∧ ∀ m, m < j → ∀ a b, ns[m]? = some a → ns[m + 1]? = some b → a ≠ b)
      ⟨_, _, rfl, Same.refl _, fun m hm => absurd hm (Nat.not_lt_zero _)⟩ (fun j σ H' _ hp => ?_) ?_ ?_
    · obtain ⟨_, _, _, s, _⟩ := hp
      exact ⟨SqL.of (s _ _ (s_H5 _ _ n4)), SqL.of (s _ _ at_p5)⟩
    · rintro j v σ H6 H7 hj ⟨_, _, rfl, s6, hadj⟩ ⟨T', a, b, rfl, hT', rfl, ha, hb⟩
      replace hb : (ns.map V.int)[j + 1]? = some b := (tl_at _ j).symm.trans hb
      obtain ⟨a, ha1, rfl⟩ := map_at ha
      obtain ⟨b, hb1, rfl⟩ := map_at hb
      have s7 : Same H6 (upd H6 T' (.tup [.int a, .int b])) := same_new hT'
      refine ⟨_, _, rfl, SqT.of (upd_same ..), rfl, _, _, rfl, _, _, rfl, rfl, ?_⟩
      refine ⟨_, rfl, _, rfl, .int a, .int b, .int a, .int b, rfl, rfl, _, rfl, ite2 (fun h => ?_) (fun h => ?_)⟩
      · have e : a = b := by
          have h' : (a == b) = true := h
          simpa using h'
        have hb : Beyond t := .inl fun z => adjI_not ha1 hb1 e (permN.symm.nodup z)
        refine ⟨_, rfl, zl rfl, fun q hq => k _ _ ((((sH4.trans s_H5).trans s6).trans s7).trans (same_new hq)) ⟨.inr ⟨q, _, _, rfl, upd_same .., fun _ => hb, fun _ => .inl rfl⟩, fun ho => absurd hb ho.1⟩⟩
      · refine ⟨_, _, rfl, s6.trans s7, fun m hm a' b' ha' hb' => ?_⟩
        by_cases z : m = j
        · subst z
          rw [ha1] at ha'
          rw [hb1] at hb'
          obtain rfl := Option.some.inj ha'
          obtain rfl := Option.some.inj hb'
          intro e
          exact h (by show (a == b) = true; simp [e])
        · exact hadj m (by omega) a' b' ha' hb'
    rintro σ H6 ⟨_, _, rfl, s6, hadj⟩
    have hnn : ns.Nodup := adjI_nodup pw fun m a b h1 h2 => hadj m (by
      have := (List.getElem?_eq_some_iff.mp h2).1
      simp
      omega) a b h1 h2
    have hnum : (nums t).Nodup := permN.nodup hnn
    have hnf : ((fo t).map (·.1)).Nodup := hnum.sublist (fo_nums t)
    have eF := hF.eq hnf
    have eF2 := hF2.eq hnf
    subst eF
    rw [eF2] at hzp
    clear hadj tl_at at_p5
    have sH6 := (sH4.trans s_H5).trans s6
    have s46 := s_H5.trans s6
    have hzmem : ∀ w a n, (w, a, n) ∈ zs ↔ (shT t).en w a n := fun w a n => hzp.mem_iff
    -- root
    refine ⟨fun σ' H' => (∃ a b, σ' = [some (.ref la), some (.ref pn), some (.ref d), some (.ref pe), a, b, none, none, none, none, none, none]) ∧ Same H4 H' ∧ rootOk t, ?_, ?_⟩
    · have bad : ¬ rootOk t → ∀ H', Same H6 H' → ∀ q, H' q = none → Q (.ref q) (upd H' q (.tup [.str "root"])) := fun hno H' s q hq => by
        refine k _ _ ((sH6.trans s).trans (same_new hq)) ⟨.inr ⟨q, _, _, rfl, upd_same .., fun _ => .inr (.inl hno), fun _ => .inr (.inl rfl)⟩, fun ho => absurd (beyond_root ho.1) hno⟩
      refine ⟨_, rfl, _, _, rfl, .inl ⟨_, .inl 0, .inl (s46 _ _ d4), rfl, rfl⟩, _, rfl, ?_⟩
      rw [hD4.isSome]
      refine ite2 (fun h => ?_) (fun h => ?_)
      · have h' : (0 : Int) ∉ (fo t).map (·.1) := by simpa using h
        refine (?_ : if true = true then _ else _)
        rw [if_pos rfl]
        exact ⟨zl rfl, fun q hq => bad (fun z => h' (fk_iff.mp z.1)) _ (Same.refl _) q hq⟩
      · have h0 : (0 : Int) ∈ (fo t).map (·.1) := by simpa using h
        refine ⟨_, rfl, _, _, rfl, .inl ⟨_, .inl 1, .inl (s46 _ _ d4), rfl, rfl⟩, _, rfl, ?_⟩
        rw [hD4.isSome]
        refine ite2 (fun h => ?_) (fun h => ?_)
        · have h' : (1 : Int) ∉ (fo t).map (·.1) := by simpa using h
          refine (?_ : if true = true then _ else _)
          rw [if_pos rfl]
          exact ⟨zl rfl, fun q hq => bad (fun z => h' (fk_iff.mp z.2.1)) _ (Same.refl _) q hq⟩
        · have h1 : (1 : Int) ∈ (fo t).map (·.1) := by simpa using h
          refine ⟨zl rfl, fun p7 hp7 => ?_⟩
          obtain ⟨H7, hH7⟩ : ∃ z, z = upd H6 p7 (.tup [.int 0, .str "clash", .int 1]) := ⟨_, rfl⟩
          rw [← hH7]
          have at_p7 : H7 p7 = some (.tup [.int 0, .str "clash", .int 1]) := by rw [hH7, upd_same]
          have s_H7 : Same H6 H7 := by rw [hH7]; exact same_new hp7
          clear hH7
          have s47 := s46.trans s_H7
          refine ⟨_, rfl, encT (0, "clash", 1), zs.map encT, .tup (SqT.of at_p7) (.cons (.int _) (.cons (.str _) (.cons (.int _) .nil))), .lst (SqL.of (s47 _ _ hpe)) (trips_dp (paired_mono hes fun _ _ q => q.same s47)), by decide +kernel, shaped_encTs hzn, _, rfl, ?_⟩
          rw [any_encT]
          refine ite2 (fun h => ?_) (fun h => ?_)
          · have h' : ((0, "clash", 1) : Trip) ∉ zs := by simpa using h
            exact ⟨zl rfl, fun q hq => bad (fun z => h' ((hzmem _ _ _).mpr z.2.2)) _ s_H7 q hq⟩
          · have h' : ((0, "clash", 1) : Trip) ∈ zs := by simpa using h
            exact ⟨⟨_, _, rfl⟩, s47, fk_iff.mpr h0, fk_iff.mpr h1, (hzmem _ _ _).mp h'⟩
    rintro _ H7 ⟨⟨_, _, rfl⟩, s7, hroot⟩
    clear s46 sH6 s6 s_H5
    have sH7 := sH4.trans s7
    have hnames_iff : (zs.map spot).Nodup ↔ namesOnce t := ((hzp.map spot).nodup_iff).trans (spots_nodup hnf)
    -- same
    refine ⟨_, rfl, _, rfl, _, rfl, _, _, rfl, SqL.of (s7 _ _ hpe), fun p8 hp8 => ?_⟩
    rw [cut_tail]
    obtain ⟨H8, hH8⟩ : ∃ z, z = upd H7 p8 (.lst es.tail) := ⟨_, rfl⟩
    rw [← hH8]
    have at_p8 : H8 p8 = some (.lst es.tail) := by rw [hH8, upd_same]
    have s_H8 : Same H7 H8 := by rw [hH8]; exact same_new hp8
    clear hH8
    have s48 := s7.trans s_H8
    have sH8 := sH4.trans s48
    have tl_at : ∀ (j : Nat), es.tail[j]? = es[j + 1]? := fun j => by cases es <;> simp
    refine ⟨_, _, _, _, rfl, SqL.of (s48 _ _ hpe), SqL.of at_p8, ?_⟩
    refine for_it (walk_zip (xs := es) (ys := es.tail) rfl) (fun j σ H' => ∃ a b, σ = [some (.ref la), some (.ref pn), some (.ref d), some (.ref pe), a, b, none, none, none, none, none, none] ∧ Same H8 H' ∧ ∀ m, m < j → ∀ a b, zs[m]? = some a → zs[m + 1]? = some b → spot a ≠ spot b)
      ⟨_, _, rfl, Same.refl _, fun m hm => absurd hm (Nat.not_lt_zero _)⟩ (fun j σ H' _ hp => ?_) ?_ ?_
    · obtain ⟨_, _, _, s, _⟩ := hp
      exact ⟨SqL.of (s _ _ (s48 _ _ hpe)), SqL.of (s _ _ at_p8)⟩
    · rintro j v σ H9 H10 hj ⟨_, _, rfl, s9, hadj⟩ ⟨T', a, b, rfl, hT', rfl, ha, hb⟩
      replace hb : es[j + 1]? = some b := (tl_at _).symm.trans hb
      obtain ⟨ea, ha1, ta, rfl, hta⟩ := paired_at hes ha
      obtain ⟨eb, hb1, tb, rfl, htb⟩ := paired_at hes hb
      have s10 : Same H4 (upd H9 T' (.tup [.ref ta, .ref tb])) := (s48.trans s9).trans (same_new hT')
      have s810 : Same H8 (upd H9 T' (.tup [.ref ta, .ref tb])) := s9.trans (same_new hT')
      have atT : (upd H9 T' (.tup [.ref ta, .ref tb])) T' = some (.tup [.ref ta, .ref tb]) := upd_same ..
      obtain ⟨H11, hH11⟩ : ∃ z, z = upd H9 T' (.tup [.ref ta, .ref tb]) := ⟨_, rfl⟩
      rw [← hH11] at s10 s810 atT ⊢
      clear hH11
      refine ⟨_, _, rfl, SqT.of atT, rfl, _, _, rfl, _, _, rfl, rfl, ?_⟩
      refine ⟨_, rfl, _, rfl, _, _, rfl, Same.tup s10 hta, fun z => absurd z (show ¬ (HT.sIx 3 0 none = 0 ∧ HT.sIx 3 3 (some 2) = 3) by decide), fun _ q1 hq1 => ?_⟩
      rw [cut02]
      obtain ⟨H12, hH12⟩ : ∃ z, z = upd H11 q1 (.tup [.int ea.1, .str ea.2.1]) := ⟨_, rfl⟩
      rw [← hH12]
      have at_q1 : H12 q1 = some (.tup [.int ea.1, .str ea.2.1]) := by rw [hH12, upd_same]
      have s_H12 : Same H11 H12 := by rw [hH12]; exact same_new hq1
      clear hH12
      have s12 := s10.trans s_H12
      refine ⟨_, rfl, _, rfl, _, _, rfl, Same.tup s12 htb, fun z => absurd z (show ¬ (HT.sIx 3 0 none = 0 ∧ HT.sIx 3 3 (some 2) = 3) by decide), fun _ q2 hq2 => ?_⟩
      rw [cut02]
      obtain ⟨H13, hH13⟩ : ∃ z, z = upd H12 q2 (.tup [.int eb.1, .str eb.2.1]) := ⟨_, rfl⟩
      rw [← hH13]
      have at_q2 : H13 q2 = some (.tup [.int eb.1, .str eb.2.1]) := by rw [hH13, upd_same]
      have s_H13 : Same H12 H13 := by rw [hH13]; exact same_new hq2
      clear hH13
      have s13 := s12.trans s_H13
      have na := hzn _ (List.mem_of_getElem? ha1)
      have nb := hzn _ (List.mem_of_getElem? hb1)
      refine ⟨encP (spot ea), encP (spot eb), .tup (SqT.of (s_H13 _ _ at_q1)) (.cons (.int _) (.cons (.str _) .nil)), .tup (SqT.of at_q2) (.cons (.int _) (.cons (.str _) .nil)), shaped_encP na, shaped_encP nb, _, rfl, ?_⟩
      rw [eqv_encP]
      have s813 := (s810.trans s_H12).trans s_H13
      refine ite2 (fun h => ?_) (fun h => ?_)
      · have e := of_decide_eq_true h
        have hb : Beyond t := (beyond_of hnum).mpr fun z => adjT_not ha1 hb1 e (hnames_iff.mpr z.2)
        have hta13 := Same.tup s13 hta
        refine ⟨_, rfl, _, _, _, _, rfl, rfl, hta13, at0, _, rfl, _, _, _, _, rfl, rfl, hta13, at1, zl rfl, fun q hq => k _ _ ((sH4.trans s13).trans (same_new hq)) ⟨.inr ⟨q, _, _, rfl, upd_same .., fun _ => hb, fun _ => .inr (.inr rfl)⟩, fun ho => absurd hb ho.1⟩⟩
      · refine ⟨_, _, rfl, s813, fun m hm a' b' ha' hb' => ?_⟩
        by_cases z : m = j
        · subst z
          rw [ha1] at ha'
          rw [hb1] at hb'
          obtain rfl := Option.some.inj ha'
          obtain rfl := Option.some.inj hb'
          exact fun e => h (decide_eq_true e)
        · exact hadj m (by omega) a' b' ha' hb'
    rintro σ H9 ⟨_, _, rfl, s9, hadj⟩
    have hnames : namesOnce t := hnames_iff.mp ((adjT_nodup hzs fun m a b h1 h2 => hadj m (by
      have h3 := (List.getElem?_eq_some_iff.mp h2).1
      have h4 : m + 1 < es.length := by rw [paired_len hes]; exact h3
      rw [List.length_tail]
      omega) a b h1 h2).imp fun {a b} q e => by rw [e] at q; exact plt_irrefl _ q)
    have hnb : ¬ Beyond t := by rw [beyond_of hnum]; exact fun q => q ⟨hroot, hnames⟩
    have s49 := s48.trans s9
    clear hadj tl_at at_p8 s48 s9 s_H8 sH8 s7 sH7
    have other : ∀ word : Str, (word ≠ "twice" ∧ word ≠ "root" ∧ word ≠ "same") → ((word = "twice" ∨ word = "root" ∨ word = "same") ↔ Beyond t) := fun word h => ⟨fun z => by rcases z with z | z | z; exact absurd z h.1; exact absurd z h.2.1; exact absurd z h.2.2, fun z => absurd z hnb⟩
    -- blind
    refine ⟨_, rfl, _, rfl, ⟨_, SqL.of (s49 _ _ hpe)⟩, ?_⟩
    refine for_it (walk_list (xs := es)) (fun j σ H' => ∃ a b c e f, σ = [some (.ref la), some (.ref pn), some (.ref d), some (.ref pe), a, b, c, e, f, none, none, none] ∧ Same H4 H' ∧ ∀ e ∈ zs.take j, e.2.2 ∈ ns) ⟨_, _, _, _, _, rfl, s49, fun e he => by simp at he⟩ (fun j σ H' _ hp => ?_) ?_ ?_
    · obtain ⟨_, _, _, _, _, _, s, _⟩ := hp
      exact SqL.of (s _ _ hpe)
    · rintro j v σ H10 H11 hj ⟨_, _, _, _, _, rfl, s10, hin⟩ ⟨rfl, hv⟩
      obtain ⟨e, he1, te, rfl, hte⟩ := paired_at hes hv
      refine ⟨_, _, rfl, Same.tup s10 hte, rfl, _, _, rfl, _, _, rfl, _, _, rfl, rfl, ?_⟩
      refine ⟨_, rfl, _, rfl, _, _, rfl, .inl (SqL.of (s10 _ _ n4)), rfl, flat_ints ns, _, rfl, ?_⟩
      rw [if_pos rfl, inV_int]
      refine ite2 (fun h => ?_) (fun h => ?_)
      · have h' : e.2.2 ∉ ns := by simpa using h
        refine ⟨_, rfl, _, rfl, zl rfl, fun q hq => k _ _ ((sH4.trans s10).trans (same_new hq)) ⟨.inr ⟨q, _, _, rfl, upd_same .., other _ ⟨by decide, by decide, by decide⟩⟩, fun ho => ?_⟩⟩
        exfalso
        have hen := (hzmem e.1 e.2.1 e.2.2).mp (List.mem_of_getElem? he1)
        refine h' (permN.symm.subset (nums_mem.mpr ?_))
        rcases ho.2.node _ _ _ hen with ⟨es', z⟩ | ⟨kk, c, z⟩
        · exact .inl ⟨es', z⟩
        · exact .inr ⟨kk, c, z⟩
      · have h' : e.2.2 ∈ ns := by simpa using h
        refine ⟨_, _, _, _, _, rfl, s10, fun e' he' => ?_⟩
        rcases (mem_take_succ he1).mp he' with z | z
        · exact hin e' z
        · rw [z]; exact h'
    rintro σ H10 ⟨_, _, _, _, _, rfl, s10, _⟩
    -- goals
    refine ⟨_, rfl, _, rfl, ⟨_, SqL.of (s10 _ _ hpe)⟩, fun D2 hD2 => lc_rel walk_list zs (paired_len hes) (fun e => some e.2.2) (fun _ v z => v = .int z) (fun _ _ _ _ _ q => q) hD2 (fun _ s => SqL.of (s _ _ (s10 _ _ hpe))) ?_ ?_⟩
    · rintro i e v H11 H12 hei pv s11 ⟨rfl, hv⟩
      obtain ⟨e', he1, te, rfl, hte⟩ := paired_at hes hv
      rw [hei] at he1
      obtain rfl := Option.some.inj he1
      refine ⟨rfl, tyes ⟨_, rfl, _, _, _, _, rfl, rfl, Same.tup (s10.trans s11) hte, at2, pv.yes (fun _ _ _ _ _ q => q) hD2 ?_ hei (Same.refl _) rfl rfl⟩⟩
      have h1 := hzp.length_eq
      have h2 := flat_len (F := fo t) (b := 1000) fun x hx => hsm.ents x.1 x.2 hx
      have h3 : (fo t).length * 1000 ≤ 63 * 1000 := Nat.mul_le_mul_right _ hfol
      omega
    intro H11 ys s11 hD11 hys
    obtain rfl := paired_map hys
    rw [filterMap_some] at hD11
    have s411 := s10.trans s11
    clear hys s10 s11 s49
    have hcount : ∀ n, ((zs.map (·.2.2)).count n : Int) = ((ledOf zs n).length : Nat) := fun n => by rw [count_led]
    -- names
    refine ⟨_, rfl, _, _, (fo t).map (·.1), rfl, .inl (s411 _ _ d4), hD4.keys, by rw [List.length_map]; omega, fun ks q12 perm12 pw12 hq12 => ?_⟩
    obtain ⟨H12, hH12⟩ : ∃ z, z = upd H11 q12 (.lst (ks.map V.int)) := ⟨_, rfl⟩
    rw [← hH12]
    have at_q12 : H12 q12 = some (.lst (ks.map V.int)) := by rw [hH12, upd_same]
    have s_H12 : Same H11 H12 := by rw [hH12]; exact same_new hq12
    clear hH12
    have g12 := s_H12 _ _ hD11
    refine ⟨_, rfl, ⟨_, SqL.of at_q12⟩, ?_⟩
    refine for_it (walk_list (xs := ks.map V.int)) (fun j σ H' => ∃ a b c e f, σ = [some (.ref la), some (.ref pn), some (.ref d), some (.ref pe), a, b, c, e, f, some (.ref D2), none, none] ∧ Same H12 H') ⟨_, _, _, _, _, rfl, Same.refl _⟩ (fun j σ H' _ hp => ?_) ?_ ?_
    · obtain ⟨_, _, _, _, _, _, s⟩ := hp
      exact SqL.of (s _ _ at_q12)
    · rintro j v σ H13 H14 hj ⟨_, _, _, _, _, rfl, s13⟩ ⟨rfl, hv⟩
      obtain ⟨n, hn1, rfl⟩ := map_at hv
      have hnk := fk_iff.mpr (perm12.subset (List.mem_of_getElem? hn1))
      have s414 := (s411.trans s_H12).trans s13
      refine ⟨_, rfl, tyL (SqL.of (s13 _ _ g12)), _, rfl, _, zs.map (·.2.2), n, rfl, rfl, SqL.of (s13 _ _ g12), _, rfl, _, _, rfl, rfl, .inr ⟨_, rfl, rfl, _, rfl, ite2 (fun h => ?_) (fun h => ⟨_, _, _, _, _, rfl, s13⟩)⟩⟩
      refine ⟨_, rfl, zl rfl, fun q hq => k _ _ ((sH4.trans s414).trans (same_new hq)) ⟨.inr ⟨q, _, _, rfl, upd_same .., other _ ⟨by decide, by decide, by decide⟩⟩, fun ho => ?_⟩⟩
      exfalso
      have hl := ord_led hnf hnames ho.2 hnk hzp
      have hn0 : 0 ≤ n := (hf.nums n (nums_mem.mpr (.inl hnk))).1
      have h' : (!decide (V.int ((zs.map (·.2.2)).count n : Nat) = V.int (if decide (0 < n) = true then 1 else 0))) = true := h
      rw [hcount, hl] at h'
      by_cases z : n = 0
      · subst z; exact absurd h' (by decide)
      · have z1 : 0 < n := by omega
        rw [if_neg z, if_pos (decide_eq_true z1)] at h'
        exact absurd h' (by decide)
    rintro σ H13 ⟨_, _, _, _, _, rfl, s13⟩
    have s413 := (s411.trans s_H12).trans s13
    have g13 := s13 _ _ g12
    -- loose
    refine ⟨_, rfl, _, rfl, ⟨_, SqL.of (s413 _ _ n4)⟩, ?_⟩
    refine for_it (walk_list (xs := ns.map V.int)) (fun j σ H' => ∃ a b c e f, σ = [some (.ref la), some (.ref pn), some (.ref d), some (.ref pe), a, b, c, e, f, some (.ref D2), none, none] ∧ Same H13 H') ⟨_, _, _, _, _, rfl, Same.refl _⟩ (fun j σ H' _ hp => ?_) ?_ ?_
    · obtain ⟨_, _, _, _, _, _, s⟩ := hp
      exact SqL.of (s _ _ (s413 _ _ n4))
    · rintro j v σ H14 H15 hj ⟨_, _, _, _, _, rfl, s14⟩ ⟨rfl, hv⟩
      obtain ⟨n, hn1, rfl⟩ := map_at hv
      have s415 := s413.trans s14
      refine ⟨_, rfl, _, rfl, _, _, rfl, .inl ⟨_, .inl n, .inl (s415 _ _ d4), rfl, rfl⟩, _, rfl, ?_⟩
      rw [hD4.isSome]
      refine ite2 (fun h => ?_) (fun h => iteF ⟨_, _, _, _, _, rfl, s14⟩)
      have h' : n ∉ (fo t).map (·.1) := by simpa using h
      refine ⟨_, rfl, _, rfl, _, _, rfl, .inl (SqL.of (s14 _ _ g13)), rfl, flat_ints _, _, rfl, ?_⟩
      rw [if_pos rfl, inV_int]
      refine ite2 (fun h2 => ?_) (fun h2 => ⟨_, _, _, _, _, rfl, s14⟩)
      have h2' : n ∉ zs.map (·.2.2) := by simpa using h2
      refine ⟨_, rfl, zl rfl, fun q hq => k _ _ ((sH4.trans s415).trans (same_new hq)) ⟨.inr ⟨q, _, _, rfl, upd_same .., other _ ⟨by decide, by decide, by decide⟩⟩, fun ho => ?_⟩⟩
      exfalso
      rcases nums_mem.mp (permN.subset (List.mem_of_getElem? hn1)) with ⟨es', z⟩ | ⟨kk, c, z⟩
      · exact h' (List.mem_map.mpr ⟨_, z, rfl⟩)
      · obtain ⟨w, a, z2⟩ := ho.2.loose n kk c z
        exact h2' (List.mem_map.mpr ⟨_, (hzmem _ _ _).mpr z2, rfl⟩)
    rintro σ H14 ⟨_, _, _, _, _, rfl, s14⟩
    have s414 := s413.trans s14
    -- ring
    refine ⟨_, rfl, _, t, rfl, ht.same (sH4.trans s414), hsm, fun pb ms H15 s15 hpb hms => ?_⟩
    have s415 := s414.trans s15
    refine ⟨_, _, rfl, .inl (SqL.of hpb), _, rfl, _, _, rfl, s415 _ _ d4, _, _, rfl, rfl, _, rfl, ite2 (fun h => ?_) (fun h => k _ _ (sH4.trans s415) ⟨.inl ⟨rfl, hnb⟩, fun _ => rfl⟩)⟩
    refine ⟨zl rfl, fun q hq => k _ _ ((sH4.trans s415).trans (same_new hq)) ⟨.inr ⟨q, _, _, rfl, upd_same .., other _ ⟨by decide, by decide, by decide⟩⟩, fun ho => ?_⟩⟩
    exfalso
    have h1 := hms (once_of ho.1) ho.2
    have h2 : decide ((((ms.map V.int).length : Nat) : Int) < ((kvs.length : Nat) : Int)) = true := h
    have h3 := of_decide_eq_true h2
    rw [List.length_map, hD4.len] at h3
    omega
end
end K81
set_option maxHeartbeats 4000000
namespace K81
open PySem PySem.Spec PyProof.Rows L2
def spLawBeyond (K : PySem.W.Frag) : Sp := fun vs H Q _ => ∃ (tab : V) (t : List Row), vs = [tab] ∧ TabAt K H tab t ∧ Fine t ∧ Small 63 1000 t ∧ ∀ b H', Same H H' → (b = true ↔ Beyond t) → Q (.bl b) H'
/-! ### data of texts and ints -/
mutual
def gd : PyData → Bool
  | .int _ => true
  | .str _ => true
  | .list xs => decide (xs.length ≤ 1000) && gds xs
  | .tuple xs => decide (xs.length ≤ 1000) && gds xs
  | _ => false
def gds : List PyData → Bool
  | [] => true
  | x :: xs => gd x && gds xs
end
def spSame (K : PySem.W.Frag) (n : Nat) : Sp := fun vs H Q _ => ∃ (x y : V) (d : PyData), vs = [x, y] ∧ Dp K H x d ∧ Dp K H y d ∧ gd d = true ∧ d.depth ≤ n ∧ ∀ H', Same H H' → Q (.bl true) H'
theorem tyx_list {K : PySem.W.Frag} {H : Hp} {a : Addr} {xs : List V} (h : SqL K H a xs) : TyX K H (.ref a) (.type "list") := by
  rcases h with (h | ⟨o, h⟩) | ⟨o, its, n, h, c, _⟩
  · exact .base (.lst h)
  · exact .base (.frz h)
  · exact .kList h c
theorem tyx_tup {K : PySem.W.Frag} {H : Hp} {a : Addr} {xs : List V} (h : SqT K H a xs) : TyX K H (.ref a) (.type "tuple") := by
  rcases h with (h | ⟨o, h⟩) | ⟨o, its, n, h, c, _⟩
  · exact .base (.tup h)
  · exact .fTuple h
  · exact .kTuple h c
theorem walk_zipT' {K : PySem.W.Frag} {a b : Addr} {xs ys : List V} {n : Nat} (hn : n = min xs.length ys.length) : Walk (RZ.ItzT K a b) n (fun H => SqT K H a xs ∧ SqT K H b ys) (YPair (fun i => xs[i]?) (fun i => ys[i]?)) := by
  subst hn
  refine ⟨fun i _ hi q => ?_, fun _ q => ⟨xs, ys, q.1, q.2, by omega⟩, fun i H v H' _ q y => ?_⟩
  · have h1 : i < xs.length := by omega
    have h2 : i < ys.length := by omega
    exact ⟨xs, ys, xs[i], ys[i], q.1, q.2, by simp [h1], by simp [h2]⟩
  · obtain ⟨T, x, z, h1, h2, h3, h4, h5⟩ := y
    exact ⟨T, x, z, h1, h2, h3, h4 xs q.1, h5 ys q.2⟩
theorem dpAll_at {K : PySem.W.Frag} {H : Hp} : ∀ {xs : List V} {ds : List PyData} {i : Nat} {x : V}, DpAll K H xs ds → xs[i]? = some x → ∃ d, ds[i]? = some d ∧ Dp K H x d
  | _, _, _, _, .nil, h => by simp at h
  | _, _, 0, _, .cons q t, h => by simp at h; subst h; exact ⟨_, rfl, q⟩
  | _, _, i + 1, x, .cons q t, h => by
    obtain ⟨d, h1, h2⟩ := dpAll_at (i := i) (x := x) t (by simpa using h)
    exact ⟨d, by simpa using h1, h2⟩
theorem gds_at : ∀ {ds : List PyData} {i : Nat} {d : PyData}, gds ds = true → ds[i]? = some d → gd d = true
  | [], _, _, _, h => by simp at h
  | a :: l, 0, d, g, h => by
    simp at h; subst h
    exact (Bool.and_eq_true_iff.mp (show (gd a && gds l) = true from g)).1
  | a :: l, i + 1, d, g, h => gds_at (ds := l) (i := i) (Bool.and_eq_true_iff.mp (show (gd a && gds l) = true from g)).2 (by simpa using h)
theorem depth_at : ∀ {ds : List PyData} {i : Nat} {d : PyData}, ds[i]? = some d → d.depth ≤ PyData.depthAll ds
  | [], _, _, h => by simp at h
  | a :: l, 0, d, h => by
    simp at h; subst h
    simp only [PyData.depthAll]; omega
  | a :: l, i + 1, d, h => by
    have := depth_at (ds := l) (i := i) (d := d) (by simpa using h)
    simp only [PyData.depthAll]; omega
theorem dpAll_length {K : PySem.W.Frag} {H : Hp} {xs : List V} {ds : List PyData} (h : DpAll K H xs ds) : xs.length = ds.length := dpAll_len h
theorem kitAny_list {K : PySem.W.Frag} : PySem.W.kitAny K (.type "list") [.type "list", .type "tuple"] = some true := kitAny_cons (b := true) (kit_ty (by decide +kernel)) (fun z => by cases z) (fun _ => rfl)
theorem kitAny_tup {K : PySem.W.Frag} : PySem.W.kitAny K (.type "tuple") [.type "list", .type "tuple"] = some true := kitAny_cons (b := false) (kit_ty (by decide +kernel)) (fun _ => kitAny_cons (b := true) (kit_ty (by decide +kernel)) (fun z => by cases z) (fun _ => rfl)) (fun z => by cases z)
theorem kitAny_str {K : PySem.W.Frag} : PySem.W.kitAny K (.type "str") [.type "list", .type "tuple"] = some false := kitAny_cons (b := false) (kit_ty (by decide +kernel)) (fun _ => kitAny_cons (b := false) (kit_ty (by decide +kernel)) (fun _ => kitAny_nil) (fun z => by cases z)) (fun z => by cases z)
theorem kitAny_int {K : PySem.W.Frag} : PySem.W.kitAny K (.type "int") [.type "list", .type "tuple"] = some false := kitAny_cons (b := false) (kit_ty (by decide +kernel)) (fun _ => kitAny_cons (b := false) (kit_ty (by decide +kernel)) (fun _ => kitAny_nil) (fun z => by cases z)) (fun z => by cases z)
theorem inV_three (word : Str) : inV (.str word) [V.str "twice", V.str "root", V.str "same"] = decide (word = "twice" ∨ word = "root" ∨ word = "same") := inV_beyond word
section
variable {P : Program} {w : World} {K : PySem.W.Frag} {mg : Str → Option Value} {base : Heap}
abbrev N_l_beyond : List Str := ["_law_table", "_law_due"]
theorem sc_l_beyond : FnScope N_l_beyond ["_law_table"] (defScope s_l_beyond) := ⟨rfl, rfl, rfl, by decide +kernel, rfl, by decide +kernel, by decide +kernel⟩
theorem ok_l_beyond (T : Tx K mg base) : OkD P w K mg base d_l_beyond.at_ 4 ["_law_table"] (spLawBeyond K) := by
  have G_l_first := ok_l_first (P := P) (w := w) T
  refine okD_of T.F_l_beyond sc_l_beyond (fun _ _ _ _ _ _ us hl => match us, hl with | [_], _ => rfl) (fun vs H Q E h => ?_) (fun cdv A outer s H vs Q E hr h => ?_)
  · obtain ⟨tab, t, rfl, _⟩ := h
    rfl
  · obtain ⟨tab, t, rfl, ht, hf, hsm, k⟩ := h
    have hu := hu_of hr
    refine ⟨_, (pss_cons (ps_set (i := 1) sc_l_beyond.nd rfl (by first | exact Or.inl rfl | exact Or.inr rfl) (pe_callO G_l_first hr (by decide) T.g_law_first (pa_cons (pv 0) pa_nil)))
      (pss_one (ps_ret (pe_and (pe_cmp (pc_notN (pv 1)) rfl) (pe_one (pe_cmpR op_in_seq (pe_ix (ix_tupK K) (pv 1) pe_int (fun _ _ => rfl)) (pe_tup (pa_cons pe_str (pa_cons pe_str (pa_cons pe_str pa_nil)))) rfl)))))), ?_⟩
    refine ⟨_, rfl, tab, t, rfl, ht, hf, hsm, fun v H1 s1 hv => ?_⟩
    rcases hv.1 with ⟨ev, hnb⟩ | ⟨p, word, rest, ev, hp, hw⟩
    · exact ⟨_, rfl, _, rfl, ite2 (fun z => absurd z (by simp [ev])) (fun _ => k _ _ s1 ⟨fun z => (nomatch z), fun z => absurd z hnb⟩)⟩
    · refine ⟨_, rfl, _, rfl, ite2 (fun _ => ?_) (fun z => absurd (by simp [ev]) z)⟩
      refine ⟨_, rfl, _, _, _, _, ev, rfl, SqT.of hp, at0, zl rfl, fun q hq => ?_⟩
      refine ⟨_, _, rfl, .inr (SqT.of (upd_same ..)), rfl, rfl, ?_⟩
      rw [if_neg (by decide), inV_three]
      refine k _ _ (s1.trans (same_new hq)) ?_
      rw [decide_eq_true_eq]
      exact hw
abbrev N_l_same : List Str := ["_law_found", "_law_due", "_law_one", "_law_other"]
theorem sc_l_same : FnScope N_l_same ["_law_found", "_law_due"] (defScope s_l_same) := ⟨rfl, rfl, rfl, by decide +kernel, rfl, by decide +kernel, by decide +kernel⟩
theorem same_base (T : Tx K mg base) : OkD P w K mg base d_l_same.at_ 1 ["_law_found", "_law_due"] (fun _ _ _ _ => False) := by
  refine okD_of T.F_l_same sc_l_same (fun _ _ _ _ _ _ us hl => match us, hl with | [_, _], _ => rfl) (fun vs H Q E h => h.elim) (fun cdv A outer s H vs Q E hr h => h.elim)
theorem same_step (T : Tx K mg base) {n k : Nat} {sp : Sp} (G_l_same : OkD P w K mg base d_l_same.at_ k ["_law_found", "_law_due"] sp) (hsp : ∀ m, n = m + 1 → ∀ vs H Q E, spSame K m vs H Q E → sp vs H Q E) : OkD P w K mg base d_l_same.at_ (k + 1) ["_law_found", "_law_due"] (spSame K n) := by
  refine okD_of T.F_l_same sc_l_same (fun _ _ _ _ _ _ us hl => match us, hl with | [_, _], _ => rfl) (fun vs H Q E h => ?_) (fun cdv A outer s H vs Q E hr h => ?_)
  · obtain ⟨x, y, d, rfl, _⟩ := h
    rfl
  · obtain ⟨x, y, d, rfl, hx, hy, hg, hd, kk⟩ := h
    have hu := hu_of hr
    refine ⟨_, (pss_cons (ps_if (PW.pt (pw_or (pt_cmp (pc_isN (pv 1))) (pw_or1 (pt_cmp (pc_isN (pv 0)))))) (pss_one (ps_ret (pe_and (pe_cmp (pc_isN (pv 1)) rfl) (pe_one (pe_cmp (pc_isN (pv 0)) rfl))))) pss_nil)
      (pss_cons (ps_if (pt_val (pe_callB call_isiT (by rfl) T.z_isinstance (show bootBuiltins "isinstance" = some (.builtin "isinstance") by decide +kernel) (pa_cons (pv 1) (pa_cons (pe_tup (pa_cons (pe_ty (n := "list") T.z_list (by decide +kernel)) (pa_cons (pe_ty (n := "tuple") T.z_tuple (by decide +kernel)) pa_nil))) pa_nil)))) (pss_cons (ps_if (PW.pt (pw_or (pt_cmpR op_ne (pe_callB call_isi (by rfl) T.z_isinstance (show bootBuiltins "isinstance" = some (.builtin "isinstance") by decide +kernel) (pa_cons (pv 0) (pa_cons (pe_ty (n := "list") T.z_list (by decide +kernel)) pa_nil))) (pe_callB call_isi (by rfl) T.z_isinstance (show bootBuiltins "isinstance" = some (.builtin "isinstance") by decide +kernel) (pa_cons (pv 1) (pa_cons (pe_ty (n := "list") T.z_list (by decide +kernel)) pa_nil))) (nomark _)) (pw_or1 (pt_cmpR op_ne (pe_callB call_isi (by rfl) T.z_isinstance (show bootBuiltins "isinstance" = some (.builtin "isinstance") by decide +kernel) (pa_cons (pv 0) (pa_cons (pe_ty (n := "tuple") T.z_tuple (by decide +kernel)) pa_nil))) (pe_callB call_isi (by rfl) T.z_isinstance (show bootBuiltins "isinstance" = some (.builtin "isinstance") by decide +kernel) (pa_cons (pv 1) (pa_cons (pe_ty (n := "tuple") T.z_tuple (by decide +kernel)) pa_nil))) (nomark _))))) (pss_one (ps_ret pe_bl)) pss_nil)
      (pss_one (ps_ret (pe_and (pe_cmpR op_eq (pe_callB call_len_seq (by rfl) T.z_len (show bootBuiltins "len" = some (.builtin "len") by decide +kernel) (pa_cons (pv 0) pa_nil)) (pe_callB call_len_seq (by rfl) T.z_len (show bootBuiltins "len" = some (.builtin "len") by decide +kernel) (pa_cons (pv 1) pa_nil)) (nomark _)) (pe_one (pe_callB (cr_all rfl) (by rfl) T.z_all (show bootBuiltins "all" = some (.builtin "all") by decide +kernel) (pa_cons (pe_lc (own := [("_law_one", 2), ("_law_other", 3)]) rfl sc_l_same.nd (RZ.pi_zipA (by rfl) T.z_zip (pa_cons (pv 0) (pa_cons (pv 1) pa_nil))) (blkOk_by (N := N_l_same) (sc := defScope s_l_same) (by decide +kernel)) (fun _ _ _ _ _ => (pg_tupK K (n := 2) rfl (pgs_cons (pg_name (i := 2) sc_l_same.nd rfl (Or.inl rfl)) (pgs_cons (pg_name (i := 3) sc_l_same.nd rfl (Or.inl rfl)) pgs_nil)))) (fun _ _ _ _ _ => pts_nil) (fun _ _ _ _ _ => (pe_callO G_l_same hr (Nat.le_refl _) T.g_law_same (pa_cons (pv 2) (pa_cons (pv 3) pa_nil))))) pa_nil))))))) pss_nil)
      (pss_cons (ps_if (pt_val (pe_callB call_isi (by rfl) T.z_isinstance (show bootBuiltins "isinstance" = some (.builtin "isinstance") by decide +kernel) (pa_cons (pv 1) (pa_cons (pe_ty (n := "str") T.z_str (by decide +kernel)) pa_nil)))) (pss_one (ps_ret (pe_and (pe_callB call_isi (by rfl) T.z_isinstance (show bootBuiltins "isinstance" = some (.builtin "isinstance") by decide +kernel) (pa_cons (pv 0) (pa_cons (pe_ty (n := "str") T.z_str (by decide +kernel)) pa_nil))) (pe_one (pe_cmpR op_eq (pv 0) (pv 1) (nomark _)))))) pss_nil)
      (pss_one (ps_ret (pe_and (pe_callB call_isi (by rfl) T.z_isinstance (show bootBuiltins "isinstance" = some (.builtin "isinstance") by decide +kernel) (pa_cons (pv 0) (pa_cons (pe_ty (n := "int") T.z_int (by decide +kernel)) pa_nil))) (pe_and (pe_not (pe_callB call_isi (by rfl) T.z_isinstance (show bootBuiltins "isinstance" = some (.builtin "isinstance") by decide +kernel) (pa_cons (pv 0) (pa_cons (pe_ty (n := "bool") T.z_bool (by decide +kernel)) pa_nil)))) (pe_one (pe_cmpR op_eq (pv 0) (pv 1) (nomark _)))))))))), ?_⟩
    cases d with
    | list ds =>
      cases hx with
      | lst hx hxs =>
      cases hy with
      | lst hy hys =>
      rename_i a xs b ys
      refine ⟨_, rfl, _, rfl, ite2 (fun z => absurd z (by simp)) (fun _ => ?_)⟩
      refine ⟨_, rfl, _, rfl, ite2 (fun z => absurd z (by simp)) (fun _ => ?_)⟩
      refine ⟨_, rfl, zl rfl, fun p1 hp1 => ?_⟩
      obtain ⟨H1, hH1⟩ : ∃ z, z = upd H p1 (.tup [.ty "list", .ty "tuple"]) := ⟨_, rfl⟩
      rw [← hH1]
      have at_p1 : H1 p1 = some (.tup [.ty "list", .ty "tuple"]) := by rw [hH1, upd_same]
      have s_H1 : Same H H1 := by rw [hH1]; exact same_new hp1
      clear hH1
      have hx1 := Same.seq s_H1 hx
      have hy1 := Same.seq s_H1 hy
      refine ⟨_, _, _, _, _, true, rfl, at_p1, .cons (.ty _) (.cons (.ty _) .nil), tyx_list hy1, kitAny_list, _, rfl, ite2 (fun _ => ?_) (fun z => absurd rfl z)⟩
      refine ⟨_, rfl, _, _, _, _, true, rfl, .ty _, tyx_list hx1, kit_ty (by decide +kernel), _, rfl, _, _, _, _, true, rfl, .ty _, tyx_list hy1, kit_ty (by decide +kernel), rfl, _, rfl, ite2 (fun z => absurd z (by decide)) (fun _ => ?_)⟩
      refine ⟨_, rfl, _, _, _, _, false, rfl, .ty _, tyx_list hx1, kit_ty (by decide +kernel), _, rfl, _, _, _, _, false, rfl, .ty _, tyx_list hy1, kit_ty (by decide +kernel), rfl, _, rfl, ite2 (fun z => absurd z (by decide)) (fun _ => ?_)⟩
      have hlx := dpAll_length hxs
      have hly := dpAll_length hys
      refine ⟨_, rfl, _, _, rfl, .inl hx1, _, rfl, _, _, rfl, .inl hy1, rfl, _, rfl, ite2 (fun _ => ?_) (fun z => absurd (by rw [hlx, hly]; simp) z)⟩
      refine ⟨_, rfl, _, rfl, _, _, _, _, rfl, .inl ⟨hx1, hy1, fun D hD => ?_⟩⟩
      have hg' : (decide (ds.length ≤ 1000) && gds ds) = true := hg
      obtain ⟨hg1, hg2⟩ := Bool.and_eq_true_iff.mp hg'
      have hdl := of_decide_eq_true hg1
      obtain ⟨m, rfl⟩ : ∃ m, n = m + 1 := by
        simp only [PyData.depth] at hd
        exact ⟨n - 1, by omega⟩
      simp only [PyData.depth] at hd
      refine lc_rel (walk_zip (xs := xs) (ys := ys) rfl) ds (by rw [hlx, hly]; omega) (fun _ => some true) (fun _ v z => v = .bl z) (fun _ _ _ _ _ q => q) hD (fun _ s => ⟨Same.seq s hx1, Same.seq s hy1⟩) ?_ ?_
      · rintro i dd v H2 H3 hi pv s2 ⟨T', a1, b1, rfl, hT', rfl, ha, hb⟩
        obtain ⟨d1, e1, hd1⟩ := dpAll_at hxs ha
        obtain ⟨d2, e2, hd2⟩ := dpAll_at hys hb
        rw [hi] at e1 e2
        obtain rfl := Option.some.inj e1
        obtain rfl := Option.some.inj e2
        have s3 : Same H (upd H2 T' (.tup [a1, b1])) := (s_H1.trans s2).trans (same_new hT')
        refine ⟨_, _, rfl, SqT.of (upd_same ..), rfl, _, _, rfl, _, _, rfl, rfl, rfl, tyes ⟨_, rfl, _, rfl, hsp m rfl _ _ _ _ ⟨a1, b1, dd, rfl, Same.dp s3 hd1, Same.dp s3 hd2, gds_at hg2 hi, Nat.le_trans (depth_at hi) (by omega), fun H4 s4 => ?_⟩⟩⟩
        exact pv.yes (fun _ _ _ _ _ q => q) hD (by omega) hi ((same_new hT').trans s4) rfl rfl
      · intro H2 zs s2 hD2 hzs
        obtain rfl := paired_map hzs
        rw [filterMap_some] at hD2
        refine ⟨_, _, rfl, SqL.of hD2, ?_⟩
        rw [show ((ds.map fun _ => true).all id) = true from by simp]
        exact kk H2 (s_H1.trans s2)
    | tuple ds =>
      cases hx with
      | tup hx hxs =>
      cases hy with
      | tup hy hys =>
      rename_i a xs b ys
      refine ⟨_, rfl, _, rfl, ite2 (fun z => absurd z (by simp)) (fun _ => ?_)⟩
      refine ⟨_, rfl, _, rfl, ite2 (fun z => absurd z (by simp)) (fun _ => ?_)⟩
      refine ⟨_, rfl, zl rfl, fun p1 hp1 => ?_⟩
      obtain ⟨H1, hH1⟩ : ∃ z, z = upd H p1 (.tup [.ty "list", .ty "tuple"]) := ⟨_, rfl⟩
      rw [← hH1]
      have at_p1 : H1 p1 = some (.tup [.ty "list", .ty "tuple"]) := by rw [hH1, upd_same]
      have s_H1 : Same H H1 := by rw [hH1]; exact same_new hp1
      clear hH1
      have hx1 := Same.tup s_H1 hx
      have hy1 := Same.tup s_H1 hy
      refine ⟨_, _, _, _, _, true, rfl, at_p1, .cons (.ty _) (.cons (.ty _) .nil), tyx_tup hy1, kitAny_tup, _, rfl, ite2 (fun _ => ?_) (fun z => absurd rfl z)⟩
      refine ⟨_, rfl, _, _, _, _, false, rfl, .ty _, tyx_tup hx1, kit_ty (by decide +kernel), _, rfl, _, _, _, _, false, rfl, .ty _, tyx_tup hy1, kit_ty (by decide +kernel), rfl, _, rfl, ite2 (fun z => absurd z (by decide)) (fun _ => ?_)⟩
      refine ⟨_, rfl, _, _, _, _, true, rfl, .ty _, tyx_tup hx1, kit_ty (by decide +kernel), _, rfl, _, _, _, _, true, rfl, .ty _, tyx_tup hy1, kit_ty (by decide +kernel), rfl, _, rfl, ite2 (fun z => absurd z (by decide)) (fun _ => ?_)⟩
      have hlx := dpAll_length hxs
      have hly := dpAll_length hys
      refine ⟨_, rfl, _, _, rfl, .inr hx1, _, rfl, _, _, rfl, .inr hy1, rfl, _, rfl, ite2 (fun _ => ?_) (fun z => absurd (by rw [hlx, hly]; simp) z)⟩
      refine ⟨_, rfl, _, rfl, _, _, _, _, rfl, .inr ⟨hx1, hy1, fun D hD => ?_⟩⟩
      have hg' : (decide (ds.length ≤ 1000) && gds ds) = true := hg
      obtain ⟨hg1, hg2⟩ := Bool.and_eq_true_iff.mp hg'
      have hdl := of_decide_eq_true hg1
      obtain ⟨m, rfl⟩ : ∃ m, n = m + 1 := by
        simp only [PyData.depth] at hd
        exact ⟨n - 1, by omega⟩
      simp only [PyData.depth] at hd
      refine lc_rel (walk_zipT' (xs := xs) (ys := ys) rfl) ds (by rw [hlx, hly]; omega) (fun _ => some true) (fun _ v z => v = .bl z) (fun _ _ _ _ _ q => q) hD (fun _ s => ⟨Same.tup s hx1, Same.tup s hy1⟩) ?_ ?_
      · rintro i dd v H2 H3 hi pv s2 ⟨T', a1, b1, rfl, hT', rfl, ha, hb⟩
        obtain ⟨d1, e1, hd1⟩ := dpAll_at hxs ha
        obtain ⟨d2, e2, hd2⟩ := dpAll_at hys hb
        rw [hi] at e1 e2
        obtain rfl := Option.some.inj e1
        obtain rfl := Option.some.inj e2
        have s3 : Same H (upd H2 T' (.tup [a1, b1])) := (s_H1.trans s2).trans (same_new hT')
        refine ⟨_, _, rfl, SqT.of (upd_same ..), rfl, _, _, rfl, _, _, rfl, rfl, rfl, tyes ⟨_, rfl, _, rfl, hsp m rfl _ _ _ _ ⟨a1, b1, dd, rfl, Same.dp s3 hd1, Same.dp s3 hd2, gds_at hg2 hi, Nat.le_trans (depth_at hi) (by omega), fun H4 s4 => ?_⟩⟩⟩
        exact pv.yes (fun _ _ _ _ _ q => q) hD (by omega) hi ((same_new hT').trans s4) rfl rfl
      · intro H2 zs s2 hD2 hzs
        obtain rfl := paired_map hzs
        rw [filterMap_some] at hD2
        refine ⟨_, _, rfl, SqL.of hD2, ?_⟩
        rw [show ((ds.map fun _ => true).all id) = true from by simp]
        exact kk H2 (s_H1.trans s2)
    | str z =>
      cases hx
      cases hy
      refine ⟨_, rfl, _, rfl, ite2 (fun z => absurd z (by simp)) (fun _ => ?_)⟩
      refine ⟨_, rfl, _, rfl, ite2 (fun z => absurd z (by simp)) (fun _ => ?_)⟩
      refine ⟨_, rfl, zl rfl, fun p1 hp1 => ?_⟩
      obtain ⟨H1, hH1⟩ : ∃ z, z = upd H p1 (.tup [.ty "list", .ty "tuple"]) := ⟨_, rfl⟩
      rw [← hH1]
      have at_p1 : H1 p1 = some (.tup [.ty "list", .ty "tuple"]) := by rw [hH1, upd_same]
      have s_H1 : Same H H1 := by rw [hH1]; exact same_new hp1
      clear hH1
      refine ⟨_, _, _, _, _, false, rfl, at_p1, .cons (.ty _) (.cons (.ty _) .nil), .base (.str z), kitAny_str, _, rfl, ite2 (fun z => absurd z (by decide)) (fun _ => ?_)⟩
      refine ⟨_, rfl, _, _, _, _, true, rfl, .ty _, .base (.str z), kit_ty (by decide +kernel), _, rfl, ite2 (fun _ => ?_) (fun z => absurd rfl z)⟩
      refine ⟨_, rfl, _, _, _, _, true, rfl, .ty _, .base (.str z), kit_ty (by decide +kernel), _, rfl, ite2 (fun _ => ?_) (fun z => absurd rfl z)⟩
      refine ⟨_, rfl, _, rfl, rfl, ?_⟩
      rw [decide_eq_true rfl]
      exact kk H1 s_H1
    | int z =>
      cases hx
      cases hy
      refine ⟨_, rfl, _, rfl, ite2 (fun z => absurd z (by simp)) (fun _ => ?_)⟩
      refine ⟨_, rfl, _, rfl, ite2 (fun z => absurd z (by simp)) (fun _ => ?_)⟩
      refine ⟨_, rfl, zl rfl, fun p1 hp1 => ?_⟩
      obtain ⟨H1, hH1⟩ : ∃ z, z = upd H p1 (.tup [.ty "list", .ty "tuple"]) := ⟨_, rfl⟩
      rw [← hH1]
      have at_p1 : H1 p1 = some (.tup [.ty "list", .ty "tuple"]) := by rw [hH1, upd_same]
      have s_H1 : Same H H1 := by rw [hH1]; exact same_new hp1
      clear hH1
      refine ⟨_, _, _, _, _, false, rfl, at_p1, .cons (.ty _) (.cons (.ty _) .nil), .base (.int z), kitAny_int, _, rfl, ite2 (fun z => absurd z (by decide)) (fun _ => ?_)⟩
      refine ⟨_, rfl, _, _, _, _, false, rfl, .ty _, .base (.int z), kit_ty (by decide +kernel), _, rfl, ite2 (fun z => absurd z (by decide)) (fun _ => ?_)⟩
      refine ⟨_, rfl, _, _, _, _, true, rfl, .ty _, .base (.int z), kit_ty (by decide +kernel), _, rfl, ite2 (fun _ => ?_) (fun z => absurd rfl z)⟩
      refine ⟨_, rfl, _, _, _, _, false, rfl, .ty _, .base (.int z), kit_ty (by decide +kernel), _, rfl, _, rfl, ite2 (fun _ => ?_) (fun z => absurd rfl z)⟩
      refine ⟨_, rfl, _, rfl, rfl, ?_⟩
      rw [decide_eq_true rfl]
      exact kk H1 s_H1
    | none => cases hg
    | bool b => cases hg
    | dict b => cases hg
/-- data of depth 4 at most: lists of rows -/
theorem ok_l_same (T : Tx K mg base) : OkD P w K mg base d_l_same.at_ 6 ["_law_found", "_law_due"] (spSame K 4) := by
  have g0 := same_step (P := P) (w := w) T (n := 0) (same_base T) (fun m e => by cases e)
  have g1 := same_step T (n := 1) g0 (fun m e vs H Q E h => by cases (show m = 0 by omega); exact h)
  have g2 := same_step T (n := 2) g1 (fun m e vs H Q E h => by cases (show m = 1 by omega); exact h)
  have g3 := same_step T (n := 3) g2 (fun m e vs H Q E h => by cases (show m = 2 by omega); exact h)
  exact same_step T (n := 4) g3 (fun m e vs H Q E h => by cases (show m = 3 by omega); exact h)
end
end K81
set_option maxHeartbeats 4000000
namespace K81
open PySem PySem.Spec PyProof.Rows L2
def spDeed : Sp := fun vs H Q _ => ∃ (q nq : Addr) (ns : List Int), vs = [.ref q, .ref nq] ∧ LeftAt H q ∧ H nq = some (.lst (ns.map V.int)) ∧ nq ≠ q ∧ ns.length ≤ 1000 ∧
  ∀ p dd H', LeftAt H' q → Keep q H H' → p ≠ q → H' p = some (.tup (deedL dd)) → deedOk dd → Q (.ref p) H'
def namesD : List Str := ["a", "b", "clash", "c2", "new", ""]
theorem nameD {i : Int} (h0 : 0 ≤ i) (h1 : i < 6) : ∃ z : Str, atI (namesD.map V.str) i = some (.str z) ∧ z.length ≤ 1000 := by
  obtain ⟨i, rfl⟩ := Int.eq_ofNat_of_zero_le h0
  have hl : i < namesD.length := by show i < 6; omega
  refine ⟨namesD[i], atI_at (by rw [List.getElem?_map, List.getElem?_eq_getElem hl]; rfl), ?_⟩
  have : ∀ z ∈ namesD, z.length ≤ 1000 := by decide +kernel
  exact this _ (List.getElem_mem hl)
theorem atI_ints {l : List Int} {i : Int} (h0 : 0 ≤ i) (h1 : i < l.length) : ∃ n, atI (l.map V.int) i = some (.int n) ∧ n ∈ l := by
  obtain ⟨i, rfl⟩ := Int.eq_ofNat_of_zero_le h0
  have hl : i < l.length := by omega
  exact ⟨l[i], atI_at (by rw [List.getElem?_map, List.getElem?_eq_getElem hl]; rfl), List.getElem_mem hl⟩
section
variable {P : Program} {w : World} {K : PySem.W.Frag} {mg : Str → Option Value} {base : Heap}
abbrev N_l_deed : List Str := ["_law_left_here", "_law_numbers", "_law_some", "_law_one", "_law_other", "_law_names", "_law_name", "_law_goal", "_law_way"]
theorem sc_l_deed : FnScope N_l_deed ["_law_left_here", "_law_numbers"] (defScope s_l_deed) := ⟨rfl, rfl, rfl, by decide +kernel, rfl, by decide +kernel, by decide +kernel⟩
theorem ok_l_deed (T : Tx K mg base) : OkD P w K mg base d_l_deed.at_ 2 ["_law_left_here", "_law_numbers"] spDeed := by
  have G_l_pick := ok_l_pick (P := P) (w := w) T
  refine okD_of T.F_l_deed sc_l_deed (fun _ _ _ _ _ _ us hl => match us, hl with | [_, _], _ => rfl) (fun vs H Q E h => ?_) (fun cdv A outer s H vs Q E hr h => ?_)
  · obtain ⟨q, nq, ns, rfl, _⟩ := h
    rfl
  · obtain ⟨q, nq, ns, rfl, hq, hn, hnq, hnl, k⟩ := h
    have hu := hu_of hr
    refine ⟨_, (pss_cons (ps_set (i := 2) sc_l_deed.nd rfl (by first | exact Or.inl rfl | exact Or.inr rfl) (pe_op op_cat (pv 1) (pe_lst (pa_cons pe_int (pa_cons pe_int (pa_cons pe_int (pa_cons pe_int pa_nil)))))))
      (pss_cons (ps_par (i := 3) (j := 4) rfl sc_l_deed.nd rfl rfl (by decide) rfl rfl (pa_cons (pe_ix (ix_listK K) (pv 2) (pe_callO G_l_pick hr (by decide) T.g_law_pick (pa_cons (pv 0) (pa_cons (pe_callB call_len_seq (by rfl) T.z_len (show bootBuiltins "len" = some (.builtin "len") by decide +kernel) (pa_cons (pv 2) pa_nil)) pa_nil))) (fun _ _ => rfl)) (pa_cons (pe_ix (ix_listK K) (pv 2) (pe_callO G_l_pick hr (by decide) T.g_law_pick (pa_cons (pv 0) (pa_cons (pe_callB call_len_seq (by rfl) T.z_len (show bootBuiltins "len" = some (.builtin "len") by decide +kernel) (pa_cons (pv 2) pa_nil)) pa_nil))) (fun _ _ => rfl)) pa_nil)) (by rfl))
      (pss_cons (ps_set (i := 5) sc_l_deed.nd rfl (by first | exact Or.inl rfl | exact Or.inr rfl) (pe_lst (pa_cons pe_str (pa_cons pe_str (pa_cons pe_str (pa_cons pe_str (pa_cons pe_str (pa_cons pe_str pa_nil))))))))
      (pss_cons (ps_par (i := 6) (j := 7) rfl sc_l_deed.nd rfl rfl (by decide) rfl rfl (pa_cons (pe_ix (ix_listK K) (pv 5) (pe_callO G_l_pick hr (by decide) T.g_law_pick (pa_cons (pv 0) (pa_cons pe_int pa_nil))) (fun _ _ => rfl)) (pa_cons (pe_ix (ix_listK K) (pv 5) (pe_callO G_l_pick hr (by decide) T.g_law_pick (pa_cons (pv 0) (pa_cons pe_int pa_nil))) (fun _ _ => rfl)) pa_nil)) (by rfl))
      (pss_cons (ps_set (i := 8) sc_l_deed.nd rfl (by first | exact Or.inl rfl | exact Or.inr rfl) (pe_callO G_l_pick hr (by decide) T.g_law_pick (pa_cons (pv 0) (pa_cons pe_int pa_nil))))
      (pss_cons (ps_if (pt_cmpR op_eq (pv 8) pe_int (nomark _)) (pss_one (ps_ret (pe_tup (pa_cons pe_str (pa_cons (pv 3) (pa_cons (pv 6) (pa_cons pe_str pa_nil))))))) pss_nil)
      (pss_cons (ps_if (pt_cmpR op_eq (pv 8) pe_int (nomark _)) (pss_one (ps_ret (pe_tup (pa_cons pe_str (pa_cons (pv 3) (pa_cons (pv 6) pa_nil)))))) pss_nil)
      (pss_cons (ps_if (pt_cmpR op_eq (pv 8) pe_int (nomark _)) (pss_one (ps_ret (pe_tup (pa_cons pe_str (pa_cons (pv 3) (pa_cons (pv 6) (pa_cons (pv 4) pa_nil))))))) pss_nil)
      (pss_cons (ps_if (pt_cmpR op_eq (pv 8) pe_int (nomark _)) (pss_one (ps_ret (pe_tup (pa_cons pe_str (pa_cons (pv 3) (pa_cons (pv 6) pa_nil)))))) pss_nil)
      (pss_cons (ps_if (pt_cmpR op_eq (pv 8) pe_int (nomark _)) (pss_one (ps_ret (pe_tup (pa_cons pe_str (pa_cons (pv 3) (pa_cons (pv 6) (pa_cons (pv 4) (pa_cons (pv 7) pa_nil)))))))) pss_nil)
      (pss_one (ps_ret (pe_tup (pa_cons pe_str (pa_cons (pv 3) (pa_cons (pe_callO G_l_pick hr (by decide) T.g_law_pick (pa_cons (pv 0) (pa_cons pe_int pa_nil))) (pa_cons pe_str pa_nil))))))))))))))))), ?_⟩
    obtain ⟨l0, hq, hl0⟩ := hq
    refine ⟨_, rfl, zl rfl, fun p1 hp1 => ?_⟩
    obtain ⟨H1, hH1⟩ : ∃ z, z = upd H p1 (.lst [.int 0, .int 1, .int 1, .int 99]) := ⟨_, rfl⟩
    rw [← hH1]
    have at_p1 : H1 p1 = some (.lst [.int 0, .int 1, .int 1, .int 99]) := by rw [hH1, upd_same]
    have s_H1 : Same H H1 := by rw [hH1]; exact same_new hp1
    clear hH1
    refine ⟨_, _, _, _, rfl, rfl, s_H1 _ _ hn, at_p1, sl' (by rw [List.length_map]; show ns.length + 4 ≤ _; omega), fun sq hsq => ?_⟩
    rw [show ns.map V.int ++ [V.int 0, .int 1, .int 1, .int 99] = (ns ++ [0, 1, 1, 99]).map V.int from by simp]
    obtain ⟨ls, hls⟩ : ∃ z, z = ns ++ [0, 1, 1, 99] := ⟨_, rfl⟩
    rw [← hls]
    have hlsl : ls.length = ns.length + 4 := by rw [hls]; simp
    clear hls
    obtain ⟨H2, hH2⟩ : ∃ z, z = upd H1 sq (.lst (ls.map V.int)) := ⟨_, rfl⟩
    rw [← hH2]
    have at_sq : H2 sq = some (.lst (ls.map V.int)) := by rw [hH2, upd_same]
    have s_H2 : Same H1 H2 := by rw [hH2]; exact same_new hsq
    clear hH2
    have s2 := s_H1.trans s_H2
    have q2 := s2 _ _ hq
    have hsqq : sq ≠ q := ne_of_none' hsq (s_H1 _ _ hq)
    -- one, other
    refine ⟨_, rfl, _, rfl, _, rfl, _, _, rfl, .inl (SqL.of at_sq), q, l0, _, rfl, q2, hl0, by rw [List.length_map]; omega, by rw [List.length_map]; omega, fun i1 l1 hi0 hi1 hl1 => ?_⟩
    rw [List.length_map] at hi1
    obtain ⟨n1, hn1, _⟩ := atI_ints hi0 hi1
    have sq3 : (upd H2 q (.lst (l1.map V.int))) sq = some (.lst (ls.map V.int)) := upd_at_ne at_sq hsqq
    refine ⟨_, _, _, _, rfl, rfl, SqL.of sq3, hn1, ?_⟩
    refine ⟨_, rfl, _, rfl, _, rfl, _, _, rfl, .inl (SqL.of sq3), q, l1, _, rfl, upd_same .., hl1, by rw [List.length_map]; omega, by rw [List.length_map]; omega, fun i2 l2 hj0 hj1 hl2 => ?_⟩
    rw [List.length_map] at hj1
    rw [L2.upd_upd]
    obtain ⟨n2, hn2, _⟩ := atI_ints hj0 hj1
    have sq4 : (upd H2 q (.lst (l2.map V.int))) sq = some (.lst (ls.map V.int)) := upd_at_ne at_sq hsqq
    refine ⟨_, _, _, _, rfl, rfl, SqL.of sq4, hn2, _, _, rfl, ?_⟩
    -- names
    obtain ⟨H4, hH4⟩ : ∃ z, z = upd H2 q (.lst (l2.map V.int)) := ⟨_, rfl⟩
    rw [← hH4]
    have q4 : H4 q = some (.lst (l2.map V.int)) := by rw [hH4, upd_same]
    have k4 : Keep q H H4 := by rw [hH4]; exact (Keep.of s2).trans (Keep.upd q H2 _)
    clear hH4 sq3 sq4
    refine ⟨zl rfl, fun p5 hp5 => ?_⟩
    obtain ⟨H5, hH5⟩ : ∃ z, z = upd H4 p5 (.lst [.str "a", .str "b", .str "clash", .str "c2", .str "new", .str ""]) := ⟨_, rfl⟩
    rw [← hH5]
    have at_p5 : H5 p5 = some (.lst [.str "a", .str "b", .str "clash", .str "c2", .str "new", .str ""]) := by rw [hH5, upd_same]
    have s_H5 : Same H4 H5 := by rw [hH5]; exact same_new hp5
    clear hH5
    have hp5q : p5 ≠ q := ne_of_none' hp5 q4
    have at5 : H5 p5 = some (.lst (namesD.map V.str)) := at_p5
    have q5 := s_H5 _ _ q4
    have k5 := k4.same s_H5
    refine ⟨_, rfl, _, rfl, q, l2, 6, rfl, q5, hl2, by decide, by decide, fun i3 l3 h30 h31 hl3 => ?_⟩
    obtain ⟨a1, ha1, hal1⟩ := nameD h30 h31
    refine ⟨_, _, _, _, rfl, rfl, SqL.of (upd_at_ne at5 hp5q), ha1, ?_⟩
    refine ⟨_, rfl, _, rfl, q, l3, 6, rfl, upd_same .., hl3, by decide, by decide, fun i4 l4 h40 h41 hl4 => ?_⟩
    rw [L2.upd_upd]
    obtain ⟨a2, ha2, hal2⟩ := nameD h40 h41
    refine ⟨_, _, _, _, rfl, rfl, SqL.of (upd_at_ne at5 hp5q), ha2, _, _, rfl, ?_⟩
    -- way
    refine ⟨_, rfl, q, l4, 6, rfl, upd_same .., hl4, by decide, by decide, fun i5 l5 h50 h51 hl5 => ?_⟩
    rw [L2.upd_upd]
    obtain ⟨H6, hH6⟩ : ∃ z, z = upd H5 q (.lst (l5.map V.int)) := ⟨_, rfl⟩
    rw [← hH6]
    have q6 : H6 q = some (.lst (l5.map V.int)) := by rw [hH6, upd_same]
    have k6 : Keep q H H6 := by rw [hH6]; exact k5.trans (Keep.upd q H5 _)
    clear hH6
    have fin : ∀ (dd : Deed) (p : Addr), H6 p = none → deedOk dd → Q (.ref p) (upd H6 p (.tup (deedL dd))) := fun dd p hp hd => k p dd _ ⟨l5, same_new hp _ _ q6, hl5⟩ (k6.same (same_new hp)) (ne_of_none' hp q6) (upd_same ..) hd
    refine ⟨_, rfl, rfl, _, rfl, ite2 (fun _ => ⟨_, rfl, _, rfl, zl rfl, fun p hp => fin (.make n1 a1) p hp hal1⟩) (fun _ => ?_)⟩
    refine ⟨_, rfl, rfl, _, rfl, ite2 (fun _ => ⟨_, rfl, _, rfl, zl rfl, fun p hp => fin (.fold n1 a1) p hp hal1⟩) (fun _ => ?_)⟩
    refine ⟨_, rfl, rfl, _, rfl, ite2 (fun _ => ⟨_, rfl, _, rfl, _, rfl, zl rfl, fun p hp => fin (.link n1 a1 n2) p hp hal1⟩) (fun _ => ?_)⟩
    refine ⟨_, rfl, rfl, _, rfl, ite2 (fun _ => ⟨_, rfl, _, rfl, zl rfl, fun p hp => fin (.drop n1 a1) p hp hal1⟩) (fun _ => ?_)⟩
    refine ⟨_, rfl, rfl, _, rfl, ite2 (fun _ => ⟨_, rfl, _, rfl, _, rfl, _, rfl, zl rfl, fun p hp => fin (.move n1 a1 n2 a2) p hp ⟨hal1, hal2⟩⟩) (fun _ => ?_)⟩
    refine ⟨_, rfl, _, rfl, q, l5, 9, rfl, q6, hl5, by decide, by decide, fun i7 l7 h70 h71 hl7 => ⟨zl rfl, fun p hp => ?_⟩⟩
    have hpq : p ≠ q := ne_of_none' hp (upd_same ..)
    exact k p (.put n1 i7) _ ⟨l7, same_new hp _ _ (upd_same ..), hl7⟩ ((k6.trans (Keep.upd q H6 _)).same (same_new hp)) hpq (upd_same ..) trivial
end
end K81
set_option maxHeartbeats 4000000
namespace K81
open PySem PySem.Spec PyProof.Rows L2
/-! ### the drawn table -/
def KeepM (M : List Addr) (H H' : Hp) : Prop := Same (dels H M) H'
section
variable {M : List Addr} {H H1 H2 : Hp} {q : Addr} {o : HO}
theorem KeepM.refl : KeepM M H H := dels_same H M
theorem KeepM.trans (a : KeepM M H H1) (b : KeepM M H1 H2) : KeepM M H H2 := fun c u h => by
  have hc : c ∉ M := fun e => by rw [dels_in e] at h; cases h
  refine b c u ?_
  rw [dels_out hc]
  exact a c u h
theorem KeepM.same (a : KeepM M H H1) (b : Same H1 H2) : KeepM M H H2 := Same.trans a b
theorem KeepM.of (a : Same H H1) : KeepM M H H1 := (dels_same H M).trans a
theorem KeepM.upd (h : q ∈ M) : KeepM M H (L2.upd H q o) := fun b u z => by
  have hb : b ≠ q := fun e => by subst e; rw [dels_in h] at z; cases z
  rw [upd_ne hb]
  exact dels_same H M b u z
theorem KeepM.off (a : KeepM M H H1) (h : H q = none) : KeepM M H (L2.upd H1 q o) := Same.off a (by
  unfold dels
  by_cases e : q ∈ M
  · rw [if_pos e]
  · rw [if_neg e]; exact h)
theorem KeepM.keep (h : q ∈ M) (a : Keep q H H1) : KeepM M H H1 := fun b u z => by
  have hb : b ∉ M := fun e => by rw [dels_in e] at z; cases z
  rw [dels_out hb] at z
  exact a b u (del_at z (fun e => hb (by rw [e]; exact h)))
theorem KeepM.dels (a : KeepM M H H1) : Same (K81.dels H M) (K81.dels H1 M) := fun b u z => by
  have hb : b ∉ M := fun e => by rw [dels_in e] at z; cases z
  rw [dels_out hb]
  exact a b u z
theorem KeepM.at {b : Addr} (a : KeepM M H H1) (h : H b = some o) (n : b ∉ M) : H1 b = some o := a b o (by rw [dels_out n]; exact h)
theorem keepM_tup {K : PySem.W.Frag} {t : Addr} {xs : List V} (a : KeepM M H H1) (hM : ∀ m ∈ M, ∃ ys, H m = some (.lst ys)) (h : SqT K H t xs) : SqT K H1 t xs := by
  rcases h with (h | ⟨od, h⟩) | h
  · exact .inl (.inl (a.at h (fun e => by obtain ⟨ys, z⟩ := hM t e; rw [h] at z; cases z)))
  · exact .inl (.inr ⟨od, a.at h (fun e => by obtain ⟨ys, z⟩ := hM t e; rw [h] at z; cases z)⟩)
  · exact .inr h
theorem dels_tup {K : PySem.W.Frag} {t : Addr} {xs : List V} (hM : ∀ m ∈ M, ∃ ys, H m = some (.lst ys)) (h : SqT K H t xs) : SqT K (K81.dels H M) t xs := by
  rcases h with (h | ⟨od, h⟩) | h
  · exact .inl (.inl (by rw [dels_out (fun e => by obtain ⟨ys, z⟩ := hM t e; rw [h] at z; cases z)]; exact h))
  · exact .inl (.inr ⟨od, by rw [dels_out (fun e => by obtain ⟨ys, z⟩ := hM t e; rw [h] at z; cases z)]; exact h⟩)
  · exact .inr h
end
theorem paired_perm {α β : Type} {F : α → β → Prop} {xs xs' : List α} (hp : xs'.Perm xs) : ∀ {ys : List β}, Paired F xs ys → ∃ ys', ys'.Perm ys ∧ Paired F xs' ys' := by
  induction hp with
  | nil => exact fun {ys} h => ⟨ys, List.Perm.refl _, h⟩
  | cons a _ ih =>
    intro ys h
    cases h with
    | cons r t =>
      obtain ⟨ys', h1, h2⟩ := ih t
      exact ⟨_ :: ys', h1.cons _, .cons r h2⟩
  | swap a b l =>
    intro ys h
    cases h with
    | cons r t => cases t with
      | cons r2 t2 => exact ⟨_, List.Perm.swap _ _ _, .cons r2 (.cons r t2)⟩
  | trans _ _ ih1 ih2 =>
    intro ys h
    obtain ⟨y1, a1, a2⟩ := ih2 h
    obtain ⟨y2, b1, b2⟩ := ih1 a2
    exact ⟨y2, b1.trans a1, b2⟩
theorem dkI_put2 (es : List (Str × Int)) (a : Str) (n : Int) : ∃ es', putK (dkI es) (Sum.inr a) (.int n) = dkI es' ∧ (∀ x ∈ es', x ∈ es ∨ x = (a, n)) ∧ es'.length ≤ es.length + 1 := by
  by_cases h : a ∈ es.map (·.1)
  · refine ⟨es.map fun e => if e.1 = a then (e.1, n) else e, ?_, fun x hx => ?_, by rw [List.length_map]; omega⟩
    · unfold putK
      have : (valV (dkI es) (Sum.inr a)).isSome = true := by
        rw [valV_dkI]
        cases q : getS es a with
        | none => exact absurd h (getS_none.mp q)
        | some v => rfl
      rw [valV_any, this, if_pos rfl]
      simp only [dkI, List.map_map]
      refine List.map_congr_left fun e _ => ?_
      by_cases z : e.1 = a <;> simp [z]
    · obtain ⟨y, hy, e⟩ := List.mem_map.mp hx
      by_cases z : y.1 = a
      · rw [if_pos z] at e; rw [← e, z]; exact .inr rfl
      · rw [if_neg z] at e; rw [← e]; exact .inl hy
  · refine ⟨es ++ [(a, n)], dkI_put h, fun x hx => ?_, by simp⟩
    rcases List.mem_append.mp hx with z | z
    · exact .inl z
    · exact .inr (List.mem_singleton.mp z)
/-- entries that a table may have -/
theorem dels2_del {H : Hp} {q r : Addr} : Same (dels H [q, r]) (del H q) := fun b o h => by
  have hb : b ∉ [q, r] := fun e => by rw [dels_in e] at h; cases h
  rw [dels_out hb] at h
  exact del_at h fun e => hb (by rw [e]; exact List.mem_cons_self ..)
def goodE (es : List (Str × Int)) : Prop := ∀ e ∈ es, isName e.1 = true ∧ 0 ≤ e.2 ∧ e.2 < 100000
def namesW : List Str := ["a", "b", "clash", "c1", "c2", "c2a", "zz9", "c3"]
theorem nameW {i : Int} (h0 : 0 ≤ i) (h1 : i < 8) : ∃ z : Str, atI (namesW.map V.str) i = some (.str z) ∧ isName z = true := by
  obtain ⟨i, rfl⟩ := Int.eq_ofNat_of_zero_le h0
  have hl : i < namesW.length := by show i < 8; omega
  refine ⟨namesW[i], atI_at (by rw [List.getElem?_map, List.getElem?_eq_getElem hl]; rfl), ?_⟩
  have : ∀ z ∈ namesW, isName z = true := by decide +kernel
  exact this _ (List.getElem_mem hl)
def goodN (ns : List Int) : Prop := ∀ n ∈ ns, 0 ≤ n ∧ n ≤ 99000 + ns.length
theorem entAt_del {K : PySem.W.Frag} {H : Hp} {q : Addr} {xs : List V} {v : V} {e : Str × Int} (hq : H q = some (.lst xs)) (h : EntAt K H v e) : EntAt K (del H q) v e := by
  obtain ⟨t, rfl, h⟩ := h
  refine ⟨t, rfl, ?_⟩
  rcases h with (h | ⟨od, h⟩) | h
  · exact .inl (.inl (del_at h fun z => by subst z; rw [hq] at h; cases h))
  · exact .inl (.inr ⟨od, del_at h fun z => by subst z; rw [hq] at h; cases h⟩)
  · exact .inr h
theorem entAt_dels {K : PySem.W.Frag} {H : Hp} {M : List Addr} {v : V} {e : Str × Int} (hM : ∀ m ∈ M, ∃ ys, H m = some (.lst ys)) (h : EntAt K H v e) : EntAt K (dels H M) v e := by
  obtain ⟨t, rfl, h⟩ := h
  exact ⟨t, rfl, dels_tup hM h⟩
theorem ents_items {K : PySem.W.Frag} {H : Hp} : ∀ {ts : List Addr} {es : List (Str × Int)}, Paired (fun (t : Addr) (x : Key × V) => H t = some (.tup [kV x.1, x.2])) ts (dkI es) → Paired (EntAt K H) (ts.map V.ref) es
  | [], [], _ => .nil
  | t :: ts, e :: es, h => by
    cases h with
    | cons r h2 => exact .cons ⟨t, rfl, .inl (.inl r)⟩ (ents_items h2)
  | [], _ :: _, h => by cases h
  | _ :: _, [], h => by cases h
theorem keep_none {q p : Addr} {H H' : Hp} (k : Keep q H H') (h : H' p = none) (n : p ≠ q) : H p = none := by
  cases z : H p with
  | none => rfl
  | some o => rw [k.at z n] at h; cases h
theorem clash_name_ok : isName "clash" = true := by decide +kernel
def rowG : Row → Prop
  | .fold n es => (0 ≤ n ∧ n < 99016) ∧ goodE es ∧ es.length ≤ 7
  | .file n k c => (0 ≤ n ∧ n < 99016) ∧ PyData.strOk c = true ∧ c.length ≤ 1000
theorem fine_of {t : List Row} (h : ∀ r ∈ t, rowG r) : Fine t :=
  ⟨fun w es m => (h _ (mem_fo.mp m)).2.1, fun n m => by
    obtain ⟨r, hr, e⟩ := List.mem_map.mp m
    have := h r hr
    cases r with
    | fold a es => rw [← e]; exact ⟨this.1.1, Int.lt_trans this.1.2 (by decide)⟩
    | file a k c => rw [← e]; exact ⟨this.1.1, Int.lt_trans this.1.2 (by decide)⟩, fun n k c m => (h _ (mem_fi.mp m)).2⟩
theorem small_of {t : List Row} (h : ∀ r ∈ t, rowG r) {a : Nat} (hl : t.length ≤ a) : Small a 7 t := ⟨hl, fun w es m => (h _ (mem_fo.mp m)).2.2⟩
theorem nums_of {t : List Row} (h : ∀ r ∈ t, rowG r) {n : Int} (m : n ∈ nums t) : n ≤ 99015 := by
  obtain ⟨r, hr, e⟩ := List.mem_map.mp m
  have := h r hr
  cases r with
  | fold a es => rw [← e]; have := this.1.2; show a ≤ 99015; omega
  | file a k c => rw [← e]; have := this.1.2; show a ≤ 99015; omega
def spWild (K : PySem.W.Frag) : Sp := fun vs H Q _ => ∃ q : Addr, vs = [.ref q] ∧ LeftAt H q ∧ ∀ p t H', LeftAt H' q → Keep q H H' → TabAt K (del H' q) (.ref p) t → Fine t → Small 15 7 t → (∀ n ∈ nums t, n ≤ 99015) → Q (.ref p) H'
section
variable {P : Program} {w : World} {K : PySem.W.Frag} {mg : Str → Option Value} {base : Heap}
abbrev N_l_wild : List Str := ["_law_left_here", "_law_names", "_law_numbers", "_law_k", "_law_rows", "_law_number_here", "_law_entries_here", "_law_told", "_law_entry"]
theorem sc_l_wild : FnScope N_l_wild ["_law_left_here"] (defScope s_l_wild) := ⟨rfl, rfl, rfl, by decide +kernel, rfl, by decide +kernel, by decide +kernel⟩
theorem ok_l_wild (T : Tx K mg base) : OkD P w K mg base d_l_wild.at_ 3 ["_law_left_here"] (spWild K) := by
  have G_l_shuffled := ok_l_shuffled (P := P) (w := w) T
  have G_l_pick := ok_l_pick (P := P) (w := w) T
  have G_l_number := ok_l_number (P := P) (w := w) T
  have G_l_content := ok_l_content (P := P) (w := w) T
  refine okD_of T.F_l_wild sc_l_wild (fun _ _ _ _ _ _ us hl => match us, hl with | [_], _ => rfl) (fun vs H Q E h => ?_) (fun cdv A outer s H vs Q E hr h => ?_)
  · obtain ⟨q, rfl, _⟩ := h
    rfl
  · obtain ⟨q, rfl, hq, k⟩ := h
    have hu := hu_of hr
    refine ⟨_, (pss_cons (ps_set (i := 1) sc_l_wild.nd rfl (by first | exact Or.inl rfl | exact Or.inr rfl) (pe_lst (pa_cons pe_str (pa_cons pe_str (pa_cons pe_str (pa_cons pe_str (pa_cons pe_str (pa_cons pe_str (pa_cons pe_str (pa_cons pe_str pa_nil))))))))))
      (pss_cons (ps_set (i := 2) sc_l_wild.nd rfl (by first | exact Or.inl rfl | exact Or.inr rfl) (pe_op op_cat (pe_op op_rep (pe_lst (pa_cons pe_int pa_nil)) (pe_callTy call_int1 (by rfl) T.z_int (show bootBuiltins "int" = some (.type "int") by decide +kernel) (pa_cons (pe_cmpR op_gt (pe_callO G_l_pick hr (by decide) T.g_law_pick (pa_cons (pv 0) (pa_cons pe_int pa_nil))) pe_int (nomark _)) pa_nil))) (pe_op op_rep (pe_lst (pa_cons pe_int pa_nil)) (pe_callTy call_int1 (by rfl) T.z_int (show bootBuiltins "int" = some (.type "int") by decide +kernel) (pa_cons (pe_cmpR op_gt (pe_callO G_l_pick hr (by decide) T.g_law_pick (pa_cons (pv 0) (pa_cons pe_int pa_nil))) pe_int (nomark _)) pa_nil)))))
      (pss_cons (ps_for PassesOwn.never rfl (pi_range1 rfl T.z_range (pa_cons (pe_callO G_l_pick hr (by decide) T.g_law_pick (pa_cons (pv 0) (pa_cons pe_int pa_nil))) pa_nil)) (pg_name (i := 3) sc_l_wild.nd rfl (by first | exact Or.inl rfl | exact Or.inr rfl)) (pss_one (ps_expr (pe_bm PySem.F.plainAttrs_list PySem.F.slot_list_append PySem.F.type_list_append mt_append (pv 2) (pa_cons (pe_ifExp (pt_cmpR op_eq (pe_callO G_l_pick hr (by decide) T.g_law_pick (pa_cons (pv 0) (pa_cons pe_int pa_nil))) pe_int (nomark _)) (pe_callO G_l_pick hr (by decide) T.g_law_pick (pa_cons (pv 0) (pa_cons pe_int pa_nil))) (pe_callO G_l_number hr (by decide) T.g_law_number (pa_cons (pv 0) (pa_cons (pv 2) pa_nil)))) pa_nil)))))
      (pss_cons (ps_set (i := 4) sc_l_wild.nd rfl (by first | exact Or.inl rfl | exact Or.inr rfl) (pe_lst pa_nil))
      (pss_cons (ps_for PassesOwn.never rfl (pi_list (pv 2)) (pg_name (i := 5) sc_l_wild.nd rfl (by first | exact Or.inl rfl | exact Or.inr rfl)) (Evl.pss_cut (ps_if (PW.pt (pw_and (pt_cmpR op_gt (pv 5) pe_int (nomark _)) (pw_and1 (pt_cmpR op_eq (pe_callO G_l_pick hr (by decide) T.g_law_pick (pa_cons (pv 0) (pa_cons pe_int pa_nil))) pe_int (nomark _))))) (pss_cons (ps_expr (pe_bm PySem.F.plainAttrs_list PySem.F.slot_list_append PySem.F.type_list_append mt_append (pv 4) (pa_cons (pe_tup (pa_cons pe_str (pa_cons (pv 5) (pa_cons (pe_callO G_l_pick hr (by decide) T.g_law_pick (pa_cons (pv 0) (pa_cons pe_int pa_nil))) (pa_cons (pe_callO G_l_content hr (by decide) T.g_law_content (pa_cons (pv 0) pa_nil)) pa_nil))))) pa_nil)))
      (pss_one ps_continue)) pss_nil)
      (pss_cons (ps_set (i := 6) sc_l_wild.nd rfl (by first | exact Or.inl rfl | exact Or.inr rfl) pe_dnewK)
      (pss_cons (ps_for PassesOwn.never rfl (pi_range1 rfl T.z_range (pa_cons (pe_callO G_l_pick hr (by decide) T.g_law_pick (pa_cons (pv 0) (pa_cons pe_int pa_nil))) pa_nil)) (pg_name (i := 3) sc_l_wild.nd rfl (by first | exact Or.inl rfl | exact Or.inr rfl)) (pss_one (ps_dput hu (pv 6) (pe_ix (ix_listK K) (pv 1) (pe_callO G_l_pick hr (by decide) T.g_law_pick (pa_cons (pv 0) (pa_cons pe_int pa_nil))) (fun _ _ => rfl)) (pe_ix (ix_listK K) (pe_op op_cat (pv 2) (pe_lst (pa_cons pe_int (pa_cons pe_int pa_nil)))) (pe_callO G_l_pick hr (by decide) T.g_law_pick (pa_cons (pv 0) (pa_cons (pe_op op_add (pe_callB call_len_seq (by rfl) T.z_len (show bootBuiltins "len" = some (.builtin "len") by decide +kernel) (pa_cons (pv 2) pa_nil)) pe_int) pa_nil))) (fun _ _ => rfl)) rfl)))
      (pss_cons (ps_set (i := 7) sc_l_wild.nd rfl (by first | exact Or.inl rfl | exact Or.inr rfl) (pe_callO G_l_shuffled hr (by decide) T.g_law_shuffled (pa_cons (pv 0) (pa_cons (LiI.pe_listItems rfl (pv 6) (by rfl) T.z_list (by decide +kernel)) pa_nil))))
      (Evl.pss_cut (ps_if (PW.pt (pw_and (pt_cmpR op_eq (pv 5) pe_int (nomark _)) (pw_and1 (pt_cmpR op_gt (pe_callO G_l_pick hr (by decide) T.g_law_pick (pa_cons (pv 0) (pa_cons pe_int pa_nil))) pe_int (nomark _))))) (pss_one (ps_set (i := 7) sc_l_wild.nd rfl (by first | exact Or.inl rfl | exact Or.inr rfl) (pe_op op_cat (pe_lc (own := [("_law_entry", 8)]) rfl sc_l_wild.nd (pi_list (pv 7)) (blkOk_by (N := N_l_wild) (sc := defScope s_l_wild) (by decide +kernel)) (fun _ _ _ _ _ => (pg_name (i := 8) sc_l_wild.nd rfl (Or.inl rfl))) (fun _ _ _ _ _ => (pts_one (pt_cmpR op_ne (pe_ix (ix_tupK K) (pv 8) pe_int (fun _ _ => rfl)) pe_str (nomark _)))) (fun _ _ _ _ _ => (pv 8))) (pe_lst (pa_cons (pe_tup (pa_cons pe_str (pa_cons pe_int pa_nil))) pa_nil))))) pss_nil)
      (Evl.pss_cut (ps_if (PW.pt (pw_and (pt_cmpR (op_neD hr.units) (pv 7) (pe_lst pa_nil) (nomark _)) (pw_and1 (pt_cmpR op_eq (pe_callO G_l_pick hr (by decide) T.g_law_pick (pa_cons (pv 0) (pa_cons pe_int pa_nil))) pe_int (nomark _))))) (pss_one (ps_expr (pe_bm PySem.F.plainAttrs_list PySem.F.slot_list_append PySem.F.type_list_append mt_append (pv 7) (pa_cons (pe_tup (pa_cons (pe_ix (ix_tupK K) (pe_ix (ix_listK K) (pv 7) pe_int (fun _ _ => rfl)) pe_int (fun _ _ => rfl)) (pa_cons pe_int pa_nil))) pa_nil)))) pss_nil)
      (pss_one (ps_expr (pe_bm PySem.F.plainAttrs_list PySem.F.slot_list_append PySem.F.type_list_append mt_append (pv 4) (pa_cons (pe_tup (pa_cons pe_str (pa_cons (pv 5) (pa_cons (pv 7) pa_nil)))) pa_nil)))))))))))
      (pss_one (ps_ret (pe_callO G_l_shuffled hr (by decide) T.g_law_shuffled (pa_cons (pv 0) (pa_cons (pv 4) pa_nil)))))))))), ?_⟩
    obtain ⟨l0, hq, hl0⟩ := hq
    refine ⟨zl rfl, fun pw hpw => ?_⟩
    obtain ⟨H1, hH1⟩ : ∃ z, z = upd H pw (.lst [.str "a", .str "b", .str "clash", .str "c1", .str "c2", .str "c2a", .str "zz9", .str "c3"]) := ⟨_, rfl⟩
    rw [← hH1]
    have at_pw : H1 pw = some (.lst [.str "a", .str "b", .str "clash", .str "c1", .str "c2", .str "c2a", .str "zz9", .str "c3"]) := by rw [hH1, upd_same]
    have s_H1 : Same H H1 := by rw [hH1]; exact same_new hpw
    clear hH1
    have hpwq : pw ≠ q := ne_of_none' hpw hq
    have w1 : H1 pw = some (.lst (namesW.map V.str)) := at_pw
    have q1 := s_H1 _ _ hq
    -- numbers
    refine ⟨zl rfl, fun p2 hp2 => ?_⟩
    obtain ⟨H2, hH2⟩ : ∃ z, z = upd H1 p2 (.lst [.int 0]) := ⟨_, rfl⟩
    rw [← hH2]
    have at_p2 : H2 p2 = some (.lst [.int 0]) := by rw [hH2, upd_same]
    have s_H2 : Same H1 H2 := by rw [hH2]; exact same_new hp2
    clear hH2
    have hp2q : p2 ≠ q := ne_of_none' hp2 q1
    refine ⟨_, rfl, q, l0, 9, rfl, s_H2 _ _ q1, hl0, by decide, by decide, fun i1 l1 hi0 hi1 hl1 => ⟨_, _, rfl, rfl, .inr ⟨_, rfl, ?_⟩⟩⟩
    obtain ⟨b1, hb1⟩ : ∃ b : Bool, b = decide (0 < i1) := ⟨_, rfl⟩
    rw [← hb1]
    refine ⟨_, _, _, rfl, rfl, upd_at_ne at_p2 hp2q, by cases b1 <;> decide, by cases b1 <;> decide, by cases b1 <;> decide, fun p3 hp3 => ?_⟩
    obtain ⟨z1, hz1, hz1a, hz1l⟩ : ∃ z1 : List Int, (List.replicate (if b1 = true then (1 : Int) else 0).toNat [V.int 0]).flatten = z1.map V.int ∧ (∀ n ∈ z1, 0 ≤ n ∧ n ≤ 1) ∧ z1.length ≤ 1 := by
      cases b1
      · exact ⟨[], rfl, fun n h => absurd h List.not_mem_nil, by decide⟩
      · exact ⟨[0], rfl, fun n h => by rw [List.mem_singleton.mp h]; decide, by decide⟩
    rw [hz1]
    clear hz1 hb1
    obtain ⟨G0, hG0⟩ : ∃ z, z = upd H2 q (.lst (l1.map V.int)) := ⟨_, rfl⟩
    rw [← hG0] at hp3 ⊢
    have q2 : G0 q = some (.lst (l1.map V.int)) := by rw [hG0, upd_same]
    have k2 : Keep q H G0 := by rw [hG0]; exact (Keep.of (s_H1.trans s_H2)).trans (Keep.upd q H2 _)
    have w2 : G0 pw = some (.lst (namesW.map V.str)) := by rw [hG0]; exact upd_at_ne (s_H2 _ _ w1) hpwq
    clear hG0
    obtain ⟨H3, hH3⟩ : ∃ z, z = upd G0 p3 (.lst (z1.map V.int)) := ⟨_, rfl⟩
    rw [← hH3]
    have at_p3 : H3 p3 = some (.lst (z1.map V.int)) := by rw [hH3, upd_same]
    have s_H3 : Same G0 H3 := by rw [hH3]; exact same_new hp3
    clear hH3
    have q3 := s_H3 _ _ q2
    have hp3q : p3 ≠ q := ne_of_none' hp3 q2
    refine ⟨zl rfl, fun p4 hp4 => ?_⟩
    obtain ⟨H4, hH4⟩ : ∃ z, z = upd H3 p4 (.lst [.int 1]) := ⟨_, rfl⟩
    rw [← hH4]
    have at_p4 : H4 p4 = some (.lst [.int 1]) := by rw [hH4, upd_same]
    have s_H4 : Same H3 H4 := by rw [hH4]; exact same_new hp4
    clear hH4
    have hp4q : p4 ≠ q := ne_of_none' hp4 q3
    refine ⟨_, rfl, q, l1, 9, rfl, s_H4 _ _ q3, hl1, by decide, by decide, fun i2 l2 hj0 hj1 hl2 => ⟨_, _, rfl, rfl, .inr ⟨_, rfl, ?_⟩⟩⟩
    obtain ⟨b2, hb2⟩ : ∃ b : Bool, b = decide (0 < i2) := ⟨_, rfl⟩
    rw [← hb2]
    refine ⟨_, _, _, rfl, rfl, upd_at_ne at_p4 hp4q, by cases b2 <;> decide, by cases b2 <;> decide, by cases b2 <;> decide, fun p5 hp5 => ?_⟩
    obtain ⟨z2, hz2, hz2a, hz2l⟩ : ∃ z1 : List Int, (List.replicate (if b2 = true then (1 : Int) else 0).toNat [V.int 1]).flatten = z1.map V.int ∧ (∀ n ∈ z1, 0 ≤ n ∧ n ≤ 1) ∧ z1.length ≤ 1 := by
      cases b2
      · exact ⟨[], rfl, fun n h => absurd h List.not_mem_nil, by decide⟩
      · exact ⟨[1], rfl, fun n h => by rw [List.mem_singleton.mp h]; decide, by decide⟩
    rw [hz2]
    clear hz2 hb2
    obtain ⟨G4, hG4⟩ : ∃ z, z = upd H4 q (.lst (l2.map V.int)) := ⟨_, rfl⟩
    rw [← hG4] at hp5 ⊢
    have q4 : G4 q = some (.lst (l2.map V.int)) := by rw [hG4, upd_same]
    have k4 : Keep q H G4 := by rw [hG4]; exact (k2.same (s_H3.trans s_H4)).trans (Keep.upd q H4 _)
    have w4 : G4 pw = some (.lst (namesW.map V.str)) := by rw [hG4]; exact upd_at_ne (s_H4 _ _ (s_H3 _ _ w2)) hpwq
    have z4 : G4 p3 = some (.lst (z1.map V.int)) := by rw [hG4]; exact upd_at_ne (s_H4 _ _ at_p3) hp3q
    clear hG4
    obtain ⟨H5, hH5⟩ : ∃ z, z = upd G4 p5 (.lst (z2.map V.int)) := ⟨_, rfl⟩
    rw [← hH5]
    have at_p5 : H5 p5 = some (.lst (z2.map V.int)) := by rw [hH5, upd_same]
    have s_H5 : Same G4 H5 := by rw [hH5]; exact same_new hp5
    clear hH5
    refine ⟨_, _, _, _, rfl, rfl, s_H5 _ _ z4, at_p5, sl' (by rw [List.length_map, List.length_map]; show z1.length + z2.length ≤ 100000; omega), fun nq hnq => ?_⟩
    rw [← List.map_append]
    obtain ⟨n0, hn0⟩ : ∃ z, z = z1 ++ z2 := ⟨_, rfl⟩
    rw [← hn0]
    have hn0l : n0.length ≤ 2 := by rw [hn0, List.length_append]; omega
    have hn0a : goodN n0 := fun n h => by
      rw [hn0] at h
      rcases List.mem_append.mp h with h | h
      · have := hz1a n h; exact ⟨this.1, by omega⟩
      · have := hz2a n h; exact ⟨this.1, by omega⟩
    clear hn0
    obtain ⟨H6, hH6⟩ : ∃ z, z = upd H5 nq (.lst (n0.map V.int)) := ⟨_, rfl⟩
    rw [← hH6]
    have at_nq : H6 nq = some (.lst (n0.map V.int)) := by rw [hH6, upd_same]
    have s_H6 : Same H5 H6 := by rw [hH6]; exact same_new hnq
    clear hH6
    have q6 := s_H6 _ _ (s_H5 _ _ q4)
    have w6 := s_H6 _ _ (s_H5 _ _ w4)
    have k6 := k4.same (s_H5.trans s_H6)
    have hnqq : nq ≠ q := ne_of_none' hnq (s_H5 _ _ q4)
    have hnqH : H nq = none := by
      cases e : H nq with
      | none => rfl
      | some o => rw [(k4.same s_H5).at e hnqq] at hnq; cases hnq
    have hnqw : nq ≠ pw := ne_of_none' hnq (s_H5 _ _ w4)
    clear at_p5 z4 q4 w4 k4 at_p4 at_p3 q3 q2 w2 k2 at_pw w1 q1 at_p2
    -- loop 1
    refine ⟨_, rfl, q, l2, 14, rfl, q6, hl2, by decide, by decide, fun i3 l3 hk0 hk1 hl3 => ⟨_, rfl, by omega, by omega, ?_⟩⟩
    refine for_it walk_range (fun i σ H' => ∃ (y : Option V) (ns : List Int), σ = [some (.ref q), some (.ref pw), some (.ref nq), y, none, none, none, none, none] ∧ LeftAt H' q ∧ Keep q H H' ∧ H' pw = some (.lst (namesW.map V.str)) ∧ H' nq = some (.lst (ns.map V.int)) ∧ goodN ns ∧ ns.length ≤ 2 + i) ⟨_, n0, rfl, ⟨l3, upd_same .., hl3⟩, k6.trans (Keep.upd q H6 _), upd_at_ne w6 hpwq, upd_at_ne at_nq hnqq, hn0a, hn0l⟩ (fun _ _ _ _ _ => trivial) ?_ ?_
    · rintro i v σ H7 H' hi ⟨_, ns, rfl, ⟨lq, hq7, hlq⟩, k7, w7, n7, hg, hl⟩ ⟨rfl, rfl⟩
      have hi' : i ≤ 13 := by omega
      have fin : ∀ (n : Int) (H8 : Hp), LeftAt H8 q → Keep q H' H8 → 0 ≤ n → n ≤ 99000 + ns.length + 1 → H8 nq = some (.lst (ns.map V.int)) ∧ ∃ ns2 : List Int, (ns.map V.int ++ [V.int n]) = ns2.map V.int ∧ LeftAt (upd H8 nq (.lst (ns2.map V.int))) q ∧ Keep q H (upd H8 nq (.lst (ns2.map V.int))) ∧ (upd H8 nq (.lst (ns2.map V.int))) pw = some (.lst (namesW.map V.str)) ∧ goodN ns2 ∧ ns2.length ≤ 2 + (i + 1) := fun n H8 hq8 k8 h0 h1 => by
        refine ⟨k8.at n7 hnqq, ns ++ [n], by simp, ?_, (k7.trans k8).off hnqH, upd_at_ne (k8.at w7 hpwq) (Ne.symm hnqw), fun m hm => ?_, by rw [List.length_append]; show ns.length + 1 ≤ _; omega⟩
        · obtain ⟨lz, hz, hlz⟩ := hq8
          exact ⟨lz, upd_at_ne hz (Ne.symm hnqq), hlz⟩
        · rw [List.length_append, List.length_singleton]
          rcases List.mem_append.mp hm with h | h
          · have := hg m h; exact ⟨this.1, by omega⟩
          · rw [List.mem_singleton.mp h]; exact ⟨h0, by omega⟩
      refine ⟨_, rfl, tyL (SqL.of n7), ?_⟩
      refine ⟨_, rfl, q, lq, 9, rfl, hq7, hlq, by decide, by decide, fun j lq2 hj0 hj1 hlq2 => ?_⟩
      refine ⟨rfl, _, rfl, ite2 (fun _ => ?_) (fun _ => ?_)⟩
      · refine ⟨_, rfl, q, lq2, 19, rfl, upd_same .., hlq2, by decide, by decide, fun n lq3 hm0 hm1 hlq3 => ?_⟩
        rw [L2.upd_upd]
        obtain ⟨f1, ns2, f2, f3, f4, f5, f6, f7⟩ := fin n (upd H' q (.lst (lq3.map V.int))) ⟨lq3, upd_same .., hlq3⟩ (Keep.upd q H' _) hm0 (by omega)
        refine ⟨_, _, _, rfl, rfl, f1, sl' (by rw [List.length_map]; omega), ?_⟩
        rw [f2]
        exact ⟨_, ns2, rfl, f3, f4, f5, upd_same .., f6, f7⟩
      · refine ⟨_, rfl, _, rfl, q, nq, ns, rfl, ⟨lq2, upd_same .., hlq2⟩, upd_at_ne n7 hnqq, hnqq, fun m hm => (hg m hm).2, by omega, fun n H8 hq8 k8 hm0 hm1 => ?_⟩
        obtain ⟨f1, ns2, f2, f3, f4, f5, f6, f7⟩ := fin n H8 hq8 ((Keep.upd q H' _).trans k8) hm0 hm1
        refine ⟨_, _, _, rfl, rfl, f1, sl' (by rw [List.length_map]; omega), ?_⟩
        rw [f2]
        exact ⟨_, ns2, rfl, f3, f4, f5, upd_same .., f6, f7⟩
    · rintro σ H7 ⟨_, ns, rfl, hq7, k7, w7, n7, hg, hl⟩
      have hnl : ns.length ≤ 15 := by omega
      clear hl k6 w6 q6 at_nq hn0a hn0l
      refine ⟨zl rfl, fun rq hrq => ?_⟩
      obtain ⟨H8, hH8⟩ : ∃ z, z = upd H7 rq (.lst []) := ⟨_, rfl⟩
      rw [← hH8]
      have at_rq : H8 rq = some (.lst []) := by rw [hH8, upd_same]
      have s_H8 : Same H7 H8 := by rw [hH8]; exact same_new hrq
      clear hH8
      have hrqq : rq ≠ q := by obtain ⟨lz, hz, _⟩ := hq7; exact ne_of_none' hrq hz
      refine ⟨_, rfl, _, rfl, ⟨_, SqL.of (s_H8 _ _ n7)⟩, ?_⟩
      refine for_it (walk_list (xs := ns.map V.int)) (fun i σ H' => ∃ (c d e f : Option V) (ys : List V) (t : List Row), σ = [some (.ref q), some (.ref pw), some (.ref nq), c, some (.ref rq), d, e, f, none] ∧ LeftAt H' q ∧ Keep q H7 H' ∧ H' rq = some (.lst ys) ∧ Paired (RowAt K (dels H' [q, rq])) ys t ∧ t.length = i ∧ ∀ r ∈ t, rowG r) ⟨_, _, _, _, [], [], rfl, hq7.same s_H8, Keep.of s_H8, at_rq, .nil, rfl, fun r h => (nomatch h)⟩ (fun i σ H' _ hp => ?_) ?_ ?_
      · obtain ⟨_, _, _, _, _, _, _, _, kk, _⟩ := hp
        exact SqL.of (kk.at n7 hnqq)
      · rintro i v σ H9 H' hi ⟨c, d, e, f, ys, t, rfl, hq9, k9, r9, hT, htl, htg⟩ ⟨rfl, hv⟩
        have hi15 : i < 15 := by rw [List.length_map] at hi; omega
        obtain ⟨n, hn, rfl⟩ : ∃ n, ns[i]? = some n ∧ v = .int n := by
          rw [List.getElem?_map] at hv
          cases z : ns[i]? with
          | none => rw [z] at hv; cases hv
          | some n => rw [z] at hv; exact ⟨n, rfl, (Option.some.inj hv).symm⟩
        have hnG : 0 ≤ n ∧ n < 99016 := by have := hg n (List.mem_of_getElem? hn); exact ⟨this.1, by omega⟩
        have hyl : ys.length = i := by rw [← htl]; exact hT.length
        have w9 : H' pw = some (.lst (namesW.map V.str)) := k9.at w7 hpwq
        have n9 : H' nq = some (.lst (ns.map V.int)) := k9.at n7 hnqq
        have finT : ∀ (r : Row) (p : Addr) (X : Hp), LeftAt X q → Keep q H' X → RowAt K (dels X [q, rq]) (.ref p) r → rowG r → X rq = some (.lst ys) ∧ LeftAt (upd X rq (.lst (ys ++ [.ref p]))) q ∧ Keep q H7 (upd X rq (.lst (ys ++ [.ref p]))) ∧ (upd X rq (.lst (ys ++ [.ref p]))) rq = some (.lst (ys ++ [.ref p])) ∧ Paired (RowAt K (dels (upd X rq (.lst (ys ++ [.ref p]))) [q, rq])) (ys ++ [.ref p]) (t ++ [r]) ∧ (t ++ [r]).length = i + 1 ∧ ∀ r2 ∈ t ++ [r], rowG r2 := fun r p X hqX kX hr hG => by
          refine ⟨kX.at r9 hrqq, ?_, (k9.trans kX).off hrq, upd_same .., ?_, by rw [List.length_append, htl]; rfl, fun r2 h2 => ?_⟩
          · obtain ⟨lz, hz, hlz⟩ := hqX
            exact ⟨lz, upd_at_ne hz (Ne.symm hrqq), hlz⟩
          · rw [dels_upd (List.mem_cons_of_mem _ (List.mem_cons_self ..))]
            exact paired_app (paired_mono hT fun _ _ z => z.same (KeepM.keep (List.mem_cons_self ..) kX).dels) (.cons hr .nil)
          · rcases List.mem_append.mp h2 with z | z
            · exact htg r2 z
            · rw [List.mem_singleton.mp z]; exact hG
        have hM : ∀ X, LeftAt X q → Keep q H' X → ∀ m ∈ [q, rq], ∃ zs, X m = some (.lst zs) := fun X hqX kX m hm => by
          rcases List.mem_cons.mp hm with z | z
          · obtain ⟨lz, hz, _⟩ := hqX; rw [z]; exact ⟨_, hz⟩
          · rw [List.mem_singleton.mp z]; exact ⟨_, kX.at r9 hrqq⟩
        refine ⟨fun σ' X => ∃ (c e f : Option V), σ' = [some (.ref q), some (.ref pw), some (.ref nq), c, some (.ref rq), some (.int n), e, f, none] ∧ LeftAt X q ∧ Keep q H' X, ?_, ?_⟩
        · obtain ⟨lq, hq9, hlq⟩ := hq9
          refine ⟨_, rfl, _, _, rfl, rfl, _, rfl, ite2 (fun hc => ?_) (fun hc => ?_)⟩
          · refine ⟨_, rfl, q, lq, 3, rfl, hq9, hlq, by decide, by decide, fun j lq2 hj0 hj1 hlq2 => ⟨rfl, _, rfl, ite2 (fun _ => ?_) (fun _ => ?_)⟩⟩
            · refine ⟨_, rfl, tyL (SqL.of (upd_at_ne r9 hrqq)), _, rfl, _, rfl, q, lq2, 9, rfl, upd_same .., hlq2, by decide, by decide, fun kk lq3 hk0 hk1 hlq3 => ?_⟩
              rw [L2.upd_upd]
              refine ⟨_, rfl, q, rfl, ⟨lq3, upd_same .., hlq3⟩, fun z X hqX kX hz hzl => ⟨zl rfl, fun p hp => ?_⟩⟩
              have sX := same_new (o := .tup [.str "file", .int n, .int kk, .str z]) hp
              have hqX2 := hqX.same sX
              have kX2 : Keep q H' (upd X p (.tup [.str "file", .int n, .int kk, .str z])) := ((Keep.upd q H' _).trans kX).same sX
              obtain ⟨f1, f2, f3, f4, f5, f6, f7⟩ := finT (.file n kk z) p _ hqX2 kX2 ⟨p, rfl, dels_tup (hM _ hqX2 kX2) (.inl (.inl (upd_same ..)))⟩ ⟨hnG, hz, hzl⟩
              exact ⟨_, _, _, rfl, rfl, f1, sl' (by omega), _, _, _, _, _, _, rfl, f2, f3, f4, f5, f6, f7⟩
            · exact ⟨_, _, _, rfl, ⟨lq2, upd_same .., hlq2⟩, Keep.upd q H' _⟩
          · refine iteF ?_
            exact ⟨_, _, _, rfl, ⟨lq, hq9, hlq⟩, Keep.refl q H'⟩
        · rintro σ' X0 ⟨c, e, f, rfl, hqX, kX⟩
          refine fun dq hdq => ?_
          obtain ⟨lq, qX, hlq⟩ := hqX
          obtain ⟨X1, hX1⟩ : ∃ z, z = upd X0 dq (.dK []) := ⟨_, rfl⟩
          rw [← hX1]
          have at_dq : X1 dq = some (.dK []) := by rw [hX1, upd_same]
          have s_X1 : Same X0 X1 := by rw [hX1]; exact same_new hdq
          clear hX1
          have hdqq : dq ≠ q := ne_of_none' hdq qX
          have wX := kX.at w9 hpwq
          have nX := kX.at n9 hnqq
          have kX1 := kX.same s_X1
          refine ⟨_, rfl, q, lq, 6, rfl, s_X1 _ _ qX, hlq, by decide, by decide, fun i4 l4 hk0 hk1 hl4 => ⟨_, rfl, by omega, by omega, ?_⟩⟩
          refine for_it walk_range (fun j σ H' => ∃ (c f : Option V) (es : List (Str × Int)), σ = [some (.ref q), some (.ref pw), some (.ref nq), c, some (.ref rq), some (.int n), some (.ref dq), f, none] ∧ LeftAt H' q ∧ Keep q X0 H' ∧ H' dq = some (.dK (dkI es)) ∧ goodE es ∧ es.length ≤ j) ⟨_, _, [], rfl, ⟨l4, upd_same .., hl4⟩, (Keep.of s_X1).trans (Keep.upd q X1 _), upd_at_ne at_dq hdqq, (fun x h => nomatch h), Nat.le_refl _⟩ (fun _ _ _ _ _ => trivial) ?_ ?_
          · rintro j v σ Y0 Y hj ⟨c, f, es, rfl, ⟨lz, qY, hlz⟩, kY, dY, hes, hel⟩ ⟨rfl, rfl⟩
            have nY := kY.at nX hnqq
            have wY := kY.at wX hpwq
            refine ⟨_, rfl, zl rfl, fun p hp => ?_⟩
            obtain ⟨Y1, hY1⟩ : ∃ z, z = upd Y p (.lst [.int 0, .int 20]) := ⟨_, rfl⟩
            rw [← hY1]
            have at_p : Y1 p = some (.lst [.int 0, .int 20]) := by rw [hY1, upd_same]
            have s_Y1 : Same Y Y1 := by rw [hY1]; exact same_new hp
            clear hY1
            refine ⟨_, _, _, _, rfl, rfl, s_Y1 _ _ nY, at_p, sl' (by rw [List.length_map]; show ns.length + 2 ≤ _; omega), fun sq hsq => ?_⟩
            rw [show ns.map V.int ++ [V.int 0, .int 20] = (ns ++ [0, 20]).map V.int from by simp]
            obtain ⟨ls, hls⟩ : ∃ z, z = ns ++ [0, 20] := ⟨_, rfl⟩
            rw [← hls]
            have hlsl : ls.length = ns.length + 2 := by rw [hls]; simp
            have hlsa : ∀ m ∈ ls, 0 ≤ m ∧ m < 100000 := fun m hm => by
              rw [hls] at hm
              rcases List.mem_append.mp hm with h | h
              · have := hg m h; exact ⟨this.1, by omega⟩
              · rcases List.mem_cons.mp h with h | h
                · rw [h]; decide
                · rw [List.mem_singleton.mp h]; decide
            clear hls
            obtain ⟨Y2, hY2⟩ : ∃ z, z = upd Y1 sq (.lst (ls.map V.int)) := ⟨_, rfl⟩
            rw [← hY2]
            have at_sq : Y2 sq = some (.lst (ls.map V.int)) := by rw [hY2, upd_same]
            have s_Y2 : Same Y1 Y2 := by rw [hY2]; exact same_new hsq
            clear hY2
            have s2 := s_Y1.trans s_Y2
            have q2 := s2 _ _ qY
            have hsqq : sq ≠ q := ne_of_none' hsq (s_Y1 _ _ qY)
            refine ⟨_, rfl, _, rfl, _, _, rfl, .inl (SqL.of (s2 _ _ nY)), _, _, rfl, rfl, q, lz, _, rfl, q2, hlz, by rw [List.length_map]; omega, by rw [List.length_map]; omega, fun i5 l5 h50 h51 hl5 => ?_⟩
            rw [List.length_map] at h51
            obtain ⟨m, hm, hmm⟩ := atI_ints h50 (show i5 < (ls.length : Int) by omega)
            refine ⟨_, _, _, _, rfl, rfl, SqL.of (upd_at_ne at_sq hsqq), hm, _, rfl, _, rfl, _, rfl, q, l5, 8, rfl, upd_same .., hl5, by decide, by decide, fun i6 l6 h60 h61 hl6 => ?_⟩
            rw [L2.upd_upd]
            obtain ⟨a, ha, han⟩ := nameW h60 h61
            obtain ⟨es', he1, he2, he3⟩ := dkI_put2 es a m
            refine ⟨_, _, _, _, rfl, rfl, SqL.of (upd_at_ne (s2 _ _ wY) hpwq), ha, _, _, rfl, DPut.k (k := Sum.inr a) (upd_at_ne (s2 _ _ dY) hdqq) (sl (by unfold dkI; rw [List.length_map]; omega)), ?_⟩
            rw [he1]
            refine ⟨_, _, es', rfl, ⟨l6, upd_at_ne (upd_same ..) (Ne.symm hdqq), hl6⟩, ((kY.same s2).trans (Keep.upd q Y2 _)).off hdq, upd_same .., fun x hx => ?_, by omega⟩
            rcases he2 x hx with h | h
            · exact hes x h
            · rw [h]; exact ⟨han, hlsa m hmm⟩
          · rintro σ Y ⟨c, f, es, rfl, hqY, kY, dY, hes, hel⟩
            have hel5 : es.length ≤ 5 := by omega
            refine ⟨_, rfl, _, rfl, dq, dkI es, rfl, dY, fun Z p ts sZ hp hts hpt pZ hP => ?_⟩
            have sZ : Same Y Z := sZ
            have hqZ := hqY.same sZ
            obtain ⟨lz, qZ, hlz⟩ := hqZ
            have hpq : p ≠ q := by obtain ⟨lz, hz, _⟩ := hqY; exact ne_of_none' hp hz
            have hE := ents_items (K := K) hP
            have hEl : (ts.map V.ref).length = es.length := hE.length
            refine ⟨q, p, ts.map V.ref, rfl, ⟨lz, qZ, hlz⟩, SqL.of (del_at pZ hpq), by omega, fun tp ys Z2 hqZ2 kZ2 htp tpZ hperm => ?_⟩
            obtain ⟨es1, hes1, hE1⟩ := paired_perm hperm (paired_mono hE fun _ _ z => entAt_del qZ z)
            have hE2 : Paired (EntAt K Z2) _ es1 := paired_mono hE1 fun _ _ z => z.same kZ2
            have htp0 : X0 tp = none := by
              cases z : X0 tp with
              | none => rfl
              | some o =>
                by_cases e : tp = q
                · subst e; rw [qZ] at htp; cases htp
                · have := (kY.same sZ).at z e
                  rw [this] at htp; cases htp
            refine ⟨fun σ' X => ∃ (c : Option V) (tp : Addr) (ys : List V) (es : List (Str × Int)), σ' = [some (.ref q), some (.ref pw), some (.ref nq), c, some (.ref rq), some (.int n), some (.ref dq), some (.ref tp), none] ∧ LeftAt X q ∧ Keep q X0 X ∧ X0 tp = none ∧ X tp = some (.lst ys) ∧ Paired (EntAt K X) ys es ∧ goodE es ∧ es.length ≤ 6, ?_, ?_⟩
            · have kZ : Keep q X0 Z2 := (kY.same sZ).trans kZ2
              have g1 : goodE es1 := fun x hx => hes x (hes1.mem_iff.mp hx)
              have l1' : es1.length ≤ 5 := by rw [hes1.length_eq]; exact hel5
              have htpq : tp ≠ q := fun z => by subst z; rw [qX] at htp0; cases htp0
              obtain ⟨lz2, qZ2, hlz2⟩ := hqZ2
              refine ⟨_, rfl, rfl, _, rfl, ite2 (fun hc => ?_) (fun hc => iteF ?_)⟩
              · refine ⟨_, rfl, q, lz2, 9, rfl, qZ2, hlz2, by decide, by decide, fun i7 l7 h70 h71 hl7 => ?_⟩
                obtain ⟨Z3, hZ3⟩ : ∃ z, z = upd Z2 q (.lst (l7.map V.int)) := ⟨_, rfl⟩
                rw [← hZ3]
                have q3 : Z3 q = some (.lst (l7.map V.int)) := by rw [hZ3, upd_same]
                have k3 : Keep q X0 Z3 := by rw [hZ3]; exact kZ.trans (Keep.upd q Z2 _)
                have tp3 : Z3 tp = some (.lst ys) := by rw [hZ3]; exact upd_at_ne tpZ htpq
                have hE3 : Paired (EntAt K Z3) ys es1 := by rw [hZ3]; exact paired_mono hE2 fun _ _ z => (entAt_del qZ2 z).same (Keep.upd q Z2 _)
                clear hZ3
                refine ⟨_, _, rfl, rfl, _, rfl, ite2 (fun _ => ?_) (fun _ => ?_)⟩
                · refine ⟨_, rfl, _, rfl, ⟨_, SqL.of tp3⟩, fun D hD => lc_rel walk_list es1 hE3.length (fun e => if e.1 = "clash" then none else some e) (fun Hx v z => EntAt K Hx v z) (fun _ _ _ _ s q => q.same s) hD (fun _ s => SqL.of (s _ _ tp3)) ?_ ?_⟩
                  · rintro j e x H1 H2 he pv s4 ⟨rfl, hx⟩
                    obtain ⟨e', he', hee⟩ := paired_at hE3 hx
                    rw [he] at he'
                    obtain rfl := Option.some.inj he'
                    obtain ⟨tt, rfl, htt⟩ := hee
                    refine ⟨rfl, _, rfl, _, _, _, _, rfl, rfl, Same.tup s4 htt, at0, rfl, _, rfl, ite2 (fun h => ?_) (fun h => ?_)⟩
                    · have pv' := pv
                      obtain ⟨_, acc, hacc, _⟩ := pv'
                      refine ⟨_, rfl, pv.yes (fun _ _ _ _ s q => q.same s) hD (by omega) he (Same.refl _) (if_neg ?_) (entAt_del hacc ⟨tt, rfl, Same.tup s4 htt⟩)⟩
                      intro z
                      rw [z] at h
                      simp at h
                    · refine pv.no (fun _ _ _ _ s q => q.same s) he (Same.refl _) (if_pos ?_)
                      by_cases z : e.1 = "clash"
                      · exact z
                      · exact absurd (by simp [z]) h
                  · intro H1 zs s4 hD1 hP
                    obtain ⟨fs, hfs⟩ : ∃ z, z = es1.filterMap (fun (e : Str × Int) => if e.1 = "clash" then none else some e) := ⟨_, rfl⟩
                    rw [← hfs] at hP
                    have hfl : fs.length ≤ 5 := by rw [hfs]; exact Nat.le_trans (List.length_filterMap_le _ _) l1'
                    have hfg : goodE fs := fun x hx => by
                      rw [hfs] at hx
                      obtain ⟨y, hy, e⟩ := List.mem_filterMap.mp hx
                      by_cases z : y.1 = "clash"
                      · rw [if_pos z] at e; cases e
                      · rw [if_neg z] at e; rw [← Option.some.inj e]; exact g1 y hy
                    clear hfs
                    have hzl : zs.length = fs.length := hP.length
                    refine ⟨zl rfl, fun p8 hp8 => ?_⟩
                    obtain ⟨V1, hV1⟩ : ∃ z, z = upd H1 p8 (.tup [.str "clash", .int 1]) := ⟨_, rfl⟩
                    rw [← hV1]
                    have at_p8 : V1 p8 = some (.tup [.str "clash", .int 1]) := by rw [hV1, upd_same]
                    have s_V1 : Same H1 V1 := by rw [hV1]; exact same_new hp8
                    clear hV1
                    refine ⟨zl rfl, fun p9 hp9 => ?_⟩
                    obtain ⟨V2, hV2⟩ : ∃ z, z = upd V1 p9 (.lst [.ref p8]) := ⟨_, rfl⟩
                    rw [← hV2]
                    have at_p9 : V2 p9 = some (.lst [.ref p8]) := by rw [hV2, upd_same]
                    have s_V2 : Same V1 V2 := by rw [hV2]; exact same_new hp9
                    clear hV2
                    refine ⟨_, _, _, _, rfl, rfl, s_V2 _ _ (s_V1 _ _ hD1), at_p9, sl' (by rw [hzl]; show fs.length + 1 ≤ _; omega), fun p hp => ?_⟩
                    have sAll : Same Z3 (upd V2 p (.lst (zs ++ [.ref p8]))) := (s4.trans (s_V1.trans s_V2)).trans (same_new hp)
                    have hpq : p ≠ q := ne_of_none' hp ((s4.trans (s_V1.trans s_V2)) _ _ q3)
                    refine ⟨_, p, zs ++ [.ref p8], fs ++ [(("clash" : Str), (1 : Int))], rfl, ⟨l7, sAll _ _ q3, hl7⟩, k3.same sAll, keep_none (k3.same (s4.trans (s_V1.trans s_V2))) hp hpq, upd_same .., paired_app (paired_mono hP fun _ _ z => (z.same (del_same H1 D)).same ((s_V1.trans s_V2).trans (same_new hp))) (.cons ⟨p8, rfl, .inl (.inl (same_new hp _ _ (s_V2 _ _ at_p8)))⟩ .nil), fun x hx => ?_, by rw [List.length_append]; show fs.length + 1 ≤ 6; omega⟩
                    rcases List.mem_append.mp hx with z | z
                    · exact hfg x z
                    · rw [List.mem_singleton.mp z]; exact ⟨clash_name_ok, by decide⟩
                · exact ⟨_, tp, ys, es1, rfl, ⟨l7, q3, hl7⟩, k3, htp0, tp3, hE3, g1, by omega⟩
              · exact ⟨_, tp, ys, es1, rfl, ⟨lz2, qZ2, hlz2⟩, kZ, htp0, tpZ, hE2, g1, by omega⟩
            · rintro σ' V0 ⟨c, tp, ys, es, rfl, ⟨lz, qV, hlz⟩, kV, tp0, tpV, hE, hes, hel⟩
              have htpq : tp ≠ q := fun z => by subst z; rw [qX] at tp0; cases tp0
              have hyl : ys.length = es.length := hE.length
              refine ⟨fun σ' X => ∃ (c : Option V) (ys : List V) (es : List (Str × Int)), σ' = [some (.ref q), some (.ref pw), some (.ref nq), c, some (.ref rq), some (.int n), some (.ref dq), some (.ref tp), none] ∧ LeftAt X q ∧ Keep q X0 X ∧ X tp = some (.lst ys) ∧ Paired (EntAt K X) ys es ∧ goodE es ∧ es.length ≤ 7, ?_, ?_⟩
              · refine ⟨_, rfl, zl rfl, fun p hp => ?_⟩
                obtain ⟨V1, hV1⟩ : ∃ z, z = upd V0 p (.lst []) := ⟨_, rfl⟩
                rw [← hV1]
                have at_p : V1 p = some (.lst []) := by rw [hV1, upd_same]
                have s_V1 : Same V0 V1 := by rw [hV1]; exact same_new hp
                clear hV1
                refine ⟨_, _, .lst (SqL.of (s_V1 _ _ tpV)) (Same.dpAll s_V1 (entsAt_dp hE)), .lst (SqL.of at_p) .nil, shaped_encIs (fun e he => (hes e he).1), rfl, _, rfl, ite2 (fun hc => ?_) (fun hc => iteF ?_)⟩
                · cases hE with
                  | nil => exact absurd hc (by decide)
                  | @cons v e ys es he hr =>
                    obtain ⟨tt, rfl, htt⟩ := he
                    refine ⟨_, rfl, q, lz, 30, rfl, s_V1 _ _ qV, hlz, by decide, by decide, fun i8 l8 h80 h81 hl8 => ?_⟩
                    obtain ⟨V2, hV2⟩ : ∃ z, z = upd V1 q (.lst (l8.map V.int)) := ⟨_, rfl⟩
                    rw [← hV2]
                    have q2 : V2 q = some (.lst (l8.map V.int)) := by rw [hV2, upd_same]
                    have k2 : Keep q X0 V2 := by rw [hV2]; exact (kV.same s_V1).trans (Keep.upd q V1 _)
                    have tp2 : V2 tp = some (.lst (.ref tt :: ys)) := by rw [hV2]; exact upd_at_ne (s_V1 _ _ tpV) htpq
                    have hE2 : Paired (EntAt K V2) (.ref tt :: ys) (e :: es) := by rw [hV2]; exact paired_mono (Paired.cons ⟨tt, rfl, htt⟩ hr) fun _ _ z => (entAt_del (s_V1 _ _ qV) (z.same s_V1)).same (Keep.upd q V1 _)
                    have tt2 : SqT K V2 tt [.str e.1, .int e.2] := by
                      cases hE2 with
                      | cons z _ => obtain ⟨t2, e2, z⟩ := z; cases e2; exact z
                    clear hV2
                    refine ⟨rfl, _, rfl, ite2 (fun _ => ?_) (fun _ => ?_)⟩
                    · refine ⟨_, rfl, tyL (SqL.of tp2), _, rfl, _, _, _, _, rfl, rfl, SqL.of tp2, at0, _, _, _, _, rfl, rfl, tt2, at0, zl rfl, fun p7 hp7 => ?_⟩
                      obtain ⟨V3, hV3⟩ : ∃ z, z = upd V2 p7 (.tup [.str e.1, .int 1]) := ⟨_, rfl⟩
                      rw [← hV3]
                      have at_p7 : V3 p7 = some (.tup [.str e.1, .int 1]) := by rw [hV3, upd_same]
                      have s_V3 : Same V2 V3 := by rw [hV3]; exact same_new hp7
                      clear hV3
                      have tp3 := s_V3 _ _ tp2
                      refine ⟨_, _, _, rfl, rfl, tp3, sl' (by omega), ?_⟩
                      refine ⟨_, _, (e :: es) ++ [(e.1, 1)], rfl, ⟨l8, upd_at_ne (s_V3 _ _ q2) (Ne.symm htpq), hl8⟩, (k2.same s_V3).off tp0, upd_same .., paired_mono (paired_app (paired_mono hE2 fun _ _ z => z.same s_V3) (.cons ⟨p7, rfl, .inl (.inl at_p7)⟩ .nil)) fun _ _ z => (entAt_del tp3 z).same (Keep.upd tp V3 _), fun x hx => ?_, by rw [List.length_append]; show (e :: es).length + 1 ≤ 7; omega⟩
                      rcases List.mem_append.mp hx with z | z
                      · exact hes x z
                      · rw [List.mem_singleton.mp z]; exact ⟨(hes e (List.mem_cons_self ..)).1, (by decide : (0 : Int) ≤ 1), (by decide : (1 : Int) < 100000)⟩
                    · exact ⟨_, _, _, rfl, ⟨l8, q2, hl8⟩, k2, tp2, hE2, hes, by omega⟩
                · exact ⟨_, _, _, rfl, ⟨lz, s_V1 _ _ qV, hlz⟩, kV.same s_V1, s_V1 _ _ tpV, paired_mono hE fun _ _ z => z.same s_V1, hes, by omega⟩
              · rintro σ' V1 ⟨c, ys2, es2, rfl, hqV1, kV1, tpV1, hE1, hes1, hel1⟩
                have kV1' := kX.trans kV1
                refine ⟨_, rfl, tyL (SqL.of (kV1'.at r9 hrqq)), _, rfl, _, rfl, zl rfl, fun p hp => ?_⟩
                have sX := same_new (o := .tup [.str "folder", .int n, .ref tp]) hp
                have hqX2 := hqV1.same sX
                have kX2 := kV1'.same sX
                have hM2 := hM _ hqX2 kX2
                have htpM : tp ∉ [q, rq] := fun z => by
                  rcases List.mem_cons.mp z with z | z
                  · exact htpq z
                  · rw [List.mem_singleton.mp z, kX.at r9 hrqq] at tp0; cases tp0
                obtain ⟨f1, f2, f3, f4, f5, f6, f7⟩ := finT (.fold n es2) p _ hqX2 kX2 ⟨p, .ref tp, rfl, dels_tup hM2 (.inl (.inl (upd_same ..))), tp, ys2, rfl, SqL.of (by rw [dels_out htpM]; exact sX _ _ tpV1), paired_mono hE1 fun _ _ z => entAt_dels hM2 (z.same sX)⟩ ⟨hnG, hes1, hel1⟩
                exact ⟨_, _, _, rfl, rfl, f1, sl' (by omega), _, _, _, _, _, _, rfl, f2, f3, f4, f5, f6, f7⟩
      · rintro σ H9 ⟨c, d, e, f, ys, t, rfl, hq9, k9, r9, hT, htl, htg⟩
        have hyl : ys.length = t.length := hT.length
        have htl2 : t.length ≤ 15 := by rw [htl, List.length_map]; exact hnl
        refine ⟨_, rfl, _, rfl, q, rq, ys, rfl, hq9, SqL.of (del_at r9 hrqq), by omega, fun p ys2 H' hq' k' hp hp' hperm => ?_⟩
        obtain ⟨t', ht', hP⟩ := paired_perm hperm hT
        have hG : ∀ r ∈ t', rowG r := fun r h => htg r (ht'.mem_iff.mp h)
        have hpq : p ≠ q := by obtain ⟨lz, hz, _⟩ := hq9; exact ne_of_none' hp hz
        exact k p t' H' hq' ((k7.trans k9).trans k') ⟨p, ys2, rfl, SqL.of (del_at hp' hpq), paired_mono hP fun _ _ r => r.same (dels2_del.trans k'.del)⟩ (fine_of hG) (small_of hG (by rw [ht'.length_eq]; exact htl2)) (fun _ m => nums_of hG m)
end
end K81
set_option maxHeartbeats 4000000
namespace K81
open PySem PySem.Spec PyProof.Rows L2
/-! ### a table's data -/
def encR : Row → PyData
  | .fold n es => .tuple [.str "folder", .int n, .list (es.map encI)]
  | .file n k c => .tuple [.str "file", .int n, .int k, .str c]
theorem rowAt_dp {K : PySem.W.Frag} {H : Hp} {v : V} : ∀ {r : Row}, RowAt K H v r → Dp K H v (encR r)
  | .fold n es, h => by
    obtain ⟨t, u, rfl, ht, l, xs, rfl, hs, hp⟩ := h
    exact .tup ht (.cons (.str _) (.cons (.int _) (.cons (.lst hs (entsAt_dp hp)) .nil)))
  | .file n k c, h => by
    obtain ⟨t, rfl, ht⟩ := h
    exact .tup ht (.cons (.str _) (.cons (.int _) (.cons (.int _) (.cons (.str _) .nil))))
theorem rowsAt_dp {K : PySem.W.Frag} {H : Hp} : ∀ {xs : List V} {t : List Row}, Paired (RowAt K H) xs t → DpAll K H xs (t.map encR)
  | _, _, .nil => .nil
  | _, _, .cons h r => .cons (rowAt_dp h) (rowsAt_dp r)
theorem tabAt_dp {K : PySem.W.Frag} {H : Hp} {v : V} {t : List Row} (h : TabAt K H v t) : Dp K H v (.list (t.map encR)) := by
  obtain ⟨l, xs, rfl, hs, hp⟩ := h
  exact .lst hs (rowsAt_dp hp)
theorem gds_map {α : Type} {f : α → PyData} : ∀ {l : List α}, (∀ x ∈ l, gd (f x) = true) → gds (l.map f) = true
  | [], _ => rfl
  | x :: l, h => by
    have h1 := h x (List.mem_cons_self ..)
    have h2 := gds_map (l := l) fun y m => h y (List.mem_cons_of_mem _ m)
    simp [gds, h1, h2]
theorem depthAll_map {α : Type} {f : α → PyData} {n : Nat} : ∀ {l : List α}, (∀ x ∈ l, (f x).depth ≤ n) → PyData.depthAll (l.map f) ≤ n
  | [], _ => by simp [PyData.depthAll]
  | x :: l, h => by
    have h1 := h x (List.mem_cons_self ..)
    have h2 := depthAll_map (l := l) fun y m => h y (List.mem_cons_of_mem _ m)
    simp only [List.map_cons, PyData.depthAll]
    omega
theorem gd_encR {r : Row} (h : ∀ n es, r = .fold n es → es.length ≤ 1000) : gd (encR r) = true := by
  cases r with
  | fold n es =>
    have h1 : gds (es.map encI) = true := gds_map fun x _ => by simp [encI, gd, gds]
    have h2 := h n es rfl
    simp [encR, gd, gds, h1, h2]
  | file n k c => simp [encR, gd, gds]
theorem gd_tab {t : List Row} {a b : Nat} (h : Small a b t) (ha : a ≤ 1000) (hb : b ≤ 1000) : gd (.list (t.map encR)) = true := by
  have h1 : gds (t.map encR) = true := gds_map fun r hr => gd_encR fun n es e => by
    have := h.ents n es (mem_fo.mpr (by rw [← e]; exact hr))
    omega
  have h2 : t.length ≤ 1000 := Nat.le_trans h.rows ha
  simp [gd, h1, h2]
theorem depth_tab (t : List Row) : (PyData.list (t.map encR)).depth ≤ 4 := by
  have : PyData.depthAll (t.map encR) ≤ 3 := depthAll_map fun r _ => by
    cases r with
    | fold n es =>
      have := depth_encIs es
      simp only [encR, PyData.depth, PyData.depthAll]
      omega
    | file n k c =>
      simp only [encR, PyData.depth, PyData.depthAll]
      omega
  simp only [PyData.depth]
  omega
/-! ### the nodes of a mended table are those of the table -/
theorem dle_antisymm_int {n m : Int} (h : n ≠ m) {xs ys : List PyData} (h1 : dle (.tuple (.int n :: xs)) (.tuple (.int m :: ys)) = true) (h2 : dle (.tuple (.int m :: ys)) (.tuple (.int n :: xs)) = true) : False := by
  have e1 : PySem.W.dataLt (.tuple (.int m :: ys)) (.tuple (.int n :: xs)) = decide (m < n) := by
    rw [PySem.W.dataLt_tuple, PySem.W.dataLt_cons (by simp [PySem.W.alike]), PySem.W.dataLt_int, if_neg (by simp only [PyData.eqv, beq_iff_eq]; exact fun e => h e.symm)]
  have e2 : PySem.W.dataLt (.tuple (.int n :: xs)) (.tuple (.int m :: ys)) = decide (n < m) := by
    rw [PySem.W.dataLt_tuple, PySem.W.dataLt_cons (by simp [PySem.W.alike]), PySem.W.dataLt_int, if_neg (by simp only [PyData.eqv, beq_iff_eq]; exact h)]
  have h1' : (!PySem.W.dataLt (.tuple (.int m :: ys)) (.tuple (.int n :: xs))) = true := h1
  have h2' : (!PySem.W.dataLt (.tuple (.int n :: xs)) (.tuple (.int m :: ys))) = true := h2
  rw [e1] at h1'
  rw [e2] at h2'
  simp at h1' h2'
  omega
theorem encN_num {r s : Row} (h : encN r = encN s) : r.num = s.num := by
  cases r <;> cases s <;> simp [encN] at h <;> simp [Row.num, h]
theorem encN_dle {r s : Row} (h : r.num ≠ s.num) (h1 : dle (encN r) (encN s) = true) (h2 : dle (encN s) (encN r) = true) : False := by
  cases r <;> cases s <;> exact dle_antisymm_int h h1 h2
theorem num_inj : ∀ {t : List Row} {r s : Row}, (nums t).Nodup → r ∈ t → s ∈ t → r.num = s.num → r = s
  | x :: t, r, s, h, hr, hs, e => by
    have h' := List.nodup_cons.mp (show (x.num :: nums t).Nodup from h)
    rcases List.mem_cons.mp hr with z | z
    · rcases List.mem_cons.mp hs with y | y
      · rw [z, y]
      · exact absurd (List.mem_map.mpr ⟨s, y, by rw [← e, z]⟩) h'.1
    · rcases List.mem_cons.mp hs with y | y
      · exact absurd (List.mem_map.mpr ⟨r, z, by rw [e, y]⟩) h'.1
      · exact num_inj h'.2 z y e
theorem nodes_nodup {t : List Row} (h : (nums t).Nodup) : (t.map encN).Nodup := by
  have : t.Pairwise fun a b => a.num ≠ b.num := List.pairwise_map.mp h
  exact List.pairwise_map.mpr (this.imp fun q e => q (encN_num e))
theorem nodes_mem {t : List Row} {d : PyData} : d ∈ t.map encN ↔ (∃ n, (∃ es, (n, es) ∈ fo t) ∧ d = .tuple [.int n, .str "folder"]) ∨ ∃ n k c, (n, k, c) ∈ fi t ∧ d = .tuple [.int n, .str "file", .int k, .str c] := by
  constructor
  · intro h
    obtain ⟨r, hr, rfl⟩ := List.mem_map.mp h
    cases r with
    | fold n es => exact .inl ⟨n, ⟨es, mem_fo.mpr hr⟩, rfl⟩
    | file n k c => exact .inr ⟨n, k, c, mem_fi.mpr hr, rfl⟩
  · rintro (⟨n, ⟨es, h⟩, rfl⟩ | ⟨n, k, c, h, rfl⟩)
    · exact List.mem_map.mpr ⟨_, mem_fo.mp h, rfl⟩
    · exact List.mem_map.mpr ⟨_, mem_fi.mp h, rfl⟩
theorem nodes_same {a b : Nat} {t t' : List Row} (hn : (nums t).Nodup) (h : MendOk a b t t') : (t'.map encN).mergeSort dle = (t.map encN).mergeSort dle := by
  have hn' := h.canon.once.nums
  have hp : (t'.map encN).Perm (t.map encN) := (List.perm_ext_iff_of_nodup (nodes_nodup hn') (nodes_nodup hn)).mpr fun d => by
    rw [nodes_mem, nodes_mem]
    have e1 : ∀ n, (∃ es, (n, es) ∈ fo t') ↔ ∃ es, (n, es) ∈ fo t := h.fk
    have e2 : ∀ n k c, (n, k, c) ∈ fi t' ↔ (n, k, c) ∈ fi t := h.fi
    simp only [e1, e2]
  refine List.Perm.eq_of_pairwise (fun x y hx hy h1 h2 => ?_) (srt_pw id _) (srt_pw id _) (((srt_perm id _).trans hp).trans (srt_perm id _).symm)
  obtain ⟨r, hr, rfl⟩ := List.mem_map.mp ((srt_perm id _).subset hx)
  obtain ⟨s, hs, rfl⟩ := List.mem_map.mp (hp.symm.subset ((srt_perm id _).subset hy))
  by_cases e : r.num = s.num
  · have : r = s := num_inj hn' hr hs e
    rw [this]
  · exact (encN_dle e h1 h2).elim
/-! ### a shelf made of the table -/
section
variable {t : List Row} {A : FAt} {G : List (Int × Int × Str)}
theorem OfRows.mem (h : OfRows t A G) {n : Int} {es : List (Str × Int)} : (n, es) ∈ plainF A ↔ ∃ fs, (n, fs) ∈ K81.fo t ∧ es = fs.mergeSort ile := by
  rw [h.fo.mem_iff]
  constructor
  · intro q
    obtain ⟨⟨m, fs⟩, h1, h2⟩ := List.mem_map.mp q
    simp only [Prod.mk.injEq] at h2
    exact ⟨fs, by rw [← h2.1]; exact h1, h2.2.symm⟩
  · rintro ⟨fs, h1, rfl⟩
    exact List.mem_map.mpr ⟨_, h1, rfl⟩
theorem OfRows.sh (h : OfRows t A G) : shF (plainF A) G = shT t := by
  refine Sh.ext' (fun n => ?_) (fun w a n => ?_) (fun n k c => h.fi.mem_iff)
  · constructor
    · rintro ⟨es, q⟩
      obtain ⟨fs, h1, _⟩ := h.mem.mp q
      exact ⟨fs, h1⟩
    · rintro ⟨fs, q⟩
      exact ⟨_, h.mem.mpr ⟨fs, q, rfl⟩⟩
  · show (w, a, n) ∈ flat _ ↔ (w, a, n) ∈ flat _
    rw [mem_flat, mem_flat]
    constructor
    · rintro ⟨es, h1, h2⟩
      obtain ⟨fs, h3, rfl⟩ := h.mem.mp h1
      exact ⟨fs, h3, (srt_perm encI fs).subset h2⟩
    · rintro ⟨fs, h1, h2⟩
      exact ⟨_, h.mem.mpr ⟨fs, h1, rfl⟩, (srt_perm encI fs).symm.subset h2⟩
theorem OfRows.keys (h : OfRows t A G) : ((plainF A).map (·.1)).Perm ((K81.fo t).map (·.1)) := by
  have := h.fo.map (·.1)
  rw [List.map_map] at this
  exact this
theorem OfRows.once (h : OfRows t A G) (ho : Once t) : OnceO (plainF A) G := by
  have o := ho.o
  refine ⟨h.keys.nodup_iff.mpr o.fk, (h.fi.map (·.1)).nodup_iff.mpr o.gk, fun n hn => fun hg => o.dis n (h.keys.subset hn) ((h.fi.map (·.1)).subset hg), fun w es m => ?_⟩
  obtain ⟨fs, h1, rfl⟩ := h.mem.mp m
  exact ((srt_perm encI fs).map (·.1)).nodup_iff.mpr (o.names w fs h1)
theorem OfRows.canon (h : OfRows t A G) (hc : Canon t) {ks : List Int} (hk : ks.Perm ((plainF A).map (·.1) ++ G.map (·.1))) (hs : ks.Pairwise (· ≤ ·)) : canonT (plainF A) G ks = t :=
  have ho := h.once hc.once
  canon_eq (canon_canon ho hk hs) hc ((canon_sh ho hk).trans h.sh)
theorem OfRows.nums (h : OfRows t A G) {n : Int} : (n ∈ keysA A ∨ n ∈ G.map (·.1)) ↔ n ∈ nums t := by
  rw [(nums_perm t).mem_iff, List.mem_append, ← keysA_plain, h.keys.mem_iff, (h.fi.map (·.1)).mem_iff]
theorem OfRows.rows (h : OfRows t A G) : A.length + G.length = t.length := by
  have h1 := (nums_perm t).length_eq
  have h2 := h.keys.length_eq
  have h3 := h.fi.length_eq
  rw [List.length_append, List.length_map, List.length_map] at h1
  rw [List.length_map, List.length_map] at h2
  have h4 : (K81.nums t).length = t.length := List.length_map ..
  have h5 : (plainF A).length = A.length := List.length_map ..
  omega
/-- a shelf of a table in order -/
theorem shOk_of {a b : Nat} {k : Int} (h : OfRows t A G) (hc : Canon t) (hf : Fine t) (ho : Ord (shT t)) (hs : Small a b t) (hk : ∀ n ∈ K81.nums t, n ≤ k) : ShOk A G k a b := by
  have hO := h.once hc.once
  refine ⟨ordP_iff.mp (by rw [h.sh]; exact ho), fun n hn => hO.dis n (by rw [keysA_plain]; exact hn), ⟨fun w es m e he => ?_, fun n hn => hf.nums n (h.nums.mp (.inl (by rw [← keysA_plain]; exact hn))), fun n hn => hf.nums n (h.nums.mp (.inr hn)), fun n k c m => hf.text n k c (h.fi.mem_iff.mp m)⟩, fun n hn => hk n (h.nums.mp hn), by rw [h.rows]; exact hs.rows, fun x hx => ?_⟩
  · obtain ⟨fs, h1, rfl⟩ := h.mem.mp m
    exact hf.ents w fs h1 e ((srt_perm encI fs).subset he)
  · obtain ⟨fs, h1, h2⟩ := h.mem.mp (plainF_mem.mpr ⟨x.2.1, hx⟩)
    rw [h2, (srt_perm encI fs).length_eq]
    exact hs.ents _ fs h1
end
end K81
set_option maxHeartbeats 4000000
namespace K81
open PySem PySem.Spec PyProof.Rows L2
def spRight (K : PySem.W.Frag) : Sp := fun vs H Q _ => ∃ (tab found : V) (t t' : List Row), vs = [tab, found] ∧ TabAt K H tab t ∧ Fine t ∧ Small 15 7 t ∧ ¬ Beyond t ∧ TabAt K H found t' ∧ MendOk 15 7 t t' ∧ ∀ H', Same H H' → Q (.bl true) H'
theorem On.le' {K : PySem.W.Frag} {R H : Hp} {C p : Addr} {rest : List (Str × V)} {A : FAt} {G : List (Int × Int × Str)} (h : On K R H C p rest A G) : Same R H := by
  obtain ⟨dx, d, e, gs, h1, h2, h3, h4, h5, h6, h7, h8, h9⟩ := h
  exact h8
theorem canLayAll0_of : ∀ {l : List PyData}, (∀ d ∈ l, PyData.canLay0 d = true) → PyData.canLayAll0 l = true
  | [], _ => rfl
  | x :: l, h => by
    have h1 := h x (List.mem_cons_self ..)
    have h2 := canLayAll0_of (l := l) fun y m => h y (List.mem_cons_of_mem _ m)
    simp [PyData.canLayAll0, h1, h2]
theorem depthAll_of {n : Nat} : ∀ {l : List PyData}, (∀ d ∈ l, d.depth ≤ n) → PyData.depthAll l ≤ n
  | [], _ => by simp [PyData.depthAll]
  | x :: l, h => by
    have h1 := h x (List.mem_cons_self ..)
    have h2 := depthAll_of (l := l) fun y m => h y (List.mem_cons_of_mem _ m)
    simp only [PyData.depthAll]
    omega
theorem nodes_lay {t : List Row} (hf : Fine t) : PyData.canLay0 (.list ((t.map encN).mergeSort dle)) = true := by
  simp only [PyData.canLay0]
  refine canLayAll0_of fun d hd => ?_
  obtain ⟨r, hr, rfl⟩ := List.mem_map.mp ((srt_perm id _).subset hd)
  cases r with
  | fold n es =>
    have h1 : PyData.strOk "folder" = true := by decide +kernel
    simp [encN, PyData.canLay0, PyData.canLayAll0, h1]
  | file n k c =>
    have h1 : PyData.strOk "file" = true := by decide +kernel
    have h2 := (hf.text n k c (mem_fi.mpr hr)).1
    simp [encN, PyData.canLay0, PyData.canLayAll0, h1, h2]
theorem nodes_shaped {t : List Row} (hf : Fine t) : SeqAt.shaped (.list ((t.map encN).mergeSort dle)) = true := by
  have h1 : PyData.depthAll ((t.map encN).mergeSort dle) ≤ 1 := depthAll_of fun d hd => by
    obtain ⟨r, hr, rfl⟩ := List.mem_map.mp ((srt_perm id _).subset hd)
    cases r <;> simp [encN, PyData.depth, PyData.depthAll]
  show (PyData.canLay0 (.list ((t.map encN).mergeSort dle)) && decide (PyData.depth (.list ((t.map encN).mergeSort dle)) ≤ 64)) = true
  rw [nodes_lay hf, Bool.true_and]
  refine decide_eq_true ?_
  simp only [PyData.depth]
  omega
/-! ### every node has a way from the root -/
theorem enA_keys {A : FAt} {w n : Int} {a : Str} (h : enA A w a n) : w ∈ keysA A := by
  obtain ⟨es, h1, _⟩ := mem_flat.mp h
  exact keysA_fk.mp ⟨es, h1⟩
theorem ShOk.way {A : FAt} {G : List (Int × Int × Str)} {k : Int} {r b : Nat} (h : ShOk A G k r b) {n : Int} (hn : n ∈ keysA A ∨ n ∈ G.map (·.1)) : ∃ ns, Way A 0 ns n := by
  obtain ⟨rk, hrk⟩ := h.ord.rk
  have fold : ∀ (m : Nat) (n : Int), rk n ≤ m → n ∈ keysA A → ∃ ns, Way A 0 ns n := by
    intro m
    induction m with
    | zero =>
      intro n hm hn
      by_cases z : n = 0
      · exact ⟨[], by rw [z]; exact .nil⟩
      · obtain ⟨w, a, e, _⟩ := h.ord.one n hn z
        have := hrk w a n e hn
        omega
    | succ m ih =>
      intro n hm hn
      by_cases z : n = 0
      · exact ⟨[], by rw [z]; exact .nil⟩
      · obtain ⟨w, a, e, _⟩ := h.ord.one n hn z
        have := hrk w a n e hn
        obtain ⟨ns, hw⟩ := ih w (by omega) (enA_keys e)
        exact ⟨_, hw.snoc e⟩
  rcases hn with hn | hn
  · exact fold _ n (Nat.le_refl _) hn
  · obtain ⟨w, a, e⟩ := h.ord.loose n hn
    obtain ⟨ns, hw⟩ := fold _ w (Nat.le_refl _) (enA_keys e)
    exact ⟨_, hw.snoc e⟩
theorem rowAt_numR {K : PySem.W.Frag} {H : Hp} {v : V} : ∀ {r : Row}, RowAt K H v r → ∃ t xs, v = .ref t ∧ SqT K H t xs ∧ atI xs 1 = some (.int r.num)
  | .fold n es, h => by
    obtain ⟨t, u, rfl, ht, _⟩ := h
    exact ⟨t, _, rfl, ht, at1⟩
  | .file n k c, h => by
    obtain ⟨t, rfl, ht⟩ := h
    exact ⟨t, _, rfl, ht, at1⟩
theorem strOk_path {ns : List Str} (h : ∀ a ∈ ns, isName a = true) : PyData.strOk (pathOf ns) = true := by
  unfold pathOf
  split
  · decide +kernel
  · refine strOk_of fun c hc => ?_
    rw [show (wy ns).cps.toList = wayL ns from tl_wy ns] at hc
    obtain ⟨a, ha, hm⟩ := List.mem_flatMap.mp hc
    rcases List.mem_cons.mp hm with rfl | hm
    · decide
    · have h1 := isName_ok (h a ha)
      unfold PyData.strOk at h1
      rw [← Array.all_toList, List.all_eq_true] at h1
      exact of_decide_eq_true (h1 c hm)
theorem strs_shaped {gs : List Str} (h : ∀ g ∈ gs, PyData.strOk g = true) : SeqAt.shaped (.list (gs.map PyData.str)) = true := by
  have h1 : PyData.depthAll (gs.map PyData.str) ≤ 0 := depthAll_of fun d hd => by
    obtain ⟨g, hg, rfl⟩ := List.mem_map.mp hd
    simp [PyData.depth]
  have h2 : PyData.canLayAll0 (gs.map PyData.str) = true := canLayAll0_of fun d hd => by
    obtain ⟨g, hg, rfl⟩ := List.mem_map.mp hd
    exact h g hg
  show (PyData.canLay0 (.list (gs.map PyData.str)) && decide (PyData.depth (.list (gs.map PyData.str)) ≤ 64)) = true
  rw [show PyData.canLay0 (.list (gs.map PyData.str)) = PyData.canLayAll0 (gs.map PyData.str) from rfl, h2, Bool.true_and]
  refine decide_eq_true ?_
  simp only [PyData.depth]
  omega
theorem eqv_nonempty {gs : List Str} (h : gs ≠ []) : PyData.eqv (.list (gs.map PyData.str)) (.list []) = false := by
  cases gs with
  | nil => exact absurd rfl h
  | cons g r => rfl
section
variable {P : Program} {w : World} {K : PySem.W.Frag} {mg : Str → Option Value} {base : Heap}
abbrev N_l_right : List Str := ["_law_table", "_law_found", "_law_mine", "_law_row", "_law_ways", "_law_way"]
theorem sc_l_right : FnScope N_l_right ["_law_table", "_law_found"] (defScope s_l_right) := ⟨rfl, rfl, rfl, by decide +kernel, rfl, by decide +kernel, by decide +kernel⟩
theorem ok_l_right (T : Tx K mg base) : OkD P w K mg base d_l_right.at_ 10 ["_law_table", "_law_found"] (spRight K) := by
  have G_shelf_of := ok_shelf_of (P := P) (w := w) T
  have G_paths_of := ok_paths_of (P := P) (w := w) T
  have G_l_first := ok_l_first (P := P) (w := w) T
  have G_looked := ok_looked (P := P) (w := w) T
  have G_l_nodes := ok_l_nodes (P := P) (w := w) T
  have G_l_same := ok_l_same (P := P) (w := w) T
  have G_rows_of := ok_rows_of (P := P) (w := w) T
  have G_mended := ok_mended (P := P) (w := w) T
  have G_node_at := ok_node_at (P := P) (w := w) T
  refine okD_of T.F_l_right sc_l_right (fun _ _ _ _ _ _ us hl => match us, hl with | [_, _], _ => rfl) (fun vs H Q E h => ?_) (fun cdv A outer s H vs Q E hr h => ?_)
  · obtain ⟨tab, found, t, t', rfl, _⟩ := h
    rfl
  · obtain ⟨tab, found, t, t', rfl, ht, hf, hs, hb, hfd, hm, k⟩ := h
    have hu := hu_of hr
    have hio : InOrder t' := inOrder_of hm.canon.once hm.order
    have hs' : Small 15 22 t' := hm.small
    have hsL : Small 63 1000 t' := hs'.mono (by decide) (by decide)
    refine ⟨_, (pss_cons (ps_if (PW.pt (pw_or (pt_cmp (pc_notN (pe_callO G_l_first hr (by decide) T.g_law_first (pa_cons (pv 1) pa_nil)))) (pw_or (pt_cmp (pc_notN (pe_callO G_looked hr (by decide) T.g_looked (pa_cons (pv 1) pa_nil)))) (pw_or1 (pt_cmpR (op_neD hr.units) (pe_callO G_l_nodes hr (by decide) T.g_law_nodes (pa_cons (pv 1) pa_nil)) (pe_callO G_l_nodes hr (by decide) T.g_law_nodes (pa_cons (pv 0) pa_nil)) (nomark _)))))) (pss_one (ps_ret pe_bl)) pss_nil)
      (pss_cons (ps_set (i := 2) sc_l_right.nd rfl (by first | exact Or.inl rfl | exact Or.inr rfl) (pe_callO G_shelf_of hr (by decide) T.g_shelf_of (pa_cons (pv 1) pa_nil)))
      (pss_cons (ps_if (PW.pt (pw_or (pt_not (pt_val (pe_callO G_l_same hr (by decide) T.g_law_same (pa_cons (pe_callO G_rows_of hr (by decide) T.g_rows_of (pa_cons (pv 2) pa_nil)) (pa_cons (pv 1) pa_nil))))) (pw_or1 (pt_not (pt_val (pe_callO G_l_same hr (by decide) T.g_law_same (pa_cons (pe_callOL G_mended hr (by decide) T.g_mended (pa_cons (pv 1) pa_nil)) (pa_cons (pv 1) pa_nil)))))))) (pss_one (ps_ret pe_bl)) pss_nil)
      (pss_cons (ps_for PassesOwn.never rfl (pi_list (pv 1)) (pg_name (i := 3) sc_l_right.nd rfl (by first | exact Or.inl rfl | exact Or.inr rfl)) (pss_cons (ps_set (i := 4) sc_l_right.nd rfl (by first | exact Or.inl rfl | exact Or.inr rfl) (pe_callO G_paths_of hr (by decide) T.g_paths_of (pa_cons (pv 2) (pa_cons (pe_ix (ix_tupK K) (pv 3) pe_int (fun _ _ => rfl)) pa_nil))))
      (pss_one (ps_if (PW.pt (pw_or (pt_cmpR (op_eqD hr.units) (pv 4) (pe_lst pa_nil) (nomark _)) (pw_or1 (pt_not (pt_val (pe_callB (cr_all rfl) (by rfl) T.z_all (show bootBuiltins "all" = some (.builtin "all") by decide +kernel) (pa_cons (pe_lc (own := [("_law_way", 5)]) rfl sc_l_right.nd (pi_list (pv 4)) (blkOk_by (N := N_l_right) (sc := defScope s_l_right) (by decide +kernel)) (fun _ _ _ _ _ => (pg_name (i := 5) sc_l_right.nd rfl (Or.inl rfl))) (fun _ _ _ _ _ => pts_nil) (fun _ _ _ _ _ => (pe_cmpR op_eq (pe_callO G_node_at hr (by decide) T.g_node_at (pa_cons (pv 2) (pa_cons (pv 5) pa_nil))) (pe_ix (ix_tupK K) (pv 3) pe_int (fun _ _ => rfl)) (nomark _)))) pa_nil))))))) (pss_one (ps_ret pe_bl)) pss_nil))))
      (pss_one (ps_ret pe_bl)))))), ?_⟩
    refine ⟨_, rfl, found, t', rfl, hfd, hm.fine, hsL, fun v H1 s1 hv => ?_⟩
    obtain rfl := hv.2 hio
    refine ⟨_, rfl, ite2 (fun z => absurd z (by simp)) (fun _ => ?_)⟩
    refine ⟨_, rfl, found, t', rfl, hfd.same s1, hm.fine, hsL, fun v H2 s2 hv => ?_⟩
    obtain rfl := hv.2 hio
    have s02 := s1.trans s2
    refine ⟨_, rfl, ite2 (fun z => absurd z (by simp)) (fun _ => ?_)⟩
    refine ⟨_, rfl, found, t', rfl, hfd.same s02, Nat.le_trans hs'.rows (by decide), fun p1 ys1 H3 s3 hp1 hd1 => ?_⟩
    have s03 := s02.trans s3
    refine ⟨_, rfl, tab, t, rfl, ht.same s03, Nat.le_trans hs.rows (by decide), fun p2 ys2 H4 s4 hp2 hd2 => ?_⟩
    have s04 := s03.trans s4
    rw [nodes_same (once_of hb).nums hm] at hd1
    refine ⟨_, _, .lst (SqL.of (s4 _ _ hp1)) (Same.dpAll s4 hd1), .lst (SqL.of hp2) hd2, nodes_shaped hf, nodes_shaped hf, ?_⟩
    rw [SeqAt.eqv_refl _ (nodes_lay hf)]
    refine ⟨_, rfl, iteF ?_⟩
    clear hd1 hd2 hp1 hp2
    -- the shelf
    refine ⟨_, rfl, found, t', rfl, hfd.same s04, hm.fine, hsL, hio, fun p A G kk H5 hOn hrows hle hkm => ?_⟩
    have hOo := hrows.once hm.canon.once
    have hSh : ShOk A G kk 15 22 := shOk_of hrows hm.canon hm.fine hm.order hs' hle
    have dpF : ∀ {H9 : Hp}, Same H H9 → Dp K H9 found (.list (t'.map encR)) := fun s => tabAt_dp (hfd.same s)
    have hgd : gd (.list (t'.map encR)) = true := gd_tab hs' (by decide) (by decide)
    have hl1 : A.length + G.length ≤ 1000 := Nat.le_trans hSh.rows (by decide)
    have hl2 : ∀ w es, (w, es) ∈ plainF A → es.length ≤ 10000 := fun w es m => by
      obtain ⟨a, q⟩ := plainF_mem.mp m
      have := hSh.len _ q
      simp only at this
      omega
    refine ⟨_, rfl, p, H4, _, A, G, rfl, hOn, hOo, hl1, hl2, fun v ks H6 s6 hks hpw hT => ?_⟩
    rw [hrows.canon hm.canon hks hpw] at hT
    have s05 : Same H H5 := s04.trans hOn.le'
    have s06 := s05.trans s6
    refine ⟨_, rfl, v, found, _, rfl, tabAt_dp hT, dpF s06, hgd, depth_tab t', fun H7 s7 => ?_⟩
    refine ⟨_, rfl, iteF ?_⟩
    have s07 := s06.trans s7
    refine ⟨_, rfl, found, t', 15, 22, rfl, hfd.same s07, hm.fine, hs', by decide, fun z => absurd z hio.1, fun _ v2 t2 H8 s8 hT2 hm2 => ?_⟩
    obtain rfl : t2 = t' := hm2.same hm.canon hio
    have s08 := s07.trans s8
    refine ⟨_, rfl, v2, found, _, rfl, tabAt_dp hT2, dpF s08, hgd, depth_tab t2, fun H9 s9 => ?_⟩
    refine ⟨_, rfl, iteF ?_⟩
    have s09 := s08.trans s9
    have hOn9 : On K H4 H9 (He.ga K "Shelf") p (lastF kk) A G := ((hOn.same s6).same s7).same (s8.trans s9)
    obtain ⟨l, xs, rfl, hsl, hpx⟩ := hfd
    clear hT hT2 dpF hOn s06 s07 s08 s6 s7 s8 s9
    refine ⟨_, rfl, _, rfl, ⟨_, Same.seq s09 hsl⟩, ?_⟩
    refine for_it (walk_list (xs := xs)) (fun i σ H' => ∃ a b, σ = [some tab, some (.ref l), some (.ref p), a, b, none] ∧ Same H9 H') ⟨_, _, rfl, Same.refl _⟩ (fun i σ H' _ hp => ?_) ?_ ?_
    · obtain ⟨_, _, _, s⟩ := hp
      exact Same.seq (s09.trans s) hsl
    · rintro i v σ H10 H' hi ⟨a, b, rfl, s10⟩ ⟨rfl, hv⟩
      obtain ⟨r, hr, hrow⟩ := paired_at hpx hv
      have hrm : r ∈ t2 := List.mem_of_getElem? hr
      obtain ⟨rt, rxs, rfl, hrt, hat⟩ := rowAt_numR hrow
      have s010 := s09.trans s10
      have hrn : r.num ∈ keysA A ∨ r.num ∈ G.map (·.1) := hrows.nums.mpr (List.mem_map.mpr ⟨r, hrm, rfl⟩)
      have hel : (edges A 0).length ≤ 900 := by
        have h1 := flatA_len hSh.len
        have h2 : A.length * 22 ≤ 15 * 22 := Nat.mul_le_mul_right _ (Nat.le_trans (Nat.le_add_right _ _) hSh.rows)
        show (rootE 0 :: flat (plainF A)).length ≤ 900
        rw [List.length_cons]
        omega
      refine ⟨_, rfl, _, rfl, _, _, _, _, rfl, rfl, Same.tup s010 hrt, hat, p, H4, A, G, kk, r.num, rfl, hOn9.same s10, hSh.tree, hSh.name, hel, fun q gs H11 s11 hq hgl hgs hne => ?_⟩
      have hne := hne (hSh.way hrn)
      refine ⟨_, rfl, zl rfl, fun p2 hp2 => ?_⟩
      obtain ⟨H12, hH12⟩ : ∃ z, z = upd H11 p2 (.lst []) := ⟨_, rfl⟩
      rw [← hH12]
      have at_p2 : H12 p2 = some (.lst []) := by rw [hH12, upd_same]
      have s_H12 : Same H11 H12 := by rw [hH12]; exact same_new hp2
      clear hH12
      have hq2 := s_H12 _ _ hq
      have hsh : SeqAt.shaped (.list (gs.map PyData.str)) = true := strs_shaped fun g hg => by
        obtain ⟨ns, rfl, hw⟩ := hgs g hg
        exact strOk_path hw.2.1
      refine ⟨_, _, .lst (SqL.of hq2) (dp_strs gs), .lst (SqL.of at_p2) .nil, hsh, by decide, ?_⟩
      rw [eqv_nonempty hne]
      refine ⟨_, rfl, ite2 (fun z => absurd z (by simp)) (fun _ => ?_)⟩
      have s012 := s010.trans (s11.trans s_H12)
      have hOn12 := hOn9.same (s10.trans (s11.trans s_H12))
      refine ⟨_, rfl, _, rfl, ⟨_, SqL.of hq2⟩, fun D hD => lc_rel walk_list (gs.map V.str) rfl (fun _ => some true) (fun _ v b => v = .bl b) (fun _ _ _ _ _ q => q) hD (fun _ s => SqL.of (s _ _ hq2)) ?_ ?_⟩
      · rintro i a x H1 H' ha pv s1 ⟨rfl, hx⟩
        rw [hx] at ha
        obtain rfl := Option.some.inj ha
        obtain ⟨g, hg1, rfl⟩ := map_at hx
        obtain ⟨ns, rfl, hw⟩ := hgs g (List.mem_of_getElem? hg1)
        refine ⟨rfl, tyes ⟨_, rfl, _, rfl, p, H4, A, G, kk, r.num, ns, rfl, hOn12.same s1, hw.2.1, hw.2.2, hw.1, fun H3 s3 => ?_⟩⟩
        refine ⟨_, rfl, _, _, _, _, rfl, rfl, Same.tup (s012.trans (s1.trans s3)) hrt, hat, rfl, ?_⟩
        exact pv.yes (fun _ _ _ _ _ q => q) hD (by rw [List.length_map]; omega) hx s3 rfl (by simp)
      · intro H13 ys s13 h3 h4
        obtain rfl := paired_map h4
        refine ⟨_, _, rfl, SqL.of h3, _, rfl, ite2 (fun h5 => ?_) (fun h5 => ?_)⟩
        · exfalso
          simp at h5
        · exact ⟨_, _, rfl, s10.trans (s11.trans (s_H12.trans s13))⟩
    · rintro σ H10 ⟨a, b, rfl, s10⟩
      exact k _ (s09.trans s10)
end
end K81
set_option maxHeartbeats 4000000
namespace K81
open PySem PySem.Spec PyProof.Rows L2
def spLaw (K : PySem.W.Frag) : Sp := fun vs H Q _ => ∃ (a : Addr) (ns : List Int), vs = [.ref a] ∧ SqL K H a (ns.map V.int) ∧ ns.length ≤ 63 ∧ ∀ H', Q (.bl true) H'
/-! ### a shelf beside the list that is drawn from -/
theorem sqT_del {K : PySem.W.Frag} {H : Hp} {q t : Addr} {ys xs : List V} (hq : H q = some (.lst ys)) (h : SqT K H t xs) : SqT K (del H q) t xs := by
  rcases h with (h | ⟨od, h⟩) | h
  · exact .inl (.inl (del_at h fun z => by subst z; rw [hq] at h; cases h))
  · exact .inl (.inr ⟨od, del_at h fun z => by subst z; rw [hq] at h; cases h⟩)
  · exact .inr h
theorem On.drop {K : PySem.W.Frag} {R H : Hp} {C p q : Addr} {rest : List (Str × V)} {A : FAt} {G : List (Int × Int × Str)} {ys : List V} (h : On K R H C p rest A G) (hq : R q = some (.lst ys)) : On K (del R q) (del H q) C p rest A G := by
  obtain ⟨dx, d, e, gs, h1, h2, h3, h4, h5, h6, h7, h8, h9, h10, h11, h12⟩ := h
  have n : ∀ {x : Addr}, R x = none → x ≠ q := fun z e => by rw [e, hq] at z; cases z
  exact ⟨dx, d, e, gs, del_at h1 (n h9), ⟨del_at h2.dict (n h10), fun x m => del_at (h2.inner x m) (n (h12 x m)), h2.nums, h2.addrs, h2.out, h2.names⟩, del_at h3 (n h11),
    h4.mono fun _ _ z => let ⟨t, a, b⟩ := z; ⟨t, a, sqT_del (h8 _ _ hq) b⟩, h5, h6, h7, del_mono h8, del_none h9, del_none h10, del_none h11, fun x m => del_none (h12 x m)⟩
theorem On.back {K : PySem.W.Frag} {R H : Hp} {C p q : Addr} {rest : List (Str × V)} {A : FAt} {G : List (Int × Int × Str)} {o : HO} (h : On K R (del H q) C p rest A G) (hq : H q = some o) : On K (upd R q o) H C p rest A G := by
  obtain ⟨dx, d, e, gs, h1, h2, h3, h4, h5, h6, h7, h8, h9, h10, h11, h12⟩ := h
  have n : ∀ {x : Addr} {o : HO}, del H q x = some o → x ≠ q := fun z e => by rw [e, del_self] at z; cases z
  have f : ∀ {x : Addr}, R x = none → x ≠ q → upd R q o x = none := fun z e => by rw [upd_ne e]; exact z
  have s := del_same H q
  refine ⟨dx, d, e, gs, s _ _ h1, h2.same s, s _ _ h3, h4.mono fun _ _ z => z.same s, h5, h6, h7, fun b u z => ?_, f h9 (n h1), f h10 (n h2.dict), f h11 (n h3), fun x m => f (h12 x m) (n (h2.inner x m))⟩
  by_cases e : b = q
  · subst e
    rw [upd_same] at z
    rw [← z]
    exact hq
  · rw [upd_ne e] at z
    exact s _ _ (h8 _ _ z)
theorem On.onceO {K : PySem.W.Frag} {R H : Hp} {C p : Addr} {rest : List (Str × V)} {A : FAt} {G : List (Int × Int × Str)} {k : Int} {r b : Nat} (h : On K R H C p rest A G) (hs : ShOk A G k r b) : OnceO (plainF A) G :=
  ⟨h.once.1, h.len, fun n m => hs.dis n (by rw [plainF_keys] at m; exact m), h.once.2⟩
theorem ShOk.inner {A : FAt} {G : List (Int × Int × Str)} {k : Int} {r b : Nat} (h : ShOk A G k r b) : ∀ w es, (w, es) ∈ plainF A → es.length ≤ b := fun w es m => by
  obtain ⟨a, q⟩ := plainF_mem.mp m
  exact h.len _ q
theorem ShOk.told {A : FAt} {G : List (Int × Int × Str)} {k : Int} {r b : Nat} (h : ShOk A G k r b) (hO : OnceO (plainF A) G) {ks : List Int} (hk : ks.Perm ((plainF A).map (·.1) ++ G.map (·.1))) (hs : ks.Pairwise (· ≤ ·)) :
    InOrder (canonT (plainF A) G ks) ∧ Fine (canonT (plainF A) G ks) ∧ Small r b (canonT (plainF A) G ks) :=
  ⟨inOrder_of (canon_canon hO hk hs).once (by rw [canon_sh hO hk]; exact ordP_iff.mpr h.ord), canon_fine hO h.fine hk, canon_small hO hk (by unfold plainF; rw [List.length_map]; exact h.rows) h.inner⟩
theorem ShOk.pos {A : FAt} {G : List (Int × Int × Str)} {k : Int} {r b : Nat} (h : ShOk A G k r b) : 0 ≤ k := h.last 0 (.inl h.ord.root)
theorem MendOk.k {a b : Nat} {t t' : List Row} (h : MendOk a b t t') {n : Int} (hn : n ∈ nums t') : n ∈ nums t := by
  obtain ⟨r, hr, e⟩ := List.mem_map.mp hn
  cases r with
  | fold n es =>
    obtain ⟨es', m⟩ := (h.fk n).mp ⟨es, mem_fo.mpr hr⟩
    exact List.mem_map.mpr ⟨_, mem_fo.mp m, e⟩
  | file n k c => exact List.mem_map.mpr ⟨_, mem_fi.mp ((h.fi n k c).mp (mem_fi.mpr hr)), e⟩
theorem cut_ints (ns : List Int) (lo hi : Option Int) : ∃ cs : List Int, cutV (ns.map V.int) lo hi = cs.map V.int ∧ cs.length ≤ ns.length := by
  refine ⟨(ns.drop (HT.sIx (ns.map V.int).length 0 lo)).take (HT.sIx (ns.map V.int).length (ns.map V.int).length hi - HT.sIx (ns.map V.int).length 0 lo), ?_, ?_⟩
  · unfold cutV
    rw [← List.map_drop, ← List.map_take]
  · rw [List.length_take, List.length_drop]
    omega
theorem okF_of {P : Program} {w : World} {K : PySem.W.Frag} {mg : Str → Option Value} {base : Heap} {at_ : Str × Option Str} {x qual : Str} {params : Arguments} {body : List Stmt} {scope : Scope} {N ps : List Str} {k : Nat} {sp : Sp} {fd : FuncData} (F : FunD K x qual params body scope [] [] (He.fAd K at_) fd) (S : FnScope N ps scope)
    (len : ∀ vs H Q E, sp vs H Q E → vs.length = ps.length)
    (hbody : ∀ (cdv : Value) (A : Around) (outer : List Env) (s : Shared) (H : Hp) (vs : List V) (Q : VK) (E : XK), Room k (A.deeper (envOfC qual scope s.heap.objs.size (He.fAd K at_) cdv)) → sp vs H Q E →
      ∃ t, PSs (cxOf CX0 P w K mg base N qual scope (He.fAd K at_) cdv A outer s H E).nox body t ∧ t { nx := fun _ H' => Q .non H', rt := Q } (start N vs) H) : FnOk P w K mg base CX0 (k + 1) (He.fAd K at_) fd ps sp :=
  F.ok S len fun cdv A outer s H vs Q E hr h => let ⟨t, h1, h2⟩ := hbody cdv A outer s H vs Q E hr h; ⟨t, h1.nox, h2⟩
section
variable {P : Program} {w : World} {K : PySem.W.Frag} {mg : Str → Option Value} {base : Heap}
abbrev N_law : List Str := ["_law_script", "_law_k", "_law_cell", "_law_left_here", "_law_table", "_law_beyond_here", "_law_found", "_law_mine", "_law_deed_here", "_law_rows", "_law_row"]
theorem sc_law : FnScope N_law ["_law_script"] (defScope s_law) := ⟨rfl, rfl, rfl, by decide +kernel, rfl, by decide +kernel, by decide +kernel⟩
theorem ok_law {fd : FuncData} (F : FunD K "law" "law" (defArgs s_law) (defBody s_law) (defScope s_law) [] [] (He.fAd K d_law.at_) fd) (T : Tx K mg base) : FnOk P w K mg base CX0 11 (He.fAd K d_law.at_) fd ["_law_script"] (spLaw K) := by
  have G_l_left := ok_l_left (P := P) (w := w) T
  have G_l_wild := ok_l_wild (P := P) (w := w) T
  have G_shelf_of := ok_shelf_of (P := P) (w := w) T
  have G_mended := ok_mended (P := P) (w := w) T
  have G_l_beyond := ok_l_beyond (P := P) (w := w) T
  have G_l_right := ok_l_right (P := P) (w := w) T
  have G_l_pick := ok_l_pick (P := P) (w := w) T
  have G_rows_of := ok_rows_of (P := P) (w := w) T
  have G_done := ok_done (P := P) (w := w) T
  have G_l_deed := ok_l_deed (P := P) (w := w) T
  have G_l_first := ok_l_first (P := P) (w := w) T
  have G_looked := ok_looked (P := P) (w := w) T
  refine okF_of F sc_law (fun vs H Q E h => ?_) (fun cdv A outer s H vs Q E hr h => ?_)
  · obtain ⟨a, ns, rfl, _⟩ := h
    rfl
  · obtain ⟨a, ns, rfl, hS, hnl, k⟩ := h
    have hu := hu_of hr
    refine ⟨_, (pss_cons (ps_for PassesOwn.never rfl (pi_enum (by rfl) T.z_enumerate (pa_cons (pe_op op_cat (pe_lst (pa_cons pe_int pa_nil)) (pe_slice sl_list (pv 0) po_none (po_some pe_int))) pa_nil)) (pg_tupK K (n := 2) rfl (pgs_cons (pg_name (i := 1) sc_law.nd rfl (by first | exact Or.inl rfl | exact Or.inr rfl)) (pgs_cons (pg_name (i := 2) sc_law.nd rfl (by first | exact Or.inl rfl | exact Or.inr rfl)) pgs_nil))) (pss_cons (ps_set (i := 3) sc_law.nd rfl (by first | exact Or.inl rfl | exact Or.inr rfl) (pe_callO G_l_left hr (by decide) T.g_law_left (pa_cons (pv 2) (pa_cons (pv 1) pa_nil))))
      (pss_cons (ps_set (i := 4) sc_law.nd rfl (by first | exact Or.inl rfl | exact Or.inr rfl) (pe_callO G_l_wild hr (by decide) T.g_law_wild (pa_cons (pv 3) pa_nil)))
      (pss_cons (ps_asg (pe_tup (pa_cons pe_bl (pa_cons pe_non pa_nil))) (pg_tupK K (n := 2) rfl (pgs_cons (pg_name (i := 5) sc_law.nd rfl (by first | exact Or.inl rfl | exact Or.inr rfl)) (pgs_cons (pg_name (i := 6) sc_law.nd rfl (by first | exact Or.inl rfl | exact Or.inr rfl)) pgs_nil))))
      (pss_cons (ps_try_only (tb := fun W => tAsg (tCallS (spMended K) (WE W) (tCons (tVar 4) tNil)) (gName 6)) (ts := fun _ _ _ => tAsg (tC (.bl true)) (gName 5)) (Wout := fun _ _ _ _ => False) rfl rfl ⟨rfl, by decide, Or.inl T.g_NoMend⟩ takes0 (fun W pn xe tk _ => pss_one (ps_set (i := 6) sc_law.nd rfl (by first | exact Or.inl rfl | exact Or.inr rfl) (pe_callOS G_mended hr (by decide) tk T.g_mended (pa_cons (pv 4) pa_nil)))) (fun _ _ _ _ _ _ _ => (pss_one (ps_set (i := 5) sc_law.nd rfl (by first | exact Or.inl rfl | exact Or.inr rfl) pe_bl))))
      (pss_cons (ps_if (pt_cmpR op_ne (pv 5) (pe_callO G_l_beyond hr (by decide) T.g_law_beyond (pa_cons (pv 4) pa_nil)) (nomark _)) (pss_one (ps_ret pe_bl)) pss_nil)
      (pss_cons (ps_if (pt_val (pv 5)) (pss_one ps_continue) pss_nil)
      (pss_cons (ps_if (pt_not (pt_val (pe_callO G_l_right hr (by decide) T.g_law_right (pa_cons (pv 4) (pa_cons (pv 6) pa_nil))))) (pss_one (ps_ret pe_bl)) pss_nil)
      (pss_cons (ps_set (i := 7) sc_law.nd rfl (by first | exact Or.inl rfl | exact Or.inr rfl) (pe_callO G_shelf_of hr (by decide) T.g_shelf_of (pa_cons (pv 6) pa_nil)))
      (pss_one (ps_for PassesOwn.never rfl (pi_range1 rfl T.z_range (pa_cons (pe_callO G_l_pick hr (by decide) T.g_law_pick (pa_cons (pv 3) (pa_cons pe_int pa_nil))) pa_nil)) (pg_name (i := 8) sc_law.nd rfl (by first | exact Or.inl rfl | exact Or.inr rfl)) (pss_cons (ps_set (i := 9) sc_law.nd rfl (by first | exact Or.inl rfl | exact Or.inr rfl) (pe_callO G_rows_of hr (by decide) T.g_rows_of (pa_cons (pv 7) pa_nil)))
      (pss_cons (ps_expr (pe_callO G_done hr (by decide) T.g_done (pa_cons (pv 7) (pa_cons (pe_callO G_l_deed hr (by decide) T.g_law_deed (pa_cons (pv 3) (pa_cons (pe_lc (own := [("_law_row", 10)]) rfl sc_law.nd (pi_list (pv 9)) (blkOk_by (N := N_law) (sc := defScope s_law) (by decide +kernel)) (fun _ _ _ _ _ => (pg_name (i := 10) sc_law.nd rfl (Or.inl rfl))) (fun _ _ _ _ _ => pts_nil) (fun _ _ _ _ _ => (pe_ix (ix_tupK K) (pv 10) pe_int (fun _ _ => rfl)))) pa_nil))) pa_nil))))
      (pss_one (ps_if (PW.pt (pw_or (pt_cmp (pc_notN (pe_callO G_l_first hr (by decide) T.g_law_first (pa_cons (pe_callO G_rows_of hr (by decide) T.g_rows_of (pa_cons (pv 7) pa_nil)) pa_nil)))) (pw_or1 (pt_cmp (pc_notN (pe_callO G_looked hr (by decide) T.g_looked (pa_cons (pe_callO G_rows_of hr (by decide) T.g_rows_of (pa_cons (pv 7) pa_nil)) pa_nil))))))) (pss_one (ps_ret pe_bl)) pss_nil)))))))))))))))
      (pss_one (ps_ret pe_bl))), ?_⟩
    refine ⟨zl rfl, fun p1 hp1 => ?_⟩
    obtain ⟨H1, hH1⟩ : ∃ z, z = upd H p1 (.lst [.int 6]) := ⟨_, rfl⟩
    rw [← hH1]
    have at_p1 : H1 p1 = some (.lst [.int 6]) := by rw [hH1, upd_same]
    have s_H1 : Same H H1 := by rw [hH1]; exact same_new hp1
    clear hH1
    obtain ⟨cs, hcs, hcl⟩ := cut_ints ns none (some 8)
    refine ⟨_, rfl, _, rfl, _, _, rfl, Same.seq s_H1 hS, fun p2 hp2 => ?_⟩
    rw [hcs]
    obtain ⟨H2, hH2⟩ : ∃ z, z = upd H1 p2 (.lst (cs.map V.int)) := ⟨_, rfl⟩
    rw [← hH2]
    have at_p2 : H2 p2 = some (.lst (cs.map V.int)) := by rw [hH2, upd_same]
    have s_H2 : Same H1 H2 := by rw [hH2]; exact same_new hp2
    clear hH2
    refine ⟨_, _, _, _, rfl, rfl, s_H2 _ _ at_p1, at_p2, sl' (by rw [List.length_map]; show 1 + cs.length ≤ _; omega), fun p3 hp3 => ?_⟩
    rw [show [V.int 6] ++ cs.map V.int = (6 :: cs).map V.int from rfl]
    obtain ⟨H3, hH3⟩ : ∃ z, z = upd H2 p3 (.lst ((6 :: cs).map V.int)) := ⟨_, rfl⟩
    rw [← hH3]
    have at_p3 : H3 p3 = some (.lst ((6 :: cs).map V.int)) := by rw [hH3, upd_same]
    have s_H3 : Same H2 H3 := by rw [hH3]; exact same_new hp3
    clear hH3
    clear at_p1 at_p2 s_H1 s_H2 s_H3 hcs hp1 hp2 hp3
    refine ⟨_, _, rfl, SqL.of at_p3, ?_⟩
    refine for_it (walk_enum (xs := (6 :: cs).map V.int)) (fun i σ H' => ∃ (b c d e f g h j l m : Option V), σ = [some (.ref a), b, c, d, e, f, g, h, j, l, m] ∧ Same H3 H') ⟨_, _, _, _, _, _, _, _, _, _, rfl, Same.refl _⟩ (fun i σ H' _ hp => ?_) ?_ ?_
    · obtain ⟨_, _, _, _, _, _, _, _, _, _, _, s⟩ := hp
      exact SqL.of (s _ _ at_p3)
    · rintro i v σ H4 H5 hi ⟨b, c, d, e, f, g, h, j, l, m, rfl, s4⟩ ⟨tp, x, y, rfl, htp, hH5, hx, hy⟩
      have hi' : i ≤ 64 := by rw [List.length_map, List.length_cons] at hi; omega
      obtain ⟨c0, hc0, rfl⟩ := map_at hy
      obtain rfl := Option.some.inj hx
      have t5 : H5 tp = some (.tup [.int i, .int c0]) := by rw [hH5, upd_same]
      have s5 : Same H3 H5 := by rw [hH5]; exact s4.trans (same_new htp)
      clear hH5 hx hy hi s4
      refine ⟨_, _, rfl, .inl (.inl t5), rfl, _, _, rfl, _, _, rfl, rfl, ?_⟩
      refine ⟨_, rfl, _, rfl, c0, (i : Int), rfl, by omega, by omega, fun q l0 H6 s6 hq0 hq6 hl0 => ?_⟩
      refine ⟨_, rfl, q, rfl, ⟨l0, hq6, hl0⟩, fun pt t H7 hq7 k7 hT hf hs hn => ?_⟩
      have s57 : Same H5 H7 := (same_del s6 hq0).trans k7
      have hT := hT.same (del_same H7 q)
      have hs63 : Small 63 1000 t := hs.mono (by decide) (by decide)
      refine ⟨zl rfl, fun p7 hp7 => ?_⟩
      obtain ⟨H7a, hH7a⟩ : ∃ z, z = upd H7 p7 (.tup [.bl false, .non]) := ⟨_, rfl⟩
      rw [← hH7a]
      have at_p7 : H7a p7 = some (.tup [.bl false, .non]) := by rw [hH7a, upd_same]
      have s_H7a : Same H7 H7a := by rw [hH7a]; exact same_new hp7
      clear hH7a
      have hT := hT.same s_H7a
      have hq7 := hq7.same s_H7a
      have s57 := s57.trans s_H7a
      refine ⟨_, _, rfl, .inl (.inl at_p7), rfl, _, _, rfl, _, _, rfl, rfl, ?_⟩
      refine ⟨_, rfl, .ref pt, t, 15, 7, rfl, hT, hf, hs, by decide, fun hB H8 s8 => ?_, fun hB v t' H8 s8 hfd hm => ?_⟩
      · refine ⟨true, T.x_NoMend, fun _ a0 _ => ?_, fun q => Bool.noConfusion q⟩
        refine ⟨_, rfl, _, rfl, .ref pt, t, rfl, hT.same s8, hf, hs63, fun b H9 s9 hb => ?_⟩
        obtain rfl : b = true := hb.mpr hB
        refine ⟨rfl, _, rfl, ite2 (fun z => absurd z (by simp)) (fun _ => ?_)⟩
        refine ⟨_, rfl, _, rfl, ite2 (fun _ => ?_) (fun z => absurd rfl z)⟩
        exact ⟨_, _, _, _, _, _, _, _, _, _, rfl, s5.trans (s57.trans (s8.trans s9))⟩
      · refine ⟨_, rfl, _, rfl, .ref pt, t, rfl, hT.same s8, hf, hs63, fun b H9 s9 hb => ?_⟩
        obtain rfl : b = false := by
          cases b with
          | false => rfl
          | true => exact absurd (hb.mp rfl) hB
        refine ⟨rfl, _, rfl, ite2 (fun z => absurd z (by simp)) (fun _ => ?_)⟩
        refine ⟨_, rfl, _, rfl, iteF ?_⟩
        have s79 := s8.trans s9
        refine ⟨_, rfl, _, rfl, .ref pt, v, t, t', rfl, hT.same s79, hf, hs, hB, hfd.same s9, hm, fun H10 s10 => ⟨_, rfl, iteF ?_⟩⟩
        have hio : InOrder t' := inOrder_of hm.canon.once hm.order
        have s710 := s79.trans s10
        obtain ⟨l10, hq10, hl10⟩ := hq7.same s710
        refine ⟨_, rfl, v, t', rfl, hfd.same (s9.trans s10), hm.fine, hm.small.mono (by decide) (by decide), hio, fun p A G kk H11 hOn hrows hle hkm => ?_⟩
        have hSh : ShOk A G kk 15 22 := shOk_of hrows hm.canon hm.fine hm.order hm.small hle
        have hkk : kk ≤ 99015 := hn kk (hm.k hkm)
        have s511 : Same H5 H11 := (s57.trans s710).trans hOn.le'
        have hOn1 : On K H5 (del H11 q) (He.ga K "Shelf") p (lastF kk) A G := (hOn.drop hq10).weak (same_del (s57.trans s710) hq0)
        have hq11 := hOn.le' _ _ hq10
        clear hOn hrows hle hkm hm hfd hT hf hs hn
        refine ⟨_, rfl, q, l10, 21, rfl, hq11, hl10, by decide, by decide, fun n l11 hn0 hn1 hl11 => ⟨_, rfl, by omega, by omega, ?_⟩⟩
        refine for_it walk_range (fun jj σ H' => ∃ (A : FAt) (G : List (Int × Int × Str)) (k : Int) (x y z : Option V), σ = [some (.ref a), some (.int i), some (.int c0), some (.ref q), some (.ref pt), some (.bl false), some v, some (.ref p), x, y, z] ∧ LeftAt H' q ∧ Same H5 H' ∧ On K H5 (del H' q) (He.ga K "Shelf") p (lastF k) A G ∧ ShOk A G k (15 + jj) (22 + jj) ∧ k ≤ 99015 + jj) ⟨A, G, kk, _, _, _, rfl, ⟨l11, upd_same .., hl11⟩, Same.off s511 hq0, by rw [del_upd]; exact hOn1, hSh, by omega⟩ (fun _ _ _ _ _ => trivial) ?_ ?_
        · rintro jj u σ H12 H' hjj ⟨A, G, k, x, y, z, rfl, hqL, sR, hOn, hSh, hk⟩ ⟨rfl, rfl⟩
          have hjj' : jj < 20 := by omega
          have hOnF := hOn.same (del_same H' q)
          refine ⟨_, rfl, p, _, _, A, G, rfl, hOnF, hOnF.onceO hSh, Nat.le_trans hSh.rows (by omega), fun w es m => Nat.le_trans (hSh.inner w es m) (by omega), fun v2 ks H13 s13 hks hpw hT => ?_⟩
          have hfs := hSh.told (hOnF.onceO hSh) hks hpw
          obtain ⟨tl, xs, rfl, hsl, hpx⟩ := hT
          generalize canonT (plainF A) G ks = tt at hpx hfs
          refine ⟨_, rfl, _, rfl, _, rfl, _, rfl, ⟨_, hsl⟩, fun D hD => lc_rel walk_list tt (paired_len hpx) (fun r => some r.num) (fun _ v z => v = .int z) (fun _ _ _ _ _ q => q) hD (fun _ s => Same.seq s hsl) ?_ ?_⟩
          · rintro i2 r x2 H1 H2 hr2 pv s1 ⟨rfl, hx2⟩
            obtain ⟨r', hr1, hr3⟩ := paired_at hpx hx2
            rw [hr2] at hr1
            obtain rfl := Option.some.inj hr1
            obtain ⟨tp2, kk2, rest, rfl, htp2⟩ := rowAt_num (hr3.same s1)
            exact ⟨rfl, tyes ⟨_, rfl, _, _, _, _, rfl, rfl, htp2, at1, pv.yes (fun _ _ _ _ _ q => q) hD (by have := hfs.2.2.rows; omega) hr2 (Same.refl _) rfl rfl⟩⟩
          · intro H14 ys s14 hD14 hP
            obtain rfl := paired_map hP
            rw [filterMap_some] at hD14
            have hlen : (tt.map fun r => r.num).length ≤ 1000 := by rw [List.length_map]; exact Nat.le_trans hfs.2.2.rows (by omega)
            have hqL14 := hqL.same (s13.trans s14)
            have hDq : D ≠ q := by obtain ⟨lz, hz, _⟩ := hqL.same s13; exact ne_of_none' hD hz
            refine ⟨q, D, tt.map (fun r => r.num), rfl, hqL14, hD14, hDq, hlen, fun pd dd H15 hq15 k15 hpdq hpd hdd => ?_⟩
            obtain ⟨l15, hq15, hl15⟩ := hq15
            have hOn15 : On K H5 (del H15 q) (He.ga K "Shelf") p (lastF k) A G := hOn.same ((del_mono (s13.trans s14)).trans k15.del)
            refine ⟨p, pd, upd H5 q (.lst (l15.map V.int)), A, G, k, dd, 15 + jj, 22 + jj, rfl, hOn15.back hq15, .inl (.inl hpd), hdd, hSh, by omega, hSh.pos, by omega, by omega, fun v3 A' G' k' H16 hOn' hk' hSh' => ?_⟩
            have hc : ∀ ks4 : List Int, ks4.Perm ((plainF A').map (·.1) ++ G'.map (·.1)) → ks4.Pairwise (· ≤ ·) → InOrder (canonT (plainF A') G' ks4) ∧ Fine (canonT (plainF A') G' ks4) ∧ Small 63 1000 (canonT (plainF A') G' ks4) := fun ks4 h1 h2 => by
              have := hSh'.told (hOn'.onceO hSh') h1 h2
              exact ⟨this.1, this.2.1, this.2.2.mono (by omega) (by omega)⟩
            have z1 : A'.length + G'.length ≤ 1000 := Nat.le_trans hSh'.rows (by omega)
            have z2 : ∀ w es, (w, es) ∈ plainF A' → es.length ≤ 10000 := fun w es m => Nat.le_trans (hSh'.inner w es m) (by omega)
            refine ⟨_, rfl, p, _, _, A', G', rfl, hOn', hOn'.onceO hSh', z1, z2, fun v4 ks4 H17 s17 hks4 hpw4 hT4 => ?_⟩
            obtain ⟨c1, c2, c3⟩ := hc ks4 hks4 hpw4
            refine ⟨v4, _, rfl, hT4, c2, c3, fun v5 H18 s18 hv5 => ?_⟩
            obtain rfl := hv5.2 c1
            refine ⟨_, rfl, ite2 (fun z => absurd z (by simp)) (fun _ => ?_)⟩
            have hOn18 := hOn'.same (s17.trans s18)
            refine ⟨_, rfl, p, _, _, A', G', rfl, hOn18, hOn'.onceO hSh', z1, z2, fun v6 ks6 H19 s19 hks6 hpw6 hT6 => ?_⟩
            obtain ⟨d1, d2, d3⟩ := hc ks6 hks6 hpw6
            refine ⟨v6, _, rfl, hT6, d2, d3, fun v7 H20 s20 hv7 => ?_⟩
            obtain rfl := hv7.2 d1
            refine ⟨_, rfl, ite2 (fun z => absurd z (by simp)) (fun _ => ?_)⟩
            have hOn20 := hOn18.same (s19.trans s20)
            refine ⟨A', G', k', _, _, _, rfl, ⟨l15, hOn20.le' _ _ (upd_same ..), hl15⟩, ?_, ?_, hSh', by omega⟩
            · exact fun b u z => hOn20.le' _ _ (upd_at_ne z (ne_of_none z hq0))
            · have h1 := hOn20.drop (upd_same ..)
              rw [del_upd] at h1
              exact h1.weak (del_of hq0)
        · rintro σ H13 ⟨A, G, k, x, y, z, rfl, hqL, sR, _⟩
          exact ⟨_, _, _, _, _, _, _, _, _, _, rfl, s5.trans sR⟩
    · rintro σ H4 ⟨b, c, d, e, f, g, h, j, l, m, rfl, s⟩
      exact k _
end
end K81
set_option maxHeartbeats 0
namespace K81
open PySem PySem.Spec PyProof.Rows L2
theorem facts {P : Program} {w : World} {K : PySem.W.Frag} {h : Heap} {mg : Str → Option Value} {f : Addr} (X : K.In h) (G : h.Ns mainGlobals mg) (hfa : mg ("law" : Str) = some (.ref f)) (c : SaysY K) :
    ∃ fd : FuncData, (∀ (s : Shared) (v : Value), BindsTo s fd ⟨[v], []⟩ [("_law_script", v)]) ∧ ∀ base : Heap, K.In base → base.Ns mainGlobals mg → FnOk P w K mg base CX0 11 f fd ["_law_script"] (spLaw K) := by
  have T : Tx K mg h := ⟨c, X, G⟩
  obtain ⟨fd, F⟩ := T.F_law
  have e := hfa.symm.trans T.g_law
  cases e
  have b := FunD.bindsA (ps := ["_law_script"]) F fun _ _ _ _ _ _ us hl => match us, hl with | [_], _ => rfl
  exact ⟨fd, fun s v => b s [v] rfl, fun base hb hN => ok_law F ⟨c, hb, hN⟩⟩
end K81
open PySem PySem.W PySem.Calls PyProof.Rows
theorem PySem.Challenge.cw_farshelf_k81_whole_mended_whatever_holds : PySem.Challenge.rw_farshelf_k81_whole_mended_whatever.Holds := by
  w_on; o_law
  refine HandSHeadRun.head_any (r := K81.RR) (q := view K81.RR.prog [64]) (H := K81.hk) (ob := K81.ob) (M := 20000) (loose := K81.loose) (d := HandSHeadRun.topDef K81.RR.prog 64) (kwd := []) K81.ob_eq
    (by kernel_rfl) (fun s => by kernel_rfl) K81.run (by kernel_rfl) (by kernel_rfl) (by kernel_rfl) (by rfl) (by first | assumption | decide +kernel) (by decide +kernel) ⟨rfl, rfl, rfl, rfl, rfl, by decide +kernel⟩ ?hw ?hc
  case hw => w_witness2
  case hc =>
    refine L2.walk_ofE (l := PySem.Challenge.rw_farshelf_k81_whole_mended_whatever) (n := 63) (k := 11) (x := "_law_script") (CX := L2.CX0) rfl (by decide) (by kernel_rfl) ⟨rfl, by decide, by decide⟩ ?F (fun _ _ _ _ z => z)
    intro w mg fa h Y G hmg0
    obtain ⟨K, KX, c⟩ := Y
    have hmg : mg ("law" : PySem.Str) = some (.ref fa) := by
      have e : (HandSHeadRun.topDef K81.RR.prog 64).name = ("law" : PySem.Str) := by kernel_rfl
      rw [← e]
      exact hmg0
    obtain ⟨fd, hb, hF⟩ := K81.facts (P := PySem.Challenge.rw_farshelf_k81_whole_mended_whatever.prog) (w := w) KX G hmg c
    exact ⟨K, fd, K81.spLaw K, KX, hb, fun H a ns hl _ hS => ⟨a, ns, rfl, hS, hl, fun _ => rfl⟩, hF⟩
