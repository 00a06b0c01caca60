import PyProof.Rows.All
import Wide.All
import OpenK.AllK
import Wide.FinOn
import HandS.ForMost
import HandS.More
import HandS.Exc
import HandS.Defaults
import HandS.HeadHook1
import HandS.HeadHook2
import HandS.HeadHook3
import HandS.HeadHook4
import PySem.Challenge.RW_frametally_k08_whole_invalidations
import KE.KStateDown
import HandS.Head0
import HandS.Head1
import HandS.Head2
import HandS.HeadEnd
import HandS.Deep
import HandS.IsInst
import HandS.Flow
-- ===== part K8Txt =====
set_option Elab.async false
set_option linter.all false
set_option maxRecDepth 100000
namespace K8
open PySem L2
/-! the text by places -/
def top (i : Nat) : Stmt := PySem.Challenge.pw_frametally_k08_whole_invalidations.main.body.getD i (.Pass ⟨0, 0, 0, 0⟩)
abbrev s_Stack_init : Stmt := inClass (top 2) 0
abbrev s_Stack_settle : Stmt := inClass (top 2) 1
abbrev s_Stack_pass_on : Stmt := inClass (top 2) 2
abbrev s_Stack_step : Stmt := inClass (top 2) 3
abbrev s_Stack_ended : Stmt := inClass (top 2) 4
abbrev s_Stack_value : Stmt := inClass (top 2) 5
abbrev s_Owners_init : Stmt := inClass (top 7) 0
abbrev s_Hand_init : Stmt := inClass (top 8) 0
abbrev s_Box_init : Stmt := inClass (top 15) 0
abbrev s_Box_send : Stmt := inClass (top 15) 1
abbrev s_Box_take : Stmt := inClass (top 15) 2
abbrev s_Box_letters : Stmt := inClass (top 15) 3
abbrev s_Kernel_init : Stmt := inClass (top 17) 0
abbrev s_Kernel_next_ticket : Stmt := inClass (top 17) 3
abbrev s_Invalidating_init : Stmt := inClass (top 18) 0
abbrev s_Invalidating_request : Stmt := inClass (top 18) 1
abbrev s_Invalidating_accept : Stmt := inClass (top 18) 2
abbrev s_Buffer_init : Stmt := inClass (top 21) 0
abbrev s_Buffer_put : Stmt := inClass (top 21) 1
abbrev s_Buffer_drop : Stmt := inClass (top 21) 3
abbrev s_Buffer_entries : Stmt := inClass (top 21) 4
abbrev s_Sizes_init : Stmt := inClass (top 32) 0
abbrev s_Sizes_acknowledge : Stmt := inClass (top 32) 2
abbrev s_Sizes_word : Stmt := inClass (top 32) 3
abbrev s_Memory_init : Stmt := inClass (top 34) 0
abbrev s_Memory_check_cell : Stmt := inClass (top 34) 1
abbrev s_Memory_check_request : Stmt := inClass (top 34) 2
abbrev s_Memory_check_page : Stmt := inClass (top 34) 3
abbrev s_Memory_access : Stmt := inClass (top 34) 4
abbrev s_Memory_result : Stmt := inClass (top 34) 5
abbrev s_Memory_cell_result : Stmt := inClass (top 34) 6
abbrev s_Memory_take : Stmt := inClass (top 34) 7
abbrev s_Memory_peek : Stmt := inClass (top 34) 9
abbrev s_is_integer : Stmt := top 12
abbrev s_is_pair : Stmt := top 13
abbrev s_is_letter : Stmt := top 14
abbrev s_is_within : Stmt := top 31
abbrev s_first_values : Stmt := top 33
abbrev s_law_tape : Stmt := top 36
abbrev s_law_at : Stmt := top 37
abbrev s_law_word : Stmt := top 38
abbrev s_law_other : Stmt := top 39
abbrev s_law_entries : Stmt := top 40
abbrev s_law_change : Stmt := top 41
abbrev s_law_run : Stmt := top 42
abbrev s_law : Stmt := top 43
/-! where classes and defs stand -/
abbrev C_Stack (K : PySem.W.Frag) : Addr := He.ga K "Stack"
abbrev C_Owners (K : PySem.W.Frag) : Addr := He.ga K "Owners"
abbrev C_Hand (K : PySem.W.Frag) : Addr := He.ga K "Hand"
abbrev C_Box (K : PySem.W.Frag) : Addr := He.ga K "Box"
abbrev C_Kernel (K : PySem.W.Frag) : Addr := He.ga K "Kernel"
abbrev C_Invalidating (K : PySem.W.Frag) : Addr := He.ga K "Invalidating"
abbrev C_Buffer (K : PySem.W.Frag) : Addr := He.ga K "Buffer"
abbrev C_Sizes (K : PySem.W.Frag) : Addr := He.ga K "Sizes"
abbrev C_Memory (K : PySem.W.Frag) : Addr := He.ga K "Memory"
def at_Stack_init : Str × Option Str := (("Stack" : Str), some ("__init__" : Str))
def at_Stack_settle : Str × Option Str := (("Stack" : Str), some ("settle" : Str))
def at_Stack_pass_on : Str × Option Str := (("Stack" : Str), some ("pass_on" : Str))
def at_Stack_step : Str × Option Str := (("Stack" : Str), some ("step" : Str))
def at_Stack_ended : Str × Option Str := (("Stack" : Str), some ("ended" : Str))
def at_Stack_value : Str × Option Str := (("Stack" : Str), some ("value" : Str))
def at_Owners_init : Str × Option Str := (("Owners" : Str), some ("__init__" : Str))
def at_Hand_init : Str × Option Str := (("Hand" : Str), some ("__init__" : Str))
def at_Box_init : Str × Option Str := (("Box" : Str), some ("__init__" : Str))
def at_Box_send : Str × Option Str := (("Box" : Str), some ("send" : Str))
def at_Box_take : Str × Option Str := (("Box" : Str), some ("take" : Str))
def at_Box_letters : Str × Option Str := (("Box" : Str), some ("letters" : Str))
def at_Kernel_init : Str × Option Str := (("Kernel" : Str), some ("__init__" : Str))
def at_Kernel_next_ticket : Str × Option Str := (("Kernel" : Str), some ("next_ticket" : Str))
def at_Invalidating_init : Str × Option Str := (("Invalidating" : Str), some ("__init__" : Str))
def at_Invalidating_request : Str × Option Str := (("Invalidating" : Str), some ("request" : Str))
def at_Invalidating_accept : Str × Option Str := (("Invalidating" : Str), some ("accept" : Str))
def at_Buffer_init : Str × Option Str := (("Buffer" : Str), some ("__init__" : Str))
def at_Buffer_put : Str × Option Str := (("Buffer" : Str), some ("put" : Str))
def at_Buffer_drop : Str × Option Str := (("Buffer" : Str), some ("drop" : Str))
def at_Buffer_entries : Str × Option Str := (("Buffer" : Str), some ("entries" : Str))
def at_Sizes_init : Str × Option Str := (("Sizes" : Str), some ("__init__" : Str))
def at_Sizes_acknowledge : Str × Option Str := (("Sizes" : Str), some ("acknowledge" : Str))
def at_Sizes_word : Str × Option Str := (("Sizes" : Str), some ("word" : Str))
def at_Memory_init : Str × Option Str := (("Memory" : Str), some ("__init__" : Str))
def at_Memory_check_cell : Str × Option Str := (("Memory" : Str), some ("check_cell" : Str))
def at_Memory_check_request : Str × Option Str := (("Memory" : Str), some ("check_request" : Str))
def at_Memory_check_page : Str × Option Str := (("Memory" : Str), some ("check_page" : Str))
def at_Memory_access : Str × Option Str := (("Memory" : Str), some ("access" : Str))
def at_Memory_result : Str × Option Str := (("Memory" : Str), some ("result" : Str))
def at_Memory_cell_result : Str × Option Str := (("Memory" : Str), some ("cell_result" : Str))
def at_Memory_take : Str × Option Str := (("Memory" : Str), some ("take" : Str))
def at_Memory_peek : Str × Option Str := (("Memory" : Str), some ("peek" : Str))
def at_is_integer : Str × Option Str := (("is_integer" : Str), none)
def at_is_pair : Str × Option Str := (("is_pair" : Str), none)
def at_is_letter : Str × Option Str := (("is_letter" : Str), none)
def at_is_within : Str × Option Str := (("is_within" : Str), none)
def at_first_values : Str × Option Str := (("first_values" : Str), none)
def at_law_tape : Str × Option Str := (("_law_tape" : Str), none)
def at_law_at : Str × Option Str := (("_law_at" : Str), none)
def at_law_word : Str × Option Str := (("_law_word" : Str), none)
def at_law_other : Str × Option Str := (("_law_other" : Str), none)
def at_law_entries : Str × Option Str := (("_law_entries" : Str), none)
def at_law_change : Str × Option Str := (("_law_change" : Str), none)
def at_law_run : Str × Option Str := (("_law_run" : Str), none)
def at_law : Str × Option Str := (("law" : Str), none)
abbrev DefAt (K : PySem.W.Frag) (at_ : Str × Option Str) (name qual : Str) (st : Stmt) (fd : FuncData) : Prop := FunD K name qual (defArgs st) (defBody st) (defScope st) [] [] (He.fAd K at_) fd
/-! the facts that the head tells -/
def d_Stack_init : He.DefD := ⟨at_Stack_init, "__init__", "Stack.__init__", defArgs s_Stack_init, defBody s_Stack_init, defScope s_Stack_init, [], []⟩
def d_Stack_settle : He.DefD := ⟨at_Stack_settle, "settle", "Stack.settle", defArgs s_Stack_settle, defBody s_Stack_settle, defScope s_Stack_settle, [], []⟩
def d_Stack_pass_on : He.DefD := ⟨at_Stack_pass_on, "pass_on", "Stack.pass_on", defArgs s_Stack_pass_on, defBody s_Stack_pass_on, defScope s_Stack_pass_on, [], []⟩
def d_Stack_step : He.DefD := ⟨at_Stack_step, "step", "Stack.step", defArgs s_Stack_step, defBody s_Stack_step, defScope s_Stack_step, [], []⟩
def d_Stack_ended : He.DefD := ⟨at_Stack_ended, "ended", "Stack.ended", defArgs s_Stack_ended, defBody s_Stack_ended, defScope s_Stack_ended, [], []⟩
def d_Stack_value : He.DefD := ⟨at_Stack_value, "value", "Stack.value", defArgs s_Stack_value, defBody s_Stack_value, defScope s_Stack_value, [], []⟩
def d_Owners_init : He.DefD := ⟨at_Owners_init, "__init__", "Owners.__init__", defArgs s_Owners_init, defBody s_Owners_init, defScope s_Owners_init, [], []⟩
def d_Hand_init : He.DefD := ⟨at_Hand_init, "__init__", "Hand.__init__", defArgs s_Hand_init, defBody s_Hand_init, defScope s_Hand_init, [], []⟩
def d_Box_init : He.DefD := ⟨at_Box_init, "__init__", "Box.__init__", defArgs s_Box_init, defBody s_Box_init, defScope s_Box_init, [], []⟩
def d_Box_send : He.DefD := ⟨at_Box_send, "send", "Box.send", defArgs s_Box_send, defBody s_Box_send, defScope s_Box_send, [], []⟩
def d_Box_take : He.DefD := ⟨at_Box_take, "take", "Box.take", defArgs s_Box_take, defBody s_Box_take, defScope s_Box_take, [], []⟩
def d_Box_letters : He.DefD := ⟨at_Box_letters, "letters", "Box.letters", defArgs s_Box_letters, defBody s_Box_letters, defScope s_Box_letters, [], []⟩
def d_Kernel_init : He.DefD := ⟨at_Kernel_init, "__init__", "Kernel.__init__", defArgs s_Kernel_init, defBody s_Kernel_init, defScope s_Kernel_init, [], []⟩
def d_Kernel_next_ticket : He.DefD := ⟨at_Kernel_next_ticket, "next_ticket", "Kernel.next_ticket", defArgs s_Kernel_next_ticket, defBody s_Kernel_next_ticket, defScope s_Kernel_next_ticket, [], []⟩
def d_Invalidating_init : He.DefD := ⟨at_Invalidating_init, "__init__", "Invalidating.__init__", defArgs s_Invalidating_init, defBody s_Invalidating_init, defScope s_Invalidating_init, [], []⟩
def d_Invalidating_request : He.DefD := ⟨at_Invalidating_request, "request", "Invalidating.request", defArgs s_Invalidating_request, defBody s_Invalidating_request, defScope s_Invalidating_request, [], []⟩
def d_Invalidating_accept : He.DefD := ⟨at_Invalidating_accept, "accept", "Invalidating.accept", defArgs s_Invalidating_accept, defBody s_Invalidating_accept, defScope s_Invalidating_accept, [], []⟩
def d_Buffer_init : He.DefD := ⟨at_Buffer_init, "__init__", "Buffer.__init__", defArgs s_Buffer_init, defBody s_Buffer_init, defScope s_Buffer_init, [], []⟩
def d_Buffer_put : He.DefD := ⟨at_Buffer_put, "put", "Buffer.put", defArgs s_Buffer_put, defBody s_Buffer_put, defScope s_Buffer_put, [], []⟩
def d_Buffer_drop : He.DefD := ⟨at_Buffer_drop, "drop", "Buffer.drop", defArgs s_Buffer_drop, defBody s_Buffer_drop, defScope s_Buffer_drop, [], []⟩
def d_Buffer_entries : He.DefD := ⟨at_Buffer_entries, "entries", "Buffer.entries", defArgs s_Buffer_entries, defBody s_Buffer_entries, defScope s_Buffer_entries, [], []⟩
def d_Sizes_init : He.DefD := ⟨at_Sizes_init, "__init__", "Sizes.__init__", defArgs s_Sizes_init, defBody s_Sizes_init, defScope s_Sizes_init, [], []⟩
def d_Sizes_acknowledge : He.DefD := ⟨at_Sizes_acknowledge, "acknowledge", "Sizes.acknowledge", defArgs s_Sizes_acknowledge, defBody s_Sizes_acknowledge, defScope s_Sizes_acknowledge, [], []⟩
def d_Sizes_word : He.DefD := ⟨at_Sizes_word, "word", "Sizes.word", defArgs s_Sizes_word, defBody s_Sizes_word, defScope s_Sizes_word, [], []⟩
def d_Memory_init : He.DefD := ⟨at_Memory_init, "__init__", "Memory.__init__", defArgs s_Memory_init, defBody s_Memory_init, defScope s_Memory_init, [], []⟩
def d_Memory_check_cell : He.DefD := ⟨at_Memory_check_cell, "check_cell", "Memory.check_cell", defArgs s_Memory_check_cell, defBody s_Memory_check_cell, defScope s_Memory_check_cell, [], []⟩
def d_Memory_check_request : He.DefD := ⟨at_Memory_check_request, "check_request", "Memory.check_request", defArgs s_Memory_check_request, defBody s_Memory_check_request, defScope s_Memory_check_request, [], []⟩
def d_Memory_check_page : He.DefD := ⟨at_Memory_check_page, "check_page", "Memory.check_page", defArgs s_Memory_check_page, defBody s_Memory_check_page, defScope s_Memory_check_page, [], []⟩
def d_Memory_access : He.DefD := ⟨at_Memory_access, "access", "Memory.access", defArgs s_Memory_access, defBody s_Memory_access, defScope s_Memory_access, [], []⟩
def d_Memory_result : He.DefD := ⟨at_Memory_result, "result", "Memory.result", defArgs s_Memory_result, defBody s_Memory_result, defScope s_Memory_result, [], []⟩
def d_Memory_cell_result : He.DefD := ⟨at_Memory_cell_result, "cell_result", "Memory.cell_result", defArgs s_Memory_cell_result, defBody s_Memory_cell_result, defScope s_Memory_cell_result, [], []⟩
def d_Memory_take : He.DefD := ⟨at_Memory_take, "take", "Memory.take", defArgs s_Memory_take, defBody s_Memory_take, defScope s_Memory_take, [], []⟩
def d_Memory_peek : He.DefD := ⟨at_Memory_peek, "peek", "Memory.peek", defArgs s_Memory_peek, defBody s_Memory_peek, defScope s_Memory_peek, [], []⟩
def d_is_integer : He.DefD := ⟨at_is_integer, "is_integer", "is_integer", defArgs s_is_integer, defBody s_is_integer, defScope s_is_integer, [], []⟩
def d_is_pair : He.DefD := ⟨at_is_pair, "is_pair", "is_pair", defArgs s_is_pair, defBody s_is_pair, defScope s_is_pair, [], []⟩
def d_is_letter : He.DefD := ⟨at_is_letter, "is_letter", "is_letter", defArgs s_is_letter, defBody s_is_letter, defScope s_is_letter, [], []⟩
def d_is_within : He.DefD := ⟨at_is_within, "is_within", "is_within", defArgs s_is_within, defBody s_is_within, defScope s_is_within, [], []⟩
def d_first_values : He.DefD := ⟨at_first_values, "first_values", "first_values", defArgs s_first_values, defBody s_first_values, defScope s_first_values, [], []⟩
def d_law_tape : He.DefD := ⟨at_law_tape, "_law_tape", "_law_tape", defArgs s_law_tape, defBody s_law_tape, defScope s_law_tape, [], []⟩
def d_law_at : He.DefD := ⟨at_law_at, "_law_at", "_law_at", defArgs s_law_at, defBody s_law_at, defScope s_law_at, [], []⟩
def d_law_word : He.DefD := ⟨at_law_word, "_law_word", "_law_word", defArgs s_law_word, defBody s_law_word, defScope s_law_word, [], []⟩
def d_law_other : He.DefD := ⟨at_law_other, "_law_other", "_law_other", defArgs s_law_other, defBody s_law_other, defScope s_law_other, [], []⟩
def d_law_entries : He.DefD := ⟨at_law_entries, "_law_entries", "_law_entries", defArgs s_law_entries, defBody s_law_entries, defScope s_law_entries, [], []⟩
def d_law_change : He.DefD := ⟨at_law_change, "_law_change", "_law_change", defArgs s_law_change, defBody s_law_change, defScope s_law_change, [], []⟩
def d_law_run : He.DefD := ⟨at_law_run, "_law_run", "_law_run", defArgs s_law_run, defBody s_law_run, defScope s_law_run, [], []⟩
def d_law : He.DefD := ⟨at_law, "law", "law", defArgs s_law, defBody s_law, defScope s_law, [], []⟩
def fn : List He.DefD := [d_Stack_init, d_Stack_settle, d_Stack_pass_on, d_Stack_step, d_Stack_ended, d_Stack_value, d_Owners_init, d_Hand_init, d_Box_init, d_Box_send, d_Box_take, d_Box_letters, d_Kernel_init, d_Kernel_next_ticket, d_Invalidating_init, d_Invalidating_request, d_Invalidating_accept, d_Buffer_init, d_Buffer_put, d_Buffer_drop, d_Buffer_entries, d_Sizes_init, d_Sizes_acknowledge, d_Sizes_word, d_Memory_init, d_Memory_check_cell, d_Memory_check_request, d_Memory_check_page, d_Memory_access, d_Memory_result, d_Memory_cell_result, d_Memory_take, d_Memory_peek, d_is_integer, d_is_pair, d_is_letter, d_is_within, d_first_values, d_law_tape, d_law_at, d_law_word, d_law_other, d_law_entries, d_law_change, d_law_run, d_law]
def fa : List He.Fa := [.glo "Stack", .cls "Stack", .mkr "Stack", .noat "Stack" "machines", .noat "Stack" "result", .meth "Stack" "settle", .meth "Stack" "pass_on", .meth "Stack" "step", .meth "Stack" "ended", .meth "Stack" "value", .glo "Owners", .cls "Owners", .mkr "Owners", .noat "Owners" "many", .noat "Owners" "lists", .noat "Owners" "taken", .glo "Hand", .cls "Hand", .mkr "Hand", .noat "Hand" "many", .noat "Hand" "place", .glo "Box", .cls "Box", .mkr "Box", .noat "Box" "rows", .meth "Box" "send", .meth "Box" "take", .meth "Box" "letters", .glo "Kernel", .cls "Kernel", .mkr "Kernel", .noat "Kernel" "memory", .noat "Kernel" "sizes", .noat "Kernel" "spaces", .noat "Kernel" "frames", .noat "Kernel" "blocks", .noat "Kernel" "hand", .noat "Kernel" "ticket", .meth "Kernel" "next_ticket", .glo "Invalidating", .cls "Invalidating", .mkr "Invalidating", .noat "Invalidating" "sizes", .noat "Invalidating" "sends", .noat "Invalidating" "waits", .noat "Invalidating" "last", .noat "Invalidating" "letter", .meth "Invalidating" "request", .meth "Invalidating" "accept", .glo "Buffer", .cls "Buffer", .mkr "Buffer", .noat "Buffer" "rows", .meth "Buffer" "put", .meth "Buffer" "drop", .meth "Buffer" "entries", .glo "Sizes", .cls "Sizes", .mkr "Sizes", .noat "Sizes" "processors", .noat "Sizes" "frames", .noat "Sizes" "blocks", .meth "Sizes" "acknowledge", .meth "Sizes" "word", .glo "Memory", .cls "Memory", .mkr "Memory", .noat "Memory" "sizes", .noat "Memory" "count", .noat "Memory" "held", .noat "Memory" "buffers", .noat "Memory" "boxes", .noat "Memory" "rows", .meth "Memory" "check_cell", .meth "Memory" "check_request", .meth "Memory" "check_page", .meth "Memory" "access", .meth "Memory" "result", .meth "Memory" "cell_result", .meth "Memory" "take", .meth "Memory" "peek", .glo "is_integer", .glo "is_pair", .glo "is_letter", .glo "is_within", .glo "first_values", .glo "_law_tape", .glo "_law_at", .glo "_law_word", .glo "_law_other", .glo "_law_entries", .glo "_law_change", .glo "_law_run", .glo "law", .int "SPACES" 4, .int "PAGES" 8, .int "MOST_ENTRIES" 2, .int "CELLS" 2, .int "FILES" 2, .int "FILE_PAGES" 4, .int "MOST_PROCESSORS" 3, .int "LEAST_FRAMES" 2, .int "MOST_FRAMES" 12, .int "MOST_BLOCKS" 12, .free "len", .free "isinstance", .free "int", .free "bool", .free "tuple", .free "all", .free "list", .free "range", .free "min", .free "abs", .glo "LENGTHS"]
def lenTab : List (Str × He.Dv) := [("read", .int 2), ("write", .int 3), ("swap", .int 4), ("send", .int 3), ("take", .int 1), ("walk", .int 3), ("load", .int 4), ("store", .int 5), ("change", .int 6)]
def tabs : List He.Tab := [((fun K => He.ga K "LENGTHS"), ["read", "write", "swap", "send", "take", "walk", "load", "store", "change"])]
def exB (K : PySem.W.Frag) : Bool := He.valsB K (He.ga K "LENGTHS") lenTab
def loose1 : List Str := ["Stack", "Owners", "Hand", "Box", "Kernel", "Invalidating", "Buffer", "Sizes", "Memory", "is_integer", "is_pair", "is_letter", "is_within", "first_values", "_law_tape", "_law_at", "_law_word", "_law_other", "_law_entries", "_law_change"]
def loose2 : List Str := ["_law_run", "SPACES", "PAGES", "MOST_ENTRIES", "CELLS", "FILES", "FILE_PAGES", "MOST_PROCESSORS", "LEAST_FRAMES", "MOST_FRAMES", "MOST_BLOCKS", "LENGTHS", "_wall", "PageError", "NotValid"]
def loose : List Str := loose1 ++ loose2
/-! what the walk asks of the top -/
structure T (w : World) (K : PySem.W.Frag) (mg : Str → Option Value) : Prop where
  g_Stack : mg "Stack" = some (.ref (C_Stack K))
  c_Stack : Cls K (C_Stack K)
  k_Stack : Mk K (C_Stack K) (He.fAd K at_Stack_init)
  n_Stack_machines : NoAttr K (C_Stack K) "machines"
  n_Stack_result : NoAttr K (C_Stack K) "result"
  m_Stack_settle : Meth K (C_Stack K) "settle" (He.fAd K at_Stack_settle)
  m_Stack_pass_on : Meth K (C_Stack K) "pass_on" (He.fAd K at_Stack_pass_on)
  m_Stack_step : Meth K (C_Stack K) "step" (He.fAd K at_Stack_step)
  m_Stack_ended : Meth K (C_Stack K) "ended" (He.fAd K at_Stack_ended)
  m_Stack_value : Meth K (C_Stack K) "value" (He.fAd K at_Stack_value)
  g_Owners : mg "Owners" = some (.ref (C_Owners K))
  c_Owners : Cls K (C_Owners K)
  k_Owners : Mk K (C_Owners K) (He.fAd K at_Owners_init)
  n_Owners_many : NoAttr K (C_Owners K) "many"
  n_Owners_lists : NoAttr K (C_Owners K) "lists"
  n_Owners_taken : NoAttr K (C_Owners K) "taken"
  g_Hand : mg "Hand" = some (.ref (C_Hand K))
  c_Hand : Cls K (C_Hand K)
  k_Hand : Mk K (C_Hand K) (He.fAd K at_Hand_init)
  n_Hand_many : NoAttr K (C_Hand K) "many"
  n_Hand_place : NoAttr K (C_Hand K) "place"
  g_Box : mg "Box" = some (.ref (C_Box K))
  c_Box : Cls K (C_Box K)
  k_Box : Mk K (C_Box K) (He.fAd K at_Box_init)
  n_Box_rows : NoAttr K (C_Box K) "rows"
  m_Box_send : Meth K (C_Box K) "send" (He.fAd K at_Box_send)
  m_Box_take : Meth K (C_Box K) "take" (He.fAd K at_Box_take)
  m_Box_letters : Meth K (C_Box K) "letters" (He.fAd K at_Box_letters)
  g_Kernel : mg "Kernel" = some (.ref (C_Kernel K))
  c_Kernel : Cls K (C_Kernel K)
  k_Kernel : Mk K (C_Kernel K) (He.fAd K at_Kernel_init)
  n_Kernel_memory : NoAttr K (C_Kernel K) "memory"
  n_Kernel_sizes : NoAttr K (C_Kernel K) "sizes"
  n_Kernel_spaces : NoAttr K (C_Kernel K) "spaces"
  n_Kernel_frames : NoAttr K (C_Kernel K) "frames"
  n_Kernel_blocks : NoAttr K (C_Kernel K) "blocks"
  n_Kernel_hand : NoAttr K (C_Kernel K) "hand"
  n_Kernel_ticket : NoAttr K (C_Kernel K) "ticket"
  m_Kernel_next_ticket : Meth K (C_Kernel K) "next_ticket" (He.fAd K at_Kernel_next_ticket)
  g_Invalidating : mg "Invalidating" = some (.ref (C_Invalidating K))
  c_Invalidating : Cls K (C_Invalidating K)
  k_Invalidating : Mk K (C_Invalidating K) (He.fAd K at_Invalidating_init)
  n_Invalidating_sizes : NoAttr K (C_Invalidating K) "sizes"
  n_Invalidating_sends : NoAttr K (C_Invalidating K) "sends"
  n_Invalidating_waits : NoAttr K (C_Invalidating K) "waits"
  n_Invalidating_last : NoAttr K (C_Invalidating K) "last"
  n_Invalidating_letter : NoAttr K (C_Invalidating K) "letter"
  m_Invalidating_request : Meth K (C_Invalidating K) "request" (He.fAd K at_Invalidating_request)
  m_Invalidating_accept : Meth K (C_Invalidating K) "accept" (He.fAd K at_Invalidating_accept)
  g_Buffer : mg "Buffer" = some (.ref (C_Buffer K))
  c_Buffer : Cls K (C_Buffer K)
  k_Buffer : Mk K (C_Buffer K) (He.fAd K at_Buffer_init)
  n_Buffer_rows : NoAttr K (C_Buffer K) "rows"
  m_Buffer_put : Meth K (C_Buffer K) "put" (He.fAd K at_Buffer_put)
  m_Buffer_drop : Meth K (C_Buffer K) "drop" (He.fAd K at_Buffer_drop)
  m_Buffer_entries : Meth K (C_Buffer K) "entries" (He.fAd K at_Buffer_entries)
  g_Sizes : mg "Sizes" = some (.ref (C_Sizes K))
  c_Sizes : Cls K (C_Sizes K)
  k_Sizes : Mk K (C_Sizes K) (He.fAd K at_Sizes_init)
  n_Sizes_processors : NoAttr K (C_Sizes K) "processors"
  n_Sizes_frames : NoAttr K (C_Sizes K) "frames"
  n_Sizes_blocks : NoAttr K (C_Sizes K) "blocks"
  m_Sizes_acknowledge : Meth K (C_Sizes K) "acknowledge" (He.fAd K at_Sizes_acknowledge)
  m_Sizes_word : Meth K (C_Sizes K) "word" (He.fAd K at_Sizes_word)
  g_Memory : mg "Memory" = some (.ref (C_Memory K))
  c_Memory : Cls K (C_Memory K)
  k_Memory : Mk K (C_Memory K) (He.fAd K at_Memory_init)
  n_Memory_sizes : NoAttr K (C_Memory K) "sizes"
  n_Memory_count : NoAttr K (C_Memory K) "count"
  n_Memory_held : NoAttr K (C_Memory K) "held"
  n_Memory_buffers : NoAttr K (C_Memory K) "buffers"
  n_Memory_boxes : NoAttr K (C_Memory K) "boxes"
  n_Memory_rows : NoAttr K (C_Memory K) "rows"
  m_Memory_check_cell : Meth K (C_Memory K) "check_cell" (He.fAd K at_Memory_check_cell)
  m_Memory_check_request : Meth K (C_Memory K) "check_request" (He.fAd K at_Memory_check_request)
  m_Memory_check_page : Meth K (C_Memory K) "check_page" (He.fAd K at_Memory_check_page)
  m_Memory_access : Meth K (C_Memory K) "access" (He.fAd K at_Memory_access)
  m_Memory_result : Meth K (C_Memory K) "result" (He.fAd K at_Memory_result)
  m_Memory_cell_result : Meth K (C_Memory K) "cell_result" (He.fAd K at_Memory_cell_result)
  m_Memory_take : Meth K (C_Memory K) "take" (He.fAd K at_Memory_take)
  m_Memory_peek : Meth K (C_Memory K) "peek" (He.fAd K at_Memory_peek)
  g_is_integer : mg "is_integer" = some (.ref (He.fAd K at_is_integer))
  g_is_pair : mg "is_pair" = some (.ref (He.fAd K at_is_pair))
  g_is_letter : mg "is_letter" = some (.ref (He.fAd K at_is_letter))
  g_is_within : mg "is_within" = some (.ref (He.fAd K at_is_within))
  g_first_values : mg "first_values" = some (.ref (He.fAd K at_first_values))
  g_law_tape : mg "_law_tape" = some (.ref (He.fAd K at_law_tape))
  g_law_at : mg "_law_at" = some (.ref (He.fAd K at_law_at))
  g_law_word : mg "_law_word" = some (.ref (He.fAd K at_law_word))
  g_law_other : mg "_law_other" = some (.ref (He.fAd K at_law_other))
  g_law_entries : mg "_law_entries" = some (.ref (He.fAd K at_law_entries))
  g_law_change : mg "_law_change" = some (.ref (He.fAd K at_law_change))
  g_law_run : mg "_law_run" = some (.ref (He.fAd K at_law_run))
  g_law : mg "law" = some (.ref (He.fAd K at_law))
  i_SPACES : ∃ t, mg "SPACES" = some (.int 4 t)
  i_PAGES : ∃ t, mg "PAGES" = some (.int 8 t)
  i_MOST_ENTRIES : ∃ t, mg "MOST_ENTRIES" = some (.int 2 t)
  i_CELLS : ∃ t, mg "CELLS" = some (.int 2 t)
  i_FILES : ∃ t, mg "FILES" = some (.int 2 t)
  i_FILE_PAGES : ∃ t, mg "FILE_PAGES" = some (.int 4 t)
  i_MOST_PROCESSORS : ∃ t, mg "MOST_PROCESSORS" = some (.int 3 t)
  i_LEAST_FRAMES : ∃ t, mg "LEAST_FRAMES" = some (.int 2 t)
  i_MOST_FRAMES : ∃ t, mg "MOST_FRAMES" = some (.int 12 t)
  i_MOST_BLOCKS : ∃ t, mg "MOST_BLOCKS" = some (.int 12 t)
  f_len : mg "len" = none
  f_isinstance : mg "isinstance" = none
  f_int : mg "int" = none
  f_bool : mg "bool" = none
  f_tuple : mg "tuple" = none
  f_all : mg "all" = none
  f_list : mg "list" = none
  f_range : mg "range" = none
  f_min : mg "min" = none
  f_abs : mg "abs" = none
  g_LENGTHS : mg "LENGTHS" = some (.ref (He.ga K "LENGTHS"))
  d_Stack_init : ∃ fd, DefAt K at_Stack_init "__init__" "Stack.__init__" s_Stack_init fd
  d_Stack_settle : ∃ fd, DefAt K at_Stack_settle "settle" "Stack.settle" s_Stack_settle fd
  d_Stack_pass_on : ∃ fd, DefAt K at_Stack_pass_on "pass_on" "Stack.pass_on" s_Stack_pass_on fd
  d_Stack_step : ∃ fd, DefAt K at_Stack_step "step" "Stack.step" s_Stack_step fd
  d_Stack_ended : ∃ fd, DefAt K at_Stack_ended "ended" "Stack.ended" s_Stack_ended fd
  d_Stack_value : ∃ fd, DefAt K at_Stack_value "value" "Stack.value" s_Stack_value fd
  d_Owners_init : ∃ fd, DefAt K at_Owners_init "__init__" "Owners.__init__" s_Owners_init fd
  d_Hand_init : ∃ fd, DefAt K at_Hand_init "__init__" "Hand.__init__" s_Hand_init fd
  d_Box_init : ∃ fd, DefAt K at_Box_init "__init__" "Box.__init__" s_Box_init fd
  d_Box_send : ∃ fd, DefAt K at_Box_send "send" "Box.send" s_Box_send fd
  d_Box_take : ∃ fd, DefAt K at_Box_take "take" "Box.take" s_Box_take fd
  d_Box_letters : ∃ fd, DefAt K at_Box_letters "letters" "Box.letters" s_Box_letters fd
  d_Kernel_init : ∃ fd, DefAt K at_Kernel_init "__init__" "Kernel.__init__" s_Kernel_init fd
  d_Kernel_next_ticket : ∃ fd, DefAt K at_Kernel_next_ticket "next_ticket" "Kernel.next_ticket" s_Kernel_next_ticket fd
  d_Invalidating_init : ∃ fd, DefAt K at_Invalidating_init "__init__" "Invalidating.__init__" s_Invalidating_init fd
  d_Invalidating_request : ∃ fd, DefAt K at_Invalidating_request "request" "Invalidating.request" s_Invalidating_request fd
  d_Invalidating_accept : ∃ fd, DefAt K at_Invalidating_accept "accept" "Invalidating.accept" s_Invalidating_accept fd
  d_Buffer_init : ∃ fd, DefAt K at_Buffer_init "__init__" "Buffer.__init__" s_Buffer_init fd
  d_Buffer_put : ∃ fd, DefAt K at_Buffer_put "put" "Buffer.put" s_Buffer_put fd
  d_Buffer_drop : ∃ fd, DefAt K at_Buffer_drop "drop" "Buffer.drop" s_Buffer_drop fd
  d_Buffer_entries : ∃ fd, DefAt K at_Buffer_entries "entries" "Buffer.entries" s_Buffer_entries fd
  d_Sizes_init : ∃ fd, DefAt K at_Sizes_init "__init__" "Sizes.__init__" s_Sizes_init fd
  d_Sizes_acknowledge : ∃ fd, DefAt K at_Sizes_acknowledge "acknowledge" "Sizes.acknowledge" s_Sizes_acknowledge fd
  d_Sizes_word : ∃ fd, DefAt K at_Sizes_word "word" "Sizes.word" s_Sizes_word fd
  d_Memory_init : ∃ fd, DefAt K at_Memory_init "__init__" "Memory.__init__" s_Memory_init fd
  d_Memory_check_cell : ∃ fd, DefAt K at_Memory_check_cell "check_cell" "Memory.check_cell" s_Memory_check_cell fd
  d_Memory_check_request : ∃ fd, DefAt K at_Memory_check_request "check_request" "Memory.check_request" s_Memory_check_request fd
  d_Memory_check_page : ∃ fd, DefAt K at_Memory_check_page "check_page" "Memory.check_page" s_Memory_check_page fd
  d_Memory_access : ∃ fd, DefAt K at_Memory_access "access" "Memory.access" s_Memory_access fd
  d_Memory_result : ∃ fd, DefAt K at_Memory_result "result" "Memory.result" s_Memory_result fd
  d_Memory_cell_result : ∃ fd, DefAt K at_Memory_cell_result "cell_result" "Memory.cell_result" s_Memory_cell_result fd
  d_Memory_take : ∃ fd, DefAt K at_Memory_take "take" "Memory.take" s_Memory_take fd
  d_Memory_peek : ∃ fd, DefAt K at_Memory_peek "peek" "Memory.peek" s_Memory_peek fd
  d_is_integer : ∃ fd, DefAt K at_is_integer "is_integer" "is_integer" s_is_integer fd
  d_is_pair : ∃ fd, DefAt K at_is_pair "is_pair" "is_pair" s_is_pair fd
  d_is_letter : ∃ fd, DefAt K at_is_letter "is_letter" "is_letter" s_is_letter fd
  d_is_within : ∃ fd, DefAt K at_is_within "is_within" "is_within" s_is_within fd
  d_first_values : ∃ fd, DefAt K at_first_values "first_values" "first_values" s_first_values fd
  d_law_tape : ∃ fd, DefAt K at_law_tape "_law_tape" "_law_tape" s_law_tape fd
  d_law_at : ∃ fd, DefAt K at_law_at "_law_at" "_law_at" s_law_at fd
  d_law_word : ∃ fd, DefAt K at_law_word "_law_word" "_law_word" s_law_word fd
  d_law_other : ∃ fd, DefAt K at_law_other "_law_other" "_law_other" s_law_other fd
  d_law_entries : ∃ fd, DefAt K at_law_entries "_law_entries" "_law_entries" s_law_entries fd
  d_law_change : ∃ fd, DefAt K at_law_change "_law_change" "_law_change" s_law_change fd
  d_law_run : ∃ fd, DefAt K at_law_run "_law_run" "_law_run" s_law_run fd
  d_law : ∃ fd, DefAt K at_law "law" "law" s_law fd
  lens : ∃ es n, KDict K w (He.ga K "LENGTHS") es n
  lenv : ∀ q ∈ lenTab, ∃ u, PySem.W.nsIn K (He.ga K "LENGTHS") q.1 = some (some u) ∧ RelV (q.2.v K) u
theorem t_of {w : World} {K : PySem.W.Frag} {mg : Str → Option Value} {h : Heap} (X : K.In h) (G : h.Ns mainGlobals mg) (s : He.SaysX fa fn tabs [] exB w h K) : T w K mg := by
  have c := s.t.d
  exact {
    g_Stack := He.glo_ok X G (c.fact 0 (f := .glo "Stack") rfl)
    c_Stack := He.cls_ok (c.fact 1 (f := .cls "Stack") rfl)
    k_Stack := He.mkr_ok (c.fact 2 (f := .mkr "Stack") rfl)
    n_Stack_machines := He.noat_ok (c.fact 3 (f := .noat "Stack" "machines") rfl)
    n_Stack_result := He.noat_ok (c.fact 4 (f := .noat "Stack" "result") rfl)
    m_Stack_settle := He.meth_ok (c.fact 5 (f := .meth "Stack" "settle") rfl)
    m_Stack_pass_on := He.meth_ok (c.fact 6 (f := .meth "Stack" "pass_on") rfl)
    m_Stack_step := He.meth_ok (c.fact 7 (f := .meth "Stack" "step") rfl)
    m_Stack_ended := He.meth_ok (c.fact 8 (f := .meth "Stack" "ended") rfl)
    m_Stack_value := He.meth_ok (c.fact 9 (f := .meth "Stack" "value") rfl)
    g_Owners := He.glo_ok X G (c.fact 10 (f := .glo "Owners") rfl)
    c_Owners := He.cls_ok (c.fact 11 (f := .cls "Owners") rfl)
    k_Owners := He.mkr_ok (c.fact 12 (f := .mkr "Owners") rfl)
    n_Owners_many := He.noat_ok (c.fact 13 (f := .noat "Owners" "many") rfl)
    n_Owners_lists := He.noat_ok (c.fact 14 (f := .noat "Owners" "lists") rfl)
    n_Owners_taken := He.noat_ok (c.fact 15 (f := .noat "Owners" "taken") rfl)
    g_Hand := He.glo_ok X G (c.fact 16 (f := .glo "Hand") rfl)
    c_Hand := He.cls_ok (c.fact 17 (f := .cls "Hand") rfl)
    k_Hand := He.mkr_ok (c.fact 18 (f := .mkr "Hand") rfl)
    n_Hand_many := He.noat_ok (c.fact 19 (f := .noat "Hand" "many") rfl)
    n_Hand_place := He.noat_ok (c.fact 20 (f := .noat "Hand" "place") rfl)
    g_Box := He.glo_ok X G (c.fact 21 (f := .glo "Box") rfl)
    c_Box := He.cls_ok (c.fact 22 (f := .cls "Box") rfl)
    k_Box := He.mkr_ok (c.fact 23 (f := .mkr "Box") rfl)
    n_Box_rows := He.noat_ok (c.fact 24 (f := .noat "Box" "rows") rfl)
    m_Box_send := He.meth_ok (c.fact 25 (f := .meth "Box" "send") rfl)
    m_Box_take := He.meth_ok (c.fact 26 (f := .meth "Box" "take") rfl)
    m_Box_letters := He.meth_ok (c.fact 27 (f := .meth "Box" "letters") rfl)
    g_Kernel := He.glo_ok X G (c.fact 28 (f := .glo "Kernel") rfl)
    c_Kernel := He.cls_ok (c.fact 29 (f := .cls "Kernel") rfl)
    k_Kernel := He.mkr_ok (c.fact 30 (f := .mkr "Kernel") rfl)
    n_Kernel_memory := He.noat_ok (c.fact 31 (f := .noat "Kernel" "memory") rfl)
    n_Kernel_sizes := He.noat_ok (c.fact 32 (f := .noat "Kernel" "sizes") rfl)
    n_Kernel_spaces := He.noat_ok (c.fact 33 (f := .noat "Kernel" "spaces") rfl)
    n_Kernel_frames := He.noat_ok (c.fact 34 (f := .noat "Kernel" "frames") rfl)
    n_Kernel_blocks := He.noat_ok (c.fact 35 (f := .noat "Kernel" "blocks") rfl)
    n_Kernel_hand := He.noat_ok (c.fact 36 (f := .noat "Kernel" "hand") rfl)
    n_Kernel_ticket := He.noat_ok (c.fact 37 (f := .noat "Kernel" "ticket") rfl)
    m_Kernel_next_ticket := He.meth_ok (c.fact 38 (f := .meth "Kernel" "next_ticket") rfl)
    g_Invalidating := He.glo_ok X G (c.fact 39 (f := .glo "Invalidating") rfl)
    c_Invalidating := He.cls_ok (c.fact 40 (f := .cls "Invalidating") rfl)
    k_Invalidating := He.mkr_ok (c.fact 41 (f := .mkr "Invalidating") rfl)
    n_Invalidating_sizes := He.noat_ok (c.fact 42 (f := .noat "Invalidating" "sizes") rfl)
    n_Invalidating_sends := He.noat_ok (c.fact 43 (f := .noat "Invalidating" "sends") rfl)
    n_Invalidating_waits := He.noat_ok (c.fact 44 (f := .noat "Invalidating" "waits") rfl)
    n_Invalidating_last := He.noat_ok (c.fact 45 (f := .noat "Invalidating" "last") rfl)
    n_Invalidating_letter := He.noat_ok (c.fact 46 (f := .noat "Invalidating" "letter") rfl)
    m_Invalidating_request := He.meth_ok (c.fact 47 (f := .meth "Invalidating" "request") rfl)
    m_Invalidating_accept := He.meth_ok (c.fact 48 (f := .meth "Invalidating" "accept") rfl)
    g_Buffer := He.glo_ok X G (c.fact 49 (f := .glo "Buffer") rfl)
    c_Buffer := He.cls_ok (c.fact 50 (f := .cls "Buffer") rfl)
    k_Buffer := He.mkr_ok (c.fact 51 (f := .mkr "Buffer") rfl)
    n_Buffer_rows := He.noat_ok (c.fact 52 (f := .noat "Buffer" "rows") rfl)
    m_Buffer_put := He.meth_ok (c.fact 53 (f := .meth "Buffer" "put") rfl)
    m_Buffer_drop := He.meth_ok (c.fact 54 (f := .meth "Buffer" "drop") rfl)
    m_Buffer_entries := He.meth_ok (c.fact 55 (f := .meth "Buffer" "entries") rfl)
    g_Sizes := He.glo_ok X G (c.fact 56 (f := .glo "Sizes") rfl)
    c_Sizes := He.cls_ok (c.fact 57 (f := .cls "Sizes") rfl)
    k_Sizes := He.mkr_ok (c.fact 58 (f := .mkr "Sizes") rfl)
    n_Sizes_processors := He.noat_ok (c.fact 59 (f := .noat "Sizes" "processors") rfl)
    n_Sizes_frames := He.noat_ok (c.fact 60 (f := .noat "Sizes" "frames") rfl)
    n_Sizes_blocks := He.noat_ok (c.fact 61 (f := .noat "Sizes" "blocks") rfl)
    m_Sizes_acknowledge := He.meth_ok (c.fact 62 (f := .meth "Sizes" "acknowledge") rfl)
    m_Sizes_word := He.meth_ok (c.fact 63 (f := .meth "Sizes" "word") rfl)
    g_Memory := He.glo_ok X G (c.fact 64 (f := .glo "Memory") rfl)
    c_Memory := He.cls_ok (c.fact 65 (f := .cls "Memory") rfl)
    k_Memory := He.mkr_ok (c.fact 66 (f := .mkr "Memory") rfl)
    n_Memory_sizes := He.noat_ok (c.fact 67 (f := .noat "Memory" "sizes") rfl)
    n_Memory_count := He.noat_ok (c.fact 68 (f := .noat "Memory" "count") rfl)
    n_Memory_held := He.noat_ok (c.fact 69 (f := .noat "Memory" "held") rfl)
    n_Memory_buffers := He.noat_ok (c.fact 70 (f := .noat "Memory" "buffers") rfl)
    n_Memory_boxes := He.noat_ok (c.fact 71 (f := .noat "Memory" "boxes") rfl)
    n_Memory_rows := He.noat_ok (c.fact 72 (f := .noat "Memory" "rows") rfl)
    m_Memory_check_cell := He.meth_ok (c.fact 73 (f := .meth "Memory" "check_cell") rfl)
    m_Memory_check_request := He.meth_ok (c.fact 74 (f := .meth "Memory" "check_request") rfl)
    m_Memory_check_page := He.meth_ok (c.fact 75 (f := .meth "Memory" "check_page") rfl)
    m_Memory_access := He.meth_ok (c.fact 76 (f := .meth "Memory" "access") rfl)
    m_Memory_result := He.meth_ok (c.fact 77 (f := .meth "Memory" "result") rfl)
    m_Memory_cell_result := He.meth_ok (c.fact 78 (f := .meth "Memory" "cell_result") rfl)
    m_Memory_take := He.meth_ok (c.fact 79 (f := .meth "Memory" "take") rfl)
    m_Memory_peek := He.meth_ok (c.fact 80 (f := .meth "Memory" "peek") rfl)
    g_is_integer := He.glo_ok X G (c.fact 81 (f := .glo "is_integer") rfl)
    g_is_pair := He.glo_ok X G (c.fact 82 (f := .glo "is_pair") rfl)
    g_is_letter := He.glo_ok X G (c.fact 83 (f := .glo "is_letter") rfl)
    g_is_within := He.glo_ok X G (c.fact 84 (f := .glo "is_within") rfl)
    g_first_values := He.glo_ok X G (c.fact 85 (f := .glo "first_values") rfl)
    g_law_tape := He.glo_ok X G (c.fact 86 (f := .glo "_law_tape") rfl)
    g_law_at := He.glo_ok X G (c.fact 87 (f := .glo "_law_at") rfl)
    g_law_word := He.glo_ok X G (c.fact 88 (f := .glo "_law_word") rfl)
    g_law_other := He.glo_ok X G (c.fact 89 (f := .glo "_law_other") rfl)
    g_law_entries := He.glo_ok X G (c.fact 90 (f := .glo "_law_entries") rfl)
    g_law_change := He.glo_ok X G (c.fact 91 (f := .glo "_law_change") rfl)
    g_law_run := He.glo_ok X G (c.fact 92 (f := .glo "_law_run") rfl)
    g_law := He.glo_ok X G (c.fact 93 (f := .glo "law") rfl)
    i_SPACES := He.int_ok X G (c.fact 94 (f := .int "SPACES" 4) rfl)
    i_PAGES := He.int_ok X G (c.fact 95 (f := .int "PAGES" 8) rfl)
    i_MOST_ENTRIES := He.int_ok X G (c.fact 96 (f := .int "MOST_ENTRIES" 2) rfl)
    i_CELLS := He.int_ok X G (c.fact 97 (f := .int "CELLS" 2) rfl)
    i_FILES := He.int_ok X G (c.fact 98 (f := .int "FILES" 2) rfl)
    i_FILE_PAGES := He.int_ok X G (c.fact 99 (f := .int "FILE_PAGES" 4) rfl)
    i_MOST_PROCESSORS := He.int_ok X G (c.fact 100 (f := .int "MOST_PROCESSORS" 3) rfl)
    i_LEAST_FRAMES := He.int_ok X G (c.fact 101 (f := .int "LEAST_FRAMES" 2) rfl)
    i_MOST_FRAMES := He.int_ok X G (c.fact 102 (f := .int "MOST_FRAMES" 12) rfl)
    i_MOST_BLOCKS := He.int_ok X G (c.fact 103 (f := .int "MOST_BLOCKS" 12) rfl)
    f_len := He.free_ok X G (c.fact 104 (f := .free "len") rfl)
    f_isinstance := He.free_ok X G (c.fact 105 (f := .free "isinstance") rfl)
    f_int := He.free_ok X G (c.fact 106 (f := .free "int") rfl)
    f_bool := He.free_ok X G (c.fact 107 (f := .free "bool") rfl)
    f_tuple := He.free_ok X G (c.fact 108 (f := .free "tuple") rfl)
    f_all := He.free_ok X G (c.fact 109 (f := .free "all") rfl)
    f_list := He.free_ok X G (c.fact 110 (f := .free "list") rfl)
    f_range := He.free_ok X G (c.fact 111 (f := .free "range") rfl)
    f_min := He.free_ok X G (c.fact 112 (f := .free "min") rfl)
    f_abs := He.free_ok X G (c.fact 113 (f := .free "abs") rfl)
    g_LENGTHS := He.glo_ok X G (c.fact 114 (f := .glo "LENGTHS") rfl)
    d_Stack_init := c.def_ 0 (d := d_Stack_init) rfl
    d_Stack_settle := c.def_ 1 (d := d_Stack_settle) rfl
    d_Stack_pass_on := c.def_ 2 (d := d_Stack_pass_on) rfl
    d_Stack_step := c.def_ 3 (d := d_Stack_step) rfl
    d_Stack_ended := c.def_ 4 (d := d_Stack_ended) rfl
    d_Stack_value := c.def_ 5 (d := d_Stack_value) rfl
    d_Owners_init := c.def_ 6 (d := d_Owners_init) rfl
    d_Hand_init := c.def_ 7 (d := d_Hand_init) rfl
    d_Box_init := c.def_ 8 (d := d_Box_init) rfl
    d_Box_send := c.def_ 9 (d := d_Box_send) rfl
    d_Box_take := c.def_ 10 (d := d_Box_take) rfl
    d_Box_letters := c.def_ 11 (d := d_Box_letters) rfl
    d_Kernel_init := c.def_ 12 (d := d_Kernel_init) rfl
    d_Kernel_next_ticket := c.def_ 13 (d := d_Kernel_next_ticket) rfl
    d_Invalidating_init := c.def_ 14 (d := d_Invalidating_init) rfl
    d_Invalidating_request := c.def_ 15 (d := d_Invalidating_request) rfl
    d_Invalidating_accept := c.def_ 16 (d := d_Invalidating_accept) rfl
    d_Buffer_init := c.def_ 17 (d := d_Buffer_init) rfl
    d_Buffer_put := c.def_ 18 (d := d_Buffer_put) rfl
    d_Buffer_drop := c.def_ 19 (d := d_Buffer_drop) rfl
    d_Buffer_entries := c.def_ 20 (d := d_Buffer_entries) rfl
    d_Sizes_init := c.def_ 21 (d := d_Sizes_init) rfl
    d_Sizes_acknowledge := c.def_ 22 (d := d_Sizes_acknowledge) rfl
    d_Sizes_word := c.def_ 23 (d := d_Sizes_word) rfl
    d_Memory_init := c.def_ 24 (d := d_Memory_init) rfl
    d_Memory_check_cell := c.def_ 25 (d := d_Memory_check_cell) rfl
    d_Memory_check_request := c.def_ 26 (d := d_Memory_check_request) rfl
    d_Memory_check_page := c.def_ 27 (d := d_Memory_check_page) rfl
    d_Memory_access := c.def_ 28 (d := d_Memory_access) rfl
    d_Memory_result := c.def_ 29 (d := d_Memory_result) rfl
    d_Memory_cell_result := c.def_ 30 (d := d_Memory_cell_result) rfl
    d_Memory_take := c.def_ 31 (d := d_Memory_take) rfl
    d_Memory_peek := c.def_ 32 (d := d_Memory_peek) rfl
    d_is_integer := c.def_ 33 (d := d_is_integer) rfl
    d_is_pair := c.def_ 34 (d := d_is_pair) rfl
    d_is_letter := c.def_ 35 (d := d_is_letter) rfl
    d_is_within := c.def_ 36 (d := d_is_within) rfl
    d_first_values := c.def_ 37 (d := d_first_values) rfl
    d_law_tape := c.def_ 38 (d := d_law_tape) rfl
    d_law_at := c.def_ 39 (d := d_law_at) rfl
    d_law_word := c.def_ 40 (d := d_law_word) rfl
    d_law_other := c.def_ 41 (d := d_law_other) rfl
    d_law_entries := c.def_ 42 (d := d_law_entries) rfl
    d_law_change := c.def_ 43 (d := d_law_change) rfl
    d_law_run := c.def_ 44 (d := d_law_run) rfl
    d_law := c.def_ 45 (d := d_law) rfl
    lens := s.t.tab 0 rfl
    lenv := fun q hq => He.valsB_ok s.more hq }
end K8

-- ===== part K8Head =====
set_option Elab.async false
set_option linter.all false
set_option maxRecDepth 100000
set_option maxHeartbeats 0
namespace K8
open PySem PySem.W PySem.Calls PyProof.Rows
abbrev RW : OpenRow := OpenLaw.row PySem.Challenge.rw_frametally_k08_whole_invalidations
abbrev hk : PySem.W.Hook := He.hookX 6 fa fn tabs [] exB
def ob (s : PySem.W.SharedT) : He.AlX := He.obsX 6 fa fn tabs [] exB (HandSHeadRun.getT s)
theorem ob_eq (s : PySem.W.SharedT) : ob s = hk.obs s.abs := He.obsX_eq (HandSHeadRun.getT_eq s)
theorem run0 (w : World) : HandSHeadRun.RunEq RW (PySem.W.view RW.prog [43]) hk ob 5000 loose (w.withFollow "special-get-raises" false) := by
  intro os
  kernel_rfl
theorem run1 (w : World) : HandSHeadRun.RunEq RW (PySem.W.view RW.prog [43]) hk ob 5000 loose (w.withFollow "special-get-raises" true) := by
  intro os
  kernel_rfl
theorem run (w : World) : HandSHeadRun.RunEq RW (PySem.W.view RW.prog [43]) hk ob 5000 loose w :=
  byRow2 "special-get-raises" (P := fun w => HandSHeadRun.RunEq RW (PySem.W.view RW.prog [43]) hk ob 5000 loose w) run0 run1 w
end K8

-- ===== part K8Plain =====
set_option Elab.async false
set_option linter.all false
set_option maxHeartbeats 4000000
/-! The plain part: what the memory holds, what an access does to it, and why the run of an invalidation ends within its 400 turns. -/
namespace K8
inductive Wd where
  | non | fr (i : Int) (b : Bool) | sw
structure En where
  s : Nat
  g : Nat
  i : Int
  b : Bool
structure Le where
  tk : Int
  ps : List (Nat × Nat)
structure MS where
  n : Nat
  cnt : Nat
  ack : Nat → Int
  wd : Nat → Nat → Wd
  buf : Nat → List En
  box : Nat → List Le
def fset {α : Type} (f : Nat → α) (p : Nat) (x : α) : Nat → α := fun q => if q = p then x else f q
theorem fset_same {α : Type} {f : Nat → α} {p : Nat} {x : α} : fset f p x p = x := if_pos rfl
theorem fset_ne {α : Type} {f : Nat → α} {p q : Nat} {x : α} (h : q ≠ p) : fset f p x q = f q := if_neg h
inductive Rq where
  | read (p : Nat) | write (s g : Nat) (w : Wd) | send (to : Nat) (l : Le) | take | walk (s g : Nat)
def Le.ok (l : Le) : Prop := 1 ≤ l.tk ∧ l.ps ≠ [] ∧ (∀ q ∈ l.ps, q.1 < 4 ∧ q.2 < 8) ∧ l.ps.length ≤ 100
def Rq.ok (n : Nat) : Rq → Prop
  | .read p => p < n
  | .write s g _ => s < 4 ∧ g < 8
  | .send to l => to < n ∧ l.ok
  | .take => True
  | .walk s g => s < 4 ∧ g < 8
/-- one more access -/
def MS.tick (S : MS) : MS := { S with cnt := S.cnt + 1 }
def drop (ps : List (Nat × Nat)) (b : List En) : List En := b.filter fun e => !decide ((e.s, e.g) ∈ ps)
/-- what an access of the processor p does -/
def Eff (S : MS) (p : Nat) : Rq → MS → Prop
  | .read _, S' => S' = S.tick
  | .write s g w, S' => S' = { S.tick with wd := fun a b => if a = s ∧ b = g then w else S.wd a b }
  | .send to l, S' => S' = { S.tick with box := fset S.box to (S.box to ++ [l]) }
  | .take, S' => (S.box p = [] ∧ S' = S.tick) ∨ ∃ l r, S.box p = l :: r ∧ S' = { S.tick with ack := fset S.ack p l.tk, box := fset S.box p r, buf := fset S.buf p (drop l.ps (S.buf p)) }
  | .walk s g, S' => ∃ bf, bf.length ≤ 2 ∧ (∀ e ∈ bf, e ∈ S.buf p ∨ (e.s = s ∧ e.g = g ∧ S.wd s g = .fr e.i e.b)) ∧ S' = { S.tick with buf := fset S.buf p bf }
theorem Eff.n {S S' : MS} {p : Nat} {r : Rq} (h : Eff S p r S') : S'.n = S.n := by
  cases r with
  | read _ => rw [show S' = S.tick from h]; rfl
  | write _ _ _ => rw [show S' = _ from h]; rfl
  | send _ _ => rw [show S' = _ from h]; rfl
  | take =>
    rcases h with ⟨_, h⟩ | ⟨_, _, _, h⟩
    · rw [h]; rfl
    · rw [h]; rfl
  | walk _ _ => obtain ⟨_, _, _, h⟩ := h; rw [h]; rfl
theorem Eff.cnt {S S' : MS} {p : Nat} {r : Rq} (h : Eff S p r S') : S'.cnt = S.cnt + 1 := by
  cases r with
  | read _ => rw [show S' = S.tick from h]; rfl
  | write _ _ _ => rw [show S' = _ from h]; rfl
  | send _ _ => rw [show S' = _ from h]; rfl
  | take =>
    rcases h with ⟨_, h⟩ | ⟨_, _, _, h⟩
    · rw [h]; rfl
    · rw [h]; rfl
  | walk _ _ => obtain ⟨_, _, _, h⟩ := h; rw [h]; rfl

/-! ### the turns of a run -/
/-- the tape -/
def atT (ts : List Int) (k : Nat) : Int := ts.getD k 0
/-- the number of turn k, whose turn it is -/
def num (ts : List Int) (place k : Nat) : Int := atT ts (place + k % 40) + (k / 40 : Nat)
def who (ts : List Int) (place n k : Nat) : Nat := (num ts place k % (n : Int)).toNat
theorem who_lt {ts : List Int} {place n k : Nat} (hn : 1 ≤ n) : who ts place n k < n := by
  unfold who
  have h1 := Int.emod_nonneg (num ts place k) (b := (n : Int)) (by omega)
  have h2 := Int.emod_lt_of_pos (num ts place k) (b := (n : Int)) (by omega)
  omega
theorem who_all {ts : List Int} {place n : Nat} (hn : 1 ≤ n) (h3 : n ≤ 3) (j c p : Nat) (hj : j < 40) (hp : p < n) : ∃ i, i < 3 ∧ who ts place n (j + 40 * (c + i)) = p := by
  have e : ∀ i, who ts place n (j + 40 * (c + i)) = ((atT ts (place + j) + ((c + i : Nat) : Int)) % (n : Int)).toNat := fun i => by
    unfold who num
    rw [show (j + 40 * (c + i)) % 40 = j by omega, show (j + 40 * (c + i)) / 40 = c + i by omega]
  have key : ∀ t : Int, ∃ i : Nat, i < 3 ∧ ((t + ((c + i : Nat) : Int)) % (n : Int)).toNat = p := fun t => by
    have : n = 1 ∨ n = 2 ∨ n = 3 := by omega
    rcases this with rfl | rfl | rfl
    · exact ⟨0, by omega, by omega⟩
    · by_cases h : ((t + (c : Int)) % 2).toNat = p
      · exact ⟨0, by omega, by omega⟩
      · exact ⟨1, by omega, by omega⟩
    · by_cases h : ((t + (c : Int)) % 3).toNat = p
      · exact ⟨0, by omega, by omega⟩
      · by_cases h1 : ((t + (c : Int) + 1) % 3).toNat = p
        · exact ⟨1, by omega, by omega⟩
        · exact ⟨2, by omega, by omega⟩
  obtain ⟨i, hi, q⟩ := key (atT ts (place + j))
  exact ⟨i, hi, by rw [e]; exact q⟩
/-- how often the processor 0 was picked ahead of turn k -/
def steps (h : Nat → Nat) : Nat → Nat
  | 0 => 0
  | k + 1 => steps h k + if h k = 0 then 1 else 0
theorem steps_mono {h : Nat → Nat} {a b : Nat} (hab : a ≤ b) : steps h a ≤ steps h b := by
  induction b with
  | zero => rw [show a = 0 by omega]; exact Nat.le_refl _
  | succ b ih =>
    by_cases e : a = b + 1
    · rw [e]; exact Nat.le_refl _
    · have := ih (by omega)
      show steps h a ≤ steps h b + _
      omega
theorem steps_hit {h : Nat → Nat} {k m : Nat} (e : h k = 0) (hk : k < m) : steps h k + 1 ≤ steps h m := by
  have h1 : steps h (k + 1) = steps h k + 1 := by show steps h k + (if h k = 0 then 1 else 0) = _; rw [if_pos e]
  have := steps_mono (h := h) (show k + 1 ≤ m by omega)
  omega
theorem steps_two {h : Nat → Nat} {k1 k2 m : Nat} (e1 : h k1 = 0) (e2 : h k2 = 0) (ne : k1 ≠ k2) (l1 : k1 < m) (l2 : k2 < m) : 2 ≤ steps h m := by
  by_cases o : k1 < k2
  · have a := steps_hit e1 o
    have b := steps_hit e2 l2
    omega
  · have a := steps_hit e2 (show k2 < k1 by omega)
    have b := steps_hit e1 l1
    omega
/-- by turn 120 the processor 0 was picked twice -/
theorem steps120 {ts : List Int} {place n : Nat} (hn : 1 ≤ n) (h3 : n ≤ 3) {k : Nat} (hk : 120 ≤ k) : 2 ≤ steps (who ts place n) k := by
  obtain ⟨i, hi, e1⟩ := who_all (ts := ts) (place := place) hn h3 0 0 0 (by omega) (by omega)
  obtain ⟨j, hj, e2⟩ := who_all (ts := ts) (place := place) hn h3 1 0 0 (by omega) (by omega)
  exact steps_two e1 e2 (by omega) (by omega) (by omega)

/-- the entries of the processor p for the pairs are what the table words say -/
def Coh (S : MS) (ps : List (Nat × Nat)) (p : Nat) : Prop := ∀ e ∈ S.buf p, (e.s, e.g) ∈ ps → S.wd e.s e.g = .fr e.i e.b
/-- a processor to which the letter was sent -/
def Sent (S : MS) (T : Int) (ps : List (Nat × Nat)) (p : Nat) : Prop :=
  (S.box p = [⟨T, ps⟩] ∧ S.ack p < T ∧ ps ≠ []) ∨ (S.box p = [] ∧ (ps = [] ∨ S.ack p = T) ∧ S.ack p ≤ T ∧ Coh S ps p)
/-- the state ahead of turn k: letters are to be sent from a on, acknowledgements are to be read from b on -/
structure Run (h : Nat → Nat) (n : Nat) (T : Int) (ps : List (Nat × Nat)) (k : Nat) (S : MS) (a b made : Nat) : Prop where
  n1 : 1 ≤ n
  n3 : n ≤ 3
  sn : S.n = n
  a1 : 1 ≤ a
  an : a ≤ n
  b1 : 1 ≤ b
  bn : b ≤ n
  ab : a < n → b = 1 ∧ ps ≠ []
  own : S.box 0 = [] ∧ Coh S ps 0
  sent : ∀ p, 1 ≤ p → p < a → Sent S T ps p
  togo : ∀ p, a ≤ p → p < n → S.box p = [] ∧ S.ack p < T
  acked : ∀ p, 1 ≤ p → p < b → S.box p = []
  many : (ps ≠ [] → (a - 1) + (b - 1) ≤ made) ∧ (ps = [] ∨ n = 1 → made = 0)
  nil : ps = [] → a = n ∧ b = n
  still : a = n → b = n → steps h k = 0
  st : a = n ∨ 1 + steps h k ≤ a
  got : ∀ p, 1 ≤ p → p < n → ∀ k', k' < k → 120 ≤ k' → k' ≤ 200 → h k' = p → S.box p = []
  late : 202 ≤ k → b = n ∨ 2 ≤ b
  late2 : 205 ≤ k → b = n ∨ 3 ≤ b
/-- what is reached -/
structure Done (n : Nat) (T : Int) (ps : List (Nat × Nat)) (S : MS) (made : Nat) : Prop where
  sn : S.n = n
  box : ∀ p, p < n → S.box p = []
  coh : ∀ p, p < n → Coh S ps p
  ack : ∀ p, 1 ≤ p → p < n → S.ack p ≤ T ∧ (ps = [] ∨ S.ack p = T)
  many : (ps ≠ [] → 2 * (n - 1) ≤ made) ∧ (ps = [] ∨ n = 1 → made = 0)
section
variable {ts : List Int} {place n : Nat} {T : Int} {ps : List (Nat × Nat)} {k a b made : Nat} {S S' : MS}
theorem Run.at120 (R : Run (who ts place n) n T ps k S a b made) (hk : 120 ≤ k) : a = n := by
  have h2 := steps120 (ts := ts) (place := place) R.n1 R.n3 hk
  have := R.n3
  have := R.an
  rcases R.st with e | e
  · exact e
  · omega
theorem Run.not_both (R : Run (who ts place n) n T ps k S a b made) (hk : 120 ≤ k) : b < n := by
  have h2 := steps120 (ts := ts) (place := place) R.n1 R.n3 hk
  have ea := R.at120 hk
  by_cases e : b = n
  · have := R.still ea e
    omega
  · have := R.bn
    omega
/-- no run comes to turn 205 -/
theorem Run.end (R : Run (who ts place n) n T ps k S a b made) (hk : 205 ≤ k) : False := by
  have h1 := R.not_both (by omega)
  have := R.n3
  rcases R.late2 hk with e | e <;> omega
/-- behind turn 200 all letters are taken -/
theorem Run.all_got (R : Run (who ts place n) n T ps k S a b made) (hk : 201 ≤ k) {p : Nat} (h1 : 1 ≤ p) (hp : p < n) : S.box p = [] := by
  obtain ⟨i, hi, e⟩ := who_all (ts := ts) (place := place) R.n1 R.n3 0 3 p (by omega) hp
  exact R.got p h1 hp _ (by omega) (by omega) (by omega) e
/-- no access: both were done -/
theorem Run.done0 (R : Run (who ts place n) n T ps k S a b made) (ea : a = n) (eb : b = n) : Done n T ps S made := by
  have n1 := R.n1
  refine ⟨R.sn, fun p hp => ?_, fun p hp => ?_, fun p h1 hp => ?_, fun h => ?_, R.many.2⟩
  · by_cases e : p = 0
    · rw [e]; exact R.own.1
    · exact R.acked p (by omega) (by omega)
  · by_cases e : p = 0
    · rw [e]; exact R.own.2
    · have hb := R.acked p (by omega) (by omega)
      rcases R.sent p (by omega) (by omega) with ⟨q, _⟩ | ⟨_, _, _, q⟩
      · rw [hb] at q; cases q
      · exact q
  · have hb := R.acked p h1 (by omega)
    rcases R.sent p h1 (by omega) with ⟨q, _⟩ | ⟨_, q2, q, _⟩
    · rw [hb] at q; cases q
    · exact ⟨q, q2⟩
  · have := R.many.1 h
    omega
/-- a letter is sent -/
theorem Run.send (R : Run (who ts place n) n T ps k S a b made) (ha : a < n) (E : Eff S 0 (.send a ⟨T, ps⟩) S') : Run (who ts place n) n T ps (k + 1) S' (a + 1) b (made + 1) := by
  have e : S' = { S.tick with box := fset S.box a (S.box a ++ [⟨T, ps⟩]) } := E
  subst e
  obtain ⟨hb, hps⟩ := R.ab ha
  have a1 := R.a1
  have k120 : k < 120 := by
    by_cases q : 120 ≤ k
    · have := R.at120 q
      omega
    · omega
  have coh : ∀ p, Coh S ps p → Coh { S.tick with box := fset S.box a (S.box a ++ [⟨T, ps⟩]) } ps p := fun p c => c
  refine ⟨R.n1, R.n3, R.sn, by omega, by omega, R.b1, R.bn, fun _ => ⟨hb, hps⟩, ⟨?_, coh 0 R.own.2⟩, fun p h1 hp => ?_, fun p h1 hp => ?_, fun p h1 hp => by omega, ⟨fun h => ?_, fun h => ?_⟩, fun h => absurd h hps, fun h1 h2 => by omega, ?_, fun p _ _ k' h1 h2 => by omega, fun h => by omega, fun h => by omega⟩
  · show fset S.box a _ 0 = []
    rw [fset_ne (by omega)]
    exact R.own.1
  · by_cases q : p = a
    · subst q
      obtain ⟨t1, t2⟩ := R.togo p (Nat.le_refl _) ha
      refine .inl ⟨?_, t2, hps⟩
      show fset S.box p _ p = _
      rw [fset_same, t1]
      rfl
    · have hq := R.sent p h1 (by omega)
      have eb : fset S.box a (S.box a ++ [⟨T, ps⟩]) p = S.box p := fset_ne q
      rcases hq with ⟨q1, q2, q3⟩ | ⟨q1, q2, q3, q4⟩
      · exact .inl ⟨eb.trans q1, q2, q3⟩
      · exact .inr ⟨eb.trans q1, q2, q3, q4⟩
  · obtain ⟨t1, t2⟩ := R.togo p (by omega) hp
    exact ⟨(fset_ne (by omega)).trans t1, t2⟩
  · have := R.many.1 h
    omega
  · rcases h with h | h
    · exact absurd h hps
    · omega
  · rcases R.st with q | q
    · omega
    · by_cases z : a + 1 = n
      · exact .inl z
      · right
        show 1 + (steps _ k + if _ then 1 else 0) ≤ a + 1
        split <;> omega
/-- an acknowledgement is read -/
theorem Run.read (R : Run (who ts place n) n T ps k S a b made) (ha : a = n) (hb : b < n) (pk : who ts place n k = 0 ∨ 200 < k) (E : Eff S 0 (.read b) S') :
    (S.ack b = T → (b + 1 = n → Done n T ps S' (made + 1)) ∧ (b + 1 < n → Run (who ts place n) n T ps (k + 1) S' a (b + 1) (made + 1))) ∧
    (S.ack b ≠ T → Run (who ts place n) n T ps (k + 1) S' a b (made + 1)) := by
  have e : S' = S.tick := E
  subst e
  have b1 := R.b1
  have hps : ps ≠ [] := fun q => by have := (R.nil q).2; omega
  have hS := R.sent b b1 (by omega)
  have mm := R.many.1 hps
  have n3 := R.n3
  have ackd : S.ack b = T → S.box b = [] := fun q => by
    rcases hS with ⟨_, q2, _⟩ | ⟨q1, _⟩
    · omega
    · exact q1
  have nack : S.ack b ≠ T → S.box b ≠ [] := fun q z => by
    rcases hS with ⟨q1, _⟩ | ⟨_, q2, _⟩
    · rw [z] at q1; cases q1
    · rcases q2 with q2 | q2
      · exact hps q2
      · exact q q2
  have acked' : S.ack b = T → ∀ p, 1 ≤ p → p < b + 1 → S.box p = [] := fun q p h1 hp => by
    by_cases z : p = b
    · rw [z]; exact ackd q
    · exact R.acked p h1 (by omega)
  have got' : ∀ p, 1 ≤ p → p < n → ∀ k', k' < k + 1 → 120 ≤ k' → k' ≤ 200 → who ts place n k' = p → S.box p = [] := fun p h1 hp k' l1 l2 l3 hk' => by
    by_cases z : k' = k
    · subst z
      rcases pk with o | o <;> omega
    · exact R.got p h1 hp k' (by omega) l2 l3 hk'
  have one : n = 1 → False := fun z => by omega
  refine ⟨fun q => ⟨fun z => ?_, fun z => ?_⟩, fun q => ?_⟩
  · refine ⟨R.sn, fun p hp => ?_, fun p hp => ?_, fun p h1 hp => ?_, fun _ => by omega, fun h => ?_⟩
    · by_cases y : p = 0
      · rw [y]; exact R.own.1
      · exact acked' q p (by omega) (by omega)
    · by_cases y : p = 0
      · rw [y]; exact R.own.2
      · have hb := acked' q p (by omega) (by omega)
        rcases R.sent p (by omega) (by omega) with ⟨w, _⟩ | ⟨_, _, _, w⟩
        · rw [hb] at w; cases w
        · exact w
    · have hb := acked' q p h1 (by omega)
      rcases R.sent p h1 (by omega) with ⟨w, _⟩ | ⟨_, w2, w, _⟩
      · rw [hb] at w; cases w
      · exact ⟨w, w2⟩
    · rcases h with h | h
      · exact absurd h hps
      · omega
  · refine ⟨R.n1, n3, R.sn, R.a1, R.an, by omega, by omega, fun h => by omega, R.own, R.sent, R.togo, acked' q, ⟨fun _ => by omega, fun h => ?_⟩, fun h => absurd h hps, fun _ h => by omega, .inl ha, got', fun _ => by omega, fun h => ?_⟩
    · rcases h with h | h
      · exact absurd h hps
      · omega
    · rcases R.late (by omega) with z | z <;> omega
  · have k201 : k < 201 := by
      by_cases z : 201 ≤ k
      · exact absurd (R.all_got z b1 hb) (nack q)
      · omega
    refine ⟨R.n1, n3, R.sn, R.a1, R.an, R.b1, R.bn, fun h => by omega, R.own, R.sent, R.togo, R.acked, ⟨fun _ => by omega, fun h => ?_⟩, fun h => absurd h hps, fun _ h => by omega, .inl ha, got', fun h => by omega, fun h => by omega⟩
    rcases h with h | h
    · exact absurd h hps
    · omega
/-- what stays where the table words and the processor's own things stay -/
theorem Sent.keep {T : Int} {ps : List (Nat × Nat)} {S S' : MS} {p : Nat} (h : Sent S T ps p) (e1 : S'.box p = S.box p) (e2 : S'.ack p = S.ack p) (e3 : S'.buf p = S.buf p) (e4 : S'.wd = S.wd) : Sent S' T ps p := by
  rcases h with ⟨h1, h2, h3⟩ | ⟨h1, h2, h3, h4⟩
  · exact .inl ⟨e1.trans h1, by rw [e2]; exact h2, h3⟩
  · refine .inr ⟨e1.trans h1, by rw [e2]; exact h2, by rw [e2]; exact h3, fun x hx hp => ?_⟩
    rw [e3] at hx
    rw [e4]
    exact h4 x hx hp
/-- walking keeps a processor's things right -/
theorem Coh.walk {ps : List (Nat × Nat)} {S S' : MS} {p q s g : Nat} (c : Coh S ps q) (E : Eff S p (.walk s g) S') : Coh S' ps q := by
  obtain ⟨bf, _, hb, e⟩ := E
  subst e
  intro x hx hp
  have hx' : x ∈ fset S.buf p bf q := hx
  show S.wd x.s x.g = _
  by_cases z : q = p
  · subst z
    rw [fset_same] at hx'
    rcases hb x hx' with y | ⟨y1, y2, y3⟩
    · exact c x y hp
    · rw [y1, y2]
      exact y3
  · rw [fset_ne z] at hx'
    exact c x hx' hp
theorem Coh.take {ps : List (Nat × Nat)} {S S' : MS} {p q : Nat} (c : Coh S ps q) (E : Eff S p .take S') : Coh S' ps q := by
  rcases E with ⟨_, e⟩ | ⟨l, r, _, e⟩
  · subst e
    exact c
  · subst e
    intro x hx hp
    have hx' : x ∈ fset S.buf p (K8.drop l.ps (S.buf p)) q := hx
    show S.wd x.s x.g = _
    by_cases z : q = p
    · subst z
      rw [fset_same] at hx'
      exact c x (List.mem_filter.mp hx').1 hp
    · rw [fset_ne z] at hx'
      exact c x hx' hp
/-- another processor's walk -/
theorem Run.walk {p s g : Nat} (R : Run (who ts place n) n T ps k S a b made) (E : Eff S p (.walk s g) S') : Run (who ts place n) n T ps k S' a b made := by
  have hE := E
  obtain ⟨bf, _, hb, e⟩ := E
  subst e
  refine ⟨R.n1, R.n3, R.sn, R.a1, R.an, R.b1, R.bn, R.ab, ⟨R.own.1, R.own.2.walk hE⟩, fun q h1 h2 => ?_, R.togo, R.acked, R.many, R.nil, R.still, R.st, R.got, R.late, R.late2⟩
  rcases R.sent q h1 h2 with ⟨y1, y2, y3⟩ | ⟨y1, y2, y3, y4⟩
  · exact .inl ⟨y1, y2, y3⟩
  · exact .inr ⟨y1, y2, y3, y4.walk hE⟩
/-- another processor takes its letter -/
theorem Run.take {p : Nat} (R : Run (who ts place n) n T ps k S a b made) (hp1 : 1 ≤ p) (hpn : p < n) (E : Eff S p .take S') : Run (who ts place n) n T ps k S' a b made ∧ (a = n → S'.box p = []) := by
  have hE := E
  rcases E with ⟨h0, e⟩ | ⟨l, r, hl, e⟩
  · subst e
    exact ⟨⟨R.n1, R.n3, R.sn, R.a1, R.an, R.b1, R.bn, R.ab, R.own, R.sent, R.togo, R.acked, R.many, R.nil, R.still, R.st, R.got, R.late, R.late2⟩, fun _ => h0⟩
  · -- the letter is this run's
    have hs : p < a := by
      by_cases z : p < a
      · exact z
      · have := (R.togo p (by omega) hpn).1
        rw [hl] at this
        cases this
    rcases R.sent p hp1 hs with ⟨y1, y2, y3⟩ | ⟨y1, _⟩
    · rw [hl] at y1
      injection y1 with e1 e2
      subst e1
      subst e2
      subst e
      have bx : ∀ q, (q = p → fset S.box p [] q = []) ∧ (q ≠ p → fset S.box p [] q = S.box q) := fun q => ⟨fun z => by rw [z]; exact fset_same, fun z => fset_ne z⟩
      have ax : ∀ q, q ≠ p → fset S.ack p T q = S.ack q := fun q z => fset_ne z
      refine ⟨⟨R.n1, R.n3, R.sn, R.a1, R.an, R.b1, R.bn, R.ab, ⟨((bx 0).2 (by omega)).trans R.own.1, R.own.2.take hE⟩, fun q h1 h2 => ?_, fun q h1 h2 => ?_, fun q h1 h2 => ?_, R.many, R.nil, R.still, R.st, fun q h1 h2 k' l1 l2 l3 l4 => ?_, R.late, R.late2⟩, fun _ => (bx p).1 rfl⟩
      · by_cases z : q = p
        · subst z
          refine .inr ⟨(bx q).1 rfl, .inr fset_same, ?_, fun x hx hq => ?_⟩
          · show fset S.ack q T q ≤ T
            rw [fset_same]
            exact Int.le_refl _
          · have hx' : x ∈ fset S.buf q (K8.drop ps (S.buf q)) q := hx
            rw [fset_same] at hx'
            have := (List.mem_filter.mp hx').2
            rw [decide_eq_true hq] at this
            cases this
        · rcases R.sent q h1 h2 with ⟨w1, w2, w3⟩ | ⟨w1, w2, w3, w4⟩
          · exact .inl ⟨((bx q).2 z).trans w1, by show fset S.ack p T q < T; rw [ax q z]; exact w2, w3⟩
          · exact .inr ⟨((bx q).2 z).trans w1, by show ps = [] ∨ fset S.ack p T q = T; rw [ax q z]; exact w2, by show fset S.ack p T q ≤ T; rw [ax q z]; exact w3, w4.take hE⟩
      · have z : q ≠ p := by omega
        exact ⟨((bx q).2 z).trans (R.togo q h1 h2).1, by show fset S.ack p T q < T; rw [ax q z]; exact (R.togo q h1 h2).2⟩
      · by_cases z : q = p
        · exact (bx q).1 z
        · exact ((bx q).2 z).trans (R.acked q h1 h2)
      · by_cases z : q = p
        · exact (bx q).1 z
        · exact ((bx q).2 z).trans (R.got q h1 h2 k' l1 l2 l3 l4)
    · rw [hl] at y1
      cases y1
/-- a turn of another processor is over: from turn 101 on it has taken its letter -/
theorem Run.next {p : Nat} (R : Run (who ts place n) n T ps k S a b made) (pk : who ts place n k = p) (hp1 : 1 ≤ p) (nf : ¬ (200 < k ∧ k % 3 = 0)) (hb : 100 < k → a = n → S.box p = []) : Run (who ts place n) n T ps (k + 1) S a b made := by
  have es : steps (who ts place n) (k + 1) = steps (who ts place n) k := by
    show steps (who ts place n) k + (if who ts place n k = 0 then 1 else 0) = _
    rw [if_neg (by omega)]
    rfl
  refine ⟨R.n1, R.n3, R.sn, R.a1, R.an, R.b1, R.bn, R.ab, R.own, R.sent, R.togo, R.acked, R.many, R.nil, fun h1 h2 => es.trans (R.still h1 h2), ?_, fun q h1 h2 k' l1 l2 l3 l4 => ?_, fun h => R.late ?_, fun h => R.late2 ?_⟩
  · rw [es]
    exact R.st
  · by_cases z : k' = k
    · subst z
      have : q = p := l4.symm.trans pk
      rw [this]
      exact hb (by omega) (R.at120 l2)
    · exact R.got q h1 h2 k' (by omega) l2 l3 l4
  · omega
  · omega
end
end K8

-- ===== part K8Rules =====
set_option Elab.async false
set_option linter.all false
set_option maxRecDepth 100000
set_option maxHeartbeats 4000000
namespace K8
open PySem PySem.Spec PyProof.Rows L2
/-! rules that the layer does not bring: a written dict's get; a pair in a list or a tuple of pairs -/
def tKGet (K : PySem.W.Frag) (w : World) (td ty : TE) : TE := fun σ H Q => td σ H fun x H1 => ∃ a, x = .ref a ∧ (∃ es n, KDict K w a es n) ∧
  ty σ H1 fun y H2 => ∃ z v u, y = .str z ∧ PySem.W.nsIn K a z = some (some u) ∧ RelV v u ∧ Q v H2
section
variable {X : Cx} {o e : Expr} {apos cpos : Pos} {td ty : TE}
theorem pe_kget (ho : PE X o td) (he : PE X e ty) (m : M1 X o "get" apos e cpos) : PE X (.Call (.Attribute o "get" apos) [e] [] cpos) (tKGet X.K X.w td ty) := by
  refine ⟨fun pins s σ H Q I h => ?_⟩
  refine wpAny_Call_method m.base m.few m.line PySem.F.plainAttrs_dict PySem.F.slot_dict_get PySem.F.type_dict_get (thn (ho.run pins s σ H _ I h) fun u s1 ⟨x, H1, I1, rx, a, ex, d, q1⟩ => ?_)
  subst ex
  obtain rfl : u = Value.ref a := rx
  obtain ⟨es, n, D⟩ := d
  refine ⟨kd_type D I1, fun b q => ?_, ?_⟩
  · cases q
    exact ⟨_, I1.kIn _ _ D.at_, rfl⟩
  rw [m.trees]
  refine Calls.callWith_builtin rfl (Calls.evalArgs_plain (Calls.spliced_cons (thn (he.run pins s1 σ H1 _ I1 q1) fun iv s2 ⟨y, H2, I2, ry, z, v, u0, ey, en, rv, q2⟩ => Calls.spliced_nil ?_)))
  subst ey
  obtain ⟨t, rfl⟩ := ry
  refine call_meetsIn PySem.F.slot_dict_get (kd_type D I2) PySem.F.entry_dict_get (PySem.F.args_dict_get_2 _ _) (meets_dict_get (strKind X.prog X.w) a (PySem.strKind_is X.prog X.w z t) D.low)
    ⟨_, PySem.W.mapOf_K (prog := X.prog) (w := X.w) I2.kIn D.at_ D.lit, ?_⟩
  rw [PySem.W.find_K D.at_ en]
  exact ⟨v, H2, I2.tok _, rv, q2⟩
end
/-- a value that is a pair of a space and a page -/
def PrV (H : Hp) (v : V) (q : Nat × Nat) : Prop := ∃ a, v = .ref a ∧ H a = some (.tup [.int (q.1 : Nat), .int (q.2 : Nat)])
def prD (q : Nat × Nat) : PyData := .tuple [.int (q.1 : Nat), .int (q.2 : Nat)]
theorem PrV.dp {K : PySem.W.Frag} {H : Hp} {v : V} {q : Nat × Nat} (h : PrV H v q) : Dp K H v (prD q) := by
  obtain ⟨a, rfl, e⟩ := h
  exact .tup (SqT.of e) (.cons (.int _) (.cons (.int _) .nil))
theorem prs_dp {K : PySem.W.Frag} {H : Hp} : ∀ {vs : List V} {qs : List (Nat × Nat)}, Paired (PrV H) vs qs → DpAll K H vs (qs.map prD)
  | _, _, .nil => .nil
  | _, _, .cons h t => .cons h.dp (prs_dp t)
theorem prD_lay (q : Nat × Nat) : (prD q).canLay0 = true := by simp [prD, PyData.canLay0, PyData.canLayAll0]
theorem prD_depth (q : Nat × Nat) : (prD q).depth = 1 := by simp [prD, PyData.depth, PyData.depthAll]
theorem prDs_lay : ∀ qs : List (Nat × Nat), PyData.canLayAll0 (qs.map prD) = true
  | [] => by simp [PyData.canLayAll0]
  | q :: qs => by simp [PyData.canLayAll0, prD_lay q, prDs_lay qs]
theorem prDs_depth : ∀ qs : List (Nat × Nat), PyData.depthAll (qs.map prD) ≤ 1
  | [] => by simp [PyData.depthAll]
  | q :: qs => by
    have h1 := prDs_depth qs
    have h2 := prD_depth q
    simp only [List.map_cons, PyData.depthAll]
    omega
theorem prD_shaped (q : Nat × Nat) : SeqAt.shaped (prD q) = true := by
  have h := prD_depth q
  show ((prD q).canLay0 && decide ((prD q).depth ≤ 64)) = true
  rw [Bool.and_eq_true]
  exact ⟨prD_lay q, decide_eq_true (by omega)⟩
theorem prDs_shapedL (qs : List (Nat × Nat)) : SeqAt.shaped (.list (qs.map prD)) = true := by
  have h1 := prDs_depth qs
  have h2 : PyData.depth (.list (qs.map prD)) ≤ 64 := by
    simp only [PyData.depth]
    omega
  show (PyData.canLay0 (.list (qs.map prD)) && decide (PyData.depth (.list (qs.map prD)) ≤ 64)) = true
  rw [Bool.and_eq_true]
  exact ⟨by simp only [PyData.canLay0]; exact prDs_lay qs, decide_eq_true h2⟩
theorem prD_eqv (z w : Nat × Nat) : PyData.eqv (prD z) (prD w) = decide (w = z) := by
  obtain ⟨a, b⟩ := z
  obtain ⟨a', b'⟩ := w
  have e : PyData.eqv (prD (a, b)) (prD (a', b')) = (((a : Int) == (a' : Int)) && (((b : Int) == (b' : Int)) && true)) := by simp only [prD, PyData.eqv, PyData.eqvAll]
  rw [e]
  by_cases h : ((a', b') : Nat × Nat) = (a, b)
  · cases h
    simp
  · rw [decide_eq_false h]
    by_cases h1 : a = a'
    · by_cases h2 : b = b'
      · exact absurd (by rw [h1, h2]) h
      · have q : ((b : Int) == (b' : Int)) = false := beq_eq_false_iff_ne.mpr (by omega)
        rw [q, Bool.false_and, Bool.and_false]
    · have q : ((a : Int) == (a' : Int)) = false := beq_eq_false_iff_ne.mpr (by omega)
      rw [q, Bool.false_and]
theorem any_prD (q : Nat × Nat) : ∀ qs : List (Nat × Nat), ((qs.map prD).any fun y => PyData.eqv y (prD q)) = decide (q ∈ qs)
  | [] => by simp
  | z :: qs => by
    rw [List.map_cons, List.any_cons, prD_eqv, any_prD q qs]
    by_cases h : q = z
    · simp [h]
    · simp [h]
theorem prs_eqv : ∀ qs : List (Nat × Nat), PyData.eqvAll (qs.map prD) (qs.map prD) = true
  | [] => by simp [PyData.eqvAll]
  | q :: qs => by simp [PyData.eqvAll, prD_eqv, prs_eqv qs]
/-- a pair is in a list or a tuple of pairs -/
def rInP (neg : Bool) : R2 := fun x y H Q => ∃ q c vs qs, PrV H x q ∧ y = .ref c ∧ (H c = some (.lst vs) ∨ H c = some (.tup vs)) ∧ Paired (PrV H) vs qs ∧ Q (.bl (if neg then !decide (q ∈ qs) else decide (q ∈ qs))) H
section
variable {X : Cx}
theorem op_inP (hu : X.A.units + 65 < cLine) : OpR X (compareOp .In) (rInP false) := by
  intro pins s σ H x y v u Q I rx ry h
  obtain ⟨q, c, vs, qs, hx, rfl, hc, hp, k⟩ := h
  obtain ⟨as, r1⟩ := Dp.reads I (prD q) x v hx.dp rx
  have sq := prD_shaped q
  rcases hc with hc | hc
  · obtain ⟨bs, r2⟩ := Dp.reads I (.list (qs.map prD)) (.ref c) u (.lst (SqL.of hc) (prs_dp hp)) ry
    refine SeqAt.in_list_reads r2 r1 (prDs_lay qs) (prD_lay q) (room_in_shaped sq hu) ?_
    rw [any_prD]
    exact ⟨.bl _, H, I, rfl, k⟩
  · obtain ⟨bs, r2⟩ := Dp.reads I (.tuple (qs.map prD)) (.ref c) u (.tup (SqT.of hc) (prs_dp hp)) ry
    refine SeqAt.in_tuple_reads r2 r1 (prDs_lay qs) (prD_lay q) (room_in_shaped sq hu) ?_
    rw [any_prD]
    exact ⟨.bl _, H, I, rfl, k⟩
theorem op_notInP (hu : X.A.units + 65 < cLine) : OpR X (compareOp .NotIn) (rInP true) := by
  intro pins s σ H x y v u Q I rx ry h
  obtain ⟨q, c, vs, qs, hx, rfl, hc, hp, k⟩ := h
  obtain ⟨as, r1⟩ := Dp.reads I (prD q) x v hx.dp rx
  have sq := prD_shaped q
  rcases hc with hc | hc
  · obtain ⟨bs, r2⟩ := Dp.reads I (.list (qs.map prD)) (.ref c) u (.lst (SqL.of hc) (prs_dp hp)) ry
    refine SeqAt.notIn_list_reads r2 r1 (prDs_lay qs) (prD_lay q) (room_in_shaped sq hu) ?_
    rw [any_prD]
    exact ⟨.bl _, H, I, rfl, k⟩
  · obtain ⟨bs, r2⟩ := Dp.reads I (.tuple (qs.map prD)) (.ref c) u (.tup (SqT.of hc) (prs_dp hp)) ry
    refine SeqAt.notIn_tuple_reads r2 r1 (prDs_lay qs) (prD_lay q) (room_in_shaped sq hu) ?_
    rw [any_prD]
    exact ⟨.bl _, H, I, rfl, k⟩
end
theorem hu65 {A : Around} {k : Nat} (hr : Room k A) : A.units + 65 < cLine := by have := hr.un; omega
/-- lookups in written lists of fields -/
theorem lk_hd {f : Str} {v : V} {fs : List (Str × V)} : (((f, v) :: fs : List (Str × V))).lookup f = some v := by
  show (match f == f with | true => some v | false => fs.lookup f) = some v
  rw [beq_self_eq_true]
end K8

-- ===== part K8A =====
set_option Elab.async false
set_option linter.all false
set_option maxRecDepth 100000
set_option maxHeartbeats 4000000
namespace K8
open PySem PySem.Spec PyProof.Rows L2
/-! small defs: integers, pairs, letters, bounds -/
abbrev Ok (P : Program) (w : World) (K : PySem.W.Frag) (mg : Str → Option Value) (base : Heap) (k : Nat) (at_ : Str × Option Str) (ps : List Str) (sp : Sp) : Prop :=
  ∃ fd, FnOk P w K mg base CX0 k (He.fAd K at_) fd ps sp ∧ Binds K fd ps [] ∧ PySem.W.keepIn K (.ref (He.fAd K at_)) = true
theorem ite_b {b : Bool} {A B : Prop} (h1 : b = true → A) (h2 : b = false → B) : if b = true then A else B := by
  cases b with
  | true => exact iteT (h1 rfl)
  | false => exact iteF (h2 rfl)
/-- a letter: its tuple, the tuple of its pairs -/
def LeV (H : Hp) (v : V) (l : Le) : Prop := ∃ a t vs, v = .ref a ∧ H a = some (.tup [.int l.tk, .ref t]) ∧ H t = some (.tup vs) ∧ Paired (PrV H) vs l.ps
def Tups (H H' : Hp) : Prop := ∀ a xs, H a = some (.tup xs) → H' a = some (.tup xs)
theorem Tups.refl (H : Hp) : Tups H H := fun _ _ e => e
theorem Tups.trans {H H1 H2 : Hp} (a : Tups H H1) (b : Tups H1 H2) : Tups H H2 := fun x xs e => b x xs (a x xs e)
theorem Same.tups {H H' : Hp} (h : Same H H') : Tups H H' := fun a xs e => h a _ e
theorem Tups.upd {H : Hp} {p : Addr} {o : HO} (h : ∀ xs, H p ≠ some (.tup xs)) : Tups H (upd H p o) := fun a xs e => by
  have ne : a ≠ p := fun q => h xs (by rw [← q]; exact e)
  rw [upd_ne ne]
  exact e
theorem Tups.new {H : Hp} {p : Addr} {o : HO} (h : H p = none) : Tups H (L2.upd H p o) := Tups.upd fun xs e => by rw [h] at e; cases e
theorem Same.new {H : Hp} {p : Addr} {o : HO} (h : H p = none) : Same H (L2.upd H p o) := fun a u e => by
  rw [upd_ne (ne_of_none e h)]
  exact e
theorem PrV.keep {H H' : Hp} {v : V} {q : Nat × Nat} (t : Tups H H') (h : PrV H v q) : PrV H' v q := by
  obtain ⟨a, e, h⟩ := h
  exact ⟨a, e, t _ _ h⟩
theorem Paired.keep {α : Type} {F G : V → α → Prop} (k : ∀ v q, F v q → G v q) {vs : List V} {qs : List α} (h : Paired F vs qs) : Paired G vs qs := Paired.mapP h k
theorem LeV.keep {H H' : Hp} {v : V} {l : Le} (t : Tups H H') (h : LeV H v l) : LeV H' v l := by
  obtain ⟨a, b, vs, e, h1, h2, h3⟩ := h
  exact ⟨a, b, vs, e, t _ _ h1, t _ _ h2, Paired.keep (fun _ _ => PrV.keep t) h3⟩
def spInt : Sp := fun vs H Q _ => ∃ i : Int, vs = [.int i] ∧ Q (.bl true) H
def spWithin : Sp := fun vs H Q _ => ∃ v lo hi : Int, vs = [.int v, .int lo, .int hi] ∧ Q (.bl (decide (lo ≤ v) && decide (v ≤ hi))) H
def spPair : Sp := fun vs H Q _ => ∃ v q, vs = [v] ∧ PrV H v q ∧ q.1 < 4 ∧ q.2 < 8 ∧ Q (.bl true) H
def spLetter : Sp := fun vs H Q _ => ∃ v l, vs = [v] ∧ LeV H v l ∧ l.ok ∧ ∀ H', Same H H' → Q (.bl true) H'
theorem sc_is_integer : FnScope ["value"] ["value"] (defScope s_is_integer) := ⟨rfl, rfl, rfl, by decide +kernel, rfl, by decide +kernel, by decide +kernel⟩
theorem sc_is_within : FnScope ["value", "low", "high"] ["value", "low", "high"] (defScope s_is_within) := ⟨rfl, rfl, rfl, by decide +kernel, rfl, by decide +kernel, by decide +kernel⟩
theorem sc_is_pair : FnScope ["value"] ["value"] (defScope s_is_pair) := ⟨rfl, rfl, rfl, by decide +kernel, rfl, by decide +kernel, by decide +kernel⟩
theorem sc_is_letter : FnScope ["value", "pairs", "pair"] ["value"] (defScope s_is_letter) := ⟨rfl, rfl, rfl, by decide +kernel, rfl, by decide +kernel, by decide +kernel⟩
theorem b_isinstance : bootBuiltins "isinstance" = some (.builtin "isinstance") := by decide +kernel
theorem b_int : bootBuiltins "int" = some (.type "int") := by decide +kernel
theorem b_bool : bootBuiltins "bool" = some (.type "bool") := by decide +kernel
theorem b_tuple : bootBuiltins "tuple" = some (.type "tuple") := by decide +kernel
theorem b_all : bootBuiltins "all" = some (.builtin "all") := by decide +kernel
theorem b_list : bootBuiltins "list" = some (.type "list") := by decide +kernel
theorem b_len : bootBuiltins "len" = some (.builtin "len") := by decide +kernel
theorem b_min : bootBuiltins "min" = some (.builtin "min") := by decide +kernel
theorem b_abs : bootBuiltins "abs" = some (.builtin "abs") := by decide +kernel
theorem kit_ii {K : PySem.W.Frag} : PySem.W.kitOne K (.type "int") (.type "int") = some true := kit_ty (by decide +kernel)
theorem kit_ib {K : PySem.W.Frag} : PySem.W.kitOne K (.type "int") (.type "bool") = some false := kit_ty (by decide +kernel)
theorem kit_tt {K : PySem.W.Frag} : PySem.W.kitOne K (.type "tuple") (.type "tuple") = some true := kit_ty (by decide +kernel)
section
variable {P : Program} {w : World} {K : PySem.W.Frag} {mg : Str → Option Value} {base : Heap}
theorem ok_is_integer (T : T w K mg) : Ok P w K mg base 1 at_is_integer ["value"] spInt := by
  obtain ⟨fd, F⟩ := T.d_is_integer
  refine ⟨fd, F.ok sc_is_integer (fun vs H Q E h => ?_) (fun cdv A outer s H vs Q E hr h => ?_), F.bindsN fun _ _ _ _ _ _ us hl => match us, hl with | [_], _ => rfl, F.kp⟩
  · obtain ⟨i, rfl, _⟩ := h
    rfl
  · obtain ⟨i, rfl, k⟩ := h
    refine ⟨_, PSs.nox (pss_one (ps_ret (pe_and (pe_callB call_isi (by rfl) T.f_isinstance b_isinstance (pa_cons (pv 0) (pa_cons (pe_bltn (v := .ty "int") (by rfl) T.f_int b_int rfl) pa_nil)))
      (pe_one (pe_not (pe_callB call_isi (by rfl) T.f_isinstance b_isinstance (pa_cons (pv 0) (pa_cons (pe_bltn (v := .ty "bool") (by rfl) T.f_bool b_bool rfl) pa_nil)))))))), ?_⟩
    refine ⟨_, rfl, _, _, .type "int", .type "int", true, rfl, .ty "int", .base (.int i), kit_ii, true, rfl, iteT ?_⟩
    exact ⟨_, rfl, _, _, .type "int", .type "bool", false, rfl, .ty "bool", .base (.int i), kit_ib, false, rfl, k⟩
theorem ok_is_within (T : T w K mg) : Ok P w K mg base 2 at_is_within ["value", "low", "high"] spWithin := by
  obtain ⟨_, G, b, kp⟩ := ok_is_integer (P := P) (base := base) T
  obtain ⟨fd, F⟩ := T.d_is_within
  refine ⟨fd, F.ok sc_is_within (fun vs H Q E h => ?_) (fun cdv A outer s H vs Q E hr h => ?_), F.bindsN fun _ _ _ _ _ _ us hl => match us, hl with | [_, _, _], _ => rfl, F.kp⟩
  · obtain ⟨i, lo, hi, rfl, _⟩ := h
    rfl
  · obtain ⟨i, lo, hi, rfl, k⟩ := h
    refine ⟨_, PSs.nox (pss_one (ps_ret (pe_and (pe_call G hr (by rfl) T.g_is_integer kp b .nil pass0 (pa_cons (pv 0) pa_nil)) (pe_one (pe_chain op_le op_le (pv 1) (pv 0) (pv 2)))))), ?_⟩
    refine ⟨_, rfl, i, rfl, true, rfl, iteT ?_⟩
    refine ⟨_, rfl, _, rfl, _, _, rfl, rfl, _, rfl, ?_⟩
    refine ite_b (fun h1 => ?_) (fun h1 => ?_)
    · refine ⟨_, rfl, _, _, rfl, rfl, ?_⟩
      rw [h1, Bool.true_and] at k
      exact k
    · rw [h1, Bool.false_and] at k
      exact k
theorem iteD {c A B : Prop} [Decidable c] (hc : c) (h : A) : if (decide c) = true then A else B := by
  rw [decide_eq_true hc]
  exact iteT h
theorem iteDF {c A B : Prop} [Decidable c] (hc : ¬ c) (h : B) : if (decide c) = true then A else B := by
  rw [decide_eq_false hc]
  exact iteF h
theorem ok_is_pair (T : T w K mg) : Ok P w K mg base 2 at_is_pair ["value"] spPair := by
  obtain ⟨_, G, b, kp⟩ := ok_is_integer (P := P) (base := base) T
  obtain ⟨fd, F⟩ := T.d_is_pair
  obtain ⟨tS, mS⟩ := T.i_SPACES
  obtain ⟨tP, mP⟩ := T.i_PAGES
  refine ⟨fd, F.ok sc_is_pair (fun vs H Q E h => ?_) (fun cdv A outer s H vs Q E hr h => ?_), F.bindsN fun _ _ _ _ _ _ us hl => match us, hl with | [_], _ => rfl, F.kp⟩
  · obtain ⟨v, q, rfl, _⟩ := h
    rfl
  · obtain ⟨v, q, rfl, ⟨a, rfl, hv⟩, h4, h8, k⟩ := h
    refine ⟨_, PSs.nox (pss_cons (ps_if (PW.pt (pw_or (pt_not (pt_val (pe_callB call_isi (by rfl) T.f_isinstance b_isinstance (pa_cons (pv 0) (pa_cons (pe_bltn (v := .ty "tuple") (by rfl) T.f_tuple b_tuple rfl) pa_nil)))))
        (pw_or (pt_cmpR op_ne (pe_callB call_len_seq (by rfl) T.f_len b_len (pa_cons (pv 0) pa_nil)) pe_int (nomark _))
        (pw_or (pt_not (pt_val (pe_call G hr (by rfl) T.g_is_integer kp b .nil pass0 (pa_cons (pe_ix ix_tup (pv 0) pe_int (fun _ _ => rfl)) pa_nil))))
        (pw_or1 (pt_not (pt_val (pe_call G hr (by rfl) T.g_is_integer kp b .nil pass0 (pa_cons (pe_ix ix_tup (pv 0) pe_int (fun _ _ => rfl)) pa_nil)))))))))
        (pss_one (ps_ret pe_bl)) pss_nil)
      (pss_one (ps_ret (pe_and (pe_chain op_le op_lt pe_int (pe_ix ix_tup (pv 0) pe_int (fun _ _ => rfl)) (pe_glob (v := .int 4) (by rfl) mS ⟨_, rfl⟩))
        (pe_one (pe_chain op_le op_lt pe_int (pe_ix ix_tup (pv 0) pe_int (fun _ _ => rfl)) (pe_glob (v := .int 8) (by rfl) mP ⟨_, rfl⟩))))))), ?_⟩
    refine ⟨_, rfl, _, _, .type "tuple", .type "tuple", true, rfl, .ty "tuple", .base (.tup hv), kit_tt, true, rfl, iteF ?_⟩
    refine ⟨_, rfl, a, _, rfl, .inr (SqT.of hv), rfl, _, rfl, iteNS rfl ?_⟩
    refine ⟨_, rfl, a, _, _, _, rfl, rfl, SqT.of hv, (by rfl), _, rfl, true, rfl, iteF ?_⟩
    refine ⟨_, rfl, a, _, _, _, rfl, rfl, SqT.of hv, (by rfl), _, rfl, true, rfl, ?_⟩
    refine iteF ?_
    refine ⟨_, rfl, a, _, _, _, rfl, rfl, SqT.of hv, (by rfl), _, _, rfl, rfl, _, rfl, iteD (by omega) ?_⟩
    refine ⟨_, _, rfl, rfl, _, rfl, iteD (by omega) ?_⟩
    refine ⟨_, rfl, a, _, _, _, rfl, rfl, SqT.of hv, (by rfl), _, _, rfl, rfl, _, rfl, iteD (by omega) ?_⟩
    refine ⟨_, _, rfl, rfl, ?_⟩
    have e : decide (((q.2 : Nat) : Int) < 8) = true := decide_eq_true (by omega)
    show Q (.bl (decide (((q.2 : Nat) : Int) < 8))) H
    rw [e]
    exact k
theorem Paired.get {α : Type} {F : V → α → Prop} : ∀ {vs : List V} {qs : List α} {i : Nat} {v : V}, Paired F vs qs → vs[i]? = some v → ∃ q, qs[i]? = some q ∧ F v q
  | _, _, _, _, .nil, e => by simp at e
  | _, _, 0, _, .cons r _, e => by
    have e := Option.some.inj e
    subst e
    exact ⟨_, rfl, r⟩
  | _, _, i + 1, v, .cons _ t, e => Paired.get (i := i) (v := v) t e
theorem small (n : Nat) (h : n ≤ 100000) : n < sizeLine := Nat.lt_of_le_of_lt h (by decide)
theorem ok_is_letter (T : T w K mg) : Ok P w K mg base 3 at_is_letter ["value"] spLetter := by
  obtain ⟨_, G, b, kp⟩ := ok_is_integer (P := P) (base := base) T
  obtain ⟨_, G2, b2, kp2⟩ := ok_is_pair (P := P) (base := base) T
  obtain ⟨fd, F⟩ := T.d_is_letter
  refine ⟨fd, F.ok sc_is_letter (fun vs H Q E h => ?_) (fun cdv A outer s H vs Q E hr h => ?_), F.bindsN fun _ _ _ _ _ _ us hl => match us, hl with | [_], _ => rfl, F.kp⟩
  · obtain ⟨v, q, rfl, _⟩ := h
    rfl
  · obtain ⟨v, l, rfl, ⟨a, t, ps, rfl, ha, ht, hp⟩, ⟨h1, h2, h3, h4⟩, k⟩ := h
    have hr1 : Room 1 _ := hr.mono (by decide)
    refine ⟨_, PSs.nox (pss_cons (ps_if (PW.pt (pw_or (pt_not (pt_val (pe_callB call_isi (by rfl) T.f_isinstance b_isinstance (pa_cons (pv 0) (pa_cons (pe_bltn (v := .ty "tuple") (by rfl) T.f_tuple b_tuple rfl) pa_nil)))))
        (pw_or (pt_cmpR op_ne (pe_callB call_len_seq (by rfl) T.f_len b_len (pa_cons (pv 0) pa_nil)) pe_int (nomark _))
        (pw_or (pt_not (pt_val (pe_call G hr1 (by rfl) T.g_is_integer kp b .nil pass0 (pa_cons (pe_ix ix_tup (pv 0) pe_int (fun _ _ => rfl)) pa_nil))))
        (pw_or1 (pt_cmpR op_lt (pe_ix ix_tup (pv 0) pe_int (fun _ _ => rfl)) pe_int (nomark _)))))))
        (pss_one (ps_ret pe_bl)) pss_nil)
      (pss_cons (ps_set (i := 1) sc_is_letter.nd rfl (Or.inl rfl) (pe_ix ix_tup (pv 0) pe_int (fun _ _ => rfl)))
      (pss_one (ps_ret (pe_and (pe_callB call_isi (by rfl) T.f_isinstance b_isinstance (pa_cons (pv 1) (pa_cons (pe_bltn (v := .ty "tuple") (by rfl) T.f_tuple b_tuple rfl) pa_nil)))
        (pe_and (pe_cmpR op_gt (pe_callB call_len_seq (by rfl) T.f_len b_len (pa_cons (pv 1) pa_nil)) pe_int (nomark _))
        (pe_one (pe_callB (cr_all rfl) (by rfl) T.f_all b_all (pa_cons (pe_lc (own := [("pair", 2)]) (g := gName 2) (tt := tYes) rfl sc_is_letter.nd (pi_tup (pv 1)) (blkOk_by (own := [("pair", 2)]) (N := ["value", "pairs", "pair"]) (sc := defScope s_is_letter) (by decide +kernel))
          (fun _ _ _ _ _ => pg_name (i := 2) sc_is_letter.nd rfl (Or.inl rfl)) (fun _ _ _ _ _ => pts_nil)
          (fun _ _ _ _ _ => pe_call G2 hr (by rfl) T.g_is_pair kp2 b2 .nil pass0 (pa_cons (pv 2) pa_nil))) pa_nil))))))))), ?_⟩
    refine ⟨_, rfl, _, _, .type "tuple", .type "tuple", true, rfl, .ty "tuple", .base (.tup ha), kit_tt, true, rfl, iteF ?_⟩
    refine ⟨_, rfl, a, _, rfl, .inr (SqT.of ha), rfl, _, rfl, iteNS rfl ?_⟩
    refine ⟨_, rfl, a, _, _, _, rfl, rfl, SqT.of ha, (by rfl), _, rfl, true, rfl, iteF ?_⟩
    refine ⟨_, rfl, a, _, _, _, rfl, rfl, SqT.of ha, (by rfl), _, _, rfl, rfl, _, rfl, iteDF (by omega) ?_⟩
    refine ⟨_, rfl, a, _, _, _, rfl, rfl, SqT.of ha, (by rfl), ?_⟩
    refine ⟨_, rfl, _, _, .type "tuple", .type "tuple", true, rfl, .ty "tuple", .base (.tup ht), kit_tt, true, rfl, iteT ?_⟩
    have hlen : ps.length = l.ps.length := Paired.length hp
    have hpos : 0 < l.ps.length := List.length_pos_iff.mpr h2
    refine ⟨_, rfl, t, _, rfl, .inr (SqT.of ht), _, _, rfl, rfl, _, rfl, iteD (by omega) ?_⟩
    refine ⟨_, rfl, t, rfl, ⟨_, SqT.of ht⟩, fun D hD => lc_tup (K := K) (a := t) (xs := ps) (fun i H' => Same H H' ∧ H' D = some (.lst (List.replicate i (.bl true)))) ⟨Same.new hD, upd_same⟩ (fun i H' _ q => SqT.of (q.1 _ _ ht)) ?_ ?_⟩
    · rintro i x H' hi ⟨sm, hL⟩
      obtain ⟨q, hq, hx⟩ := Paired.get hp hi
      have hb := h3 q (List.mem_of_getElem? hq)
      have hil : i < ps.length := (List.getElem?_eq_some_iff.mp hi).1
      refine ⟨rfl, ?_⟩
      refine ⟨_, rfl, x, q, rfl, PrV.keep (Same.tups sm) hx, hb.1, hb.2, _, hL, small _ (by rw [List.length_replicate]; omega), ?_, ?_⟩
      · exact fun c o e => by rw [upd_ne (ne_of_none e hD)]; exact sm c o e
      · rw [upd_same, List.replicate_succ']
    · rintro H' ⟨sm, hL⟩
      refine ⟨D, List.replicate ps.length true, rfl, SqL.of (by rw [hL, List.map_replicate]), ?_⟩
      have e : (List.replicate ps.length true).all id = true := by simp
      rw [e]
      exact k H' sm
end
end K8

-- ===== part K8B =====
set_option Elab.async false
set_option linter.all false
set_option maxRecDepth 100000
set_option maxHeartbeats 4000000
namespace K8
open PySem PySem.Spec PyProof.Rows L2
/-! boxes and buffers: an object with one list -/
abbrev fRows (r : Addr) : List (Str × V) := [("rows", .ref r)]
def RowsAt (C : Addr) (H : Hp) (p r : Addr) (vs : List V) : Prop := (∃ dx, H p = some (.ins C dx (fRows r))) ∧ H r = some (.lst vs)
/-- all but p is as it was -/
def But (p : Addr) (H H' : Hp) : Prop := ∀ b o, H b = some o → b ≠ p → H' b = some o
def EnV (H : Hp) (v : V) (e : En) : Prop := ∃ a, v = .ref a ∧ H a = some (.tup [.int (e.s : Nat), .int (e.g : Nat), .int e.i, .bl e.b])
def WdV (H : Hp) (v : V) : Wd → Prop
  | .non => v = .non
  | .fr i b => ∃ a, v = .ref a ∧ H a = some (.tup [.str "frame", .int i, .bl b])
  | .sw => ∃ a, v = .ref a ∧ H a = some (.tup [.str "swap", .int 1])
theorem EnV.keep {H H' : Hp} {v : V} {e : En} (t : Tups H H') (h : EnV H v e) : EnV H' v e := by
  obtain ⟨a, e, h⟩ := h
  exact ⟨a, e, t _ _ h⟩
theorem WdV.keep {H H' : Hp} {v : V} {x : Wd} (t : Tups H H') (h : WdV H v x) : WdV H' v x := by
  cases x with
  | non => exact h
  | fr i b =>
    obtain ⟨a, e, h⟩ := h
    exact ⟨a, e, t _ _ h⟩
  | sw =>
    obtain ⟨a, e, h⟩ := h
    exact ⟨a, e, t _ _ h⟩
theorem But.tups {p : Addr} {H H' : Hp} (h : But p H H') (hp : ∀ xs, H p ≠ some (.tup xs)) : Tups H H' := fun a xs e => h a _ e fun q => hp xs (by rw [← q]; exact e)
def spMade (C : Addr) : Sp := fun vs H Q _ => ∃ p dx, vs = [.ref p] ∧ H p = some (.ins C dx []) ∧ ∀ r H', H r = none → RowsAt C H' p r [] → But p H H' → Q .non H'
def spSend (C : Addr) : Sp := fun vs H Q _ => ∃ p r us v l, vs = [.ref p, v] ∧ RowsAt C H p r us ∧ LeV H v l ∧ l.ok ∧ us.length ≤ 1000 ∧ ∀ H', RowsAt C H' p r (us ++ [v]) → But r H H' → Q .non H'
def spTake (C : Addr) : Sp := fun vs H Q _ => ∃ p r us, vs = [.ref p] ∧ RowsAt C H p r us ∧ (us = [] → Q .non H) ∧
  (∀ v rest, us = v :: rest → ∀ r' H', H r' = none → RowsAt C H' p r' rest → But p H H' → Q v H')
def spRows (C : Addr) : Sp := fun vs H Q _ => ∃ p r us, vs = [.ref p] ∧ RowsAt C H p r us ∧ ∀ l H', H l = none → H' l = some (.lst us) → Same H H' → Q (.ref l) H'
def spDrop (C : Addr) : Sp := fun vs H Q _ => ∃ p r us es c ps qs, vs = [.ref p, .ref c] ∧ RowsAt C H p r us ∧ Paired (EnV H) us es ∧ us.length ≤ 1000 ∧ (H c = some (.lst ps) ∨ H c = some (.tup ps)) ∧ Paired (PrV H) ps qs ∧
  ∀ r' us' H', H r' = none → RowsAt C H' p r' us' → Paired (EnV H') us' (drop qs es) → But p H H' → Q .non H'
def spPut (C : Addr) : Sp := fun vs H Q _ => ∃ p r us es s g v x, vs = [.ref p, .int (s : Nat), .int (g : Nat), v] ∧ RowsAt C H p r us ∧ Paired (EnV H) us es ∧ us.length ≤ 2 ∧ WdV H v x ∧
  ∀ r' us' es' H', H r' = none → RowsAt C H' p r' us' → Paired (EnV H') us' es' → es'.length ≤ 2 → (∀ e ∈ es', e ∈ es ∨ (e.s = s ∧ e.g = g ∧ x = .fr e.i e.b)) → But p H H' → Q .non H'
theorem cutV_1 (xs : List V) : cutV xs (some 1) none = xs.drop 1 := by
  cases xs with
  | nil => rfl
  | cons a r =>
    unfold cutV
    have h1 : HT.sIx (a :: r).length 0 (some 1) = 1 := by simp [HT.sIx]
    have h2 : HT.sIx (a :: r).length (a :: r).length none = (a :: r).length := rfl
    rw [h1, h2]
    show (r).take ((a :: r).length - 1) = r
    rw [List.take_of_length_le (by simp)]
theorem cutV_m2 (xs : List V) : cutV xs (some (-2)) none = xs.drop (xs.length - 2) := by
  unfold cutV
  have h1 : HT.sIx xs.length 0 (some (-2)) = xs.length - 2 := by
    simp only [HT.sIx]
    split <;> omega
  have h2 : HT.sIx xs.length xs.length none = xs.length := rfl
  rw [h1, h2]
  exact List.take_of_length_le (by simp)
section
variable {P : Program} {w : World} {K : PySem.W.Frag} {mg : Str → Option Value} {base : Heap}
theorem sc_Box_init : FnScope ["self"] ["self"] (defScope s_Box_init) := ⟨rfl, rfl, rfl, by decide +kernel, rfl, by decide +kernel, by decide +kernel⟩
theorem ok_Box_init (T : T w K mg) : Ok P w K mg base 1 at_Box_init ["self"] (spMade (C_Box K)) := by
  obtain ⟨fd, F⟩ := T.d_Box_init
  refine ⟨fd, F.ok sc_Box_init (fun vs H Q E h => ?_) (fun cdv A outer s H vs Q E hr h => ?_), F.bindsN fun _ _ _ _ _ _ us hl => match us, hl with | [_], _ => rfl, F.kp⟩
  · obtain ⟨p, dx, rfl, _⟩ := h
    rfl
  · obtain ⟨p, dx, rfl, hp, k⟩ := h
    refine ⟨_, PSs.nox (pss_one (ps_fld (pv 0) (pe_lst pa_nil) rfl)), ?_⟩
    refine ⟨Nat.zero_le _, fun l hl => ?_⟩
    have npl : p ≠ l := ne_of_none hp hl
    refine ⟨_, rfl, p, C_Box K, dx, [], rfl, (by rw [upd_ne npl]; exact hp), T.c_Box, T.n_Box_rows, (by show 0 < 1000; decide), ?_⟩
    exact k l _ hl ⟨⟨dx, upd_same⟩, by rw [upd_ne npl.symm]; exact upd_same⟩ fun b o e hb => by rw [upd_ne hb, upd_ne (ne_of_none e hl)]; exact e
theorem sc_Buffer_init : FnScope ["self"] ["self"] (defScope s_Buffer_init) := ⟨rfl, rfl, rfl, by decide +kernel, rfl, by decide +kernel, by decide +kernel⟩
theorem ok_Buffer_init (T : T w K mg) : Ok P w K mg base 1 at_Buffer_init ["self"] (spMade (C_Buffer K)) := by
  obtain ⟨fd, F⟩ := T.d_Buffer_init
  refine ⟨fd, F.ok sc_Buffer_init (fun vs H Q E h => ?_) (fun cdv A outer s H vs Q E hr h => ?_), F.bindsN fun _ _ _ _ _ _ us hl => match us, hl with | [_], _ => rfl, F.kp⟩
  · obtain ⟨p, dx, rfl, _⟩ := h
    rfl
  · obtain ⟨p, dx, rfl, hp, k⟩ := h
    refine ⟨_, PSs.nox (pss_one (ps_fld (pv 0) (pe_lst pa_nil) rfl)), ?_⟩
    refine ⟨Nat.zero_le _, fun l hl => ?_⟩
    have npl : p ≠ l := ne_of_none hp hl
    refine ⟨_, rfl, p, C_Buffer K, dx, [], rfl, (by rw [upd_ne npl]; exact hp), T.c_Buffer, T.n_Buffer_rows, (by show 0 < 1000; decide), ?_⟩
    exact k l _ hl ⟨⟨dx, upd_same⟩, by rw [upd_ne npl.symm]; exact upd_same⟩ fun b o e hb => by rw [upd_ne hb, upd_ne (ne_of_none e hl)]; exact e
theorem sc_Box_send : FnScope ["self", "letter"] ["self", "letter"] (defScope s_Box_send) := ⟨rfl, rfl, rfl, by decide +kernel, rfl, by decide +kernel, by decide +kernel⟩
theorem ok_Box_send (T : T w K mg) : Ok P w K mg base 4 at_Box_send ["self", "letter"] (spSend (C_Box K)) := by
  obtain ⟨_, G, b, kp⟩ := ok_is_letter (P := P) (base := base) T
  obtain ⟨fd, F⟩ := T.d_Box_send
  refine ⟨fd, F.ok sc_Box_send (fun vs H Q E h => ?_) (fun cdv A outer s H vs Q E hr h => ?_), F.bindsN fun _ _ _ _ _ _ us hl => match us, hl with | [_, _], _ => rfl, F.kp⟩
  · obtain ⟨p, r, us, v, l, rfl, _⟩ := h
    rfl
  · obtain ⟨p, r, us, v, l, rfl, ⟨⟨dx, hp⟩, hL⟩, hv, hok, hlen, k⟩ := h
    refine ⟨_, PSs.nox (pss_cons (ps_if (pt_not (pt_val (pe_call G hr (by rfl) T.g_is_letter kp b .nil pass0 (pa_cons (pv 1) pa_nil)))) pss_never pss_nil)
      (pss_one (ps_expr (pe_bm PySem.F.plainAttrs_list PySem.F.slot_list_append PySem.F.type_list_append mt_append (pe_fld (pv 0) rfl) (pa_cons (pv 1) pa_nil))))), ?_⟩
    refine ⟨_, rfl, v, l, rfl, hv, hok, fun H1 sm => ⟨true, rfl, ?_⟩⟩
    have hp1 := sm _ _ hp
    have hL1 := sm _ _ hL
    have nrp : r ≠ p := ne_of hL1 hp1 (by intro q; cases q)
    refine ⟨_, rfl, p, C_Box K, dx, _, _, rfl, hp1, T.c_Box, T.n_Box_rows, rfl, .inl ⟨rfl, _, SqL.of hL1⟩, _, rfl, r, _, _, rfl, rfl, hL1, small _ (by omega), ?_⟩
    exact k _ ⟨⟨dx, by rw [upd_ne nrp.symm]; exact hp1⟩, upd_same⟩ fun c o e hc => by rw [upd_ne hc]; exact sm _ _ e
theorem sc_Box_take : FnScope ["self", "letter"] ["self"] (defScope s_Box_take) := ⟨rfl, rfl, rfl, by decide +kernel, rfl, by decide +kernel, by decide +kernel⟩
theorem ok_Box_take (T : T w K mg) : Ok P w K mg base 1 at_Box_take ["self"] (spTake (C_Box K)) := by
  obtain ⟨fd, F⟩ := T.d_Box_take
  refine ⟨fd, F.ok sc_Box_take (fun vs H Q E h => ?_) (fun cdv A outer s H vs Q E hr h => ?_), F.bindsN fun _ _ _ _ _ _ us hl => match us, hl with | [_], _ => rfl, F.kp⟩
  · obtain ⟨p, r, us, rfl, _⟩ := h
    rfl
  · obtain ⟨p, r, us, rfl, ⟨⟨dx, hp⟩, hL⟩, k0, k1⟩ := h
    refine ⟨_, PSs.nox (pss_cons (ps_if (pt_not (pt_truth (pe_fld (pv 0) rfl) (by intro _; rfl))) (pss_one (ps_ret pe_non)) pss_nil)
      (pss_cons (ps_set (i := 1) sc_Box_take.nd rfl (Or.inl rfl) (pe_ix ix_list (pe_fld (pv 0) rfl) pe_int (fun _ _ => rfl)))
      (pss_cons (ps_fld (pv 0) (pe_slice sl_list (pe_fld (pv 0) rfl) (po_some pe_int) po_none) rfl)
      (pss_one (ps_ret (pv 1)))))), ?_⟩
    refine ⟨_, rfl, p, C_Box K, dx, _, _, rfl, hp, T.c_Box, T.n_Box_rows, rfl, _, .inl ⟨us, SqL.of hL, rfl⟩, ?_⟩
    cases us with
    | nil => exact k0 rfl
    | cons v rest =>
      refine ⟨_, rfl, p, C_Box K, dx, _, _, rfl, hp, T.c_Box, T.n_Box_rows, rfl, r, _, _, _, rfl, rfl, SqL.of hL, at_of (j := 0) rfl rfl, ?_⟩
      refine ⟨_, rfl, p, C_Box K, dx, _, _, rfl, hp, T.c_Box, T.n_Box_rows, rfl, _, rfl, r, _, rfl, SqL.of hL, fun q hq => ?_⟩
      have npq : p ≠ q := ne_of_none hp hq
      refine ⟨_, rfl, p, C_Box K, dx, _, rfl, (by rw [upd_ne npq]; exact hp), T.c_Box, T.n_Box_rows, (by show 1 < 1000; decide), _, rfl, ?_⟩
      exact k1 v rest rfl q _ hq ⟨⟨dx, upd_same⟩, by rw [upd_ne npq.symm, upd_same, cutV_1]; rfl⟩ fun c o e hc => by rw [upd_ne hc, upd_ne (ne_of_none e hq)]; exact e
theorem sc_Box_letters : FnScope ["self"] ["self"] (defScope s_Box_letters) := ⟨rfl, rfl, rfl, by decide +kernel, rfl, by decide +kernel, by decide +kernel⟩
theorem ok_Box_letters (T : T w K mg) : Ok P w K mg base 1 at_Box_letters ["self"] (spRows (C_Box K)) := by
  obtain ⟨fd, F⟩ := T.d_Box_letters
  refine ⟨fd, F.ok sc_Box_letters (fun vs H Q E h => ?_) (fun cdv A outer s H vs Q E hr h => ?_), F.bindsN fun _ _ _ _ _ _ us hl => match us, hl with | [_], _ => rfl, F.kp⟩
  · obtain ⟨p, r, us, rfl, _⟩ := h
    rfl
  · obtain ⟨p, r, us, rfl, ⟨⟨dx, hp⟩, hL⟩, k⟩ := h
    refine ⟨_, PSs.nox (pss_one (ps_ret (pe_callTy call_list_of (by rfl) T.f_list b_list (pa_cons (pe_fld (pv 0) rfl) pa_nil)))), ?_⟩
    refine ⟨_, rfl, p, C_Box K, dx, _, _, rfl, hp, T.c_Box, T.n_Box_rows, rfl, r, _, rfl, .inl (SqL.of hL), fun l hl => ?_⟩
    exact k l _ hl upd_same (Same.new hl)
theorem sc_Buffer_entries : FnScope ["self"] ["self"] (defScope s_Buffer_entries) := ⟨rfl, rfl, rfl, by decide +kernel, rfl, by decide +kernel, by decide +kernel⟩
theorem ok_Buffer_entries (T : T w K mg) : Ok P w K mg base 1 at_Buffer_entries ["self"] (spRows (C_Buffer K)) := by
  obtain ⟨fd, F⟩ := T.d_Buffer_entries
  refine ⟨fd, F.ok sc_Buffer_entries (fun vs H Q E h => ?_) (fun cdv A outer s H vs Q E hr h => ?_), F.bindsN fun _ _ _ _ _ _ us hl => match us, hl with | [_], _ => rfl, F.kp⟩
  · obtain ⟨p, r, us, rfl, _⟩ := h
    rfl
  · obtain ⟨p, r, us, rfl, ⟨⟨dx, hp⟩, hL⟩, k⟩ := h
    refine ⟨_, PSs.nox (pss_one (ps_ret (pe_callTy call_list_of (by rfl) T.f_list b_list (pa_cons (pe_fld (pv 0) rfl) pa_nil)))), ?_⟩
    refine ⟨_, rfl, p, C_Buffer K, dx, _, _, rfl, hp, T.c_Buffer, T.n_Buffer_rows, rfl, r, _, rfl, .inl (SqL.of hL), fun l hl => ?_⟩
    exact k l _ hl upd_same (Same.new hl)
end
end K8

-- ===== part K8C =====
set_option Elab.async false
set_option linter.all false
set_option maxRecDepth 100000
set_option maxHeartbeats 4000000
namespace K8
open PySem PySem.Spec PyProof.Rows L2
/-! a buffer's drop and put -/
theorem cut2 (a b c d : V) : cutV [a, b, c, d] none (some 2) = [a, b] := by
  have h1 : HT.sIx ([a, b, c, d] : List V).length 0 none = 0 := rfl
  have h2 : HT.sIx ([a, b, c, d] : List V).length ([a, b, c, d] : List V).length (some 2) = 2 := by simp [HT.sIx]
  unfold cutV
  rw [h1, h2]
  rfl
theorem cut2_no (a b c d : V) : ¬ (HT.sIx ([a, b, c, d] : List V).length 0 none = 0 ∧ HT.sIx ([a, b, c, d] : List V).length ([a, b, c, d] : List V).length (some 2) = ([a, b, c, d] : List V).length) := by
  have h2 : HT.sIx ([a, b, c, d] : List V).length ([a, b, c, d] : List V).length (some 2) = 2 := by simp [HT.sIx]
  rw [h2]
  intro h
  have := h.2
  simp at this
theorem drop_take (qs : List (Nat × Nat)) (es : List En) (i : Nat) (e : En) (h : es[i]? = some e) :
    drop qs (es.take (i + 1)) = drop qs (es.take i) ++ (if (e.s, e.g) ∈ qs then [] else [e]) := by
  unfold drop
  rw [List.take_succ, h, List.filter_append]
  congr 1
  show List.filter _ [e] = _
  by_cases q : (e.s, e.g) ∈ qs
  · simp [q]
  · simp [q]
section
variable {P : Program} {w : World} {K : PySem.W.Frag} {mg : Str → Option Value} {base : Heap}
theorem sc_Buffer_drop : FnScope ["self", "pairs", "row"] ["self", "pairs"] (defScope s_Buffer_drop) := ⟨rfl, rfl, rfl, by decide +kernel, rfl, by decide +kernel, by decide +kernel⟩
theorem ok_Buffer_drop (T : T w K mg) : Ok P w K mg base 1 at_Buffer_drop ["self", "pairs"] (spDrop (C_Buffer K)) := by
  obtain ⟨fd, F⟩ := T.d_Buffer_drop
  refine ⟨fd, F.ok sc_Buffer_drop (fun vs H Q E h => ?_) (fun cdv A outer s H vs Q E hr h => ?_), F.bindsN fun _ _ _ _ _ _ us hl => match us, hl with | [_, _], _ => rfl, F.kp⟩
  · obtain ⟨p, r, us, es, c, ps, qs, rfl, _⟩ := h
    rfl
  · obtain ⟨p, r, us, es, c, ps, qs, rfl, ⟨⟨dx, hp⟩, hL⟩, hE, hlen, hc, hq, k⟩ := h
    have hu : A.units + 3 + 65 < cLine := hu65 hr
    refine ⟨_, PSs.nox (pss_one (ps_fld (pv 0) (pe_lc (own := [("row", 2)]) (g := gName 2) (tt := tTest (tOp (rInP true) (tSl (rSlT K) (tVar 2) tNoPart (tPart (tC (V.int 2)))) (tVar 1))) (te := tVar 2) rfl sc_Buffer_drop.nd (pi_list (pe_fld (pv 0) rfl))
      (blkOk_by (own := [("row", 2)]) (N := ["self", "pairs", "row"]) (sc := defScope s_Buffer_drop) (by decide +kernel))
      (fun _ _ _ _ _ => pg_name (i := 2) sc_Buffer_drop.nd rfl (Or.inl rfl)) (fun _ _ _ _ _ => pts_one (pt_cmpR (op_notInP hu) (pe_slice sl_tup (pv 2) po_none (po_some pe_int)) (pv 1) (by rfl)))
      (fun _ _ _ _ _ => pv 2)) rfl)), ?_⟩
    refine ⟨_, rfl, p, C_Buffer K, dx, _, _, rfl, hp, T.c_Buffer, T.n_Buffer_rows, rfl, r, rfl, ⟨_, SqL.of hL⟩, fun D hD => ?_⟩
    have hlE : us.length = es.length := Paired.length hE
    refine lc_list (K := K) (a := r) (xs := us) (fun i H' => Same H H' ∧ ∃ us', H' D = some (.lst us') ∧ us'.length ≤ i ∧ Paired (EnV H') us' (drop qs (es.take i))) ⟨Same.new hD, [], upd_same, Nat.le_refl _, .nil⟩ (fun i H' _ q => SqL.of (q.1 _ _ hL)) ?_ ?_
    · rintro i x H' hi ⟨sm, us', hL', hi', hp'⟩
      obtain ⟨e, he, a, rfl, ha⟩ := Paired.get hE hi
      have ha' := sm _ _ ha
      have hnd : H' D ≠ none := by rw [hL']; intro z; cases z
      refine ⟨rfl, _, rfl, _, rfl, a, _, rfl, SqT.of ha', cut2_no _ _ _ _, fun q hqn => ?_⟩
      have s2 : Same H' (upd H' q (.tup [.int (e.s : Nat), .int (e.g : Nat)])) := Same.new hqn
      have ec : cutV [V.int ((e.s : Nat) : Int), V.int ((e.g : Nat) : Int), V.int e.i, V.bl e.b] none (some 2) = [V.int ((e.s : Nat) : Int), V.int ((e.g : Nat) : Int)] := cut2 _ _ _ _
      rw [ec]
      have smt : Same H (upd H' q (.tup [.int (e.s : Nat), .int (e.g : Nat)])) := Same.trans sm s2
      have nDq : D ≠ q := fun z => hnd (by rw [z]; exact hqn)
      refine ⟨_, rfl, (e.s, e.g), c, ps, qs, ⟨q, rfl, upd_same⟩, rfl, hc.imp (fun z => smt _ _ z) (fun z => smt _ _ z), Paired.keep (fun _ _ => PrV.keep (Same.tups smt)) hq, _, rfl, ?_⟩
      have edt := drop_take qs es i e he
      by_cases hin : (e.s, e.g) ∈ qs
      · rw [if_pos hin, List.append_nil] at edt
        have eb : (if true = true then !decide ((e.s, e.g) ∈ qs) else decide ((e.s, e.g) ∈ qs)) = false := by rw [decide_eq_true hin]; rfl
        rw [eb]
        refine ⟨smt, us', s2 _ _ hL', Nat.le_succ_of_le hi', ?_⟩
        rw [edt]
        exact Paired.keep (fun _ _ => EnV.keep (Same.tups s2)) hp'
      · rw [if_neg hin] at edt
        have eb : (if true = true then !decide ((e.s, e.g) ∈ qs) else decide ((e.s, e.g) ∈ qs)) = true := by rw [decide_eq_false hin]; rfl
        rw [eb]
        refine ⟨_, rfl, us', s2 _ _ hL', small _ (by have := (List.getElem?_eq_some_iff.mp hi).1; omega), ?_⟩
        have t3 : Tups (upd H' q (.tup [.int (e.s : Nat), .int (e.g : Nat)])) (upd (upd H' q (.tup [.int (e.s : Nat), .int (e.g : Nat)])) D (.lst (us' ++ [.ref a]))) := Tups.upd fun xs z => by rw [s2 _ _ hL'] at z; cases z
        refine ⟨fun b o z => ?_, us' ++ [.ref a], upd_same, by rw [List.length_append]; exact Nat.succ_le_succ hi', ?_⟩
        · rw [upd_ne (ne_of_none z hD)]
          exact smt _ _ z
        · rw [edt]
          exact Paired.snoc (Paired.keep (fun _ _ z => EnV.keep t3 (EnV.keep (Same.tups s2) z)) hp') ⟨a, rfl, t3 _ _ (s2 _ _ ha')⟩
    · rintro H' ⟨sm, us', hL', hi', hp'⟩
      have hpd : p ≠ D := ne_of_none hp hD
      rw [hlE, List.take_of_length_le (Nat.le_refl _)] at hp'
      refine ⟨_, rfl, p, C_Buffer K, dx, _, rfl, sm _ _ hp, T.c_Buffer, T.n_Buffer_rows, (by show 1 < 1000; decide), ?_⟩
      refine k D us' _ hD ⟨⟨dx, upd_same⟩, by rw [upd_ne hpd.symm]; exact hL'⟩ (Paired.keep (fun _ _ => EnV.keep (Tups.upd fun xs z => by rw [sm _ _ hp] at z; cases z)) hp') fun b o z hb => by rw [upd_ne hb]; exact sm _ _ z
theorem sc_Buffer_put : FnScope ["self", "space", "page", "word"] ["self", "space", "page", "word"] (defScope s_Buffer_put) := ⟨rfl, rfl, rfl, by decide +kernel, rfl, by decide +kernel, by decide +kernel⟩
theorem Paired.drop_ {α : Type} {F : V → α → Prop} : ∀ (n : Nat) {vs : List V} {qs : List α}, Paired F vs qs → Paired F (vs.drop n) (qs.drop n)
  | 0, _, _, h => h
  | _ + 1, _, _, .nil => .nil
  | n + 1, _, _, .cons _ t => Paired.drop_ n t
/-- the end of put: the rows are cut to two -/
theorem put_end {T_ : T w K mg} {p r dx : Addr} {H : Hp} {us : List V} (hp : H p = some (.ins (C_Buffer K) dx (fRows r))) (hL : H r = some (.lst us)) {Q : L2.St → Hp → Prop} {σ : L2.St} {D : Ends} (h0 : σ[0]? = some (some (.ref p))) (hD : D.nx = Q)
    (k : ∀ q, H q = none → Q σ (upd (upd H q (.lst (us.drop (us.length - 2)))) p (.ins (C_Buffer K) dx (fRows q)))) :
    sFld K (tVar 0) (tSl (rSlL K) (tFld K (tVar 0) "rows") (tPart (tUn (rU fun i => .int (-i)) (tC (.int 2)))) tNoPart) "rows" D σ H := by
  refine ⟨_, h0, p, C_Buffer K, dx, _, _, rfl, hp, T_.c_Buffer, T_.n_Buffer_rows, rfl, _, rfl, _, rfl, r, _, rfl, SqL.of hL, fun q hq => ?_⟩
  have npq : p ≠ q := ne_of_none hp hq
  refine ⟨_, h0, p, C_Buffer K, dx, _, rfl, (by rw [upd_ne npq]; exact hp), T_.c_Buffer, T_.n_Buffer_rows, (by show 1 < 1000; decide), ?_⟩
  rw [hD]
  have := k q hq
  rw [← cutV_m2] at this
  exact this
theorem ok_Buffer_put (T : T w K mg) : Ok P w K mg base 2 at_Buffer_put ["self", "space", "page", "word"] (spPut (C_Buffer K)) := by
  obtain ⟨_, G, b, kp⟩ := ok_Buffer_drop (P := P) (base := base) T
  obtain ⟨fd, F⟩ := T.d_Buffer_put
  obtain ⟨tM, mM⟩ := T.i_MOST_ENTRIES
  refine ⟨fd, F.ok sc_Buffer_put (fun vs H Q E h => ?_) (fun cdv A outer s H vs Q E hr h => ?_), F.bindsN fun _ _ _ _ _ _ us hl => match us, hl with | [_, _, _, _], _ => rfl, F.kp⟩
  · obtain ⟨p, r, us, es, s, g, v, x, rfl, _⟩ := h
    rfl
  · obtain ⟨p, r, us, es, s, g, v, x, rfl, ⟨⟨dx, hp⟩, hL⟩, hE, hlen, hW, k⟩ := h
    refine ⟨_, PSs.nox (pss_cons (ps_expr (pe_meth (pv 0) T.c_Buffer T.m_Buffer_drop G hr b .nil pass0 (pa_cons (pe_lst (pa_cons (pe_tup (pa_cons (pv 1) (pa_cons (pv 2) pa_nil))) pa_nil)) pa_nil)))
      (pss_cons (ps_if (PW.pt (pw_and (pt_cmpR op_notN (pv 3) pe_non (nomark _)) (pw_and1 (pt_cmpR op_eq (pe_ix ix_tup (pv 3) pe_int (fun _ _ => rfl)) pe_str (nomark _)))))
        (pss_one (ps_expr (pe_bm PySem.F.plainAttrs_list PySem.F.slot_list_append PySem.F.type_list_append mt_append (pe_fld (pv 0) rfl)
          (pa_cons (pe_tup (pa_cons (pv 1) (pa_cons (pv 2) (pa_cons (pe_ix ix_tup (pv 3) pe_int (fun _ _ => rfl)) (pa_cons (pe_ix ix_tup (pv 3) pe_int (fun _ _ => rfl)) pa_nil))))) pa_nil)))) pss_nil)
      (pss_one (ps_fld (pv 0) (pe_slice sl_list (pe_fld (pv 0) rfl) (po_some (pe_un un_neg (pe_glob (v := .int 2) (by rfl) mM ⟨_, rfl⟩))) po_none) rfl)))), ?_⟩
    -- self.drop([(space, page)])
    refine ⟨_, rfl, p, dx, _, rfl, hp, rfl, ?_⟩
    refine ⟨_, rfl, _, rfl, (by show 2 ≤ sizeLine; decide), fun t ht => ⟨(by show 1 ≤ sizeLine; decide), fun l hl => ?_⟩⟩
    have s1 : Same H (upd H t (.tup [.int (s : Nat), .int (g : Nat)])) := Same.new ht
    have ntl : t ≠ l := fun z => by
      rw [z, upd_same] at hl
      cases hl
    have s2 : Same H (upd (upd H t (.tup [.int (s : Nat), .int (g : Nat)])) l (.lst [.ref t])) := Same.trans s1 (Same.new hl)
    refine ⟨p, r, us, es, l, [.ref t], [(s, g)], rfl, ⟨⟨dx, s2 _ _ hp⟩, s2 _ _ hL⟩, Paired.keep (fun _ _ => EnV.keep (Same.tups s2)) hE, by omega, .inl upd_same, .cons ⟨t, rfl, by rw [upd_ne ntl]; exact upd_same⟩ .nil, fun r1 us1 H1 hr1 R1 hE1 b1 => ?_⟩
    obtain ⟨⟨dx1, hp1⟩, hL1⟩ := R1
    have hr0 : H r1 = none := Same.free s2 hr1
    have hlE : us.length = es.length := Paired.length hE
    have hl1 : us1.length ≤ 2 := by
      rw [Paired.length hE1]
      have := List.length_filter_le (fun e : En => !decide ((e.s, e.g) ∈ [(s, g)])) es
      show (drop [(s, g)] es).length ≤ 2
      unfold drop
      omega
    have dsub : ∀ e ∈ drop [(s, g)] es, e ∈ es := fun e he => (List.mem_filter.mp he).1
    have bp : But p H H1 := fun c o e hc => b1 c o (s2 c o e) hc
    have ntp : ∀ xs, H p ≠ some (.tup xs) := fun xs z => by rw [hp] at z; cases z
    have tp : Tups H H1 := bp.tups ntp
    -- the end, for the rows as they stand then
    have fin : ∀ (H2 : Hp) (us2 : List V) (es2 : List En), H2 p = some (.ins (C_Buffer K) dx1 (fRows r1)) → H2 r1 = some (.lst us2) → Paired (EnV H2) us2 es2 → (∀ e ∈ es2, e ∈ es ∨ (e.s = s ∧ e.g = g ∧ x = .fr e.i e.b)) → But p H H2 →
        ∀ q, H2 q = none → Q .non (upd (upd H2 q (.lst (us2.drop (us2.length - 2)))) p (.ins (C_Buffer K) dx1 (fRows q))) := fun H2 us2 es2 e1 e2 e3 e4 e5 q hq => by
      have npq : p ≠ q := ne_of_none e1 hq
      have hq0 : H q = none := by
        cases z : H q with
        | none => rfl
        | some o =>
          rw [e5 q o z npq.symm] at hq
          cases hq
      have l2 : us2.length = es2.length := Paired.length e3
      have t4 : Tups H2 (upd (upd H2 q (.lst (us2.drop (us2.length - 2)))) p (.ins (C_Buffer K) dx1 (fRows q))) := Tups.trans (Tups.new hq) (Tups.upd fun xs z => by rw [upd_ne npq, e1] at z; cases z)
      refine k q (us2.drop (us2.length - 2)) (es2.drop (us2.length - 2)) _ hq0 ⟨⟨dx1, upd_same⟩, by rw [upd_ne npq.symm]; exact upd_same⟩ (Paired.drop_ _ (Paired.keep (fun _ _ => EnV.keep t4) e3)) ?_ (fun e he => e4 e (List.mem_of_mem_drop he)) fun c o e hc => ?_
      · rw [List.length_drop]
        omega
      · rw [upd_ne hc, upd_ne (ne_of_none (e5 c o e hc) hq)]
        exact e5 c o e hc
    have nr1p : r1 ≠ p := ne_of hL1 hp1 (by intro z; cases z)
    have hW1 : WdV H1 v x := WdV.keep tp hW
    refine ⟨_, rfl, rfl, _, rfl, ?_⟩
    cases x with
    | non =>
      cases hW
      exact put_end (T_ := T) hp1 hL1 rfl rfl (fin H1 us1 _ hp1 hL1 hE1 (fun e he => .inl (dsub e he)) bp)
    | sw =>
      obtain ⟨a, rfl, ha⟩ := hW1
      refine ⟨_, rfl, a, _, _, _, rfl, rfl, SqT.of ha, (by rfl), rfl, _, rfl, ?_⟩
      exact put_end (T_ := T) hp1 hL1 rfl rfl (fin H1 us1 _ hp1 hL1 hE1 (fun e he => .inl (dsub e he)) bp)
    | fr i bo =>
      obtain ⟨a, rfl, ha⟩ := hW1
      refine ⟨_, rfl, a, _, _, _, rfl, rfl, SqT.of ha, (by rfl), rfl, _, rfl, ?_⟩
      refine ⟨_, rfl, p, C_Buffer K, dx1, _, _, rfl, hp1, T.c_Buffer, T.n_Buffer_rows, rfl, .inl ⟨rfl, _, SqL.of hL1⟩, ?_⟩
      refine ⟨_, rfl, _, rfl, _, rfl, a, _, _, _, rfl, rfl, SqT.of ha, (by rfl), _, rfl, a, _, _, _, rfl, rfl, SqT.of ha, (by rfl), (by show 4 ≤ sizeLine; decide), fun q hq => ?_⟩
      have s3 : Same H1 (upd H1 q (.tup [.int (s : Nat), .int (g : Nat), .int i, .bl bo])) := Same.new hq
      refine ⟨r1, us1, _, rfl, rfl, s3 _ _ hL1, small _ (by omega), ?_⟩
      have nqr : q ≠ r1 := fun z => by rw [← z, hq] at hL1; cases hL1
      have t5 : Tups (upd H1 q (.tup [.int (s : Nat), .int (g : Nat), .int i, .bl bo])) (upd (upd H1 q (.tup [.int (s : Nat), .int (g : Nat), .int i, .bl bo])) r1 (.lst (us1 ++ [.ref q]))) := Tups.upd fun xs z => by rw [s3 _ _ hL1] at z; cases z
      have e1 : (upd (upd H1 q (.tup [.int (s : Nat), .int (g : Nat), .int i, .bl bo])) r1 (.lst (us1 ++ [.ref q]))) p = some (.ins (C_Buffer K) dx1 (fRows r1)) := by
        rw [upd_ne nr1p.symm]
        exact s3 _ _ hp1
      have f3 := fin _ (us1 ++ [.ref q]) (drop [(s, g)] es ++ [⟨s, g, i, bo⟩]) e1 upd_same ?_ ?_ ?_
      exact put_end (T_ := T) e1 upd_same rfl rfl f3
      · exact Paired.snoc (Paired.keep (fun _ _ z => EnV.keep t5 (EnV.keep (Same.tups s3) z)) hE1) ⟨q, rfl, t5 _ _ upd_same⟩
      · intro e he
        rcases List.mem_append.mp he with he | he
        · exact .inl (dsub e he)
        · have : e = ⟨s, g, i, bo⟩ := List.mem_singleton.mp he
          subst this
          exact .inr ⟨rfl, rfl, rfl⟩
      · intro c o e hc
        have h1 := bp c o e hc
        have ncr : c ≠ r1 := fun z => by rw [z, hr0] at e; cases e
        rw [upd_ne ncr]
        exact s3 _ _ h1
end
end K8

-- ===== part K8D =====
set_option Elab.async false
set_option linter.all false
set_option maxRecDepth 100000
set_option maxHeartbeats 4000000
namespace K8
open PySem PySem.Spec PyProof.Rows L2
/-! the memory as it stands in the heap: its objects by their parts -/
inductive Ro where
  | m | sz | hl | bl | xl | rl | b (p : Nat) | br (p : Nat) | x (p : Nat) | xr (p : Nat)
  deriving DecidableEq
structure AD where
  m : Addr
  sz : Addr
  hl : Addr
  bl : Addr
  xl : Addr
  rl : Addr
  b : Nat → Addr
  br : Nat → Addr
  x : Nat → Addr
  xr : Nat → Addr
def AD.at_ (A : AD) : Ro → Addr
  | .m => A.m | .sz => A.sz | .hl => A.hl | .bl => A.bl | .xl => A.xl | .rl => A.rl | .b p => A.b p | .br p => A.br p | .x p => A.x p | .xr p => A.xr p
def Ro.ok (n : Nat) : Ro → Prop
  | .b p => p < n | .br p => p < n | .x p => p < n | .xr p => p < n | _ => True
/-- the memory's own objects -/
def Fp (A : AD) (n : Nat) (b : Addr) : Prop := ∃ r : Ro, r.ok n ∧ A.at_ r = b
abbrev fMem (A : AD) (c : Nat) : List (Str × V) := [("sizes", .ref A.sz), ("count", .int (c : Nat)), ("held", .ref A.hl), ("buffers", .ref A.bl), ("boxes", .ref A.xl), ("rows", .ref A.rl)]
abbrev fSz (n : Nat) : List (Str × V) := [("processors", .int (n : Nat)), ("frames", .int 4), ("blocks", .int 2)]
structure HeldOk (H : Hp) (S : MS) (vs : List V) : Prop where
  len : vs.length = 51 + S.n
  ack : ∀ p, p < S.n → vs[1 + p]? = some (.int (S.ack p))
  wd : ∀ s g, s < 4 → g < 8 → ∃ v, vs[1 + S.n + 8 * s + g]? = some v ∧ WdV H v (S.wd s g)
structure MemR (K : PySem.W.Frag) (H : Hp) (A : AD) (S : MS) : Prop where
  n1 : 1 ≤ S.n
  n3 : S.n ≤ 3
  inj : ∀ r r' : Ro, r.ok S.n → r'.ok S.n → A.at_ r = A.at_ r' → r = r'
  om : ∃ dx, H A.m = some (.ins (C_Memory K) dx (fMem A S.cnt))
  osz : ∃ dx, H A.sz = some (.ins (C_Sizes K) dx (fSz S.n))
  ohl : ∃ vs, H A.hl = some (.lst vs) ∧ HeldOk H S vs
  obl : H A.bl = some (.lst ((List.range S.n).map fun p => .ref (A.b p)))
  oxl : H A.xl = some (.lst ((List.range S.n).map fun p => .ref (A.x p)))
  orl : ∃ vs, H A.rl = some (.lst vs) ∧ vs.length ≤ S.cnt
  ob : ∀ p, p < S.n → ∃ us, RowsAt (C_Buffer K) H (A.b p) (A.br p) us ∧ us.length ≤ 2 ∧ Paired (EnV H) us (S.buf p)
  ox : ∀ p, p < S.n → ∃ us, RowsAt (C_Box K) H (A.x p) (A.xr p) us ∧ us.length ≤ 1 ∧ Paired (LeV H) us (S.box p)
theorem HeldOk.keep {H H' : Hp} {S : MS} {vs : List V} (t : Tups H H') (h : HeldOk H S vs) : HeldOk H' S vs :=
  ⟨h.len, h.ack, fun s g h1 h2 => let ⟨v, e, z⟩ := h.wd s g h1 h2; ⟨v, e, WdV.keep t z⟩⟩
/-- what stands at each part is an instance or a list -/
theorem MemR.there {K : PySem.W.Frag} {H : Hp} {A : AD} {S : MS} (M : MemR K H A S) {r : Ro} (h : r.ok S.n) : ∃ o, H (A.at_ r) = some o ∧ ∀ xs, o ≠ .tup xs := by
  cases r with
  | m => obtain ⟨_, e⟩ := M.om; exact ⟨_, e, fun _ z => by cases z⟩
  | sz => obtain ⟨_, e⟩ := M.osz; exact ⟨_, e, fun _ z => by cases z⟩
  | hl => obtain ⟨_, e, _⟩ := M.ohl; exact ⟨_, e, fun _ z => by cases z⟩
  | bl => exact ⟨_, M.obl, fun _ z => by cases z⟩
  | xl => exact ⟨_, M.oxl, fun _ z => by cases z⟩
  | rl => obtain ⟨_, e, _⟩ := M.orl; exact ⟨_, e, fun _ z => by cases z⟩
  | b p => obtain ⟨_, ⟨⟨_, e⟩, _⟩, _⟩ := M.ob p h; exact ⟨_, e, fun _ z => by cases z⟩
  | br p => obtain ⟨_, ⟨_, e⟩, _⟩ := M.ob p h; exact ⟨_, e, fun _ z => by cases z⟩
  | x p => obtain ⟨_, ⟨⟨_, e⟩, _⟩, _⟩ := M.ox p h; exact ⟨_, e, fun _ z => by cases z⟩
  | xr p => obtain ⟨_, ⟨_, e⟩, _⟩ := M.ox p h; exact ⟨_, e, fun _ z => by cases z⟩
theorem MemR.tup_out {K : PySem.W.Frag} {H : Hp} {A : AD} {S : MS} (M : MemR K H A S) {a : Addr} {xs : List V} (e : H a = some (.tup xs)) : ¬ Fp A S.n a := by
  rintro ⟨r, h, rfl⟩
  obtain ⟨o, e2, ne⟩ := M.there h
  rw [e] at e2
  exact ne xs (Option.some.inj e2).symm
theorem MemR.new_out {K : PySem.W.Frag} {H : Hp} {A : AD} {S : MS} (M : MemR K H A S) {a : Addr} (e : H a = none) : ¬ Fp A S.n a := by
  rintro ⟨r, h, rfl⟩
  obtain ⟨o, e2, _⟩ := M.there h
  rw [e] at e2
  cases e2
/-- one change of the memory: its own objects alone change, new ones may come to it -/
structure Nx (n : Nat) (H : Hp) (A : AD) (H' : Hp) (A' : AD) : Prop where
  keep : ∀ b o, H b = some o → ¬ Fp A n b → H' b = some o
  own : ∀ b, Fp A' n b → Fp A n b ∨ H b = none
  live : ∀ b, H' b = none → H b = none
  m : A'.m = A.m
  sz : A'.sz = A.sz
  bl : A'.bl = A.bl
  xl : A'.xl = A.xl
  b : A'.b = A.b
  x : A'.x = A.x
theorem Nx.refl (n : Nat) (H : Hp) (A : AD) : Nx n H A H A := ⟨fun _ _ e _ => e, fun _ h => .inl h, fun _ h => h, rfl, rfl, rfl, rfl, rfl, rfl⟩
theorem Nx.trans {n : Nat} {H H1 H2 : Hp} {A A1 A2 : AD} (a : Nx n H A H1 A1) (b : Nx n H1 A1 H2 A2) : Nx n H A H2 A2 := by
  refine ⟨fun c o e h => b.keep c o (a.keep c o e h) fun q => ?_, fun c h => ?_, fun c h => a.live c (b.live c h), b.m.trans a.m, b.sz.trans a.sz, b.bl.trans a.bl, b.xl.trans a.xl, b.b.trans a.b, b.x.trans a.x⟩
  · rcases a.own c q with z | z
    · exact h z
    · rw [e] at z; cases z
  · rcases b.own c h with z | z
    · exact a.own c z
    · by_cases f : Fp A n c
      · exact .inl f
      · right
        cases y : H c with
        | none => rfl
        | some o =>
          rw [a.keep c o y f] at z
          cases z
theorem Nx.same {n : Nat} {H H' : Hp} {A : AD} (s : Same H H') : Nx n H A H' A := ⟨fun b o e _ => s b o e, fun _ h => .inl h, fun _ h => Same.free s h, rfl, rfl, rfl, rfl, rfl, rfl⟩
/-- an object outside of the memory stays, and stays outside -/
theorem Nx.out {n : Nat} {H H' : Hp} {A A' : AD} (N : Nx n H A H' A') {b : Addr} {o : HO} (e : H b = some o) (h : ¬ Fp A n b) : H' b = some o ∧ ¬ Fp A' n b :=
  ⟨N.keep b o e h, fun q => by
    rcases N.own b q with z | z
    · exact h z
    · rw [e] at z; cases z⟩
theorem Nx.tups {K : PySem.W.Frag} {S : MS} {H H' : Hp} {A A' : AD} (N : Nx S.n H A H' A') (M : MemR K H A S) : Tups H H' := fun a xs e => N.keep a _ e (M.tup_out e)
section
variable {K : PySem.W.Frag} {H H' : Hp} {A : AD} {S : MS}
theorem MemR.same (M : MemR K H A S) (s : Same H H') : MemR K H' A S := by
  have t := Same.tups s
  refine ⟨M.n1, M.n3, M.inj, let ⟨dx, e⟩ := M.om; ⟨dx, s _ _ e⟩, let ⟨dx, e⟩ := M.osz; ⟨dx, s _ _ e⟩, let ⟨vs, e, h⟩ := M.ohl; ⟨vs, s _ _ e, h.keep t⟩, s _ _ M.obl, s _ _ M.oxl, let ⟨vs, e, h⟩ := M.orl; ⟨vs, s _ _ e, h⟩, fun p hp => ?_, fun p hp => ?_⟩
  · obtain ⟨us, ⟨⟨dx, e1⟩, e2⟩, l, h⟩ := M.ob p hp
    exact ⟨us, ⟨⟨dx, s _ _ e1⟩, s _ _ e2⟩, l, Paired.keep (fun _ _ => EnV.keep t) h⟩
  · obtain ⟨us, ⟨⟨dx, e1⟩, e2⟩, l, h⟩ := M.ox p hp
    exact ⟨us, ⟨⟨dx, s _ _ e1⟩, s _ _ e2⟩, l, Paired.keep (fun _ _ => LeV.keep t) h⟩
/-- parts are apart -/
theorem MemR.ne (M : MemR K H A S) {r r' : Ro} (h : r.ok S.n) (h' : r'.ok S.n) (d : r ≠ r') : A.at_ r ≠ A.at_ r' := fun e => d (M.inj r r' h h' e)
/-- only the part r0 changed -/
theorem MemR.kp (M : MemR K H A S) {r0 : Ro} (h0 : r0.ok S.n) (b : But (A.at_ r0) H H') {r : Ro} (h : r.ok S.n) (d : r ≠ r0) {o : HO} (e : H (A.at_ r) = some o) : H' (A.at_ r) = some o := b _ _ e (M.ne h h0 d)
theorem MemR.tk (M : MemR K H A S) {r0 : Ro} (h0 : r0.ok S.n) (b : But (A.at_ r0) H H') : Tups H H' := by
  obtain ⟨o, e, ne⟩ := M.there h0
  exact b.tups fun xs z => by rw [e] at z; exact ne xs (Option.some.inj z)
theorem But.live {p : Addr} {H H' : Hp} (b : But p H H') (hp : H' p ≠ none) : ∀ c, H' c = none → H c = none := fun c h => by
  cases z : H c with
  | none => rfl
  | some o =>
    by_cases e : c = p
    · rw [e] at h
      exact absurd h hp
    · rw [b c o z e] at h
      cases h
theorem MemR.nx (M : MemR K H A S) {r0 : Ro} (h0 : r0.ok S.n) (b : But (A.at_ r0) H H') (hp : H' (A.at_ r0) ≠ none) : Nx S.n H A H' A :=
  ⟨fun c o e f => b c o e fun q => f ⟨r0, h0, q.symm⟩, fun _ h => .inl h, b.live hp, rfl, rfl, rfl, rfl, rfl, rfl⟩
/-- a list of the processor p is replaced by a new one -/
theorem MemR.inj_set (M : MemR K H A S) {A' : AD} {r0 : Ro} {q : Addr} (hq : H q = none) (e : ∀ r, A'.at_ r = if r = r0 then q else A.at_ r) : ∀ r r' : Ro, r.ok S.n → r'.ok S.n → A'.at_ r = A'.at_ r' → r = r' := by
  intro r r' h h' z
  rw [e, e] at z
  have nq : ∀ r : Ro, r.ok S.n → A.at_ r ≠ q := fun r h y => by
    obtain ⟨o, e2, _⟩ := M.there h
    rw [y, hq] at e2
    cases e2
  by_cases c : r = r0
  · by_cases c' : r' = r0
    · rw [c, c']
    · rw [if_pos c, if_neg c'] at z
      exact absurd z.symm (nq r' h')
  · by_cases c' : r' = r0
    · rw [if_neg c, if_pos c'] at z
      exact absurd z (nq r h)
    · rw [if_neg c, if_neg c'] at z
      exact M.inj r r' h h' z
def AD.setBr (A : AD) (p : Nat) (q : Addr) : AD := { A with br := fset A.br p q }
def AD.setXr (A : AD) (p : Nat) (q : Addr) : AD := { A with xr := fset A.xr p q }
theorem setBr_at (A : AD) (p : Nat) (q : Addr) (r : Ro) : (A.setBr p q).at_ r = if r = .br p then q else A.at_ r := by
  cases r with
  | br p' =>
    show fset A.br p q p' = _
    by_cases h : p' = p
    · rw [h, fset_same, if_pos rfl]
    · rw [fset_ne h, if_neg fun z => h (by injection z)]
      rfl
  | _ => rfl
theorem setXr_at (A : AD) (p : Nat) (q : Addr) (r : Ro) : (A.setXr p q).at_ r = if r = .xr p then q else A.at_ r := by
  cases r with
  | xr p' =>
    show fset A.xr p q p' = _
    by_cases h : p' = p
    · rw [h, fset_same, if_pos rfl]
    · rw [fset_ne h, if_neg fun z => h (by injection z)]
      rfl
  | _ => rfl
theorem MemR.setBuf (M : MemR K H A S) {p : Nat} (hp : p < S.n) {q : Addr} {us : List V} {bf : List En} (hq : H q = none) (R : RowsAt (C_Buffer K) H' (A.b p) q us) (B : But (A.b p) H H') (hl : us.length ≤ 2) (hE : Paired (EnV H') us bf) :
    MemR K H' (A.setBr p q) { S with buf := fset S.buf p bf } ∧ Nx S.n H A H' (A.setBr p q) := by
  have h0 : (Ro.b p).ok S.n := hp
  have t : Tups H H' := M.tk (r0 := .b p) h0 B
  have kp : ∀ {r : Ro}, r.ok S.n → r ≠ .b p → ∀ {o : HO}, H (A.at_ r) = some o → H' (A.at_ r) = some o := fun h d _ e => M.kp (r0 := .b p) h0 B h d e
  refine ⟨⟨M.n1, M.n3, M.inj_set (r0 := .br p) hq (setBr_at A p q), let ⟨dx, e⟩ := M.om; ⟨dx, kp (r := .m) trivial (fun z => by cases z) e⟩, let ⟨dx, e⟩ := M.osz; ⟨dx, kp (r := .sz) trivial (fun z => by cases z) e⟩,
    let ⟨vs, e, h⟩ := M.ohl; ⟨vs, kp (r := .hl) trivial (fun z => by cases z) e, ⟨h.len, h.ack, (h.keep t).wd⟩⟩, kp (r := .bl) trivial (fun z => by cases z) M.obl, kp (r := .xl) trivial (fun z => by cases z) M.oxl,
    let ⟨vs, e, h⟩ := M.orl; ⟨vs, kp (r := .rl) trivial (fun z => by cases z) e, h⟩, fun p' hp' => ?_, fun p' hp' => ?_⟩, ⟨fun c o e f => B c o e fun z => f ⟨.b p, h0, z.symm⟩, fun c h => ?_, B.live (by obtain ⟨⟨_, e⟩, _⟩ := R; rw [e]; intro z; cases z), rfl, rfl, rfl, rfl, rfl, rfl⟩⟩
  · by_cases z : p' = p
    · subst z
      refine ⟨us, ⟨R.1.imp fun dx e => ?_, ?_⟩, hl, ?_⟩
      · show H' (A.b p') = some (.ins _ dx (fRows (fset A.br p' q p')))
        rw [fset_same]
        exact e
      · show H' (fset A.br p' q p') = _
        rw [fset_same]
        exact R.2
      · show Paired (EnV H') us (fset S.buf p' bf p')
        rw [fset_same]
        exact hE
    · obtain ⟨us', ⟨⟨dx, e1⟩, e2⟩, l, h⟩ := M.ob p' hp'
      refine ⟨us', ⟨⟨dx, ?_⟩, ?_⟩, l, ?_⟩
      · show H' (A.b p') = some (.ins _ dx (fRows (fset A.br p q p')))
        rw [fset_ne z]
        exact kp (r := .b p') hp' (fun y => z (by injection y)) e1
      · show H' (fset A.br p q p') = _
        rw [fset_ne z]
        exact kp (r := .br p') hp' (fun y => by cases y) e2
      · show Paired (EnV H') us' (fset S.buf p bf p')
        rw [fset_ne z]
        exact Paired.keep (fun _ _ => EnV.keep t) h
  · obtain ⟨us', ⟨⟨dx, e1⟩, e2⟩, l, h⟩ := M.ox p' hp'
    exact ⟨us', ⟨⟨dx, kp (r := .x p') hp' (fun y => by cases y) e1⟩, kp (r := .xr p') hp' (fun y => by cases y) e2⟩, l, Paired.keep (fun _ _ => LeV.keep t) h⟩
  · obtain ⟨r, h1, rfl⟩ := h
    rw [setBr_at]
    by_cases z : r = .br p
    · rw [if_pos z]
      exact .inr hq
    · rw [if_neg z]
      exact .inl ⟨r, h1, rfl⟩
theorem MemR.setBox (M : MemR K H A S) {p : Nat} (hp : p < S.n) {q : Addr} {us : List V} {bx : List Le} (hq : H q = none) (R : RowsAt (C_Box K) H' (A.x p) q us) (B : But (A.x p) H H') (hl : us.length ≤ 1) (hE : Paired (LeV H') us bx) :
    MemR K H' (A.setXr p q) { S with box := fset S.box p bx } ∧ Nx S.n H A H' (A.setXr p q) := by
  have h0 : (Ro.x p).ok S.n := hp
  have t : Tups H H' := M.tk (r0 := .x p) h0 B
  have kp : ∀ {r : Ro}, r.ok S.n → r ≠ .x p → ∀ {o : HO}, H (A.at_ r) = some o → H' (A.at_ r) = some o := fun h d _ e => M.kp (r0 := .x p) h0 B h d e
  refine ⟨⟨M.n1, M.n3, M.inj_set (r0 := .xr p) hq (setXr_at A p q), let ⟨dx, e⟩ := M.om; ⟨dx, kp (r := .m) trivial (fun z => by cases z) e⟩, let ⟨dx, e⟩ := M.osz; ⟨dx, kp (r := .sz) trivial (fun z => by cases z) e⟩,
    let ⟨vs, e, h⟩ := M.ohl; ⟨vs, kp (r := .hl) trivial (fun z => by cases z) e, ⟨h.len, h.ack, (h.keep t).wd⟩⟩, kp (r := .bl) trivial (fun z => by cases z) M.obl, kp (r := .xl) trivial (fun z => by cases z) M.oxl,
    let ⟨vs, e, h⟩ := M.orl; ⟨vs, kp (r := .rl) trivial (fun z => by cases z) e, h⟩, fun p' hp' => ?_, fun p' hp' => ?_⟩, ⟨fun c o e f => B c o e fun z => f ⟨.x p, h0, z.symm⟩, fun c h => ?_, B.live (by obtain ⟨⟨_, e⟩, _⟩ := R; rw [e]; intro z; cases z), rfl, rfl, rfl, rfl, rfl, rfl⟩⟩
  · obtain ⟨us', ⟨⟨dx, e1⟩, e2⟩, l, h⟩ := M.ob p' hp'
    exact ⟨us', ⟨⟨dx, kp (r := .b p') hp' (fun y => by cases y) e1⟩, kp (r := .br p') hp' (fun y => by cases y) e2⟩, l, Paired.keep (fun _ _ => EnV.keep t) h⟩
  · by_cases z : p' = p
    · subst z
      refine ⟨us, ⟨R.1.imp fun dx e => ?_, ?_⟩, hl, ?_⟩
      · show H' (A.x p') = some (.ins _ dx (fRows (fset A.xr p' q p')))
        rw [fset_same]
        exact e
      · show H' (fset A.xr p' q p') = _
        rw [fset_same]
        exact R.2
      · show Paired (LeV H') us (fset S.box p' bx p')
        rw [fset_same]
        exact hE
    · obtain ⟨us', ⟨⟨dx, e1⟩, e2⟩, l, h⟩ := M.ox p' hp'
      refine ⟨us', ⟨⟨dx, ?_⟩, ?_⟩, l, ?_⟩
      · show H' (A.x p') = some (.ins _ dx (fRows (fset A.xr p q p')))
        rw [fset_ne z]
        exact kp (r := .x p') hp' (fun y => z (by injection y)) e1
      · show H' (fset A.xr p q p') = _
        rw [fset_ne z]
        exact kp (r := .xr p') hp' (fun y => by cases y) e2
      · show Paired (LeV H') us' (fset S.box p bx p')
        rw [fset_ne z]
        exact Paired.keep (fun _ _ => LeV.keep t) h
  · obtain ⟨r, h1, rfl⟩ := h
    rw [setXr_at]
    by_cases z : r = .xr p
    · rw [if_pos z]
      exact .inr hq
    · rw [if_neg z]
      exact .inl ⟨r, h1, rfl⟩
/-- a letter is put behind -/
theorem MemR.pushBox (M : MemR K H A S) {p : Nat} (hp : p < S.n) {us : List V} {bx : List Le} (R : RowsAt (C_Box K) H' (A.x p) (A.xr p) us) (B : But (A.xr p) H H') (hl : us.length ≤ 1) (hE : Paired (LeV H') us bx) :
    MemR K H' A { S with box := fset S.box p bx } ∧ Nx S.n H A H' A := by
  have h0 : (Ro.xr p).ok S.n := hp
  have t : Tups H H' := M.tk (r0 := .xr p) h0 B
  have kp : ∀ {r : Ro}, r.ok S.n → r ≠ .xr p → ∀ {o : HO}, H (A.at_ r) = some o → H' (A.at_ r) = some o := fun h d _ e => M.kp (r0 := .xr p) h0 B h d e
  refine ⟨⟨M.n1, M.n3, M.inj, let ⟨dx, e⟩ := M.om; ⟨dx, kp (r := .m) trivial (fun z => by cases z) e⟩, let ⟨dx, e⟩ := M.osz; ⟨dx, kp (r := .sz) trivial (fun z => by cases z) e⟩,
    let ⟨vs, e, h⟩ := M.ohl; ⟨vs, kp (r := .hl) trivial (fun z => by cases z) e, ⟨h.len, h.ack, (h.keep t).wd⟩⟩, kp (r := .bl) trivial (fun z => by cases z) M.obl, kp (r := .xl) trivial (fun z => by cases z) M.oxl,
    let ⟨vs, e, h⟩ := M.orl; ⟨vs, kp (r := .rl) trivial (fun z => by cases z) e, h⟩, fun p' hp' => ?_, fun p' hp' => ?_⟩, M.nx (r0 := .xr p) h0 B (by show H' (A.xr p) ≠ none; rw [R.2]; intro z; cases z)⟩
  · obtain ⟨us', ⟨⟨dx, e1⟩, e2⟩, l, h⟩ := M.ob p' hp'
    exact ⟨us', ⟨⟨dx, kp (r := .b p') hp' (fun y => by cases y) e1⟩, kp (r := .br p') hp' (fun y => by cases y) e2⟩, l, Paired.keep (fun _ _ => EnV.keep t) h⟩
  · by_cases z : p' = p
    · subst z
      refine ⟨us, R, hl, ?_⟩
      show Paired (LeV H') us (fset S.box p' bx p')
      rw [fset_same]
      exact hE
    · obtain ⟨us', ⟨⟨dx, e1⟩, e2⟩, l, h⟩ := M.ox p' hp'
      refine ⟨us', ⟨⟨dx, kp (r := .x p') hp' (fun y => by cases y) e1⟩, kp (r := .xr p') hp' (fun y => z (by injection y)) e2⟩, l, ?_⟩
      show Paired (LeV H') us' (fset S.box p bx p')
      rw [fset_ne z]
      exact Paired.keep (fun _ _ => LeV.keep t) h
/-- the cells change -/
theorem MemR.setHeld (M : MemR K H A S) {vs : List V} {ack : Nat → Int} {wd : Nat → Nat → Wd} (h : HeldOk H { S with ack := ack, wd := wd } vs) :
    MemR K (upd H A.hl (.lst vs)) A { S with ack := ack, wd := wd } ∧ Nx S.n H A (upd H A.hl (.lst vs)) A := by
  have B : But A.hl H (upd H A.hl (.lst vs)) := fun c o e hc => by rw [upd_ne hc]; exact e
  have t : Tups H (upd H A.hl (.lst vs)) := M.tk (r0 := .hl) trivial B
  have kp : ∀ {r : Ro}, r.ok S.n → r ≠ .hl → ∀ {o : HO}, H (A.at_ r) = some o → (upd H A.hl (.lst vs)) (A.at_ r) = some o := fun h d _ e => M.kp (r0 := .hl) trivial B h d e
  refine ⟨⟨M.n1, M.n3, M.inj, let ⟨dx, e⟩ := M.om; ⟨dx, kp (r := .m) trivial (fun z => by cases z) e⟩, let ⟨dx, e⟩ := M.osz; ⟨dx, kp (r := .sz) trivial (fun z => by cases z) e⟩,
    ⟨vs, upd_same, h.keep t⟩, kp (r := .bl) trivial (fun z => by cases z) M.obl, kp (r := .xl) trivial (fun z => by cases z) M.oxl,
    let ⟨vs, e, h⟩ := M.orl; ⟨vs, kp (r := .rl) trivial (fun z => by cases z) e, h⟩, fun p' hp' => ?_, fun p' hp' => ?_⟩, M.nx (r0 := .hl) trivial B (by show upd H A.hl _ A.hl ≠ none; rw [upd_same]; intro z; cases z)⟩
  · obtain ⟨us', ⟨⟨dx, e1⟩, e2⟩, l, h⟩ := M.ob p' hp'
    exact ⟨us', ⟨⟨dx, kp (r := .b p') hp' (fun y => by cases y) e1⟩, kp (r := .br p') hp' (fun y => by cases y) e2⟩, l, Paired.keep (fun _ _ => EnV.keep t) h⟩
  · obtain ⟨us', ⟨⟨dx, e1⟩, e2⟩, l, h⟩ := M.ox p' hp'
    exact ⟨us', ⟨⟨dx, kp (r := .x p') hp' (fun y => by cases y) e1⟩, kp (r := .xr p') hp' (fun y => by cases y) e2⟩, l, Paired.keep (fun _ _ => LeV.keep t) h⟩
/-- the count goes up -/
theorem MemR.count (M : MemR K H A S) {dx : Addr} (e : H A.m = some (.ins (C_Memory K) dx (fMem A S.cnt))) :
    MemR K (upd H A.m (.ins (C_Memory K) dx (fMem A (S.cnt + 1)))) A S.tick ∧ Nx S.n H A (upd H A.m (.ins (C_Memory K) dx (fMem A (S.cnt + 1)))) A := by
  have B : But A.m H (upd H A.m (.ins (C_Memory K) dx (fMem A (S.cnt + 1)))) := fun c o e hc => by rw [upd_ne hc]; exact e
  have t := M.tk (r0 := .m) trivial B
  have kp : ∀ {r : Ro}, r.ok S.n → r ≠ .m → ∀ {o : HO}, H (A.at_ r) = some o → (upd H A.m (.ins (C_Memory K) dx (fMem A (S.cnt + 1)))) (A.at_ r) = some o := fun h d _ e => M.kp (r0 := .m) trivial B h d e
  refine ⟨⟨M.n1, M.n3, M.inj, ⟨dx, upd_same⟩, let ⟨dx, e⟩ := M.osz; ⟨dx, kp (r := .sz) trivial (fun z => by cases z) e⟩,
    let ⟨vs, e, h⟩ := M.ohl; ⟨vs, kp (r := .hl) trivial (fun z => by cases z) e, ⟨h.len, h.ack, (h.keep t).wd⟩⟩, kp (r := .bl) trivial (fun z => by cases z) M.obl, kp (r := .xl) trivial (fun z => by cases z) M.oxl,
    let ⟨vs, e, h⟩ := M.orl; ⟨vs, kp (r := .rl) trivial (fun z => by cases z) e, Nat.le_succ_of_le h⟩, fun p' hp' => ?_, fun p' hp' => ?_⟩, M.nx (r0 := .m) trivial B (by show upd H A.m _ A.m ≠ none; rw [upd_same]; intro z; cases z)⟩
  · obtain ⟨us', ⟨⟨dx, e1⟩, e2⟩, l, h⟩ := M.ob p' hp'
    exact ⟨us', ⟨⟨dx, kp (r := .b p') hp' (fun y => by cases y) e1⟩, kp (r := .br p') hp' (fun y => by cases y) e2⟩, l, Paired.keep (fun _ _ => EnV.keep t) h⟩
  · obtain ⟨us', ⟨⟨dx, e1⟩, e2⟩, l, h⟩ := M.ox p' hp'
    exact ⟨us', ⟨⟨dx, kp (r := .x p') hp' (fun y => by cases y) e1⟩, kp (r := .xr p') hp' (fun y => by cases y) e2⟩, l, Paired.keep (fun _ _ => LeV.keep t) h⟩
/-- a row is put behind -/
theorem MemR.row (M : MemR K H A S) {vs : List V} (h : vs.length ≤ S.cnt) : MemR K (upd H A.rl (.lst vs)) A S ∧ Nx S.n H A (upd H A.rl (.lst vs)) A := by
  have B : But A.rl H (upd H A.rl (.lst vs)) := fun c o e hc => by rw [upd_ne hc]; exact e
  have t : Tups H (upd H A.rl (.lst vs)) := M.tk (r0 := .rl) trivial B
  have kp : ∀ {r : Ro}, r.ok S.n → r ≠ .rl → ∀ {o : HO}, H (A.at_ r) = some o → (upd H A.rl (.lst vs)) (A.at_ r) = some o := fun h d _ e => M.kp (r0 := .rl) trivial B h d e
  refine ⟨⟨M.n1, M.n3, M.inj, let ⟨dx, e⟩ := M.om; ⟨dx, kp (r := .m) trivial (fun z => by cases z) e⟩, let ⟨dx, e⟩ := M.osz; ⟨dx, kp (r := .sz) trivial (fun z => by cases z) e⟩,
    let ⟨vs, e, h⟩ := M.ohl; ⟨vs, kp (r := .hl) trivial (fun z => by cases z) e, h.keep t⟩, kp (r := .bl) trivial (fun z => by cases z) M.obl, kp (r := .xl) trivial (fun z => by cases z) M.oxl,
    ⟨vs, upd_same, h⟩, fun p' hp' => ?_, fun p' hp' => ?_⟩, M.nx (r0 := .rl) trivial B (by show upd H A.rl _ A.rl ≠ none; rw [upd_same]; intro z; cases z)⟩
  · obtain ⟨us', ⟨⟨dx, e1⟩, e2⟩, l, h⟩ := M.ob p' hp'
    exact ⟨us', ⟨⟨dx, kp (r := .b p') hp' (fun y => by cases y) e1⟩, kp (r := .br p') hp' (fun y => by cases y) e2⟩, l, Paired.keep (fun _ _ => EnV.keep t) h⟩
  · obtain ⟨us', ⟨⟨dx, e1⟩, e2⟩, l, h⟩ := M.ox p' hp'
    exact ⟨us', ⟨⟨dx, kp (r := .x p') hp' (fun y => by cases y) e1⟩, kp (r := .xr p') hp' (fun y => by cases y) e2⟩, l, Paired.keep (fun _ _ => LeV.keep t) h⟩
end
end K8

-- ===== part K8E =====
set_option Elab.async false
set_option linter.all false
set_option maxRecDepth 100000
set_option maxHeartbeats 4000000
namespace K8
open PySem PySem.Spec PyProof.Rows L2
/-! the memory's checks -/
def RqV (n : Nat) (H : Hp) (rq : Addr) : Rq → Prop
  | .read p => H rq = some (.tup [.str "read", .int (1 + (p : Nat))])
  | .write s g w => ∃ v, H rq = some (.tup [.str "write", .int (1 + (n : Nat) + 8 * (s : Nat) + (g : Nat)), v]) ∧ WdV H v w
  | .send to l => ∃ v, H rq = some (.tup [.str "send", .int (to : Nat), v]) ∧ LeV H v l
  | .take => H rq = some (.tup [.str "take"])
  | .walk s g => H rq = some (.tup [.str "walk", .int (s : Nat), .int (g : Nat)])
theorem RqV.keep {n : Nat} {H H' : Hp} {rq : Addr} {r : Rq} (t : Tups H H') (h : RqV n H rq r) : RqV n H' rq r := by
  cases r with
  | read p => exact t _ _ h
  | write s g w => obtain ⟨v, h1, h2⟩ := h; exact ⟨v, t _ _ h1, WdV.keep t h2⟩
  | send to l => obtain ⟨v, h1, h2⟩ := h; exact ⟨v, t _ _ h1, LeV.keep t h2⟩
  | take => exact t _ _ h
  | walk s g => exact t _ _ h
theorem RqV.tup {n : Nat} {H : Hp} {rq : Addr} {r : Rq} (h : RqV n H rq r) : ∃ (nm : Str) (rest : List V), H rq = some (.tup (.str nm :: rest)) ∧ (nm, He.Dv.int ((rest.length : Nat) + 1)) ∈ lenTab := by
  cases r with
  | read p => exact ⟨_, _, h, .head _⟩
  | write s g w => obtain ⟨v, h1, _⟩ := h; exact ⟨_, _, h1, .tail _ (.head _)⟩
  | send to l => obtain ⟨v, h1, _⟩ := h; exact ⟨_, _, h1, .tail _ (.tail _ (.tail _ (.head _)))⟩
  | take => exact ⟨_, _, h, .tail _ (.tail _ (.tail _ (.tail _ (.head _))))⟩
  | walk s g => exact ⟨_, _, h, .tail _ (.tail _ (.tail _ (.tail _ (.tail _ (.head _)))))⟩
theorem tup_str {H : Hp} {a : Addr} {x y : Str} {r u : List V} (h : H a = some (.tup (.str x :: r))) (h' : H a = some (.tup (.str y :: u))) : x = y ∧ r = u := by
  rw [h] at h'
  have e : (V.str x :: r) = V.str y :: u := HO.tup.inj (Option.some.inj h')
  injection e with e1 e2
  injection e1 with e1
  exact ⟨e1, e2⟩
theorem iteN {b : Bool} {A B : Prop} (hb : b = true) (h : B) : if (!b) = true then A else B := by
  rw [hb]
  exact h
def spCheckCell (K : PySem.W.Frag) : Sp := fun vs H Q _ => ∃ A S c, vs = [.ref (AD.m A), .int c] ∧ MemR K H A S ∧ 0 ≤ c ∧ c < 51 + (S.n : Nat) ∧ Q .non H
def spCheckPage (K : PySem.W.Frag) : Sp := fun vs H Q _ => ∃ m rq s g, vs = [.ref m, .ref rq] ∧ H rq = some (.tup [.str "walk", .int (s : Nat), .int (g : Nat)]) ∧ s < 4 ∧ g < 8 ∧ Q .non H
def spCheckReq (K : PySem.W.Frag) : Sp := fun vs H Q _ => ∃ A S p rq r, vs = [.ref (AD.m A), .int (p : Nat), .ref rq] ∧ MemR K H A S ∧ p < S.n ∧ RqV S.n H rq r ∧ r.ok S.n ∧ ∀ H', Same H H' → Q .non H'
section
variable {P : Program} {w : World} {K : PySem.W.Frag} {mg : Str → Option Value} {base : Heap}
theorem sc_Memory_check_cell : FnScope ["self", "cell"] ["self", "cell"] (defScope s_Memory_check_cell) := ⟨rfl, rfl, rfl, by decide +kernel, rfl, by decide +kernel, by decide +kernel⟩
theorem ok_Memory_check_cell (T : T w K mg) : Ok P w K mg base 3 at_Memory_check_cell ["self", "cell"] (spCheckCell K) := by
  obtain ⟨_, G_is_within, B_is_within, P_is_within⟩ := ok_is_within (P := P) (base := base) T
  obtain ⟨fd, F⟩ := T.d_Memory_check_cell
  refine ⟨fd, F.ok sc_Memory_check_cell (fun vs H Q E h => ?_) (fun cdv_ A_ outer_ s_ H vs Q E hr h => ?_), F.bindsN fun _ _ _ _ _ _ us hl => match us, hl with | [_, _], _ => rfl, F.kp⟩
  · obtain ⟨A, S, c, rfl, _⟩ := h
    rfl
  · obtain ⟨A, S, c, rfl, M, h0, h1, k⟩ := h
    obtain ⟨dx, hm⟩ := M.om
    obtain ⟨vs, hl, HO⟩ := M.ohl
    refine ⟨_, PSs.nox (pss_one (ps_if (pt_not (pt_val (pe_call G_is_within (hr.mono (by decide)) (by rfl) T.g_is_within P_is_within B_is_within .nil pass0 (pa_cons (pv 1) (pa_cons pe_int (pa_cons (pe_op op_sub (pe_callB call_len_seq (by rfl) T.f_len b_len (pa_cons (pe_fld (pv 0) rfl) pa_nil)) pe_int) pa_nil)))))) pss_never pss_nil)), ?_⟩
    refine ⟨_, rfl, _, rfl, A.m, _, dx, _, _, rfl, hm, T.c_Memory, T.n_Memory_held, rfl, A.hl, vs, rfl, .inl (SqL.of hl), _, _, rfl, rfl, c, 0, _, rfl, _, rfl, iteN ?_ k⟩
    have hlen := HO.len
    rw [decide_eq_true h0, decide_eq_true (by omega)]
    rfl
theorem sc_Memory_check_page : FnScope ["self", "request"] ["self", "request"] (defScope s_Memory_check_page) := ⟨rfl, rfl, rfl, by decide +kernel, rfl, by decide +kernel, by decide +kernel⟩
theorem ok_Memory_check_page (T : T w K mg) : Ok P w K mg base 3 at_Memory_check_page ["self", "request"] (spCheckPage K) := by
  obtain ⟨_, G_is_within, B_is_within, P_is_within⟩ := ok_is_within (P := P) (base := base) T
  obtain ⟨t_CELLS, m_CELLS⟩ := T.i_CELLS
  obtain ⟨t_PAGES, m_PAGES⟩ := T.i_PAGES
  obtain ⟨t_SPACES, m_SPACES⟩ := T.i_SPACES
  obtain ⟨fd, F⟩ := T.d_Memory_check_page
  refine ⟨fd, F.ok sc_Memory_check_page (fun vs H Q E h => ?_) (fun cdv_ A_ outer_ s_ H vs Q E hr h => ?_), F.bindsN fun _ _ _ _ _ _ us hl => match us, hl with | [_, _], _ => rfl, F.kp⟩
  · obtain ⟨m, rq, s, g, rfl, _⟩ := h
    rfl
  · obtain ⟨m, rq, s, g, rfl, ht, h4, h8, k⟩ := h
    refine ⟨_, PSs.nox (pss_cons (ps_if (PW.pt (pw_or (pt_not (pt_val (pe_call G_is_within (hr.mono (by decide)) (by rfl) T.g_is_within P_is_within B_is_within .nil pass0 (pa_cons (pe_ix ix_tup (pv 1) pe_int (fun _ _ => rfl)) (pa_cons pe_int (pa_cons (pe_op op_sub (pe_glob (v := .int 4) (by rfl) m_SPACES ⟨_, rfl⟩) pe_int) pa_nil)))))) (pw_or1 (pt_not (pt_val (pe_call G_is_within (hr.mono (by decide)) (by rfl) T.g_is_within P_is_within B_is_within .nil pass0 (pa_cons (pe_ix ix_tup (pv 1) pe_int (fun _ _ => rfl)) (pa_cons pe_int (pa_cons (pe_op op_sub (pe_glob (v := .int 8) (by rfl) m_PAGES ⟨_, rfl⟩) pe_int) pa_nil))))))))) pss_never pss_nil) (pss_one (ps_if (PW.pt (pw_and (pt_cmpR op_ne (pe_ix ix_tup (pv 1) pe_int (fun _ _ => rfl)) pe_str (nomark _)) (pw_and1 (pt_not (pt_val (pe_call G_is_within (hr.mono (by decide)) (by rfl) T.g_is_within P_is_within B_is_within .nil pass0 (pa_cons (pe_ix ix_tup (pv 1) pe_int (fun _ _ => rfl)) (pa_cons pe_int (pa_cons (pe_op op_sub (pe_glob (v := .int 2) (by rfl) m_CELLS ⟨_, rfl⟩) pe_int) pa_nil))))))))) pss_never pss_nil))), ?_⟩
    refine ⟨_, rfl, rq, _, _, _, rfl, rfl, SqT.of ht, (by rfl), _, _, rfl, rfl, _, 0, _, rfl, _, rfl, iteN (by rw [decide_eq_true (by omega), decide_eq_true (by omega)]; rfl) ?_⟩
    refine ⟨_, rfl, rq, _, _, _, rfl, rfl, SqT.of ht, (by rfl), _, _, rfl, rfl, _, 0, _, rfl, _, rfl, iteN (by rw [decide_eq_true (by omega), decide_eq_true (by omega)]; rfl) ?_⟩
    exact ⟨_, rfl, rq, _, _, _, rfl, rfl, SqT.of ht, at_of (j := 0) rfl rfl, rfl, _, rfl, k⟩
theorem sc_Memory_check_request : FnScope ["self", "processor", "request", "kind"] ["self", "processor", "request"] (defScope s_Memory_check_request) := ⟨rfl, rfl, rfl, by decide +kernel, rfl, by decide +kernel, by decide +kernel⟩
theorem ok_Memory_check_request (T : T w K mg) : Ok P w K mg base 4 at_Memory_check_request ["self", "processor", "request"] (spCheckReq K) := by
  obtain ⟨_, G_Memory_check_cell, B_Memory_check_cell, P_Memory_check_cell⟩ := ok_Memory_check_cell (P := P) (base := base) T
  obtain ⟨_, G_is_within, B_is_within, P_is_within⟩ := ok_is_within (P := P) (base := base) T
  obtain ⟨_, G_Memory_check_page, B_Memory_check_page, P_Memory_check_page⟩ := ok_Memory_check_page (P := P) (base := base) T
  obtain ⟨fd, F⟩ := T.d_Memory_check_request
  refine ⟨fd, F.ok sc_Memory_check_request (fun vs H Q E h => ?_) (fun cdv_ A_ outer_ s_ H vs Q E hr h => ?_), F.bindsN fun _ _ _ _ _ _ us hl => match us, hl with | [_, _, _], _ => rfl, F.kp⟩
  · obtain ⟨A, S, p, rq, r, rfl, _⟩ := h
    rfl
  · obtain ⟨A, S, p, rq, r, rfl, M, hp, hR, hok, k⟩ := h
    have hr2 : Room 2 _ := hr.mono (by decide)
    obtain ⟨dx, hm⟩ := M.om
    obtain ⟨dz, hz⟩ := M.osz
    have n1 := M.n1
    have n3 := M.n3
    refine ⟨_, PSs.nox (pss_cons (ps_if (PW.pt (pw_or (pt_not (pt_val (pe_call G_is_within (hr.mono (by decide)) (by rfl) T.g_is_within P_is_within B_is_within .nil pass0 (pa_cons (pv 1) (pa_cons pe_int (pa_cons (pe_op op_sub (pe_fld (pe_fld (pv 0) rfl) rfl) pe_int) pa_nil)))))) (pw_or1 (pt_not (pt_val (pe_callB call_isi (by rfl) T.f_isinstance b_isinstance (pa_cons (pv 2) (pa_cons (pe_bltn (v := .ty "tuple") (by rfl) T.f_tuple b_tuple rfl) pa_nil)))))))) pss_never pss_nil) (pss_cons (ps_if (PW.pt (pw_or (pt_cmpR op_eq (pe_callB call_len_seq (by rfl) T.f_len b_len (pa_cons (pv 2) pa_nil)) pe_int (nomark _)) (pw_or1 (pt_cmpR op_ne (pe_kget (pe_glob (v := .ref (He.ga K "LENGTHS")) (by rfl) T.g_LENGTHS rfl) (pe_ix ix_tup (pv 2) pe_int (fun _ _ => rfl)) ⟨rfl, rfl, rfl, rfl⟩) (pe_callB call_len_seq (by rfl) T.f_len b_len (pa_cons (pv 2) pa_nil)) (nomark _))))) pss_never pss_nil) (pss_cons (ps_set (i := 3) sc_Memory_check_request.nd rfl (Or.inl rfl) (pe_ix ix_tup (pv 2) pe_int (fun _ _ => rfl))) (pss_one (ps_if (pt_cmpR op_in_seq (pv 3) (pe_tup (pa_cons pe_str (pa_cons pe_str (pa_cons pe_str pa_nil)))) (by rfl)) (pss_one (ps_expr (pe_meth (pv 0) T.c_Memory T.m_Memory_check_cell G_Memory_check_cell (hr.mono (by decide)) B_Memory_check_cell .nil pass0 (pa_cons (pe_ix ix_tup (pv 2) pe_int (fun _ _ => rfl)) pa_nil)))) (pss_one (ps_if (pt_cmpR op_eq (pv 3) pe_str (nomark _)) (pss_one (ps_if (pt_not (pt_val (pe_call G_is_within (hr.mono (by decide)) (by rfl) T.g_is_within P_is_within B_is_within .nil pass0 (pa_cons (pe_ix ix_tup (pv 2) pe_int (fun _ _ => rfl)) (pa_cons pe_int (pa_cons (pe_op op_sub (pe_fld (pe_fld (pv 0) rfl) rfl) pe_int) pa_nil)))))) pss_never pss_nil)) (pss_one (ps_if (pt_cmpR op_ne (pv 3) pe_str (nomark _)) (pss_one (ps_expr (pe_meth (pv 0) T.c_Memory T.m_Memory_check_page G_Memory_check_page (hr.mono (by decide)) B_Memory_check_page .nil pass0 (pa_cons (pv 2) pa_nil)))) pss_nil))))))))), ?_⟩
    obtain ⟨nm, rest, ht, hmem⟩ := hR.tup
    obtain ⟨u, hu, rv⟩ := T.lenv _ hmem
    refine ⟨_, rfl, _, rfl, A.m, _, dx, _, _, rfl, hm, T.c_Memory, T.n_Memory_sizes, rfl, A.sz, _, dz, _, _, rfl, hz, T.c_Sizes, T.n_Sizes_processors, rfl, _, _, rfl, rfl, _, 0, _, rfl, _, rfl, iteN (by rw [decide_eq_true (by omega), decide_eq_true (by omega)]; rfl) ?_⟩
    refine ⟨_, rfl, _, _, .type "tuple", .type "tuple", true, rfl, .ty "tuple", .base (.tup ht), kit_tt, true, rfl, ?_⟩
    refine ⟨_, rfl, rq, _, rfl, .inr (SqT.of ht), rfl, _, rfl, iteDF (fun z => by injection z with z; rw [List.length_cons] at z; omega) ?_⟩
    refine ⟨_, rfl, T.lens, _, rfl, rq, _, _, _, rfl, rfl, SqT.of ht, at_of (j := 0) rfl rfl, nm, _, u, rfl, hu, rv, _, rfl, rq, _, rfl, .inr (SqT.of ht), rfl, _, rfl, iteNS rfl ?_⟩
    refine ⟨_, rfl, rq, _, _, _, rfl, rfl, SqT.of ht, at_of (j := 0) rfl rfl, ?_⟩
    refine ⟨_, rfl, (by show 3 ≤ sizeLine; decide), fun t htn => ⟨t, _, rfl, .inr (SqT.of upd_same), rfl, rfl, _, rfl, ?_⟩⟩
    have sm : Same H (upd H t (.tup [.str "read", .str "write", .str "swap"])) := Same.new htn
    have M1 := M.same sm
    have hm1 := sm _ _ hm
    have hz1 := sm _ _ hz
    cases r with
    | read q =>
      obtain ⟨rfl, rfl⟩ : nm = "read" ∧ rest = [.int (1 + (q : Nat))] := tup_str ht hR
      have hq : q < S.n := hok
      exact ⟨_, rfl, A.m, dx, _, rfl, hm1, rfl, _, rfl, rq, _, _, _, rfl, rfl, SqT.of (sm _ _ ht), at_of (j := 1) rfl rfl, A, S, _, rfl, M1, by omega, by omega, k _ sm⟩
    | write s' g wd =>
      obtain ⟨v, hR, hW⟩ := hR
      obtain ⟨rfl, rfl⟩ : nm = "write" ∧ rest = [.int (1 + (S.n : Nat) + 8 * (s' : Nat) + (g : Nat)), v] := tup_str ht hR
      obtain ⟨h4, h8⟩ : s' < 4 ∧ g < 8 := hok
      exact ⟨_, rfl, A.m, dx, _, rfl, hm1, rfl, _, rfl, rq, _, _, _, rfl, rfl, SqT.of (sm _ _ ht), at_of (j := 1) rfl rfl, A, S, _, rfl, M1, by omega, by omega, k _ sm⟩
    | send to l =>
      obtain ⟨v, hR, hW⟩ := hR
      obtain ⟨rfl, rfl⟩ : nm = "send" ∧ rest = [.int (to : Nat), v] := tup_str ht hR
      have hto : to < S.n := hok.1
      refine ⟨_, rfl, rfl, _, rfl, ?_⟩
      exact ⟨_, rfl, rq, _, _, _, rfl, rfl, SqT.of (sm _ _ ht), at_of (j := 1) rfl rfl, _, rfl, A.m, _, dx, _, _, rfl, hm1, T.c_Memory, T.n_Memory_sizes, rfl, A.sz, _, dz, _, _, rfl, hz1, T.c_Sizes, T.n_Sizes_processors, rfl, _, _, rfl, rfl, _, 0, _, rfl, _, rfl,
        iteN (by rw [decide_eq_true (by omega), decide_eq_true (by omega)]; rfl) (k _ sm)⟩
    | take =>
      obtain ⟨rfl, rfl⟩ : nm = "take" ∧ rest = [] := tup_str ht hR
      exact ⟨_, rfl, rfl, _, rfl, _, rfl, rfl, _, rfl, k _ sm⟩
    | walk s' g =>
      obtain ⟨rfl, rfl⟩ : nm = "walk" ∧ rest = [.int (s' : Nat), .int (g : Nat)] := tup_str ht hR
      obtain ⟨h4, h8⟩ : s' < 4 ∧ g < 8 := hok
      exact ⟨_, rfl, rfl, _, rfl, _, rfl, rfl, _, rfl, _, rfl, A.m, dx, _, rfl, hm1, rfl, _, rfl, A.m, rq, s', g, rfl, sm _ _ ht, h4, h8, k _ sm⟩
end
end K8

-- ===== part K8F =====
set_option Elab.async false
set_option linter.all false
set_option maxRecDepth 100000
set_option maxHeartbeats 4000000
namespace K8
open PySem PySem.Spec PyProof.Rows L2
/-! accesses -/
/-- what the doing of a request changes, apart from the count and the sending -/
def EffR (S : MS) (p : Nat) : Rq → MS → Prop
  | .read _, S' => S' = S
  | .write s g w, S' => S' = { S with wd := fun a b => if a = s ∧ b = g then w else S.wd a b }
  | .send _ _, S' => S' = S
  | .take, S' => (S.box p = [] ∧ S' = S) ∨ ∃ l r, S.box p = l :: r ∧ S' = { S with ack := fset S.ack p l.tk, box := fset S.box p r, buf := fset S.buf p (drop l.ps (S.buf p)) }
  | .walk s g, S' => ∃ bf, bf.length ≤ 2 ∧ (∀ e ∈ bf, e ∈ S.buf p ∨ (e.s = s ∧ e.g = g ∧ S.wd s g = .fr e.i e.b)) ∧ S' = { S with buf := fset S.buf p bf }
theorem EffR.n {S S' : MS} {p : Nat} {r : Rq} (h : EffR S p r S') : S'.n = S.n := by
  cases r with
  | read _ => rw [show S' = S from h]
  | write _ _ _ => rw [show S' = _ from h]
  | send _ _ => rw [show S' = S from h]
  | take =>
    rcases h with ⟨_, h⟩ | ⟨_, _, _, h⟩
    · rw [h]
    · rw [h]
  | walk _ _ => obtain ⟨_, _, _, h⟩ := h; rw [h]
theorem map_get {α : Type} {n p : Nat} (f : Nat → α) (h : p < n) : ((List.range n).map f)[p]? = some (f p) := by
  rw [List.getElem?_map, List.getElem?_range h]
  rfl
theorem HeldOk.put {H : Hp} {S : MS} {vs : List V} {s g : Nat} {v : V} {x : Wd} (h : HeldOk H S vs) (hs : s < 4) (hg : g < 8) (hv : WdV H v x) :
    HeldOk H { S with wd := fun a b => if a = s ∧ b = g then x else S.wd a b } (vs.set (1 + S.n + 8 * s + g) v) := by
  have hl := h.len
  refine ⟨by rw [List.length_set]; exact hl, fun p hp => ?_, fun s' g' h1 h2 => ?_⟩
  · have hp' : p < S.n := hp
    rw [List.getElem?_set_ne (by omega)]
    exact h.ack p hp
  · show ∃ u, (vs.set (1 + S.n + 8 * s + g) v)[1 + S.n + 8 * s' + g']? = some u ∧ WdV H u (if s' = s ∧ g' = g then x else S.wd s' g')
    by_cases e : s' = s ∧ g' = g
    · obtain ⟨rfl, rfl⟩ := e
      rw [if_pos ⟨rfl, rfl⟩, List.getElem?_set_self (by omega)]
      exact ⟨v, rfl, hv⟩
    · rw [if_neg e, List.getElem?_set_ne (by omega)]
      exact h.wd s' g' h1 h2
theorem HeldOk.acked {H : Hp} {S : MS} {vs : List V} {p : Nat} {t : Int} (h : HeldOk H S vs) (hp : p < S.n) : HeldOk H { S with ack := fset S.ack p t } (vs.set (1 + p) (.int t)) := by
  have hl := h.len
  refine ⟨by rw [List.length_set]; exact hl, fun p' hp' => ?_, fun s' g' h1 h2 => ?_⟩
  · have hp2 : p' < S.n := hp'
    show (vs.set (1 + p) (V.int t))[1 + p']? = some (.int (fset S.ack p t p'))
    by_cases e : p' = p
    · subst e
      rw [fset_same, List.getElem?_set_self (by omega)]
    · rw [fset_ne e, List.getElem?_set_ne (by omega)]
      exact h.ack p' hp'
  · show ∃ u, (vs.set (1 + p) (V.int t))[1 + S.n + 8 * s' + g']? = some u ∧ _
    rw [List.getElem?_set_ne (by omega)]
    exact h.wd s' g' h1 h2
theorem ixN_nat {n j : Nat} (h : j < n) : ixN n (j : Int) = some j := by
  unfold ixN
  simp
  omega
def spAck : Sp := fun vs H Q _ => ∃ z p, vs = [.ref z, .int p] ∧ Q (.int (1 + p)) H
def spWord (K : PySem.W.Frag) : Sp := fun vs H Q _ => ∃ z dx n s g, vs = [.ref z, .int s, .int g] ∧ H z = some (.ins (C_Sizes K) dx (fSz n)) ∧ Q (.int (1 + (n : Nat) + 8 * s + g)) H
def spCellRes (K : PySem.W.Frag) : Sp := fun vs H Q _ => ∃ A S rq, vs = [.ref (AD.m A), .ref rq] ∧ MemR K H A S ∧
  ((∃ q, q < S.n ∧ RqV S.n H rq (.read q) ∧ Q (.int (S.ack q)) H) ∨
   (∃ s g x, s < 4 ∧ g < 8 ∧ RqV S.n H rq (.write s g x) ∧ ∀ H', MemR K H' A { S with wd := fun a b => if a = s ∧ b = g then x else S.wd a b } → Nx S.n H A H' A → Q .non H'))
def spMTake (K : PySem.W.Frag) : Sp := fun vs H Q _ => ∃ A S p, vs = [.ref (AD.m A), .int (p : Nat)] ∧ MemR K H A S ∧ p < S.n ∧
  ∀ v H' A' S', EffR S p .take S' → MemR K H' A' S' → Nx S.n H A H' A' → Q v H'
def spResult (K : PySem.W.Frag) : Sp := fun vs H Q _ => ∃ A S p rq r, vs = [.ref (AD.m A), .int (p : Nat), .ref rq] ∧ MemR K H A S ∧ p < S.n ∧ RqV S.n H rq r ∧ r.ok S.n ∧
  ∀ v H' A' S', EffR S p r S' → (∀ q, r = .read q → v = .int (S.ack q)) → MemR K H' A' S' → Nx S.n H A H' A' → Q v H'
def spPeek (K : PySem.W.Frag) : Sp := fun vs H Q _ => ∃ A S j, vs = [.ref (AD.m A), .int (j : Int)] ∧ MemR K H A S ∧ 0 ≤ j ∧ j < 51 + (S.n : Nat) ∧ ∀ us v, H A.hl = some (.lst us) → HeldOk H S us → us[j.toNat]? = some v → Q v H
section
variable {P : Program} {w : World} {K : PySem.W.Frag} {mg : Str → Option Value} {base : Heap}
theorem sc_Sizes_acknowledge : FnScope ["self", "processor"] ["self", "processor"] (defScope s_Sizes_acknowledge) := ⟨rfl, rfl, rfl, by decide +kernel, rfl, by decide +kernel, by decide +kernel⟩
theorem ok_Sizes_acknowledge (T : T w K mg) : Ok P w K mg base 1 at_Sizes_acknowledge ["self", "processor"] spAck := by
  obtain ⟨fd, F⟩ := T.d_Sizes_acknowledge
  refine ⟨fd, F.ok sc_Sizes_acknowledge (fun vs H Q E h => ?_) (fun cdv_ A_ outer_ s_ H vs Q E hr h => ?_), F.bindsN fun _ _ _ _ _ _ us hl => match us, hl with | [_, _], _ => rfl, F.kp⟩
  · obtain ⟨z, p, rfl, _⟩ := h
    rfl
  · obtain ⟨z, p, rfl, k⟩ := h
    refine ⟨_, PSs.nox (pss_one (ps_ret (pe_op op_add pe_int (pv 1)))), ?_⟩
    exact ⟨_, rfl, _, _, rfl, rfl, k⟩
theorem sc_Sizes_word : FnScope ["self", "space", "page"] ["self", "space", "page"] (defScope s_Sizes_word) := ⟨rfl, rfl, rfl, by decide +kernel, rfl, by decide +kernel, by decide +kernel⟩
theorem ok_Sizes_word (T : T w K mg) : Ok P w K mg base 1 at_Sizes_word ["self", "space", "page"] (spWord K) := by
  obtain ⟨t_PAGES, m_PAGES⟩ := T.i_PAGES
  obtain ⟨fd, F⟩ := T.d_Sizes_word
  refine ⟨fd, F.ok sc_Sizes_word (fun vs H Q E h => ?_) (fun cdv_ A_ outer_ s_ H vs Q E hr h => ?_), F.bindsN fun _ _ _ _ _ _ us hl => match us, hl with | [_, _, _], _ => rfl, F.kp⟩
  · obtain ⟨z, dx, n, s, g, rfl, _⟩ := h
    rfl
  · obtain ⟨z, dx, n, s, g, rfl, hz, k⟩ := h
    refine ⟨_, PSs.nox (pss_one (ps_ret (pe_op op_add (pe_op op_add (pe_op op_add pe_int (pe_fld (pv 0) rfl)) (pe_op op_mul (pe_glob (v := .int 8) (by rfl) m_PAGES ⟨_, rfl⟩) (pv 1))) (pv 2)))), ?_⟩
    exact ⟨_, rfl, z, _, dx, _, _, rfl, hz, T.c_Sizes, T.n_Sizes_processors, rfl, _, _, rfl, rfl, _, rfl, _, _, rfl, rfl, .inl ⟨by decide, by decide⟩, _, _, rfl, rfl, _, rfl, _, _, rfl, rfl, k⟩
theorem sc_Memory_cell_result : FnScope ["self", "request", "cell"] ["self", "request"] (defScope s_Memory_cell_result) := ⟨rfl, rfl, rfl, by decide +kernel, rfl, by decide +kernel, by decide +kernel⟩
theorem ok_Memory_cell_result (T : T w K mg) : Ok P w K mg base 1 at_Memory_cell_result ["self", "request"] (spCellRes K) := by
  obtain ⟨fd, F⟩ := T.d_Memory_cell_result
  refine ⟨fd, F.ok sc_Memory_cell_result (fun vs H Q E h => ?_) (fun cdv_ A_ outer_ s_ H vs Q E hr h => ?_), F.bindsN fun _ _ _ _ _ _ us hl => match us, hl with | [_, _], _ => rfl, F.kp⟩
  · obtain ⟨A, S, rq, rfl, _⟩ := h
    rfl
  · obtain ⟨A, S, rq, rfl, M, k⟩ := h
    obtain ⟨dx, hm⟩ := M.om
    obtain ⟨us, hl, HO⟩ := M.ohl
    have hlen := HO.len
    refine ⟨_, PSs.nox (pss_cons (ps_set (i := 2) sc_Memory_cell_result.nd rfl (Or.inl rfl) (pe_ix ix_tup (pv 1) pe_int (fun _ _ => rfl))) (pss_cons (ps_if (pt_cmpR op_eq (pe_ix ix_tup (pv 1) pe_int (fun _ _ => rfl)) pe_str (nomark _)) (pss_one (ps_ret (pe_ix ix_list (pe_fld (pv 0) rfl) (pv 2) (fun _ _ => rfl)))) pss_nil) (pss_cons (ps_if (pt_cmpR op_eq (pe_ix ix_tup (pv 1) pe_int (fun _ _ => rfl)) pe_str (nomark _)) (pss_cons (ps_asg (pe_ix ix_tup (pv 1) pe_int (fun _ _ => rfl)) (pg_sub (pe_fld (pv 0) rfl) (pv 2) set_list)) (pss_one (ps_ret pe_non))) pss_nil) (pss_cons (ps_never) (pss_cons (ps_never) (pss_one (ps_never))))))), ?_⟩
    rcases k with ⟨q, hq, hR, k⟩ | ⟨s, g, x, h4, h8, ⟨v, hR, hW⟩, k⟩
    · have hR : H rq = _ := hR
      refine ⟨_, rfl, rq, _, _, _, rfl, rfl, SqT.of hR, at_of (j := 1) rfl rfl, ?_⟩
      refine ⟨_, rfl, rq, _, _, _, rfl, rfl, SqT.of hR, at_of (j := 0) rfl rfl, rfl, _, rfl, ?_⟩
      exact ⟨_, rfl, A.m, _, dx, _, _, rfl, hm, T.c_Memory, T.n_Memory_held, rfl, _, rfl, A.hl, _, _, _, rfl, rfl, SqL.of hl, at_of (j := 1 + q) (by omega) (HO.ack q hq), k⟩
    · refine ⟨_, rfl, rq, _, _, _, rfl, rfl, SqT.of hR, at_of (j := 1) rfl rfl, ?_⟩
      refine ⟨_, rfl, rq, _, _, _, rfl, rfl, SqT.of hR, at_of (j := 0) rfl rfl, rfl, _, rfl, ?_⟩
      refine ⟨_, rfl, rq, _, _, _, rfl, rfl, SqT.of hR, at_of (j := 0) rfl rfl, rfl, _, rfl, ?_⟩
      refine ⟨_, rfl, rq, _, _, _, rfl, rfl, SqT.of hR, at_of (j := 2) rfl rfl, _, rfl, A.m, _, dx, _, _, rfl, hm, T.c_Memory, T.n_Memory_held, rfl, _, rfl, A.hl, us, _, 1 + S.n + 8 * s + g, rfl, rfl, hl, ?_, ?_⟩
      · rw [show (1 + (S.n : Int) + 8 * (s : Int) + (g : Int)) = ((1 + S.n + 8 * s + g : Nat) : Int) by omega]
        exact ixN_nat (by omega)
      · obtain ⟨M', N⟩ := M.setHeld (HO.put h4 h8 hW)
        exact k _ M' N
theorem sc_Memory_peek : FnScope ["self", "cell"] ["self", "cell"] (defScope s_Memory_peek) := ⟨rfl, rfl, rfl, by decide +kernel, rfl, by decide +kernel, by decide +kernel⟩
theorem ok_Memory_peek (T : T w K mg) : Ok P w K mg base 4 at_Memory_peek ["self", "cell"] (spPeek K) := by
  obtain ⟨_, G_Memory_check_cell, B_Memory_check_cell, P_Memory_check_cell⟩ := ok_Memory_check_cell (P := P) (base := base) T
  obtain ⟨fd, F⟩ := T.d_Memory_peek
  refine ⟨fd, F.ok sc_Memory_peek (fun vs H Q E h => ?_) (fun cdv_ A_ outer_ s_ H vs Q E hr h => ?_), F.bindsN fun _ _ _ _ _ _ us hl => match us, hl with | [_, _], _ => rfl, F.kp⟩
  · obtain ⟨A, S, j, rfl, _⟩ := h
    rfl
  · obtain ⟨A, S, j, rfl, M, h0, h1, k⟩ := h
    obtain ⟨dx, hm⟩ := M.om
    obtain ⟨us, hl, HO⟩ := M.ohl
    have hlen := HO.len
    refine ⟨_, PSs.nox (pss_cons (ps_expr (pe_meth (pv 0) T.c_Memory T.m_Memory_check_cell G_Memory_check_cell (hr.mono (by decide)) B_Memory_check_cell .nil pass0 (pa_cons (pv 1) pa_nil))) (pss_one (ps_ret (pe_ix ix_list (pe_fld (pv 0) rfl) (pv 1) (fun _ _ => rfl))))), ?_⟩
    refine ⟨_, rfl, A.m, dx, _, rfl, hm, rfl, _, rfl, A, S, j, rfl, M, h0, h1, ?_⟩
    obtain ⟨v, hv⟩ : ∃ v, us[j.toNat]? = some v := ⟨us[j.toNat]'(by omega), List.getElem?_eq_getElem _⟩
    exact ⟨_, rfl, A.m, _, dx, _, _, rfl, hm, T.c_Memory, T.n_Memory_held, rfl, _, rfl, A.hl, us, j, v, rfl, rfl, SqL.of hl, at_of (j := j.toNat) (by omega) hv, k us v hl HO hv⟩
end
end K8

-- ===== part K8G =====
set_option Elab.async false
set_option linter.all false
set_option maxRecDepth 100000
set_option maxHeartbeats 4000000
namespace K8
open PySem PySem.Spec PyProof.Rows L2
/-! taking, the doing of a request, the access -/
theorem seq_cut {t u : TS} {D : Ends} {σ : L2.St} {H : Hp} (R : L2.St → Hp → Prop) (h1 : ∀ D' : Ends, D'.rt = D.rt → (∀ σ' H', R σ' H' → D'.nx σ' H') → t D' σ H) (h2 : ∀ σ' H', R σ' H' → u D σ' H') : tSeq t u D σ H := h1 _ rfl h2
/-- a letter's values -/
theorem Paired.cons_inv {α : Type} {F : V → α → Prop} {vs : List V} {q : α} {qs : List α} (h : Paired F vs (q :: qs)) : ∃ v r, vs = v :: r ∧ F v q ∧ Paired F r qs := by
  cases h with
  | cons a b => exact ⟨_, _, rfl, a, b⟩
theorem Paired.nil_inv {α : Type} {F : V → α → Prop} {vs : List V} (h : Paired F vs ([] : List α)) : vs = [] := by
  cases h
  rfl
section
variable {P : Program} {w : World} {K : PySem.W.Frag} {mg : Str → Option Value} {base : Heap}
theorem sc_Memory_take : FnScope ["self", "processor", "letter", "ticket", "pairs"] ["self", "processor"] (defScope s_Memory_take) := ⟨rfl, rfl, rfl, by decide +kernel, rfl, by decide +kernel, by decide +kernel⟩
theorem ok_Memory_take (T : T w K mg) : Ok P w K mg base 2 at_Memory_take ["self", "processor"] (spMTake K) := by
  obtain ⟨_, G_Sizes_acknowledge, B_Sizes_acknowledge, P_Sizes_acknowledge⟩ := ok_Sizes_acknowledge (P := P) (base := base) T
  obtain ⟨_, G_Buffer_drop, B_Buffer_drop, P_Buffer_drop⟩ := ok_Buffer_drop (P := P) (base := base) T
  obtain ⟨_, G_Box_take, B_Box_take, P_Box_take⟩ := ok_Box_take (P := P) (base := base) T
  obtain ⟨fd, F⟩ := T.d_Memory_take
  refine ⟨fd, F.ok sc_Memory_take (fun vs H Q E h => ?_) (fun cdv_ A_ outer_ s_ H vs Q E hr h => ?_), F.bindsN fun _ _ _ _ _ _ us hl => match us, hl with | [_, _], _ => rfl, F.kp⟩
  · obtain ⟨A, S, p, rfl, _⟩ := h
    rfl
  · obtain ⟨A, S, p, rfl, M, hp, k⟩ := h
    obtain ⟨dx, hm⟩ := M.om
    obtain ⟨us, ⟨⟨db, hx⟩, hxr⟩, hle, hbx⟩ := M.ox p hp
    refine ⟨_, PSs.nox (pss_cons (ps_set (i := 2) sc_Memory_take.nd rfl (Or.inl rfl) (pe_meth0 (pe_ix ix_list (pe_fld (pv 0) rfl) (pv 1) (fun _ _ => rfl)) T.c_Box T.m_Box_take G_Box_take (hr.mono (by decide)) B_Box_take .nil pass0 )) (pss_cons (ps_if (pt_cmpR op_isN (pv 2) pe_non (nomark _)) (pss_one (ps_ret pe_bl)) pss_nil) (pss_cons (ps_asg (pv 2) (pg_tup (by rfl) (pgs_cons (pg_name (i := 3) sc_Memory_take.nd rfl (Or.inl rfl)) (pgs_cons (pg_name (i := 4) sc_Memory_take.nd rfl (Or.inl rfl)) pgs_nil)))) (pss_cons (ps_expr (pe_meth (pe_ix ix_list (pe_fld (pv 0) rfl) (pv 1) (fun _ _ => rfl)) T.c_Buffer T.m_Buffer_drop G_Buffer_drop (hr.mono (by decide)) B_Buffer_drop .nil pass0 (pa_cons (pv 4) pa_nil))) (pss_cons (ps_asg (pv 3) (pg_sub (pe_fld (pv 0) rfl) (pe_meth (pe_fld (pv 0) rfl) T.c_Sizes T.m_Sizes_acknowledge G_Sizes_acknowledge (hr.mono (by decide)) B_Sizes_acknowledge .nil pass0 (pa_cons (pv 1) pa_nil)) set_list)) (pss_one (ps_ret pe_bl))))))), ?_⟩
    refine ⟨_, rfl, A.m, _, dx, _, _, rfl, hm, T.c_Memory, T.n_Memory_boxes, rfl, _, rfl, A.xl, _, _, _, rfl, rfl, SqL.of M.oxl, at_of (j := p) rfl (map_get _ hp), A.x p, db, _, rfl, hx, rfl, ?_⟩
    cases hb : S.box p with
    | nil =>
      rw [hb] at hbx
      have e := Paired.nil_inv hbx
      subst e
      refine ⟨_, A.xr p, [], rfl, ⟨⟨db, hx⟩, hxr⟩, fun _ => ?_, fun v rest z => by cases z⟩
      refine ⟨_, rfl, rfl, _, rfl, ?_⟩
      exact k _ H A S (.inl ⟨hb, rfl⟩) M (Nx.refl _ _ _)
    | cons l r =>
      rw [hb] at hbx
      obtain ⟨v, rest, rfl, hv, hr2⟩ := Paired.cons_inv hbx
      refine ⟨_, A.xr p, _, rfl, ⟨⟨db, hx⟩, hxr⟩, fun z => (by cases z), fun v' rest' z q H1 hq R B => ?_⟩
      injection z with z1 z2
      subst z1
      subst z2
      have t1 : Tups H H1 := M.tk (r0 := .x p) hp B
      obtain ⟨M1, N1⟩ := M.setBox hp hq R B (by have : rest.length + 1 ≤ 1 := hle; omega) (Paired.keep (fun _ _ => LeV.keep t1) hr2)
      obtain ⟨a, t, ps, rfl, ha, ht, hps⟩ := LeV.keep t1 hv
      -- letter is not None
      refine ⟨_, rfl, rfl, _, rfl, ?_⟩
      -- ticket, pairs = letter
      refine ⟨_, rfl, a, _, rfl, SqT.of ha, rfl, _, _, rfl, _, _, rfl, rfl, ?_⟩
      -- self.buffers[processor].drop(pairs)
      obtain ⟨d1, hm1⟩ := M1.om
      obtain ⟨bs, ⟨⟨dd, hb1⟩, hbr⟩, hbl, hbE⟩ := M1.ob p hp
      refine ⟨_, rfl, A.m, _, d1, _, _, rfl, hm1, T.c_Memory, T.n_Memory_buffers, rfl, _, rfl, A.bl, _, _, _, rfl, rfl, SqL.of M1.obl, at_of (j := p) rfl (map_get _ hp), A.b p, dd, _, rfl, hb1, rfl, ?_⟩
      refine ⟨_, rfl, A.b p, A.br p, bs, _, t, ps, l.ps, rfl, ⟨⟨dd, hb1⟩, hbr⟩, hbE, by omega, .inr ht, hps, fun r2 us2 H2 hr2n R2 E2 B2 => ?_⟩
      have hl2 : us2.length ≤ 2 := by
        have e1 := Paired.length E2
        have e2 := Paired.length hbE
        have e3 := List.length_filter_le (fun e : En => !decide ((e.s, e.g) ∈ l.ps)) (S.buf p)
        have e4 : us2.length = ((S.buf p).filter fun e : En => !decide ((e.s, e.g) ∈ l.ps)).length := e1
        have e5 : bs.length = (S.buf p).length := e2
        omega
      obtain ⟨M2, N2⟩ := M1.setBuf hp hr2n R2 B2 hl2 E2
      -- self.held[self.sizes.acknowledge(processor)] = ticket
      obtain ⟨d2, hm2⟩ := M2.om
      obtain ⟨dz, hz2⟩ := M2.osz
      obtain ⟨hs, hh2, hO⟩ := M2.ohl
      have hlen := hO.len
      refine ⟨_, rfl, _, rfl, A.m, _, d2, _, _, rfl, hm2, T.c_Memory, T.n_Memory_held, rfl, _, rfl, A.m, _, d2, _, _, rfl, hm2, T.c_Memory, T.n_Memory_sizes, rfl, A.sz, dz, _, rfl, hz2, rfl, _, rfl, _, _, rfl, A.hl, hs, _, 1 + p, rfl, rfl, hh2, ?_, ?_⟩
      · rw [show (1 + (p : Int)) = ((1 + p : Nat) : Int) by omega]
        exact ixN_nat (by have e : hs.length = 51 + S.n := hlen; omega)
      · obtain ⟨M3, N3⟩ := M2.setHeld (hO.acked (t := l.tk) hp)
        exact k _ _ _ _ (.inr ⟨l, r, hb, rfl⟩) M3 ((N1.trans N2).trans N3)
theorem sc_Memory_result : FnScope ["self", "processor", "request", "kind", "word"] ["self", "processor", "request"] (defScope s_Memory_result) := ⟨rfl, rfl, rfl, by decide +kernel, rfl, by decide +kernel, by decide +kernel⟩
theorem ok_Memory_result (T : T w K mg) : Ok P w K mg base 3 at_Memory_result ["self", "processor", "request"] (spResult K) := by
  obtain ⟨_, G_Buffer_put, B_Buffer_put, P_Buffer_put⟩ := ok_Buffer_put (P := P) (base := base) T
  obtain ⟨_, G_Sizes_word, B_Sizes_word, P_Sizes_word⟩ := ok_Sizes_word (P := P) (base := base) T
  obtain ⟨_, G_Memory_take, B_Memory_take, P_Memory_take⟩ := ok_Memory_take (P := P) (base := base) T
  obtain ⟨_, G_Memory_cell_result, B_Memory_cell_result, P_Memory_cell_result⟩ := ok_Memory_cell_result (P := P) (base := base) T
  obtain ⟨fd, F⟩ := T.d_Memory_result
  refine ⟨fd, F.ok sc_Memory_result (fun vs H Q E h => ?_) (fun cdv_ A_ outer_ s_ H vs Q E hr h => ?_), F.bindsN fun _ _ _ _ _ _ us hl => match us, hl with | [_, _, _], _ => rfl, F.kp⟩
  · obtain ⟨A, S, p, rq, r, rfl, _⟩ := h
    rfl
  · obtain ⟨A, S, p, rq, r, rfl, M, hp, hR, hok, k⟩ := h
    obtain ⟨dx, hm⟩ := M.om
    obtain ⟨dz, hz⟩ := M.osz
    refine ⟨_, PSs.nox (pss_cons (ps_set (i := 3) sc_Memory_result.nd rfl (Or.inl rfl) (pe_ix ix_tup (pv 2) pe_int (fun _ _ => rfl))) (pss_cons (ps_if (pt_cmpR op_in_seq (pv 3) (pe_tup (pa_cons pe_str (pa_cons pe_str (pa_cons pe_str pa_nil)))) (by rfl)) (pss_one (ps_ret (pe_meth (pv 0) T.c_Memory T.m_Memory_cell_result G_Memory_cell_result (hr.mono (by decide)) B_Memory_cell_result .nil pass0 (pa_cons (pv 2) pa_nil)))) pss_nil) (pss_cons (ps_if (pt_cmpR op_eq (pv 3) pe_str (nomark _)) (pss_one (ps_ret pe_non)) pss_nil) (pss_cons (ps_if (pt_cmpR op_eq (pv 3) pe_str (nomark _)) (pss_one (ps_ret (pe_meth (pv 0) T.c_Memory T.m_Memory_take G_Memory_take (hr.mono (by decide)) B_Memory_take .nil pass0 (pa_cons (pv 1) pa_nil)))) pss_nil) (pss_cons (ps_if (pt_cmpR op_eq (pv 3) pe_str (nomark _)) (pss_cons (ps_set (i := 4) sc_Memory_result.nd rfl (Or.inl rfl) (pe_ix ix_list (pe_fld (pv 0) rfl) (pe_meth (pe_fld (pv 0) rfl) T.c_Sizes T.m_Sizes_word G_Sizes_word (hr.mono (by decide)) B_Sizes_word .nil pass0 (pa_cons (pe_ix ix_tup (pv 2) pe_int (fun _ _ => rfl)) (pa_cons (pe_ix ix_tup (pv 2) pe_int (fun _ _ => rfl)) pa_nil))) (fun _ _ => rfl))) (pss_cons (ps_expr (pe_meth (pe_ix ix_list (pe_fld (pv 0) rfl) (pv 1) (fun _ _ => rfl)) T.c_Buffer T.m_Buffer_put G_Buffer_put (hr.mono (by decide)) B_Buffer_put .nil pass0 (pa_cons (pe_ix ix_tup (pv 2) pe_int (fun _ _ => rfl)) (pa_cons (pe_ix ix_tup (pv 2) pe_int (fun _ _ => rfl)) (pa_cons (pv 4) pa_nil))))) (pss_one (ps_ret (pv 4))))) pss_nil) (pss_one (ps_never))))))), ?_⟩
    obtain ⟨nm, rest, ht, _⟩ := hR.tup
    refine ⟨_, rfl, rq, _, _, _, rfl, rfl, SqT.of ht, at_of (j := 0) rfl rfl, ?_⟩
    refine ⟨_, rfl, (by show 3 ≤ sizeLine; decide), fun t htn => ⟨t, _, rfl, .inr (SqT.of upd_same), rfl, rfl, _, rfl, ?_⟩⟩
    have sm : Same H (upd H t (.tup [.str "read", .str "write", .str "swap"])) := Same.new htn
    have M1 := M.same sm
    have N1 : Nx S.n H A (upd H t (.tup [.str "read", .str "write", .str "swap"])) A := Nx.same sm
    have hm1 := sm _ _ hm
    have hz1 := sm _ _ hz
    have hR1 := RqV.keep (Same.tups sm) hR
    cases r with
    | read q =>
      obtain ⟨rfl, rfl⟩ : nm = "read" ∧ rest = [.int (1 + (q : Nat))] := tup_str ht hR
      exact ⟨_, rfl, A.m, dx, _, rfl, hm1, rfl, _, rfl, A, S, rq, rfl, M1, .inl ⟨q, hok, hR1, k _ _ A S rfl (fun q' e => by cases e; rfl) M1 N1⟩⟩
    | write s g x =>
      obtain ⟨v, hR0, hW⟩ := id hR
      obtain ⟨rfl, rfl⟩ : nm = "write" ∧ rest = [.int (1 + (S.n : Nat) + 8 * (s : Nat) + (g : Nat)), v] := tup_str ht hR0
      obtain ⟨h4, h8⟩ : s < 4 ∧ g < 8 := hok
      exact ⟨_, rfl, A.m, dx, _, rfl, hm1, rfl, _, rfl, A, S, rq, rfl, M1, .inr ⟨s, g, x, h4, h8, hR1, fun H2 M2 N2 => k _ _ A _ rfl (fun q' e => by cases e) M2 (N1.trans N2)⟩⟩
    | send to l =>
      obtain ⟨v, hR0, hW⟩ := id hR
      obtain ⟨rfl, rfl⟩ : nm = "send" ∧ rest = [.int (to : Nat), v] := tup_str ht hR0
      refine ⟨_, rfl, rfl, _, rfl, ?_⟩
      exact k _ _ A S rfl (fun q' e => by cases e) M1 N1
    | take =>
      obtain ⟨rfl, rfl⟩ : nm = "take" ∧ rest = [] := tup_str ht hR
      refine ⟨_, rfl, rfl, _, rfl, _, rfl, rfl, _, rfl, ?_⟩
      exact ⟨_, rfl, A.m, dx, _, rfl, hm1, rfl, _, rfl, A, S, p, rfl, M1, hp, fun v H2 A2 S2 E2 M2 N2 => k v H2 A2 S2 E2 (fun q' e => by cases e) M2 (N1.trans N2)⟩
    | walk s g =>
      obtain ⟨rfl, rfl⟩ : nm = "walk" ∧ rest = [.int (s : Nat), .int (g : Nat)] := tup_str ht hR
      obtain ⟨h4, h8⟩ : s < 4 ∧ g < 8 := hok
      obtain ⟨hs, hh, hO⟩ := M1.ohl
      obtain ⟨wv, hwv, hW⟩ := hO.wd s g h4 h8
      obtain ⟨bs, ⟨⟨dd, hb1⟩, hbr⟩, hbl, hbE⟩ := M1.ob p hp
      have hR1 : _ = some (HO.tup _) := hR1
      refine ⟨_, rfl, rfl, _, rfl, _, rfl, rfl, _, rfl, _, rfl, rfl, _, rfl, ?_⟩
      refine ⟨_, rfl, A.m, _, dx, _, _, rfl, hm1, T.c_Memory, T.n_Memory_held, rfl, _, rfl, A.m, _, dx, _, _, rfl, hm1, T.c_Memory, T.n_Memory_sizes, rfl, A.sz, dz, _, rfl, hz1, rfl,
        _, rfl, rq, _, _, _, rfl, rfl, SqT.of hR1, at_of (j := 1) rfl rfl, _, rfl, rq, _, _, _, rfl, rfl, SqT.of hR1, at_of (j := 2) rfl rfl, A.sz, dz, S.n, _, _, rfl, hz1,
        A.hl, hs, _, wv, rfl, rfl, SqL.of hh, at_of (j := 1 + S.n + 8 * s + g) (by omega) hwv, ?_⟩
      refine ⟨_, rfl, A.m, _, dx, _, _, rfl, hm1, T.c_Memory, T.n_Memory_buffers, rfl, _, rfl, A.bl, _, _, _, rfl, rfl, SqL.of M1.obl, at_of (j := p) rfl (map_get _ hp), A.b p, dd, _, rfl, hb1, rfl, ?_⟩
      refine ⟨_, rfl, rq, _, _, _, rfl, rfl, SqT.of hR1, at_of (j := 1) rfl rfl, _, rfl, rq, _, _, _, rfl, rfl, SqT.of hR1, at_of (j := 2) rfl rfl, _, rfl, A.b p, A.br p, bs, _, s, g, wv, S.wd s g, rfl, ⟨⟨dd, hb1⟩, hbr⟩, hbE, hbl, hW, fun r2 us2 es2 H2 hr2 R2 E2 l2 sub2 B2 => ?_⟩
      obtain ⟨M2, N2⟩ := M1.setBuf hp hr2 R2 B2 (by rw [Paired.length E2]; exact l2) E2
      exact ⟨_, rfl, k _ _ _ _ ⟨es2, l2, sub2, rfl⟩ (fun q' e => by cases e) M2 (N1.trans N2)⟩
end
end K8

-- ===== part K8H =====
set_option Elab.async false
set_option linter.all false
set_option maxRecDepth 100000
set_option maxHeartbeats 4000000
namespace K8
open PySem PySem.Spec PyProof.Rows L2
/-! an access -/
def spAccess (K : PySem.W.Frag) : Sp := fun vs H Q _ => ∃ A S p rq r, vs = [.ref (AD.m A), .int (p : Nat), .ref rq] ∧ MemR K H A S ∧ p < S.n ∧ RqV S.n H rq r ∧ r.ok S.n ∧ S.cnt ≤ 50000 ∧ (∀ to l, r = .send to l → S.box to = []) ∧
  ∀ v t H' A' S', Eff S p r S' → (∀ q, r = .read q → v = .int (S.ack q)) → MemR K H' A' S' → Nx S.n H A H' A' → H t = none → H' t = some (.tup [v, .int (S'.cnt : Nat)]) → Q (.ref t) H'
theorem seq_cutIf {c : TT} {a b u : TS} {D : Ends} {σ : L2.St} {H : Hp} (R : L2.St → Hp → Prop) (h1 : ∀ D' : Ends, D'.rt = D.rt → (∀ σ' H', R σ' H' → D'.nx σ' H') → tIfS c a b D' σ H) (h2 : ∀ σ' H', R σ' H' → u D σ' H') : tSeq (tIfS c a b) u D σ H := h1 _ rfl h2
section
variable {P : Program} {w : World} {K : PySem.W.Frag} {mg : Str → Option Value} {base : Heap}
theorem sc_Memory_access : FnScope ["self", "processor", "request"] ["self", "processor", "request"] (defScope s_Memory_access) := ⟨rfl, rfl, rfl, by decide +kernel, rfl, by decide +kernel, by decide +kernel⟩
theorem ok_Memory_access (T : T w K mg) : Ok P w K mg base 5 at_Memory_access ["self", "processor", "request"] (spAccess K) := by
  obtain ⟨_, G_Memory_result, B_Memory_result, P_Memory_result⟩ := ok_Memory_result (P := P) (base := base) T
  obtain ⟨_, G_Box_send, B_Box_send, P_Box_send⟩ := ok_Box_send (P := P) (base := base) T
  obtain ⟨_, G_Memory_check_request, B_Memory_check_request, P_Memory_check_request⟩ := ok_Memory_check_request (P := P) (base := base) T
  obtain ⟨fd, F⟩ := T.d_Memory_access
  refine ⟨fd, F.ok sc_Memory_access (fun vs H Q E h => ?_) (fun cdv_ A_ outer_ s_ H vs Q E hr h => ?_), F.bindsN fun _ _ _ _ _ _ us hl => match us, hl with | [_, _, _], _ => rfl, F.kp⟩
  · obtain ⟨A, S, p, rq, r, rfl, _⟩ := h
    rfl
  · obtain ⟨A, S, p, rq, r, rfl, M, hp, hR, hok, hcnt, hbx, k⟩ := h
    obtain ⟨dx, hm⟩ := M.om
    refine ⟨_, PSs.nox (pss_cons (ps_expr (pe_meth (pv 0) T.c_Memory T.m_Memory_check_request G_Memory_check_request (hr.mono (by decide)) B_Memory_check_request .nil pass0 (pa_cons (pv 1) (pa_cons (pv 2) pa_nil)))) (pss_cons (ps_if (pt_cmpR op_eq (pe_ix ix_tup (pv 2) pe_int (fun _ _ => rfl)) pe_str (nomark _)) (pss_one (ps_expr (pe_meth (pe_ix ix_list (pe_fld (pv 0) rfl) (pe_ix ix_tup (pv 2) pe_int (fun _ _ => rfl)) (fun _ _ => rfl)) T.c_Box T.m_Box_send G_Box_send (hr.mono (by decide)) B_Box_send .nil pass0 (pa_cons (pe_ix ix_tup (pv 2) pe_int (fun _ _ => rfl)) pa_nil)))) pss_nil) (pss_cons (ps_fldaug (pv 0) pe_int in_add) (pss_cons (ps_expr (pe_bm PySem.F.plainAttrs_list PySem.F.slot_list_append PySem.F.type_list_append mt_append (pe_fld (pv 0) rfl) (pa_cons (pe_tup (pa_cons (pe_fld (pv 0) rfl) (pa_cons (pv 1) (pa_cons (pv 2) pa_nil)))) pa_nil))) (pss_one (ps_ret (pe_tup (pa_cons (pe_meth (pv 0) T.c_Memory T.m_Memory_result G_Memory_result (hr.mono (by decide)) B_Memory_result .nil pass0 (pa_cons (pv 1) (pa_cons (pv 2) pa_nil))) (pa_cons (pe_fld (pv 0) rfl) pa_nil))))))))), ?_⟩
    obtain ⟨nm, rest, ht, _⟩ := hR.tup
    -- self.check_request(processor, request)
    refine ⟨_, rfl, A.m, dx, _, rfl, hm, rfl, _, rfl, _, rfl, A, S, p, rq, r, rfl, M, hp, hR, hok, fun H1 sm => ?_⟩
    have M1 := M.same sm
    have N1 : Nx S.n H A H1 A := Nx.same sm
    have hm1 := sm _ _ hm
    have ht1 := sm _ _ ht
    have hR1 := RqV.keep (Same.tups sm) hR
    -- if request[0] == 'send': self.boxes[request[1]].send(request[2])
    dsimp only
    refine seq_cutIf (fun σ' H2 => σ' = L2.start ["self", "processor", "request"] [.ref A.m, .int (p : Nat), .ref rq] ∧ ∃ S2, MemR K H2 A S2 ∧ Nx S.n H A H2 A ∧ S2.cnt = S.cnt ∧ S2.n = S.n ∧ S2.ack = S.ack ∧ (∀ S', EffR S2.tick p r S' → Eff S p r S') ∧ (∃ vs, H2 A.rl = some (.lst vs) ∧ vs.length ≤ S.cnt)) (fun D' hrt hD => ?_) ?_
    · obtain ⟨vr, hrl, hrlen⟩ := M1.orl
      cases r with
      | read q =>
        obtain ⟨rfl, rfl⟩ : nm = "read" ∧ rest = [.int (1 + (q : Nat))] := tup_str ht hR
        refine ⟨_, rfl, rq, _, _, _, rfl, rfl, SqT.of ht1, at_of (j := 0) rfl rfl, rfl, _, rfl, ?_⟩
        exact hD _ _ ⟨rfl, S, M1, N1, rfl, rfl, rfl, fun S' e => e, vr, hrl, hrlen⟩
      | write s g x =>
        obtain ⟨v, hR0, hW⟩ := id hR
        obtain ⟨rfl, rfl⟩ : nm = "write" ∧ rest = [.int (1 + (S.n : Nat) + 8 * (s : Nat) + (g : Nat)), v] := tup_str ht hR0
        refine ⟨_, rfl, rq, _, _, _, rfl, rfl, SqT.of ht1, at_of (j := 0) rfl rfl, rfl, _, rfl, ?_⟩
        exact hD _ _ ⟨rfl, S, M1, N1, rfl, rfl, rfl, fun S' e => e, vr, hrl, hrlen⟩
      | take =>
        obtain ⟨rfl, rfl⟩ : nm = "take" ∧ rest = [] := tup_str ht hR
        refine ⟨_, rfl, rq, _, _, _, rfl, rfl, SqT.of ht1, at_of (j := 0) rfl rfl, rfl, _, rfl, ?_⟩
        exact hD _ _ ⟨rfl, S, M1, N1, rfl, rfl, rfl, fun S' e => e, vr, hrl, hrlen⟩
      | walk s g =>
        obtain ⟨rfl, rfl⟩ : nm = "walk" ∧ rest = [.int (s : Nat), .int (g : Nat)] := tup_str ht hR
        refine ⟨_, rfl, rq, _, _, _, rfl, rfl, SqT.of ht1, at_of (j := 0) rfl rfl, rfl, _, rfl, ?_⟩
        exact hD _ _ ⟨rfl, S, M1, N1, rfl, rfl, rfl, fun S' e => e, vr, hrl, hrlen⟩
      | send to l =>
        obtain ⟨v, hR0, hW⟩ := id hR1
        obtain ⟨rfl, rfl⟩ : nm = "send" ∧ rest = [.int (to : Nat), v] := tup_str ht1 hR0
        obtain ⟨hto, hlok⟩ : to < S.n ∧ l.ok := hok
        obtain ⟨us, ⟨⟨db, hx⟩, hxr⟩, hle, hbE⟩ := M1.ox to hto
        rw [hbx to l rfl] at hbE
        have e := Paired.nil_inv hbE
        subst e
        refine ⟨_, rfl, rq, _, _, _, rfl, rfl, SqT.of ht1, at_of (j := 0) rfl rfl, rfl, _, rfl, ?_⟩
        refine ⟨_, rfl, A.m, _, dx, _, _, rfl, hm1, T.c_Memory, T.n_Memory_boxes, rfl, _, rfl, rq, _, _, _, rfl, rfl, SqT.of ht1, at_of (j := 1) rfl rfl, A.xl, _, _, _, rfl, rfl, SqL.of M1.oxl, at_of (j := to) rfl (map_get _ hto), A.x to, db, _, rfl, hx, rfl, ?_⟩
        refine ⟨_, rfl, rq, _, _, _, rfl, rfl, SqT.of ht1, at_of (j := 2) rfl rfl, A.x to, A.xr to, [], v, l, rfl, ⟨⟨db, hx⟩, hxr⟩, hW, hlok, Nat.zero_le _, fun H2 R B => ?_⟩
        have t2 : Tups H1 H2 := M1.tk (r0 := .xr to) hto B
        obtain ⟨M2, N2⟩ := M1.pushBox (bx := [l]) hto R B (Nat.le_refl _) (.cons (LeV.keep t2 hW) .nil)
        refine hD _ _ ⟨rfl, _, M2, N1.trans N2, rfl, rfl, rfl, fun S' e => ?_, vr, M1.kp (r0 := .xr to) hto B (r := .rl) trivial (fun z => by cases z) hrl, hrlen⟩
        show S' = { S.tick with box := fset S.box to (S.box to ++ [l]) }
        rw [show S' = _ from e, hbx to l rfl]
        rfl
    · rintro σ' H2 ⟨rfl, S2, M2, N2, ec, en, ea, eff, vr, hrl, hrlen⟩
      -- self.count += 1
      obtain ⟨d2, hm2⟩ := M2.om
      refine ⟨_, rfl, A.m, _, d2, _, _, rfl, hm2, T.c_Memory, T.n_Memory_count, rfl, _, _, rfl, rfl, d2, _, hm2, (by show 6 < 1000; decide), ?_⟩
      obtain ⟨M3, N3⟩ := M2.count hm2
      have hm3 : (upd H2 A.m (.ins (C_Memory K) d2 (fMem A (S2.cnt + 1)))) A.m = some (.ins (C_Memory K) d2 (fMem A (S2.cnt + 1))) := upd_same
      have hrl3 : (upd H2 A.m (.ins (C_Memory K) d2 (fMem A (S2.cnt + 1)))) A.rl = some (.lst vr) := by
        have nrm : A.rl ≠ A.m := M2.ne (r := .rl) (r' := .m) trivial trivial (fun z => by cases z)
        rw [upd_ne nrm]
        exact hrl
      -- self.rows.append((self.count, processor, request))
      refine ⟨_, rfl, A.m, _, d2, _, _, rfl, hm3, T.c_Memory, T.n_Memory_rows, rfl, .inl ⟨rfl, _, SqL.of hrl3⟩, ?_⟩
      refine ⟨_, rfl, A.m, _, d2, _, _, rfl, hm3, T.c_Memory, T.n_Memory_count, rfl, _, rfl, _, rfl, (by show 3 ≤ sizeLine; decide), fun t ht => ?_⟩
      have s4 : Same (upd H2 A.m (.ins (C_Memory K) d2 (fMem A (S2.cnt + 1)))) _ := Same.new (o := .tup [.int ((S2.cnt + 1 : Nat) : Int), .int (p : Nat), .ref rq]) ht
      have M4 := M3.same s4
      refine ⟨A.rl, vr, _, rfl, rfl, s4 _ _ hrl3, small _ (by omega), ?_⟩
      obtain ⟨M5, N5⟩ := M4.row (vs := vr ++ [.ref t]) (by rw [List.length_append]; show vr.length + 1 ≤ S2.cnt + 1; omega)
      have en3 : S2.tick.n = S.n := en
      have N25 : Nx S.n H A _ A := N2.trans (Nx.trans (by rw [← en]; exact N3) (Nx.trans (Nx.same s4) (by rw [← en3]; exact N5)))
      have hR5 := RqV.keep (N25.tups M) hR
      -- return (self.result(processor, request), self.count)
      obtain ⟨d5, hm5⟩ := M5.om
      refine ⟨_, rfl, A.m, d5, _, rfl, hm5, rfl, _, rfl, _, rfl, A, S2.tick, p, rq, r, rfl, M5, (by rw [en3]; exact hp), (by rw [en3]; exact hR5), (by rw [en3]; exact hok), fun v H6 A6 S6 E6 hv M6 N6 => ?_⟩
      obtain ⟨d6, hm6⟩ := M6.om
      have em : A6.m = A.m := N6.m
      have N06 : Nx S.n H A H6 A6 := N25.trans (by rw [← en3]; exact N6)
      refine ⟨_, rfl, A.m, _, d6, _, _, rfl, (by rw [← em]; exact hm6), T.c_Memory, T.n_Memory_count, rfl, (by show 2 ≤ sizeLine; decide), fun t6 ht6 => ?_⟩
      have s7 : Same H6 _ := Same.new (o := .tup [v, .int (S6.cnt : Nat)]) ht6
      refine k v t6 _ A6 S6 (eff _ E6) (fun q e => ?_) (M6.same s7) (N06.trans (Nx.same s7)) ?_ upd_same
      · have := hv q e
        rw [this]
        show V.int (S2.ack q) = _
        rw [ea]
      · exact N06.live _ ht6
end
end K8

-- ===== part K8I =====
set_option Elab.async false
set_option linter.all false
set_option maxRecDepth 100000
set_option maxHeartbeats 4000000
namespace K8
open PySem PySem.Spec PyProof.Rows L2
/-! the making of sizes, owners, hands; the first values -/
def spSizesInit (K : PySem.W.Frag) : Sp := fun vs H Q _ => ∃ p dx n, vs = [.ref p, .int (n : Nat), .int 4, .int 2] ∧ H p = some (.ins (C_Sizes K) dx []) ∧ 1 ≤ n ∧ n ≤ 3 ∧ ∀ H', (∃ dx, H' p = some (.ins (C_Sizes K) dx (fSz n))) → But p H H' → Q .non H'
def spJunk (C : Addr) : Sp := fun vs H Q _ => ∃ p dx n, vs = [.ref p, .int (n : Int)] ∧ H p = some (.ins C dx []) ∧ 0 ≤ n ∧ n ≤ 100 ∧ ∀ H', (∃ dx fs, H' p = some (.ins C dx fs)) → But p H H' → Q .non H'
def vals0 (n : Nat) (a : Addr) : List V := List.replicate (1 + n) (.int 0) ++ List.replicate 32 .non ++ List.replicate 8 (.int 0) ++ List.replicate 10 (.ref a)
def spFirst (K : PySem.W.Frag) : Sp := fun vs H Q _ => ∃ z dx n, vs = [.ref z] ∧ H z = some (.ins (C_Sizes K) dx (fSz n)) ∧ n ≤ 3 ∧ ∀ l a H', H l = none → H' l = some (.lst (vals0 n a)) → Same H H' → Q (.ref l) H'
theorem rep_one (k : Nat) (v : V) : (List.replicate k [v]).flatten = List.replicate k v := by
  induction k with
  | zero => rfl
  | succ k ih =>
    rw [List.replicate_succ, List.replicate_succ, List.flatten_cons, ih]
    rfl
theorem len_sz {n : Nat} (h : n ≤ 1000) : n ≤ sizeLine := Nat.le_of_lt (small _ (by omega))
section
variable {P : Program} {w : World} {K : PySem.W.Frag} {mg : Str → Option Value} {base : Heap}
theorem sc_Sizes_init : FnScope ["self", "processors", "frames", "blocks"] ["self", "processors", "frames", "blocks"] (defScope s_Sizes_init) := ⟨rfl, rfl, rfl, by decide +kernel, rfl, by decide +kernel, by decide +kernel⟩
theorem ok_Sizes_init (T : T w K mg) : Ok P w K mg base 3 at_Sizes_init ["self", "processors", "frames", "blocks"] (spSizesInit K) := by
  obtain ⟨_, G_is_within, B_is_within, P_is_within⟩ := ok_is_within (P := P) (base := base) T
  obtain ⟨t_MOST_BLOCKS, m_MOST_BLOCKS⟩ := T.i_MOST_BLOCKS
  obtain ⟨t_MOST_FRAMES, m_MOST_FRAMES⟩ := T.i_MOST_FRAMES
  obtain ⟨t_LEAST_FRAMES, m_LEAST_FRAMES⟩ := T.i_LEAST_FRAMES
  obtain ⟨t_MOST_PROCESSORS, m_MOST_PROCESSORS⟩ := T.i_MOST_PROCESSORS
  obtain ⟨fd, F⟩ := T.d_Sizes_init
  refine ⟨fd, F.ok sc_Sizes_init (fun vs H Q E h => ?_) (fun cdv_ A_ outer_ s_ H vs Q E hr h => ?_), F.bindsN fun _ _ _ _ _ _ us hl => match us, hl with | [_, _, _, _], _ => rfl, F.kp⟩
  · obtain ⟨p, dx, n, rfl, _⟩ := h
    rfl
  · obtain ⟨p, dx, n, rfl, hp, h1, h3, k⟩ := h
    refine ⟨_, PSs.nox (pss_cons (ps_if (PW.pt (pw_or (pt_not (pt_val (pe_call G_is_within (hr.mono (by decide)) (by rfl) T.g_is_within P_is_within B_is_within .nil pass0 (pa_cons (pv 1) (pa_cons pe_int (pa_cons (pe_glob (v := .int 3) (by rfl) m_MOST_PROCESSORS ⟨_, rfl⟩) pa_nil)))))) (pw_or1 (pt_not (pt_val (pe_call G_is_within (hr.mono (by decide)) (by rfl) T.g_is_within P_is_within B_is_within .nil pass0 (pa_cons (pv 2) (pa_cons (pe_glob (v := .int 2) (by rfl) m_LEAST_FRAMES ⟨_, rfl⟩) (pa_cons (pe_glob (v := .int 12) (by rfl) m_MOST_FRAMES ⟨_, rfl⟩) pa_nil))))))))) pss_never pss_nil) (pss_cons (ps_if (pt_not (pt_val (pe_call G_is_within (hr.mono (by decide)) (by rfl) T.g_is_within P_is_within B_is_within .nil pass0 (pa_cons (pv 3) (pa_cons pe_int (pa_cons (pe_glob (v := .int 12) (by rfl) m_MOST_BLOCKS ⟨_, rfl⟩) pa_nil)))))) pss_never pss_nil) (pss_cons (ps_fld (pv 0) (pv 1) rfl) (pss_cons (ps_fld (pv 0) (pv 2) rfl) (pss_one (ps_fld (pv 0) (pv 3) rfl)))))), ?_⟩
    refine ⟨_, rfl, _, 1, 3, rfl, _, rfl, iteN (by rw [decide_eq_true (by omega), decide_eq_true (by omega)]; rfl) ?_⟩
    refine ⟨_, rfl, _, 2, 12, rfl, _, rfl, ?_⟩
    refine ⟨_, rfl, _, 0, 12, rfl, _, rfl, ?_⟩
    refine ⟨_, rfl, _, rfl, p, _, dx, [], rfl, hp, T.c_Sizes, T.n_Sizes_processors, (by show 0 < 1000; decide), ?_⟩
    refine ⟨_, rfl, _, rfl, p, _, dx, _, rfl, upd_same, T.c_Sizes, T.n_Sizes_frames, (by show 1 < 1000; decide), ?_⟩
    refine ⟨_, rfl, _, rfl, p, _, dx, _, rfl, upd_same, T.c_Sizes, T.n_Sizes_blocks, (by show 2 < 1000; decide), ?_⟩
    exact k _ ⟨dx, upd_same⟩ fun b o e hb => by rw [upd_ne hb, upd_ne hb, upd_ne hb]; exact e
theorem sc_Owners_init : FnScope ["self", "many", "_"] ["self", "many"] (defScope s_Owners_init) := ⟨rfl, rfl, rfl, by decide +kernel, rfl, by decide +kernel, by decide +kernel⟩
theorem ok_Owners_init (T : T w K mg) : Ok P w K mg base 1 at_Owners_init ["self", "many"] (spJunk (C_Owners K)) := by
  obtain ⟨fd, F⟩ := T.d_Owners_init
  refine ⟨fd, F.ok sc_Owners_init (fun vs H Q E h => ?_) (fun cdv_ A_ outer_ s_ H vs Q E hr h => ?_), F.bindsN fun _ _ _ _ _ _ us hl => match us, hl with | [_, _], _ => rfl, F.kp⟩
  · obtain ⟨p, dx, n, rfl, _⟩ := h
    rfl
  · obtain ⟨p, dx, n, rfl, hp, h0, h1, k⟩ := h
    refine ⟨_, PSs.nox (pss_cons (ps_fld (pv 0) (pv 1) rfl) (pss_cons (ps_fld (pv 0) (pe_lc (own := [("_", 2)]) (g := gName 2) (tt := tYes)  rfl sc_Owners_init.nd (pi_range1 (by rfl) T.f_range (pa_cons (pv 1) pa_nil)) (blkOk_by (own := [("_", 2)]) (N := ["self", "many", "_"]) (sc := defScope s_Owners_init) (by decide +kernel)) (fun _ _ _ _ _ => pg_name (i := 2) sc_Owners_init.nd rfl (Or.inl rfl)) (fun _ _ _ _ _ => pts_nil) (fun _ _ _ _ _ => pe_lst pa_nil)) rfl) (pss_one (ps_fld (pv 0) (pe_lst pa_nil) rfl)))), ?_⟩
    refine ⟨_, rfl, _, rfl, p, _, dx, [], rfl, hp, T.c_Owners, T.n_Owners_many, (by show 0 < 1000; decide), ?_⟩
    refine ⟨_, rfl, _, rfl, by omega, by omega, fun D hD => ?_⟩
    have npD : p ≠ D := fun z => by rw [← z, upd_same] at hD; cases hD
    refine lc_range (lo := 0) (n := n.toNat) (fun i H' => Same (upd H p (.ins (C_Owners K) dx (putF "many" (.int n) []))) H' ∧ ∃ acc, H' D = some (.lst acc) ∧ acc.length = i) ⟨Same.new hD, [], upd_same, rfl⟩ ?_ ?_
    · rintro i H' hi ⟨sm, acc, hL, hlen⟩
      refine ⟨rfl, Nat.zero_le _, fun q hq => ?_⟩
      have nDq : D ≠ q := ne_of_none hL hq
      refine ⟨acc, by rw [upd_ne nDq]; exact hL, small _ (by omega), fun b o e => ?_, acc ++ [.ref q], upd_same, by rw [List.length_append]; exact congrArg (· + 1) hlen⟩
      rw [upd_ne (ne_of_none e hD), upd_ne (ne_of_none (sm _ _ e) hq)]
      exact sm _ _ e
    · rintro H' ⟨sm, acc, hL, hlen⟩
      have hp' := sm _ _ upd_same
      refine ⟨_, rfl, p, _, dx, _, rfl, hp', T.c_Owners, T.n_Owners_lists, (by show 1 < 1000; decide), ?_⟩
      refine ⟨Nat.zero_le _, fun q hq => ?_⟩
      have npq : p ≠ q := fun z => by rw [← z, upd_same] at hq; cases hq
      refine ⟨_, rfl, p, _, dx, _, rfl, (by rw [upd_ne npq]; exact upd_same), T.c_Owners, T.n_Owners_taken, (by show 2 < 1000; decide), ?_⟩
      refine k _ ⟨dx, _, upd_same⟩ fun b o e hb => ?_
      have e1 : H' b = some o := sm _ _ (by rw [upd_ne hb]; exact e)
      have e2 : (upd H' p (.ins (C_Owners K) dx (putF "lists" (.ref D) (putF "many" (.int n) [])))) b = some o := by rw [upd_ne hb]; exact e1
      rw [upd_ne hb, upd_ne (ne_of_none e2 hq)]
      exact e2
theorem sc_Hand_init : FnScope ["self", "many"] ["self", "many"] (defScope s_Hand_init) := ⟨rfl, rfl, rfl, by decide +kernel, rfl, by decide +kernel, by decide +kernel⟩
theorem ok_Hand_init (T : T w K mg) : Ok P w K mg base 1 at_Hand_init ["self", "many"] (spJunk (C_Hand K)) := by
  obtain ⟨fd, F⟩ := T.d_Hand_init
  refine ⟨fd, F.ok sc_Hand_init (fun vs H Q E h => ?_) (fun cdv_ A_ outer_ s_ H vs Q E hr h => ?_), F.bindsN fun _ _ _ _ _ _ us hl => match us, hl with | [_, _], _ => rfl, F.kp⟩
  · obtain ⟨p, dx, n, rfl, _⟩ := h
    rfl
  · obtain ⟨p, dx, n, rfl, hp, h0, h1, k⟩ := h
    refine ⟨_, PSs.nox (pss_cons (ps_fld (pv 0) (pv 1) rfl) (pss_one (ps_fld (pv 0) pe_int rfl))), ?_⟩
    refine ⟨_, rfl, _, rfl, p, _, dx, [], rfl, hp, T.c_Hand, T.n_Hand_many, (by show 0 < 1000; decide), ?_⟩
    refine ⟨_, rfl, p, _, dx, _, rfl, upd_same, T.c_Hand, T.n_Hand_place, (by show 1 < 1000; decide), ?_⟩
    exact k _ ⟨dx, _, upd_same⟩ fun b o e hb => by rw [upd_ne hb, upd_ne hb]; exact e
theorem sc_first_values : FnScope ["sizes", "values"] ["sizes"] (defScope s_first_values) := ⟨rfl, rfl, rfl, by decide +kernel, rfl, by decide +kernel, by decide +kernel⟩
theorem ok_first_values (T : T w K mg) : Ok P w K mg base 1 at_first_values ["sizes"] (spFirst K) := by
  obtain ⟨t_FILES, m_FILES⟩ := T.i_FILES
  obtain ⟨t_FILE_PAGES, m_FILE_PAGES⟩ := T.i_FILE_PAGES
  obtain ⟨t_CELLS, m_CELLS⟩ := T.i_CELLS
  obtain ⟨t_SPACES, m_SPACES⟩ := T.i_SPACES
  obtain ⟨t_PAGES, m_PAGES⟩ := T.i_PAGES
  obtain ⟨fd, F⟩ := T.d_first_values
  refine ⟨fd, F.ok sc_first_values (fun vs H Q E h => ?_) (fun cdv_ A_ outer_ s_ H vs Q E hr h => ?_), F.bindsN fun _ _ _ _ _ _ us hl => match us, hl with | [_], _ => rfl, F.kp⟩
  · obtain ⟨z, dx, n, rfl, _⟩ := h
    rfl
  · obtain ⟨z, dx, n, rfl, hz, h3, k⟩ := h
    refine ⟨_, PSs.nox (pss_cons (ps_set (i := 1) sc_first_values.nd rfl (Or.inl rfl) (pe_op op_cat (pe_op op_rep (pe_lst (pa_cons pe_int pa_nil)) (pe_op op_add pe_int (pe_fld (pv 0) rfl))) (pe_op op_rep (pe_lst (pa_cons pe_non pa_nil)) (pe_op op_mul (pe_glob (v := .int 4) (by rfl) m_SPACES ⟨_, rfl⟩) (pe_glob (v := .int 8) (by rfl) m_PAGES ⟨_, rfl⟩))))) (pss_cons (ps_set (i := 1) sc_first_values.nd rfl (Or.inl rfl) (pe_op op_cat (pv 1) (pe_op op_rep (pe_lst (pa_cons pe_int pa_nil)) (pe_op op_mul (pe_glob (v := .int 2) (by rfl) m_CELLS ⟨_, rfl⟩) (pe_fld (pv 0) rfl))))) (pss_one (ps_ret (pe_op op_cat (pv 1) (pe_op op_rep (pe_lst (pa_cons (pe_tup (pa_cons pe_int (pa_cons pe_int pa_nil))) pa_nil)) (pe_op op_add (pe_fld (pv 0) rfl) (pe_op op_mul (pe_glob (v := .int 2) (by rfl) m_FILES ⟨_, rfl⟩) (pe_glob (v := .int 4) (by rfl) m_FILE_PAGES ⟨_, rfl⟩))))))))), ?_⟩
    -- values = [0] * (1 + sizes.processors) + [None] * (SPACES * PAGES)
    refine ⟨(by show 1 ≤ sizeLine; decide), fun l1 hl1 => ?_⟩
    have s1 : Same H _ := Same.new (o := .lst [.int 0]) hl1
    refine ⟨_, rfl, z, _, dx, _, _, rfl, s1 _ _ hz, T.c_Sizes, T.n_Sizes_processors, rfl, _, _, rfl, rfl, l1, _, [.int 0], rfl, rfl, upd_same, by omega, by omega, len_sz (by rw [show (1 + (n : Int)).toNat = 1 + n by omega]; show 1 * (1 + n) ≤ 1000; omega), fun p1 hp1 => ?_⟩
    rw [show (1 + (n : Int)).toNat = 1 + n by omega, rep_one]
    have s2 : Same H _ := Same.trans s1 (Same.new (o := .lst (List.replicate (1 + n) (.int 0))) hp1)
    refine ⟨(by show 1 ≤ sizeLine; decide), fun l2 hl2 => ?_⟩
    refine ⟨_, _, rfl, rfl, .inl ⟨by decide, by decide⟩, l2, _, [.non], rfl, rfl, upd_same, by omega, by omega, len_sz (by show 1 * 32 ≤ 1000; omega), fun p2 hp2 => ?_⟩
    have n12 : p1 ≠ l2 := fun e => by rw [← e, upd_same] at hl2; cases hl2
    have t1 : (upd (upd (upd H l1 (.lst [.int 0])) p1 (.lst (List.replicate (1 + n) (.int 0)))) l2 (.lst [.non])) p1 = some (.lst (List.replicate (1 + n) (.int 0))) := by rw [upd_ne n12]; exact upd_same
    have s3 : Same H _ := Same.trans s2 (Same.trans (Same.new (o := .lst [.non]) hl2) (Same.new (o := .lst (List.replicate 32 .non)) hp2))
    rw [show ((4 : Int) * 8).toNat = 32 from rfl, rep_one]
    refine ⟨p1, p2, _, _, rfl, rfl, Same.new hp2 _ _ t1, upd_same, len_sz (by rw [List.length_replicate, List.length_replicate]; omega), fun p3 hp3 => ?_⟩
    have s4 : Same H _ := Same.trans s3 (Same.new (o := .lst (List.replicate (1 + n) (.int 0) ++ List.replicate 32 .non)) hp3)
    -- values = values + [0] * (CELLS * sizes.frames)
    refine ⟨_, rfl, (by show 1 ≤ sizeLine; decide), fun l3 hl3 => ?_⟩
    have s5 := Same.trans s4 (Same.new (o := .lst [.int 0]) hl3)
    refine ⟨_, rfl, z, _, dx, _, _, rfl, s5 _ _ hz, T.c_Sizes, T.n_Sizes_frames, rfl, _, _, rfl, rfl, .inl ⟨by decide, by decide⟩, l3, _, [.int 0], rfl, rfl, upd_same, by omega, by omega, len_sz (by show 1 * 8 ≤ 1000; omega), fun p4 hp4 => ?_⟩
    rw [show ((2 : Int) * 4).toNat = 8 from rfl, rep_one]
    have n3l : p3 ≠ l3 := fun e => by rw [← e, upd_same] at hl3; cases hl3
    have t3 : ∀ Hx : Hp, (upd (upd Hx p3 (.lst (List.replicate (1 + n) (.int 0) ++ List.replicate 32 .non))) l3 (.lst [.int 0])) p3 = some (.lst (List.replicate (1 + n) (.int 0) ++ List.replicate 32 .non)) := fun Hx => by rw [upd_ne n3l]; exact upd_same
    have s6 := Same.trans s5 (Same.new (o := .lst (List.replicate 8 (.int 0))) hp4)
    refine ⟨p3, p4, _, _, rfl, rfl, Same.new hp4 _ _ (t3 _), upd_same, len_sz (by rw [List.length_append, List.length_replicate, List.length_replicate, List.length_replicate]; omega), fun p5 hp5 => ?_⟩
    have s7 := Same.trans s6 (Same.new (o := .lst (List.replicate (1 + n) (.int 0) ++ List.replicate 32 .non ++ List.replicate 8 (.int 0))) hp5)
    -- return values + [(0, 0)] * (sizes.blocks + FILES * FILE_PAGES)
    refine ⟨_, rfl, (by show 2 ≤ sizeLine; decide), fun a ha => ⟨(by show 1 ≤ sizeLine; decide), fun l4 hl4 => ?_⟩⟩
    have s8 := Same.trans s7 (Same.trans (Same.new (o := .tup [.int 0, .int 0]) ha) (Same.new (o := .lst [.ref a]) hl4))
    refine ⟨_, rfl, z, _, dx, _, _, rfl, s8 _ _ hz, T.c_Sizes, T.n_Sizes_blocks, rfl, _, _, rfl, rfl, .inl ⟨by decide, by decide⟩, _, _, rfl, rfl, l4, _, [.ref a], rfl, rfl, upd_same, by omega, by omega, len_sz (by show 1 * 10 ≤ 1000; omega), fun p6 hp6 => ?_⟩
    rw [show ((2 : Int) + 2 * 4).toNat = 10 from rfl, rep_one]
    have q5 : ∀ {H9 : Hp}, Same (upd (upd (upd (upd (upd (upd (upd (upd H l1 (.lst [.int 0])) p1 (.lst (List.replicate (1 + n) (.int 0)))) l2 (.lst [.non])) p2 (.lst (List.replicate 32 .non))) p3 (.lst (List.replicate (1 + n) (.int 0) ++ List.replicate 32 .non))) l3 (.lst [.int 0])) p4 (.lst (List.replicate 8 (.int 0)))) p5 (.lst (List.replicate (1 + n) (.int 0) ++ List.replicate 32 .non ++ List.replicate 8 (.int 0)))) H9 →
        H9 p5 = some (.lst (List.replicate (1 + n) (.int 0) ++ List.replicate 32 .non ++ List.replicate 8 (.int 0))) := fun s => s _ _ upd_same
    refine ⟨p5, p6, _, _, rfl, rfl, q5 (Same.trans (Same.new ha) (Same.trans (Same.new hl4) (Same.new hp6))), upd_same, len_sz (by rw [List.length_append, List.length_append, List.length_replicate, List.length_replicate, List.length_replicate, List.length_replicate]; omega), fun p7 hp7 => ?_⟩
    have s9 := Same.trans s8 (Same.trans (Same.new (o := .lst (List.replicate 10 (.ref a))) hp6) (Same.new (o := .lst (vals0 n a)) hp7))
    exact k p7 a _ (Same.free (Same.trans s8 (Same.new (o := .lst (List.replicate 10 (.ref a))) hp6)) hp7) upd_same s9
end
end K8

-- ===== part K8J =====
set_option Elab.async false
set_option linter.all false
set_option maxRecDepth 100000
set_option maxHeartbeats 4000000
namespace K8
open PySem PySem.Spec PyProof.Rows L2
/-! the making of a memory -/
/-- i new objects of one list each, told by the list at D -/
structure Objs (C : Addr) (H0 H' : Hp) (D : Addr) (i : Nat) (b br : Nat → Addr) : Prop where
  same : Same H0 H'
  lst : H' D = some (.lst ((List.range i).map fun q => .ref (b q)))
  rows : ∀ q, q < i → RowsAt C H' (b q) (br q) []
  newB : ∀ q, q < i → H0 (b q) = none
  newR : ∀ q, q < i → H0 (br q) = none ∧ br q ≠ D
  injB : ∀ q q', q < i → q' < i → b q = b q' → q = q'
  injR : ∀ q q', q < i → q' < i → br q = br q' → q = q'
theorem Objs.zero {C : Addr} {H0 : Hp} {D : Addr} (hD : H0 D = none) : Objs C H0 (upd H0 D (.lst [])) D 0 (fun _ => 0) (fun _ => 0) :=
  ⟨Same.new hD, upd_same, fun _ h => by omega, fun _ h => by omega, fun _ h => by omega, fun _ _ h => by omega, fun _ _ h => by omega⟩
theorem Objs.step {C : Addr} {H0 H1 H2 : Hp} {D : Addr} {i : Nat} {b br : Nat → Addr} (O : Objs C H0 H1 D i b br) (hD : H0 D = none) {x dx r : Addr} (hx : H1 x = none) (hdx : H1 dx = none) (ne : dx ≠ x)
    (hr : (upd (upd H1 dx (.own x)) x (.ins C dx [])) r = none) (R : RowsAt C H2 x r []) (B : But x (upd (upd H1 dx (.own x)) x (.ins C dx [])) H2) :
    H2 D = some (.lst ((List.range i).map fun q => .ref (b q))) ∧ Objs C H0 (upd H2 D (.lst (((List.range i).map fun q => .ref (b q)) ++ [.ref x]))) D (i + 1) (fset b i x) (fset br i r) := by
  have s12 : Same H1 H2 := fun c o e => B c o (by rw [upd_ne (ne_of_none e hx), upd_ne (ne_of_none e hdx)]; exact e) (ne_of_none e hx)
  have rx : r ≠ x := fun z => by rw [z, upd_same] at hr; cases hr
  have rdx : r ≠ dx := fun z => by rw [z, upd_ne ne, upd_same] at hr; cases hr
  have hr1 : H1 r = none := by rw [upd_ne rx, upd_ne rdx] at hr; exact hr
  have nDx : D ≠ x := ne_of_none O.lst hx
  have nDr : D ≠ r := ne_of_none O.lst hr1
  have hL2 := s12 _ _ O.lst
  have old : ∀ q, q < i → RowsAt C (upd H2 D (.lst (((List.range i).map fun q => .ref (b q)) ++ [.ref x]))) (b q) (br q) [] := fun q hq => by
    obtain ⟨⟨d, e1⟩, e2⟩ := O.rows q hq
    have n1 : b q ≠ D := ne_of e1 O.lst (by intro z; cases z)
    exact ⟨⟨d, by rw [upd_ne n1]; exact s12 _ _ e1⟩, by rw [upd_ne (O.newR q hq).2]; exact s12 _ _ e2⟩
  have tb : ∀ q, q < i → b q ≠ x := fun q hq => by
    obtain ⟨⟨d, e1⟩, e2⟩ := O.rows q hq
    exact ne_of_none e1 hx
  have tr : ∀ q, q < i → br q ≠ r := fun q hq => by
    obtain ⟨⟨d, e1⟩, e2⟩ := O.rows q hq
    exact ne_of_none e2 hr1
  refine ⟨hL2, fun c o e => ?_, ?_, fun q hq => ?_, fun q hq => ?_, fun q hq => ?_, fun q q' hq hq' z => ?_, fun q q' hq hq' z => ?_⟩
  · rw [upd_ne (ne_of_none e hD)]
    exact s12 _ _ (O.same _ _ e)
  · rw [upd_same, List.range_succ, List.map_append]
    congr 2
    show _ ++ _ = _ ++ [V.ref (fset b i x i)]
    rw [fset_same]
    congr 1
    apply List.map_congr_left
    intro q hq
    have : q < i := List.mem_range.mp hq
    rw [fset_ne (by omega)]
  · by_cases e : q = i
    · subst e
      rw [fset_same, fset_same]
      exact ⟨R.1.imp fun d e => by rw [upd_ne nDx.symm]; exact e, by rw [upd_ne nDr.symm]; exact R.2⟩
    · rw [fset_ne e, fset_ne e]
      exact old q (by omega)
  · by_cases e : q = i
    · subst e
      rw [fset_same]
      exact Same.free O.same hx
    · rw [fset_ne e]
      exact O.newB q (by omega)
  · by_cases e : q = i
    · subst e
      rw [fset_same]
      exact ⟨Same.free O.same hr1, nDr.symm⟩
    · rw [fset_ne e]
      exact O.newR q (by omega)
  · by_cases e : q = i
    · by_cases e' : q' = i
      · omega
      · subst e
        rw [fset_same, fset_ne e'] at z
        exact absurd z.symm (tb q' (by omega))
    · by_cases e' : q' = i
      · subst e'
        rw [fset_same, fset_ne e] at z
        exact absurd z (tb q (by omega))
      · rw [fset_ne e, fset_ne e'] at z
        exact O.injB q q' (by omega) (by omega) z
  · by_cases e : q = i
    · by_cases e' : q' = i
      · omega
      · subst e
        rw [fset_same, fset_ne e'] at z
        exact absurd z.symm (tr q' (by omega))
    · by_cases e' : q' = i
      · subst e'
        rw [fset_same, fset_ne e] at z
        exact absurd z (tr q (by omega))
      · rw [fset_ne e, fset_ne e'] at z
        exact O.injR q q' (by omega) (by omega) z
theorem But.trans {p : Addr} {H H1 H2 : Hp} (a : But p H H1) (b : But p H1 H2) : But p H H2 := fun c o e h => b c o (a c o e h) h
theorem Same.but {p : Addr} {H H1 : Hp} (a : Same H H1) : But p H H1 := fun c o e _ => a c o e
theorem But.up {p : Addr} {H : Hp} {o : HO} : But p H (upd H p o) := fun c u e h => by rw [upd_ne h]; exact e
def ms0 (n : Nat) : MS := ⟨n, 0, fun _ => 0, fun _ _ => .non, fun _ => [], fun _ => []⟩
theorem vals0_len (n : Nat) (a : Addr) : (vals0 n a).length = 51 + n := by
  unfold vals0
  simp only [List.length_append, List.length_replicate]
  omega
theorem vals0_ack {n p : Nat} (a : Addr) (h : p < n) : (vals0 n a)[1 + p]? = some (.int 0) := by
  unfold vals0
  rw [List.append_assoc, List.append_assoc, List.getElem?_append_left (by rw [List.length_replicate]; omega), List.getElem?_replicate, if_pos (by omega)]
theorem vals0_wd {n s g : Nat} (a : Addr) (h : s < 4) (h' : g < 8) : (vals0 n a)[1 + n + 8 * s + g]? = some .non := by
  unfold vals0
  rw [List.append_assoc, List.getElem?_append_left (by rw [List.length_append, List.length_replicate, List.length_replicate]; omega), List.getElem?_append_right (by rw [List.length_replicate]; omega), List.length_replicate, List.getElem?_replicate, if_pos (by omega)]
def spMemInit (K : PySem.W.Frag) : Sp := fun vs H Q _ => ∃ p dx z dz n, vs = [.ref p, .ref z] ∧ H p = some (.ins (C_Memory K) dx []) ∧ H z = some (.ins (C_Sizes K) dz (fSz n)) ∧ 1 ≤ n ∧ n ≤ 3 ∧
  ∀ H' A, MemR K H' A (ms0 n) → A.m = p → A.sz = z → But p H H' → (∀ b, Fp A n b → b = p ∨ b = z ∨ H b = none) → Q .non H'
def stage : Ro → Nat
  | .m => 0 | .sz => 0 | .hl => 1 | .bl => 2 | .b _ => 2 | .br _ => 2 | .xl => 3 | .x _ => 3 | .xr _ => 3 | .rl => 4
/-- the parts of a new memory are apart -/
theorem stage_inj {n : Nat} {A : AD} {h0 h1 h2 h3 : Hp} (t0 : ∀ r : Ro, r.ok n → stage r ≤ 0 → h0 (A.at_ r) ≠ none) (t1 : ∀ r : Ro, r.ok n → stage r ≤ 1 → h1 (A.at_ r) ≠ none) (t2 : ∀ r : Ro, r.ok n → stage r ≤ 2 → h2 (A.at_ r) ≠ none)
    (t3 : ∀ r : Ro, r.ok n → stage r ≤ 3 → h3 (A.at_ r) ≠ none) (n0 : ∀ r : Ro, r.ok n → 1 ≤ stage r → h0 (A.at_ r) = none) (n1 : ∀ r : Ro, r.ok n → 2 ≤ stage r → h1 (A.at_ r) = none)
    (n2 : ∀ r : Ro, r.ok n → 3 ≤ stage r → h2 (A.at_ r) = none) (n3 : ∀ r : Ro, r.ok n → 4 ≤ stage r → h3 (A.at_ r) = none) {r r' : Ro} (h : r.ok n) (h' : r'.ok n) (e : A.at_ r = A.at_ r') : stage r = stage r' := by
  have key : ∀ r r' : Ro, r.ok n → r'.ok n → A.at_ r = A.at_ r' → ¬ stage r < stage r' := by
    intro r r' h h' e l
    have h4 : stage r' ≤ 4 := by cases r' <;> simp [stage]
    have : stage r = 0 ∨ stage r = 1 ∨ stage r = 2 ∨ stage r = 3 := by omega
    rcases this with z | z | z | z
    · exact t0 r h (by omega) (by rw [e]; exact n0 r' h' (by omega))
    · exact t1 r h (by omega) (by rw [e]; exact n1 r' h' (by omega))
    · exact t2 r h (by omega) (by rw [e]; exact n2 r' h' (by omega))
    · exact t3 r h (by omega) (by rw [e]; exact n3 r' h' (by omega))
  have a := key r r' h h' e
  have b := key r' r h' h e.symm
  omega
section
variable {P : Program} {w : World} {K : PySem.W.Frag} {mg : Str → Option Value} {base : Heap}
theorem sc_Memory_init : FnScope ["self", "sizes", "_"] ["self", "sizes"] (defScope s_Memory_init) := ⟨rfl, rfl, rfl, by decide +kernel, rfl, by decide +kernel, by decide +kernel⟩
theorem ok_Memory_init (T : T w K mg) : Ok P w K mg base 3 at_Memory_init ["self", "sizes"] (spMemInit K) := by
  obtain ⟨_, G_Box_init, B_Box_init, P_Box_init⟩ := ok_Box_init (P := P) (base := base) T
  obtain ⟨_, G_Buffer_init, B_Buffer_init, P_Buffer_init⟩ := ok_Buffer_init (P := P) (base := base) T
  obtain ⟨_, G_first_values, B_first_values, P_first_values⟩ := ok_first_values (P := P) (base := base) T
  obtain ⟨fd, F⟩ := T.d_Memory_init
  refine ⟨fd, F.ok sc_Memory_init (fun vs H Q E h => ?_) (fun cdv_ A_ outer_ s_ H vs Q E hr h => ?_), F.bindsN fun _ _ _ _ _ _ us hl => match us, hl with | [_, _], _ => rfl, F.kp⟩
  · obtain ⟨p, dx, z, dz, n, rfl, _⟩ := h
    rfl
  · obtain ⟨p, dx, z, dz, n, rfl, hp, hz, h1, h3, k⟩ := h
    have nzp : z ≠ p := ne_of hz hp (by intro q; injection q with _ _ q; cases q)
    refine ⟨_, PSs.nox (pss_cons (ps_fld (pv 0) (pv 1) rfl) (pss_cons (ps_fld (pv 0) pe_int rfl) (pss_cons (ps_fld (pv 0) (pe_call G_first_values (hr.mono (by decide)) (by rfl) T.g_first_values P_first_values B_first_values .nil pass0 (pa_cons (pv 1) pa_nil)) rfl) (pss_cons (ps_fld (pv 0) (pe_lc (own := [("_", 2)]) (g := gName 2) (tt := tYes)  rfl sc_Memory_init.nd (pi_range1 (by rfl) T.f_range (pa_cons (pe_fld (pv 1) rfl) pa_nil)) (blkOk_by (own := [("_", 2)]) (N := ["self", "sizes", "_"]) (sc := defScope s_Memory_init) (by decide +kernel)) (fun _ _ _ _ _ => pg_name (i := 2) sc_Memory_init.nd rfl (Or.inl rfl)) (fun _ _ _ _ _ => pts_nil) (fun _ _ _ _ _ => pe_make0 T.k_Buffer G_Buffer_init (hr.mono (by decide)) (by rfl) T.g_Buffer B_Buffer_init .nil pass0 )) rfl) (pss_cons (ps_fld (pv 0) (pe_lc (own := [("_", 2)]) (g := gName 2) (tt := tYes)  rfl sc_Memory_init.nd (pi_range1 (by rfl) T.f_range (pa_cons (pe_fld (pv 1) rfl) pa_nil)) (blkOk_by (own := [("_", 2)]) (N := ["self", "sizes", "_"]) (sc := defScope s_Memory_init) (by decide +kernel)) (fun _ _ _ _ _ => pg_name (i := 2) sc_Memory_init.nd rfl (Or.inl rfl)) (fun _ _ _ _ _ => pts_nil) (fun _ _ _ _ _ => pe_make0 T.k_Box G_Box_init (hr.mono (by decide)) (by rfl) T.g_Box B_Box_init .nil pass0 )) rfl) (pss_one (ps_fld (pv 0) (pe_lst pa_nil) rfl))))))), ?_⟩
    -- self.sizes = sizes; self.count = 0
    refine ⟨_, rfl, _, rfl, p, _, dx, [], rfl, hp, T.c_Memory, T.n_Memory_sizes, (by show 0 < 1000; decide), ?_⟩
    refine ⟨_, rfl, p, _, dx, _, rfl, upd_same, T.c_Memory, T.n_Memory_count, (by show 1 < 1000; decide), ?_⟩
    -- self.held = first_values(sizes)
    have b02 : But p H (upd (upd H p (.ins (C_Memory K) dx (putF "sizes" (.ref z) []))) p (.ins (C_Memory K) dx (putF "count" (.int 0) (putF "sizes" (.ref z) [])))) := But.trans But.up But.up
    refine ⟨_, rfl, z, dz, n, rfl, b02 _ _ hz nzp, h3, fun lh a H3 hlh hL s23 => ?_⟩
    generalize hH2 : (upd (upd H p (.ins (C_Memory K) dx (putF "sizes" (.ref z) []))) p (.ins (C_Memory K) dx (putF "count" (.int 0) (putF "sizes" (.ref z) [])))) = H2 at *
    have hp2 : H2 p = some (.ins (C_Memory K) dx (putF "count" (.int 0) (putF "sizes" (.ref z) []))) := by rw [← hH2]; exact upd_same
    have hp3 := s23 _ _ hp2
    have nlp : lh ≠ p := fun e => by rw [e, hp2] at hlh; cases hlh
    refine ⟨_, rfl, p, _, dx, _, rfl, hp3, T.c_Memory, T.n_Memory_held, (by show 2 < 1000; decide), ?_⟩
    -- self.buffers = [Buffer() for _ in range(sizes.processors)]
    generalize hH4 : (upd H3 p (.ins (C_Memory K) dx (putF "held" (.ref lh) (putF "count" (.int 0) (putF "sizes" (.ref z) []))))) = H4 at *
    have b04 : But p H H4 := But.trans b02 (But.trans (Same.but s23) (by rw [← hH4]; exact But.up))
    have b34 : But p H3 H4 := by rw [← hH4]; exact But.up
    have hp4 : H4 p = some (.ins (C_Memory K) dx (putF "held" (.ref lh) (putF "count" (.int 0) (putF "sizes" (.ref z) [])))) := by rw [← hH4]; exact upd_same
    refine ⟨_, rfl, z, _, dz, _, _, rfl, b04 _ _ hz nzp, T.c_Sizes, T.n_Sizes_processors, rfl, _, rfl, by omega, by omega, fun D1 hD1 => ?_⟩
    refine lc_range (lo := 0) (n := (n : Int).toNat) (fun i H' => ∃ b br, Objs (C_Buffer K) H4 H' D1 i b br) ⟨_, _, Objs.zero hD1⟩ ?_ ?_
    · rintro i H' hi ⟨b, br, O⟩
      refine ⟨rfl, ?_⟩
      intro x dx' nx ndx nex
      refine ⟨x, dx', rfl, upd_same, fun r Hn hr R B => ⟨rfl, ?_⟩⟩
      obtain ⟨hL', O'⟩ := O.step hD1 nx ndx nex hr R B
      exact ⟨_, hL', small _ (by rw [List.length_map, List.length_range]; omega), _, _, O'⟩
    rintro H5 ⟨b, br, O1⟩
    rw [show (n : Int).toNat = n by omega] at O1
    have hp5 := O1.same _ _ hp4
    refine ⟨_, rfl, p, _, dx, _, rfl, hp5, T.c_Memory, T.n_Memory_buffers, (by show 3 < 1000; decide), ?_⟩
    generalize hH6 : (upd H5 p (.ins (C_Memory K) dx (putF "buffers" (.ref D1) (putF "held" (.ref lh) (putF "count" (.int 0) (putF "sizes" (.ref z) [])))))) = H6 at *
    have b56 : But p H5 H6 := by rw [← hH6]; exact But.up
    have b46 : But p H4 H6 := But.trans (Same.but O1.same) b56
    have b06 : But p H H6 := But.trans b04 b46
    have hp6 : H6 p = some (.ins (C_Memory K) dx (putF "buffers" (.ref D1) (putF "held" (.ref lh) (putF "count" (.int 0) (putF "sizes" (.ref z) []))))) := by rw [← hH6]; exact upd_same
    -- self.boxes = [Box() for _ in range(sizes.processors)]
    refine ⟨_, rfl, z, _, dz, _, _, rfl, b06 _ _ hz nzp, T.c_Sizes, T.n_Sizes_processors, rfl, _, rfl, by omega, by omega, fun D2 hD2 => ?_⟩
    refine lc_range (lo := 0) (n := (n : Int).toNat) (fun i H' => ∃ x xr, Objs (C_Box K) H6 H' D2 i x xr) ⟨_, _, Objs.zero hD2⟩ ?_ ?_
    · rintro i H' hi ⟨x, xr, O⟩
      refine ⟨rfl, ?_⟩
      intro y dy ny ndy ney
      refine ⟨y, dy, rfl, upd_same, fun r Hn hr R B => ⟨rfl, ?_⟩⟩
      obtain ⟨hL', O'⟩ := O.step hD2 ny ndy ney hr R B
      exact ⟨_, hL', small _ (by rw [List.length_map, List.length_range]; omega), _, _, O'⟩
    rintro H7 ⟨x, xr, O2⟩
    rw [show (n : Int).toNat = n by omega] at O2
    have hp7 := O2.same _ _ hp6
    refine ⟨_, rfl, p, _, dx, _, rfl, hp7, T.c_Memory, T.n_Memory_boxes, (by show 4 < 1000; decide), ?_⟩
    generalize hH8 : (upd H7 p (.ins (C_Memory K) dx (putF "boxes" (.ref D2) (putF "buffers" (.ref D1) (putF "held" (.ref lh) (putF "count" (.int 0) (putF "sizes" (.ref z) []))))))) = H8 at *
    have b78 : But p H7 H8 := by rw [← hH8]; exact But.up
    have b68 : But p H6 H8 := But.trans (Same.but O2.same) b78
    have hp8 : H8 p = some (.ins (C_Memory K) dx (putF "boxes" (.ref D2) (putF "buffers" (.ref D1) (putF "held" (.ref lh) (putF "count" (.int 0) (putF "sizes" (.ref z) [])))))) := by rw [← hH8]; exact upd_same
    -- self.rows = []
    refine ⟨Nat.zero_le _, fun lr hlr => ?_⟩
    have nplr : p ≠ lr := ne_of_none hp8 hlr
    refine ⟨_, rfl, p, _, dx, _, rfl, (by rw [upd_ne nplr]; exact hp8), T.c_Memory, T.n_Memory_rows, (by show 5 < 1000; decide), ?_⟩
    have b8f : But p H8 (upd (upd H8 lr (.lst [])) p (.ins (C_Memory K) dx (putF "rows" (.ref lr) (putF "boxes" (.ref D2) (putF "buffers" (.ref D1) (putF "held" (.ref lh) (putF "count" (.int 0) (putF "sizes" (.ref z) [])))))))) := But.trans (Same.but (Same.new hlr)) But.up
    have hlf : (upd (upd H8 lr (.lst [])) p (.ins (C_Memory K) dx (putF "rows" (.ref lr) (putF "boxes" (.ref D2) (putF "buffers" (.ref D1) (putF "held" (.ref lh) (putF "count" (.int 0) (putF "sizes" (.ref z) [])))))))) lr = some (.lst []) := by rw [upd_ne nplr.symm]; exact upd_same
    have hpf : (upd (upd H8 lr (.lst [])) p (.ins (C_Memory K) dx (putF "rows" (.ref lr) (putF "boxes" (.ref D2) (putF "buffers" (.ref D1) (putF "held" (.ref lh) (putF "count" (.int 0) (putF "sizes" (.ref z) [])))))))) p = some (.ins (C_Memory K) dx (fMem ⟨p, z, lh, D1, D2, lr, b, br, x, xr⟩ 0)) := upd_same
    generalize hHf : (upd (upd H8 lr (.lst [])) p (.ins (C_Memory K) dx (putF "rows" (.ref lr) (putF "boxes" (.ref D2) (putF "buffers" (.ref D1) (putF "held" (.ref lh) (putF "count" (.int 0) (putF "sizes" (.ref z) [])))))))) = Hf at *
    have b6f : But p H6 Hf := But.trans b68 b8f
    have b4f : But p H4 Hf := But.trans b46 b6f
    have hlh4 : H4 lh = some (.lst (vals0 n a)) := b34 _ _ hL nlp
    -- who is tracked, who is new
    have l24 : ∀ c, H4 c = none → H2 c = none := But.live (But.trans (Same.but s23) b34) (by rw [hp4]; intro z; cases z)
    have l46 : ∀ c, H6 c = none → H4 c = none := But.live b46 (by rw [hp6]; intro z; cases z)
    have l68 : ∀ c, H8 c = none → H6 c = none := But.live b68 (by rw [hp8]; intro z; cases z)
    have l02 : ∀ c, H2 c = none → H c = none := But.live b02 (by rw [hp2]; intro z; cases z)
    have hz2 := b02 _ _ hz nzp
    have nn : ∀ {X : Hp} {c : Addr} {o : HO}, X c = some o → X c ≠ none := fun e z => by rw [e] at z; cases z
    have tB6 : ∀ q, q < n → H6 (b q) ≠ none ∧ H6 (br q) ≠ none := fun q hq => by
      obtain ⟨⟨d, e1⟩, e2⟩ := O1.rows q hq
      exact ⟨nn (b56 _ _ e1 fun e => by have := O1.newB q hq; rw [e, hp4] at this; cases this), nn (b56 _ _ e2 fun e => by have := (O1.newR q hq).1; rw [e, hp4] at this; cases this)⟩
    have tX8 : ∀ q, q < n → H8 (x q) ≠ none ∧ H8 (xr q) ≠ none := fun q hq => by
      obtain ⟨⟨d, e1⟩, e2⟩ := O2.rows q hq
      exact ⟨nn (b78 _ _ e1 fun e => by have := O2.newB q hq; rw [e, hp6] at this; cases this), nn (b78 _ _ e2 fun e => by have := (O2.newR q hq).1; rw [e, hp6] at this; cases this)⟩
    have nD1p : D1 ≠ p := fun e => by rw [e, hp4] at hD1; cases hD1
    have nD2p : D2 ≠ p := fun e => by rw [e, hp6] at hD2; cases hD2
    have tD1 : H6 D1 ≠ none := nn (b56 _ _ O1.lst nD1p)
    have tD2 : H8 D2 ≠ none := nn (b78 _ _ O2.lst nD2p)
    have t0 : ∀ r : Ro, r.ok n → stage r ≤ 0 → H2 ((AD.mk p z lh D1 D2 lr b br x xr).at_ r) ≠ none := fun r h l => by
      cases r with
      | m => exact nn hp2
      | sz => exact nn hz2
      | _ => simp [stage] at l
    have t1 : ∀ r : Ro, r.ok n → stage r ≤ 1 → H4 ((AD.mk p z lh D1 D2 lr b br x xr).at_ r) ≠ none := fun r h l => by
      cases r with
      | m => exact fun e => t0 .m trivial (by decide) (l24 _ e)
      | sz => exact fun e => t0 .sz trivial (by decide) (l24 _ e)
      | hl => exact nn hlh4
      | _ => simp [stage] at l
    have t2 : ∀ r : Ro, r.ok n → stage r ≤ 2 → H6 ((AD.mk p z lh D1 D2 lr b br x xr).at_ r) ≠ none := fun r h l => by
      cases r with
      | m => exact fun e => t1 .m trivial (by decide) (l46 _ e)
      | sz => exact fun e => t1 .sz trivial (by decide) (l46 _ e)
      | hl => exact fun e => t1 .hl trivial (by decide) (l46 _ e)
      | bl => exact tD1
      | b q => exact (tB6 q h).1
      | br q => exact (tB6 q h).2
      | _ => simp [stage] at l
    have t3 : ∀ r : Ro, r.ok n → stage r ≤ 3 → H8 ((AD.mk p z lh D1 D2 lr b br x xr).at_ r) ≠ none := fun r h l => by
      cases r with
      | m => exact fun e => t2 .m trivial (by decide) (l68 _ e)
      | sz => exact fun e => t2 .sz trivial (by decide) (l68 _ e)
      | hl => exact fun e => t2 .hl trivial (by decide) (l68 _ e)
      | bl => exact fun e => t2 .bl trivial (by decide) (l68 _ e)
      | b q => exact fun e => t2 (.b q) h (show 2 ≤ 2 by decide) (l68 _ e)
      | br q => exact fun e => t2 (.br q) h (show 2 ≤ 2 by decide) (l68 _ e)
      | xl => exact tD2
      | x q => exact (tX8 q h).1
      | xr q => exact (tX8 q h).2
      | rl => simp [stage] at l
    have n3' : ∀ r : Ro, r.ok n → 4 ≤ stage r → H8 ((AD.mk p z lh D1 D2 lr b br x xr).at_ r) = none := fun r h l => by
      cases r with
      | rl => exact hlr
      | _ => simp [stage] at l
    have n2 : ∀ r : Ro, r.ok n → 3 ≤ stage r → H6 ((AD.mk p z lh D1 D2 lr b br x xr).at_ r) = none := fun r h l => by
      cases r with
      | rl => exact l68 _ (n3' .rl trivial (by decide))
      | xl => exact hD2
      | x q => exact O2.newB q h
      | xr q => exact (O2.newR q h).1
      | _ => simp [stage] at l
    have n1' : ∀ r : Ro, r.ok n → 2 ≤ stage r → H4 ((AD.mk p z lh D1 D2 lr b br x xr).at_ r) = none := fun r h l => by
      cases r with
      | rl => exact l46 _ (n2 .rl trivial (by decide))
      | xl => exact l46 _ (n2 .xl trivial (by decide))
      | x q => exact l46 _ (n2 (.x q) h (show 3 ≤ 3 by decide))
      | xr q => exact l46 _ (n2 (.xr q) h (show 3 ≤ 3 by decide))
      | bl => exact hD1
      | b q => exact O1.newB q h
      | br q => exact (O1.newR q h).1
      | _ => simp [stage] at l
    have n0 : ∀ r : Ro, r.ok n → 1 ≤ stage r → H2 ((AD.mk p z lh D1 D2 lr b br x xr).at_ r) = none := fun r h l => by
      cases r with
      | m => simp [stage] at l
      | sz => simp [stage] at l
      | hl => exact hlh
      | bl => exact l24 _ (n1' .bl trivial (by decide))
      | b q => exact l24 _ (n1' (.b q) h (show 2 ≤ 2 by decide))
      | br q => exact l24 _ (n1' (.br q) h (show 2 ≤ 2 by decide))
      | xl => exact l24 _ (n1' .xl trivial (by decide))
      | x q => exact l24 _ (n1' (.x q) h (show 2 ≤ 3 by decide))
      | xr q => exact l24 _ (n1' (.xr q) h (show 2 ≤ 3 by decide))
      | rl => exact l24 _ (n1' .rl trivial (by decide))
    have fB : ∀ q, q < n → RowsAt (C_Buffer K) Hf (b q) (br q) [] := fun q hq => by
      obtain ⟨⟨d, e1⟩, e2⟩ := O1.rows q hq
      have m1 : b q ≠ p := fun e => by have := O1.newB q hq; rw [e, hp4] at this; cases this
      have m2 : br q ≠ p := fun e => by have := (O1.newR q hq).1; rw [e, hp4] at this; cases this
      exact ⟨⟨d, b6f _ _ (b56 _ _ e1 m1) m1⟩, b6f _ _ (b56 _ _ e2 m2) m2⟩
    have fX : ∀ q, q < n → RowsAt (C_Box K) Hf (x q) (xr q) [] := fun q hq => by
      obtain ⟨⟨d, e1⟩, e2⟩ := O2.rows q hq
      have m1 : x q ≠ p := fun e => by have := O2.newB q hq; rw [e, hp6] at this; cases this
      have m2 : xr q ≠ p := fun e => by have := (O2.newR q hq).1; rw [e, hp6] at this; cases this
      exact ⟨⟨d, b8f _ _ (b78 _ _ e1 m1) m1⟩, b8f _ _ (b78 _ _ e2 m2) m2⟩
    have hszf : Hf z = some (.ins (C_Sizes K) dz (fSz n)) := b4f _ _ (b04 _ _ hz nzp) nzp
    have hhlf : Hf lh = some (.lst (vals0 n a)) := b4f _ _ hlh4 nlp
    have hblf : Hf D1 = some (.lst ((List.range n).map fun q => .ref (b q))) := b6f _ _ (b56 _ _ O1.lst nD1p) nD1p
    have hxlf : Hf D2 = some (.lst ((List.range n).map fun q => .ref (x q))) := b8f _ _ (b78 _ _ O2.lst nD2p) nD2p
    refine k Hf ⟨p, z, lh, D1, D2, lr, b, br, x, xr⟩ ⟨h1, h3, fun r r' h h' e => ?_, ⟨dx, hpf⟩, ⟨dz, hszf⟩, ⟨_, hhlf, vals0_len n a, fun q hq => vals0_ack a hq, fun s g hs hg => ⟨_, vals0_wd a hs hg, rfl⟩⟩, hblf, hxlf, ⟨[], hlf, Nat.le_refl _⟩, fun q hq => ⟨[], fB q hq, Nat.zero_le _, .nil⟩, fun q hq => ⟨[], fX q hq, Nat.zero_le _, .nil⟩⟩ rfl rfl (But.trans b04 b4f) ?_
    · have hs := stage_inj t0 t1 t2 t3 n0 n1' n2 n3' h h' e
      cases r <;> cases r' <;> first | rfl | (simp [stage] at hs; done) | skip
      · exact absurd e.symm nzp
      · exact absurd e nzp
      · rename_i q
        obtain ⟨⟨d, e1⟩, e2⟩ := O1.rows q h'
        exact absurd e (ne_of O1.lst e1 (by intro z; cases z))
      · rename_i q
        exact absurd e.symm (O1.newR q h').2
      · rename_i q
        exact absurd e.symm (by
          obtain ⟨⟨d, e1⟩, e2⟩ := O2.rows q h'
          exact ne_of e1 O2.lst (by intro z; cases z))
      · rename_i q
        exact absurd e.symm (O2.newR q h').2
      · rename_i q
        obtain ⟨⟨d, e1⟩, e2⟩ := O1.rows q h
        exact absurd e (ne_of e1 O1.lst (by intro z; cases z))
      · rename_i q q'
        rw [O1.injB q q' h h' e]
      · rename_i q q'
        obtain ⟨⟨d, e1⟩, e2⟩ := O1.rows q h
        obtain ⟨⟨d', e1'⟩, e2'⟩ := O1.rows q' h'
        exact absurd e (ne_of e1 e2' (by intro z; cases z))
      · rename_i q
        exact absurd e (O1.newR q h).2
      · rename_i q q'
        obtain ⟨⟨d, e1⟩, e2⟩ := O1.rows q h
        obtain ⟨⟨d', e1'⟩, e2'⟩ := O1.rows q' h'
        exact absurd e (ne_of e2 e1' (by intro z; cases z))
      · rename_i q q'
        rw [O1.injR q q' h h' e]
      · rename_i q
        obtain ⟨⟨d, e1⟩, e2⟩ := O2.rows q h
        exact absurd e (ne_of e1 O2.lst (by intro z; cases z))
      · rename_i q q'
        rw [O2.injB q q' h h' e]
      · rename_i q q'
        obtain ⟨⟨d, e1⟩, e2⟩ := O2.rows q h
        obtain ⟨⟨d', e1'⟩, e2'⟩ := O2.rows q' h'
        exact absurd e (ne_of e1 e2' (by intro z; cases z))
      · rename_i q
        exact absurd e (O2.newR q h).2
      · rename_i q q'
        obtain ⟨⟨d, e1⟩, e2⟩ := O2.rows q h
        obtain ⟨⟨d', e1'⟩, e2'⟩ := O2.rows q' h'
        exact absurd e (ne_of e2 e1' (by intro z; cases z))
      · rename_i q q'
        rw [O2.injR q q' h h' e]
    · rintro c ⟨r, h, rfl⟩
      by_cases hs : stage r = 0
      · cases r with
        | m => exact .inl rfl
        | sz => exact .inr (.inl rfl)
        | _ => simp [stage] at hs
      · exact .inr (.inr (l02 _ (n0 r h (by omega))))
end
end K8

-- ===== part K8K =====
set_option Elab.async false
set_option linter.all false
set_option maxRecDepth 100000
set_option maxHeartbeats 4000000
namespace K8
open PySem PySem.Spec PyProof.Rows L2
/-! the kernel, the invalidation -/
abbrev fKer (m z o1 o2 o3 o4 : Addr) (T : Int) : List (Str × V) := [("memory", .ref m), ("sizes", .ref z), ("spaces", .ref o1), ("frames", .ref o2), ("blocks", .ref o3), ("hand", .ref o4), ("ticket", .int T)]
def KerAt (K : PySem.W.Frag) (H : Hp) (k m z : Addr) (T : Int) : Prop := ∃ dx o1 o2 o3 o4, H k = some (.ins (C_Kernel K) dx (fKer m z o1 o2 o3 o4 T))
abbrev fInv (z s w : Addr) (last letter : V) : List (Str × V) := [("sizes", .ref z), ("sends", .ref s), ("waits", .ref w), ("last", last), ("letter", letter)]
def tl (n a : Nat) : List V := ((List.range n).drop a).map fun q => V.int (q : Nat)
structure IvAt (K : PySem.W.Frag) (H : Hp) (iv s w z : Addr) (n a b : Nat) (last letter : V) : Prop where
  ob : ∃ dx, H iv = some (.ins (C_Invalidating K) dx (fInv z s w last letter))
  sl : H s = some (.lst (tl n a))
  wl : H w = some (.lst (tl n b))
theorem tl_n (n : Nat) : tl n n = [] := by
  unfold tl
  rw [List.drop_of_length_le (by rw [List.length_range]; exact Nat.le_refl _)]
  rfl
theorem tl_lt {n a : Nat} (h : a < n) : tl n a = V.int (a : Nat) :: tl n (a + 1) := by
  unfold tl
  have e : (List.range n).drop a = a :: (List.range n).drop (a + 1) := by
    rw [List.drop_eq_getElem_cons (by rw [List.length_range]; exact h)]
    congr 1
    exact List.getElem_range _
  rw [e]
  rfl
theorem tl_drop (n a : Nat) : (tl n a).drop 1 = tl n (a + 1) := by
  unfold tl
  rw [← List.map_drop, List.drop_drop]
theorem tl_len (n a : Nat) : (tl n a).length = n - a := by
  unfold tl
  rw [List.length_map, List.length_drop, List.length_range]
def spKernelInit (K : PySem.W.Frag) : Sp := fun vs H Q _ => ∃ k dx A S, vs = [.ref k, .ref (AD.m A)] ∧ H k = some (.ins (C_Kernel K) dx []) ∧ MemR K H A S ∧ ∀ H', KerAt K H' k A.m A.sz 0 → But k H H' → Q .non H'
def spNext (K : PySem.W.Frag) : Sp := fun vs H Q _ => ∃ k m z T, vs = [.ref k] ∧ KerAt K H k m z T ∧ ∀ H', KerAt K H' k m z (T + 1) → But k H H' → Q (.int (T + 1)) H'
def spInvInit (K : PySem.W.Frag) : Sp := fun vs H Q _ => ∃ iv dx k A S T c ps qs, vs = [.ref iv, .ref k, .int 0, .ref c] ∧ H iv = some (.ins (C_Invalidating K) dx []) ∧ KerAt K H k (AD.m A) A.sz T ∧ ¬ Fp A S.n k ∧ ¬ Fp A S.n iv ∧ ¬ Fp A S.n c ∧ MemR K H A S ∧
  H c = some (.lst ps) ∧ Paired (PrV H) ps qs ∧ qs.length ≤ 100 ∧
  (qs = [] → ∀ H' s w, H s = none → H w = none → IvAt K H' iv s w A.sz S.n S.n S.n .non .non → But iv H H' → Q .non H') ∧
  (qs ≠ [] → ∀ H' A' s w lv, MemR K H' A' { S with buf := fset S.buf 0 (drop qs (S.buf 0)) } → A'.m = A.m → A'.sz = A.sz → KerAt K H' k A.m A.sz (T + 1) → IvAt K H' iv s w A.sz S.n 1 1 .non lv → LeV H' lv ⟨T + 1, qs⟩ →
    ¬ Fp A' S.n s → ¬ Fp A' S.n w → (∀ b o, H b = some o → b ≠ iv → b ≠ k → ¬ Fp A S.n b → H' b = some o) → (∀ b, Fp A' S.n b → Fp A S.n b ∨ H b = none) → (∀ b, H' b = none → H b = none) → Q .non H')
section
variable {P : Program} {w : World} {K : PySem.W.Frag} {mg : Str → Option Value} {base : Heap}
theorem sc_Kernel_next_ticket : FnScope ["self"] ["self"] (defScope s_Kernel_next_ticket) := ⟨rfl, rfl, rfl, by decide +kernel, rfl, by decide +kernel, by decide +kernel⟩
theorem ok_Kernel_next_ticket (T : T w K mg) : Ok P w K mg base 1 at_Kernel_next_ticket ["self"] (spNext K) := by
  obtain ⟨fd, F⟩ := T.d_Kernel_next_ticket
  refine ⟨fd, F.ok sc_Kernel_next_ticket (fun vs H Q E h => ?_) (fun cdv_ A_ outer_ s_ H vs Q E hr h => ?_), F.bindsN fun _ _ _ _ _ _ us hl => match us, hl with | [_], _ => rfl, F.kp⟩
  · obtain ⟨k, m, z, T_, rfl, _⟩ := h
    rfl
  · obtain ⟨k, m, z, T_, rfl, ⟨dx, o1, o2, o3, o4, hk⟩, kk⟩ := h
    refine ⟨_, PSs.nox (pss_cons (ps_fldaug (pv 0) pe_int in_add) (pss_one (ps_ret (pe_fld (pv 0) rfl)))), ?_⟩
    refine ⟨_, rfl, k, _, dx, _, _, rfl, hk, T.c_Kernel, T.n_Kernel_ticket, rfl, _, _, rfl, rfl, dx, _, hk, (by show 7 < 1000; decide), ?_⟩
    refine ⟨_, rfl, k, _, dx, _, _, rfl, upd_same, T.c_Kernel, T.n_Kernel_ticket, rfl, ?_⟩
    exact kk _ ⟨dx, o1, o2, o3, o4, upd_same⟩ But.up
theorem sc_Kernel_init : FnScope ["self", "memory"] ["self", "memory"] (defScope s_Kernel_init) := ⟨rfl, rfl, rfl, by decide +kernel, rfl, by decide +kernel, by decide +kernel⟩
theorem ok_Kernel_init (T : T w K mg) : Ok P w K mg base 3 at_Kernel_init ["self", "memory"] (spKernelInit K) := by
  obtain ⟨_, G_Hand_init, B_Hand_init, P_Hand_init⟩ := ok_Hand_init (P := P) (base := base) T
  obtain ⟨_, G_Owners_init, B_Owners_init, P_Owners_init⟩ := ok_Owners_init (P := P) (base := base) T
  obtain ⟨fd, F⟩ := T.d_Kernel_init
  refine ⟨fd, F.ok sc_Kernel_init (fun vs H Q E h => ?_) (fun cdv_ A_ outer_ s_ H vs Q E hr h => ?_), F.bindsN fun _ _ _ _ _ _ us hl => match us, hl with | [_, _], _ => rfl, F.kp⟩
  · obtain ⟨k, dx, A, S, rfl, _⟩ := h
    rfl
  · obtain ⟨k, dx, A, S, rfl, hk, M, kk⟩ := h
    obtain ⟨dm, hm⟩ := M.om
    obtain ⟨dz, hz⟩ := M.osz
    have nmk : A.m ≠ k := ne_of hm hk (by intro q; injection q with _ _ q; cases q)
    have nzk : A.sz ≠ k := ne_of hz hk (by intro q; injection q with _ _ q; cases q)
    refine ⟨_, PSs.nox (pss_cons (ps_fld (pv 0) (pv 1) rfl) (pss_cons (ps_fld (pv 0) (pe_fld (pv 1) rfl) rfl) (pss_cons (ps_fld (pv 0) (pe_disp (pps_cons pe_int (pe_lst pa_nil) pps_nil) (by rfl) (by rfl) (fun z => by cases z) (by decide)) rfl) (pss_cons (ps_fld (pv 0) (pe_make T.k_Owners G_Owners_init (hr.mono (by decide)) (by rfl) T.g_Owners B_Owners_init .nil pass0 (pa_cons (pe_fld (pe_fld (pv 0) rfl) rfl) pa_nil)) rfl) (pss_cons (ps_fld (pv 0) (pe_make T.k_Owners G_Owners_init (hr.mono (by decide)) (by rfl) T.g_Owners B_Owners_init .nil pass0 (pa_cons (pe_fld (pe_fld (pv 0) rfl) rfl) pa_nil)) rfl) (pss_cons (ps_fld (pv 0) (pe_make T.k_Hand G_Hand_init (hr.mono (by decide)) (by rfl) T.g_Hand B_Hand_init .nil pass0 (pa_cons (pe_fld (pe_fld (pv 0) rfl) rfl) pa_nil)) rfl) (pss_one (ps_fld (pv 0) pe_int rfl)))))))), ?_⟩
    refine ⟨_, rfl, _, rfl, k, _, dx, [], rfl, hk, T.c_Kernel, T.n_Kernel_memory, (by show 0 < 1000; decide), ?_⟩
    refine ⟨_, rfl, A.m, _, dm, _, _, rfl, (by rw [upd_ne nmk]; exact hm), T.c_Memory, T.n_Memory_sizes, rfl, _, rfl, k, _, dx, _, rfl, upd_same, T.c_Kernel, T.n_Kernel_sizes, (by show 1 < 1000; decide), ?_⟩
    -- self.spaces = {0: []}
    have b2 : But k H (upd (upd H k (.ins (C_Kernel K) dx (putF "memory" (.ref A.m) []))) k (.ins (C_Kernel K) dx (putF "sizes" (.ref A.sz) (putF "memory" (.ref A.m) [])))) := But.trans But.up But.up
    have hk2 : (upd (upd H k (.ins (C_Kernel K) dx (putF "memory" (.ref A.m) []))) k (.ins (C_Kernel K) dx (putF "sizes" (.ref A.sz) (putF "memory" (.ref A.m) [])))) k = some (.ins (C_Kernel K) dx (putF "sizes" (.ref A.sz) (putF "memory" (.ref A.m) []))) := upd_same
    generalize (upd (upd H k (.ins (C_Kernel K) dx (putF "memory" (.ref A.m) []))) k (.ins (C_Kernel K) dx (putF "sizes" (.ref A.sz) (putF "memory" (.ref A.m) [])))) = H2 at *
    intro d hd
    refine ⟨Nat.zero_le _, fun l hl => ?_⟩
    have ndl : d ≠ l := fun e => by rw [e, upd_same] at hl; cases hl
    refine ⟨by rw [upd_ne ndl]; exact upd_same, [(Sum.inl 0, .ref l)], rfl, (by show 1 ≤ 15; decide), ?_⟩
    have sm3 : Same H2 (upd (upd (upd H2 d (.dK [])) l (.lst [])) d (.dK (mergeK [] [(Sum.inl 0, .ref l)]))) := fun c o e => by
      rw [upd_ne (ne_of_none e hd), upd_ne (ne_of_none (Same.new hd _ _ e) hl), upd_ne (ne_of_none e hd)]
      exact e
    generalize (upd (upd (upd H2 d (.dK [])) l (.lst [])) d (.dK (mergeK [] [(Sum.inl 0, .ref l)]))) = H3 at *
    have hk3 := sm3 _ _ hk2
    refine ⟨_, rfl, k, _, dx, _, rfl, hk3, T.c_Kernel, T.n_Kernel_spaces, (by show 2 < 1000; decide), ?_⟩
    have b4 : But k H (upd H3 k (.ins (C_Kernel K) dx (putF "spaces" (.ref d) (putF "sizes" (.ref A.sz) (putF "memory" (.ref A.m) []))))) := But.trans b2 (But.trans (Same.but sm3) But.up)
    have hk4 : (upd H3 k (.ins (C_Kernel K) dx (putF "spaces" (.ref d) (putF "sizes" (.ref A.sz) (putF "memory" (.ref A.m) []))))) k = some (.ins (C_Kernel K) dx (putF "spaces" (.ref d) (putF "sizes" (.ref A.sz) (putF "memory" (.ref A.m) [])))) := upd_same
    generalize (upd H3 k (.ins (C_Kernel K) dx (putF "spaces" (.ref d) (putF "sizes" (.ref A.sz) (putF "memory" (.ref A.m) []))))) = H4 at *
    -- self.frames = Owners(self.sizes.frames)
    refine ⟨_, rfl, k, _, dx, _, _, rfl, hk4, T.c_Kernel, T.n_Kernel_sizes, rfl, A.sz, _, dz, _, _, rfl, b4 _ _ hz nzk, T.c_Sizes, T.n_Sizes_frames, rfl, ?_⟩
    intro x1 d1 nx1 nd1 ne1
    refine ⟨x1, d1, 4, rfl, upd_same, by omega, by omega, fun H5 _ B5 => ⟨rfl, ?_⟩⟩
    have s5 : Same H4 H5 := Same.made nx1 nd1 B5
    have hk5 := s5 _ _ hk4
    refine ⟨_, rfl, k, _, dx, _, rfl, hk5, T.c_Kernel, T.n_Kernel_frames, (by show 3 < 1000; decide), ?_⟩
    have b6 : But k H (upd H5 k (.ins (C_Kernel K) dx (putF "frames" (.ref x1) (putF "spaces" (.ref d) (putF "sizes" (.ref A.sz) (putF "memory" (.ref A.m) [])))))) := But.trans b4 (But.trans (Same.but s5) But.up)
    have hk6 : (upd H5 k (.ins (C_Kernel K) dx (putF "frames" (.ref x1) (putF "spaces" (.ref d) (putF "sizes" (.ref A.sz) (putF "memory" (.ref A.m) [])))))) k = some (.ins (C_Kernel K) dx (putF "frames" (.ref x1) (putF "spaces" (.ref d) (putF "sizes" (.ref A.sz) (putF "memory" (.ref A.m) []))))) := upd_same
    generalize (upd H5 k (.ins (C_Kernel K) dx (putF "frames" (.ref x1) (putF "spaces" (.ref d) (putF "sizes" (.ref A.sz) (putF "memory" (.ref A.m) [])))))) = H6 at *
    -- self.blocks = Owners(self.sizes.blocks)
    refine ⟨_, rfl, k, _, dx, _, _, rfl, hk6, T.c_Kernel, T.n_Kernel_sizes, rfl, A.sz, _, dz, _, _, rfl, b6 _ _ hz nzk, T.c_Sizes, T.n_Sizes_blocks, rfl, ?_⟩
    intro x2 d2 nx2 nd2 ne2
    refine ⟨x2, d2, 2, rfl, upd_same, by omega, by omega, fun H7 _ B7 => ⟨rfl, ?_⟩⟩
    have s7 : Same H6 H7 := Same.made nx2 nd2 B7
    have hk7 := s7 _ _ hk6
    refine ⟨_, rfl, k, _, dx, _, rfl, hk7, T.c_Kernel, T.n_Kernel_blocks, (by show 4 < 1000; decide), ?_⟩
    have b8 : But k H (upd H7 k (.ins (C_Kernel K) dx (putF "blocks" (.ref x2) (putF "frames" (.ref x1) (putF "spaces" (.ref d) (putF "sizes" (.ref A.sz) (putF "memory" (.ref A.m) []))))))) := But.trans b6 (But.trans (Same.but s7) But.up)
    have hk8 : (upd H7 k (.ins (C_Kernel K) dx (putF "blocks" (.ref x2) (putF "frames" (.ref x1) (putF "spaces" (.ref d) (putF "sizes" (.ref A.sz) (putF "memory" (.ref A.m) []))))))) k = some (.ins (C_Kernel K) dx (putF "blocks" (.ref x2) (putF "frames" (.ref x1) (putF "spaces" (.ref d) (putF "sizes" (.ref A.sz) (putF "memory" (.ref A.m) [])))))) := upd_same
    generalize (upd H7 k (.ins (C_Kernel K) dx (putF "blocks" (.ref x2) (putF "frames" (.ref x1) (putF "spaces" (.ref d) (putF "sizes" (.ref A.sz) (putF "memory" (.ref A.m) []))))))) = H8 at *
    -- self.hand = Hand(self.sizes.frames); self.ticket = 0
    refine ⟨_, rfl, k, _, dx, _, _, rfl, hk8, T.c_Kernel, T.n_Kernel_sizes, rfl, A.sz, _, dz, _, _, rfl, b8 _ _ hz nzk, T.c_Sizes, T.n_Sizes_frames, rfl, ?_⟩
    intro x3 d3 nx3 nd3 ne3
    refine ⟨x3, d3, 4, rfl, upd_same, by omega, by omega, fun H9 _ B9 => ⟨rfl, ?_⟩⟩
    have s9 : Same H8 H9 := Same.made nx3 nd3 B9
    have hk9 := s9 _ _ hk8
    refine ⟨_, rfl, k, _, dx, _, rfl, hk9, T.c_Kernel, T.n_Kernel_hand, (by show 5 < 1000; decide), ?_⟩
    refine ⟨_, rfl, k, _, dx, _, rfl, upd_same, T.c_Kernel, T.n_Kernel_ticket, (by show 6 < 1000; decide), ?_⟩
    exact kk _ ⟨dx, d, x1, x2, x3, upd_same⟩ (But.trans b8 (But.trans (Same.but s9) (But.trans But.up But.up)))
end
end K8

-- ===== part K8L =====
set_option Elab.async false
set_option linter.all false
set_option maxRecDepth 100000
set_option maxHeartbeats 4000000
namespace K8
open PySem PySem.Spec PyProof.Rows L2
/-! the making of an invalidation -/
section
variable {K : PySem.W.Frag} {H H' : Hp} {A : AD} {S : MS}
/-- the memory where its own parts and the tuples stay -/
theorem MemR.frame (M : MemR K H A S) (s : ∀ r : Ro, r.ok S.n → ∀ o, H (A.at_ r) = some o → H' (A.at_ r) = some o) (t : Tups H H') : MemR K H' A S := by
  refine ⟨M.n1, M.n3, M.inj, let ⟨dx, e⟩ := M.om; ⟨dx, s .m trivial _ e⟩, let ⟨dx, e⟩ := M.osz; ⟨dx, s .sz trivial _ e⟩, let ⟨vs, e, h⟩ := M.ohl; ⟨vs, s .hl trivial _ e, h.keep t⟩, s .bl trivial _ M.obl, s .xl trivial _ M.oxl, let ⟨vs, e, h⟩ := M.orl; ⟨vs, s .rl trivial _ e, h⟩, fun p hp => ?_, fun p hp => ?_⟩
  · obtain ⟨us, ⟨⟨dx, e1⟩, e2⟩, l, h⟩ := M.ob p hp
    exact ⟨us, ⟨⟨dx, s (.b p) hp _ e1⟩, s (.br p) hp _ e2⟩, l, Paired.keep (fun _ _ => EnV.keep t) h⟩
  · obtain ⟨us, ⟨⟨dx, e1⟩, e2⟩, l, h⟩ := M.ox p hp
    exact ⟨us, ⟨⟨dx, s (.x p) hp _ e1⟩, s (.xr p) hp _ e2⟩, l, Paired.keep (fun _ _ => LeV.keep t) h⟩
/-- an object outside changes -/
theorem MemR.but (M : MemR K H A S) {p : Addr} (hp : ¬ Fp A S.n p) (B : But p H H') (ht : ∀ xs, H p ≠ some (.tup xs)) : MemR K H' A S :=
  M.frame (fun r h o e => B _ _ e fun z => hp ⟨r, h, z⟩) (B.tups ht)
end
theorem tl_snoc (i : Nat) (h : 1 ≤ i) : tl (i + 1) 1 = tl i 1 ++ [V.int (i : Nat)] := by
  unfold tl
  rw [List.range_succ, List.drop_append_of_le_length (by rw [List.length_range]; exact h), List.map_append]
  rfl
theorem tl_11 : tl 1 1 = tl 0 1 := rfl
section
variable {P : Program} {w : World} {K : PySem.W.Frag} {mg : Str → Option Value} {base : Heap}
theorem sc_Invalidating_init : FnScope ["self", "kernel", "processor", "pairs", "other"] ["self", "kernel", "processor", "pairs"] (defScope s_Invalidating_init) := ⟨rfl, rfl, rfl, by decide +kernel, rfl, by decide +kernel, by decide +kernel⟩
theorem ok_Invalidating_init (T : T w K mg) : Ok P w K mg base 3 at_Invalidating_init ["self", "kernel", "processor", "pairs"] (spInvInit K) := by
  obtain ⟨_, G_Kernel_next_ticket, B_Kernel_next_ticket, P_Kernel_next_ticket⟩ := ok_Kernel_next_ticket (P := P) (base := base) T
  obtain ⟨_, G_Buffer_drop, B_Buffer_drop, P_Buffer_drop⟩ := ok_Buffer_drop (P := P) (base := base) T
  obtain ⟨fd, F⟩ := T.d_Invalidating_init
  refine ⟨fd, F.ok sc_Invalidating_init (fun vs H Q E h => ?_) (fun cdv_ A_ outer_ s_ H vs Q E hr h => ?_), F.bindsN fun _ _ _ _ _ _ us hl => match us, hl with | [_, _, _, _], _ => rfl, F.kp⟩
  · obtain ⟨iv, dx, k, A, S, T_, c, ps, qs, rfl, _⟩ := h
    rfl
  · obtain ⟨iv, dx, k, A, S, T_, c, ps, qs, rfl, hiv, ⟨dk, o1, o2, o3, o4, hk⟩, fk, fiv, fc, M, hc, hps, hql, k0, k1⟩ := h
    have nkv : k ≠ iv := ne_of hk hiv (by intro q; injection q with _ _ q; cases q)
    have ncv : c ≠ iv := ne_of hc hiv (by intro q; cases q)
    refine ⟨_, PSs.nox (pss_cons (ps_fld (pv 0) (pe_fld (pv 1) rfl) rfl) (pss_cons (ps_fld (pv 0) (pe_lst pa_nil) rfl) (pss_cons (ps_fld (pv 0) (pe_lst pa_nil) rfl) (pss_cons (ps_fld (pv 0) pe_non rfl) (pss_cons (ps_fld (pv 0) pe_non rfl) (pss_one (ps_if (pt_truth (pv 3) (by intro _; rfl)) (pss_cons (ps_expr (pe_meth (pe_ix ix_list (pe_fld (pe_fld (pv 1) rfl) rfl) (pv 2) (fun _ _ => rfl)) T.c_Buffer T.m_Buffer_drop G_Buffer_drop (hr.mono (by decide)) B_Buffer_drop .nil pass0 (pa_cons (pe_callTy call_list_of (by rfl) T.f_list b_list (pa_cons (pv 3) pa_nil)) pa_nil))) (pss_cons (ps_fld (pv 0) (pe_tup (pa_cons (pe_meth0 (pv 1) T.c_Kernel T.m_Kernel_next_ticket G_Kernel_next_ticket (hr.mono (by decide)) B_Kernel_next_ticket .nil pass0 ) (pa_cons (pe_callTy call_tuple_of (by rfl) T.f_tuple b_tuple (pa_cons (pv 3) pa_nil)) pa_nil))) rfl) (pss_cons (ps_fld (pv 0) (pe_lc (own := [("other", 4)]) (g := gName 4)  (te := tVar 4) rfl sc_Invalidating_init.nd (pi_range1 (by rfl) T.f_range (pa_cons (pe_fld (pe_fld (pv 0) rfl) rfl) pa_nil)) (blkOk_by (own := [("other", 4)]) (N := ["self", "kernel", "processor", "pairs", "other"]) (sc := defScope s_Invalidating_init) (by decide +kernel)) (fun _ _ _ _ _ => pg_name (i := 4) sc_Invalidating_init.nd rfl (Or.inl rfl)) (fun _ _ _ _ _ => pts_one (pt_cmpR op_ne (pv 4) (pv 2) (nomark _))) (fun _ _ _ _ _ => pv 4)) rfl) (pss_one (ps_fld (pv 0) (pe_callTy call_list_of (by rfl) T.f_list b_list (pa_cons (pe_fld (pv 0) rfl) pa_nil)) rfl))))) pss_nil))))))), ?_⟩
    -- the fields
    refine ⟨_, rfl, k, _, dk, _, _, rfl, hk, T.c_Kernel, T.n_Kernel_sizes, rfl, _, rfl, iv, _, dx, [], rfl, hiv, T.c_Invalidating, T.n_Invalidating_sizes, (by show 0 < 1000; decide), ?_⟩
    have b1 : But iv H (upd H iv (.ins (C_Invalidating K) dx (putF "sizes" (.ref A.sz) []))) := But.up
    have hv1 : (upd H iv (.ins (C_Invalidating K) dx (putF "sizes" (.ref A.sz) []))) iv = some (.ins (C_Invalidating K) dx (putF "sizes" (.ref A.sz) [])) := upd_same
    generalize (upd H iv (.ins (C_Invalidating K) dx (putF "sizes" (.ref A.sz) []))) = H1 at *
    refine ⟨Nat.zero_le _, fun s hs => ?_⟩
    have nvs : iv ≠ s := ne_of_none hv1 hs
    have hs0 : H s = none := But.live b1 (by rw [hv1]; intro z; cases z) _ hs
    refine ⟨_, rfl, iv, _, dx, _, rfl, (by rw [upd_ne nvs]; exact hv1), T.c_Invalidating, T.n_Invalidating_sends, (by show 1 < 1000; decide), ?_⟩
    have b2 : But iv H (upd (upd H1 s (.lst [])) iv (.ins (C_Invalidating K) dx (putF "sends" (.ref s) (putF "sizes" (.ref A.sz) [])))) := But.trans b1 (But.trans (Same.but (Same.new hs)) But.up)
    have hv2 : (upd (upd H1 s (.lst [])) iv (.ins (C_Invalidating K) dx (putF "sends" (.ref s) (putF "sizes" (.ref A.sz) [])))) iv = some (.ins (C_Invalidating K) dx (putF "sends" (.ref s) (putF "sizes" (.ref A.sz) []))) := upd_same
    have hs2 : (upd (upd H1 s (.lst [])) iv (.ins (C_Invalidating K) dx (putF "sends" (.ref s) (putF "sizes" (.ref A.sz) [])))) s = some (.lst []) := by rw [upd_ne nvs.symm]; exact upd_same
    generalize (upd (upd H1 s (.lst [])) iv (.ins (C_Invalidating K) dx (putF "sends" (.ref s) (putF "sizes" (.ref A.sz) [])))) = H2 at *
    refine ⟨Nat.zero_le _, fun w0 hw => ?_⟩
    have nvw : iv ≠ w0 := ne_of_none hv2 hw
    have nsw : s ≠ w0 := ne_of_none hs2 hw
    have hw0 : H w0 = none := But.live b2 (by rw [hv2]; intro z; cases z) _ hw
    refine ⟨_, rfl, iv, _, dx, _, rfl, (by rw [upd_ne nvw]; exact hv2), T.c_Invalidating, T.n_Invalidating_waits, (by show 2 < 1000; decide), ?_⟩
    refine ⟨_, rfl, iv, _, dx, _, rfl, upd_same, T.c_Invalidating, T.n_Invalidating_last, (by show 3 < 1000; decide), ?_⟩
    refine ⟨_, rfl, iv, _, dx, _, rfl, upd_same, T.c_Invalidating, T.n_Invalidating_letter, (by show 4 < 1000; decide), ?_⟩
    have b3 : But iv H (upd (upd (upd (upd H2 w0 (.lst [])) iv (.ins (C_Invalidating K) dx (putF "waits" (.ref w0) (putF "sends" (.ref s) (putF "sizes" (.ref A.sz) []))))) iv (.ins (C_Invalidating K) dx (putF "last" .non (putF "waits" (.ref w0) (putF "sends" (.ref s) (putF "sizes" (.ref A.sz) [])))))) iv (.ins (C_Invalidating K) dx (putF "letter" .non (putF "last" .non (putF "waits" (.ref w0) (putF "sends" (.ref s) (putF "sizes" (.ref A.sz) []))))))) :=
      But.trans b2 (But.trans (Same.but (Same.new hw)) (But.trans But.up (But.trans But.up But.up)))
    have hv3 : (upd (upd (upd (upd H2 w0 (.lst [])) iv (.ins (C_Invalidating K) dx (putF "waits" (.ref w0) (putF "sends" (.ref s) (putF "sizes" (.ref A.sz) []))))) iv (.ins (C_Invalidating K) dx (putF "last" .non (putF "waits" (.ref w0) (putF "sends" (.ref s) (putF "sizes" (.ref A.sz) [])))))) iv (.ins (C_Invalidating K) dx (putF "letter" .non (putF "last" .non (putF "waits" (.ref w0) (putF "sends" (.ref s) (putF "sizes" (.ref A.sz) []))))))) iv = some (.ins (C_Invalidating K) dx (fInv A.sz s w0 .non .non)) := upd_same
    have hs3 : (upd (upd (upd (upd H2 w0 (.lst [])) iv (.ins (C_Invalidating K) dx (putF "waits" (.ref w0) (putF "sends" (.ref s) (putF "sizes" (.ref A.sz) []))))) iv (.ins (C_Invalidating K) dx (putF "last" .non (putF "waits" (.ref w0) (putF "sends" (.ref s) (putF "sizes" (.ref A.sz) [])))))) iv (.ins (C_Invalidating K) dx (putF "letter" .non (putF "last" .non (putF "waits" (.ref w0) (putF "sends" (.ref s) (putF "sizes" (.ref A.sz) []))))))) s = some (.lst []) := by
      rw [upd_ne nvs.symm, upd_ne nvs.symm, upd_ne nvs.symm, upd_ne nsw]; exact hs2
    have hw3 : (upd (upd (upd (upd H2 w0 (.lst [])) iv (.ins (C_Invalidating K) dx (putF "waits" (.ref w0) (putF "sends" (.ref s) (putF "sizes" (.ref A.sz) []))))) iv (.ins (C_Invalidating K) dx (putF "last" .non (putF "waits" (.ref w0) (putF "sends" (.ref s) (putF "sizes" (.ref A.sz) [])))))) iv (.ins (C_Invalidating K) dx (putF "letter" .non (putF "last" .non (putF "waits" (.ref w0) (putF "sends" (.ref s) (putF "sizes" (.ref A.sz) []))))))) w0 = some (.lst []) := by
      rw [upd_ne nvw.symm, upd_ne nvw.symm, upd_ne nvw.symm]; exact upd_same
    generalize (upd (upd (upd (upd H2 w0 (.lst [])) iv (.ins (C_Invalidating K) dx (putF "waits" (.ref w0) (putF "sends" (.ref s) (putF "sizes" (.ref A.sz) []))))) iv (.ins (C_Invalidating K) dx (putF "last" .non (putF "waits" (.ref w0) (putF "sends" (.ref s) (putF "sizes" (.ref A.sz) [])))))) iv (.ins (C_Invalidating K) dx (putF "letter" .non (putF "last" .non (putF "waits" (.ref w0) (putF "sends" (.ref s) (putF "sizes" (.ref A.sz) []))))))) = H3 at *
    -- if pairs
    have hc3 := b3 _ _ hc ncv
    have tiv : ∀ xs, H iv ≠ some (.tup xs) := fun xs z => by rw [hiv] at z; cases z
    have t3 : Tups H H3 := b3.tups tiv
    have hlen : ps.length = qs.length := Paired.length hps
    refine ⟨_, rfl, _, .inl ⟨ps, SqL.of hc3, rfl⟩, ?_⟩
    have hps0 := hps
    cases hps with
    | nil => exact k0 rfl H3 s w0 hs0 hw0 ⟨⟨dx, hv3⟩, by rw [tl_n]; exact hs3, by rw [tl_n]; exact hw3⟩ b3
    | cons hpv hpt =>
      rename_i v0 q0 vr qr
      have M3 := M.but fiv b3 tiv
      have hk3 := b3 _ _ hk nkv
      obtain ⟨dm, hm3⟩ := M3.om
      obtain ⟨dz, hz3⟩ := M3.osz
      have h0n : 0 < S.n := M.n1
      have hps3 := Paired.keep (fun _ _ => PrV.keep t3) hps0
      obtain ⟨us, ⟨⟨db, hb⟩, hbr⟩, hul, hE⟩ := M3.ob 0 h0n
      -- kernel.memory.buffers[processor].drop(list(pairs))
      refine ⟨_, rfl, k, _, dk, _, _, rfl, hk3, T.c_Kernel, T.n_Kernel_memory, rfl, A.m, _, dm, _, _, rfl, hm3, T.c_Memory, T.n_Memory_buffers, rfl, _, rfl, A.bl, _, _, _, rfl, rfl, SqL.of M3.obl, at_of (j := 0) rfl (map_get _ h0n), A.b 0, db, _, rfl, hb, rfl, ?_⟩
      refine ⟨_, rfl, c, _, rfl, .inl (SqL.of hc3), fun l hl => ?_⟩
      have sl : Same H3 (upd H3 l (.lst (v0 :: vr))) := Same.new hl
      have M4 := M3.same sl
      refine ⟨A.b 0, A.br 0, us, _, l, _, _, rfl, ⟨⟨db, sl _ _ hb⟩, sl _ _ hbr⟩, Paired.keep (fun _ _ => EnV.keep (Same.tups sl)) hE, by omega, .inl upd_same, Paired.keep (fun _ _ => PrV.keep (Same.tups sl)) hps3, fun r' us' H5 hr' R5 E5 B5 => ?_⟩
      have hl2 : us'.length ≤ 2 := by
        have e1 := Paired.length E5
        have e2 := Paired.length hE
        have e3 := List.length_filter_le (fun e : En => !decide ((e.s, e.g) ∈ (q0 :: qr))) (S.buf 0)
        have e4 : us'.length = ((S.buf 0).filter fun e : En => !decide ((e.s, e.g) ∈ (q0 :: qr))).length := e1
        omega
      obtain ⟨M5, N5⟩ := M4.setBuf h0n hr' R5 B5 hl2 E5
      have N35 : Nx S.n H3 A H5 (A.setBr 0 r') := (Nx.same sl).trans N5
      obtain ⟨hv5, fv5⟩ := N35.out hv3 fiv
      obtain ⟨hk5, fk5⟩ := N35.out hk3 fk
      obtain ⟨hc5, fc5⟩ := N35.out hc3 fc
      -- self.letter = (kernel.next_ticket(), tuple(pairs))
      refine ⟨_, rfl, k, dk, _, rfl, hk5, rfl, k, A.m, A.sz, T_, rfl, ⟨dk, o1, o2, o3, o4, hk5⟩, fun H6 hK6 B6 => ?_⟩
      have tk5 : ∀ xs, H5 k ≠ some (.tup xs) := fun xs z => by rw [hk5] at z; cases z
      have M6 := M5.but fk5 B6 tk5
      have hv6 := B6 _ _ hv5 nkv.symm
      have nck : c ≠ k := ne_of hc5 hk5 (by intro z; cases z)
      have hc6 := B6 _ _ hc5 nck
      have ps6 := Paired.keep (fun _ _ => PrV.keep (Tups.trans (N35.tups M3) (B6.tups tk5))) hps3
      refine ⟨_, rfl, c, _, rfl, .inl ⟨SqL.of hc6, fun t ht => ⟨(by show 2 ≤ sizeLine; decide), fun lt hlt => ?_⟩⟩⟩
      have s7 : Same H6 (upd (upd H6 t (.tup (v0 :: vr))) lt (.tup [.int (T_ + 1), .ref t])) := Same.trans (Same.new ht) (Same.new hlt)
      have ntl : t ≠ lt := fun z => by rw [← z, upd_same] at hlt; cases hlt
      have ht7 : (upd (upd H6 t (.tup (v0 :: vr))) lt (.tup [.int (T_ + 1), .ref t])) t = some (.tup (v0 :: vr)) := by rw [upd_ne ntl]; exact upd_same
      have hl7 : (upd (upd H6 t (.tup (v0 :: vr))) lt (.tup [.int (T_ + 1), .ref t])) lt = some (.tup [.int (T_ + 1), .ref t]) := upd_same
      generalize (upd (upd H6 t (.tup (v0 :: vr))) lt (.tup [.int (T_ + 1), .ref t])) = H7 at *
      have M7 := M6.same s7
      have hv7 := s7 _ _ hv6
      have L7 : LeV H7 (.ref lt) ⟨T_ + 1, q0 :: qr⟩ := ⟨lt, t, _, rfl, hl7, ht7, Paired.keep (fun _ _ => PrV.keep (Same.tups s7)) ps6⟩
      obtain ⟨k1', k2', k3', k4', k5', hK7⟩ : KerAt K H7 k A.m A.sz (T_ + 1) := let ⟨a, b, c, d, e, h⟩ := hK6; ⟨a, b, c, d, e, s7 _ _ h⟩
      refine ⟨_, rfl, iv, _, dx, _, rfl, hv7, T.c_Invalidating, T.n_Invalidating_letter, (by show 5 < 1000; decide), ?_⟩
      -- self.sends = [other for other in range(self.sizes.processors) if other != processor]
      have hv8 : (upd H7 iv (.ins (C_Invalidating K) dx (putF "letter" (.ref lt) (fInv A.sz s w0 .non .non)))) iv = some (.ins (C_Invalidating K) dx (fInv A.sz s w0 .non (.ref lt))) := upd_same
      have B8 : But iv H7 (upd H7 iv (.ins (C_Invalidating K) dx (putF "letter" (.ref lt) (fInv A.sz s w0 .non .non)))) := But.up
      generalize (upd H7 iv (.ins (C_Invalidating K) dx (putF "letter" (.ref lt) (fInv A.sz s w0 .non .non)))) = H8 at *
      have tv7 : ∀ xs, H7 iv ≠ some (.tup xs) := fun xs z => by rw [hv7] at z; cases z
      have M8 := M7.but fv5 B8 tv7
      obtain ⟨dz8, hz8⟩ := M8.osz
      refine ⟨_, rfl, iv, _, dx, _, _, rfl, hv8, T.c_Invalidating, T.n_Invalidating_sizes, rfl, A.sz, _, dz8, _, _, rfl, hz8, T.c_Sizes, T.n_Sizes_processors, rfl, _, rfl, by have := M.n3; show -(2 ^ 62) ≤ ((S.n : Nat) : Int); omega, by have := M.n3; show ((S.n : Nat) : Int) < 2 ^ 62; omega, fun D hD => ?_⟩
      refine lc_range (lo := 0) (n := ((S.n : Nat) : Int).toNat) (fun i H' => Same H8 H' ∧ H' D = some (.lst (tl i 1))) ⟨Same.new hD, upd_same⟩ ?_ ?_
      · rintro i H' hi ⟨sm, hL⟩
        refine ⟨rfl, _, rfl, _, rfl, rfl, _, rfl, ?_⟩
        have up : ∀ xs, Same H8 (upd H' D (.lst xs)) := fun xs b o e => by rw [upd_ne (ne_of_none e hD)]; exact sm _ _ e
        by_cases hi0 : i = 0
        · subst hi0
          have e : (!decide (V.int (0 + ((0 : Nat) : Int)) = V.int 0)) = false := rfl
          rw [e]
          refine ⟨sm, ?_⟩
          rw [tl_11]
          exact hL
        · have e : (!decide (V.int (0 + ((i : Nat) : Int)) = V.int 0)) = true := by
            rw [decide_eq_false (fun z => by injection z with z; omega)]
            rfl
          rw [e]
          refine ⟨_, rfl, tl i 1, hL, small _ (by rw [tl_len]; have := M.n3; omega), up _, ?_⟩
          rw [upd_same, tl_snoc i (by omega), Int.zero_add]
      · rintro H9 ⟨s9, hL9⟩
        rw [show ((S.n : Nat) : Int).toNat = S.n by omega] at hL9
        have hv9 := s9 _ _ hv8
        refine ⟨_, rfl, iv, _, dx, _, rfl, hv9, T.c_Invalidating, T.n_Invalidating_sends, (by show 5 < 1000; decide), ?_⟩
        have nvD : iv ≠ D := ne_of_none hv8 hD
        have hvA : (upd H9 iv (.ins (C_Invalidating K) dx (putF "sends" (.ref D) (fInv A.sz s w0 .non (.ref lt))))) iv = some (.ins (C_Invalidating K) dx (fInv A.sz D w0 .non (.ref lt))) := upd_same
        have hDA : (upd H9 iv (.ins (C_Invalidating K) dx (putF "sends" (.ref D) (fInv A.sz s w0 .non (.ref lt))))) D = some (.lst (tl S.n 1)) := by rw [upd_ne nvD.symm]; exact hL9
        have BA : But iv H9 (upd H9 iv (.ins (C_Invalidating K) dx (putF "sends" (.ref D) (fInv A.sz s w0 .non (.ref lt))))) := But.up
        generalize (upd H9 iv (.ins (C_Invalidating K) dx (putF "sends" (.ref D) (fInv A.sz s w0 .non (.ref lt))))) = HA at *
        -- self.waits = list(self.sends)
        refine ⟨_, rfl, iv, _, dx, _, _, rfl, hvA, T.c_Invalidating, T.n_Invalidating_sends, rfl, D, _, rfl, .inl (SqL.of hDA), fun w1 hw1 => ?_⟩
        have nvw1 : iv ≠ w1 := ne_of_none hvA hw1
        have nDw1 : D ≠ w1 := ne_of_none hDA hw1
        refine ⟨_, rfl, iv, _, dx, _, rfl, (by rw [upd_ne nvw1]; exact hvA), T.c_Invalidating, T.n_Invalidating_waits, (by show 5 < 1000; decide), ?_⟩
        have Bf : But iv H7 (upd (upd HA w1 (.lst (tl S.n 1))) iv (.ins (C_Invalidating K) dx (putF "waits" (.ref w1) (fInv A.sz D w0 .non (.ref lt))))) := But.trans B8 (But.trans (Same.but s9) (But.trans BA (But.trans (Same.but (Same.new hw1)) But.up)))
        have hvf : (upd (upd HA w1 (.lst (tl S.n 1))) iv (.ins (C_Invalidating K) dx (putF "waits" (.ref w1) (fInv A.sz D w0 .non (.ref lt))))) iv = some (.ins (C_Invalidating K) dx (fInv A.sz D w1 .non (.ref lt))) := upd_same
        have hDf : (upd (upd HA w1 (.lst (tl S.n 1))) iv (.ins (C_Invalidating K) dx (putF "waits" (.ref w1) (fInv A.sz D w0 .non (.ref lt))))) D = some (.lst (tl S.n 1)) := by rw [upd_ne nvD.symm, upd_ne nDw1]; exact hDA
        have hwf : (upd (upd HA w1 (.lst (tl S.n 1))) iv (.ins (C_Invalidating K) dx (putF "waits" (.ref w1) (fInv A.sz D w0 .non (.ref lt))))) w1 = some (.lst (tl S.n 1)) := by rw [upd_ne nvw1.symm]; exact upd_same
        generalize (upd (upd HA w1 (.lst (tl S.n 1))) iv (.ins (C_Invalidating K) dx (putF "waits" (.ref w1) (fInv A.sz D w0 .non (.ref lt))))) = Hf at *
        have tf : Tups H7 Hf := Bf.tups tv7
        have Mf := M7.but fv5 Bf tv7
        have nnv : ∀ {X : Hp} {o : HO}, X iv = some o → X iv ≠ none := fun e z => by rw [e] at z; cases z
        have liveA : ∀ b, HA b = none → H8 b = none := fun b z => Same.free s9 (But.live BA (nnv hvA) b z)
        have M9 := M8.same s9
        have tv9 : ∀ xs, H9 iv ≠ some (.tup xs) := fun xs z => by rw [hv9] at z; cases z
        have MA := M9.but fv5 BA tv9
        refine k1 (fun z => by cases z) Hf (A.setBr 0 r') D w1 (.ref lt) Mf rfl rfl ⟨k1', k2', k3', k4', k5', Bf _ _ hK7 nkv⟩ ⟨⟨dx, hvf⟩, hDf, hwf⟩ (LeV.keep tf L7) (M8.new_out hD) (MA.new_out hw1) (fun b o e n1 n2 n3 => ?_) (fun b hb => ?_) fun b z => ?_
        · exact Bf _ _ (s7 _ _ (B6 _ _ (N35.keep _ _ (b3 _ _ e n1) n3) n2)) n1
        · rcases N35.own b hb with z | z
          · exact .inl z
          · exact .inr (But.live b3 (nnv hv3) b z)
        · exact But.live b3 (nnv hv3) b (N35.live b (But.live B6 (by obtain ⟨_, _, _, _, _, e⟩ := hK6; rw [e]; intro z; cases z) b (Same.free s7 (But.live Bf (nnv hvf) b z))))
end
end K8

-- ===== part K8M =====
set_option Elab.async false
set_option linter.all false
set_option maxRecDepth 100000
set_option maxHeartbeats 4000000
namespace K8
open PySem PySem.Spec PyProof.Rows L2
/-! the machine's requests, the stack -/
def spRequest (K : PySem.W.Frag) : Sp := fun vs H Q _ => ∃ iv s w z n a b last lv, vs = [.ref iv] ∧ IvAt K H iv s w z n a b last lv ∧ (∃ dz fs, H z = some (.ins (C_Sizes K) dz (fSz fs))) ∧
  (a < n → ∀ t H', H t = none → H' t = some (.tup [.str "send", .int (a : Nat), lv]) → Same H H' → Q (.ref t) H') ∧
  (¬ a < n → b < n → ∀ t H', H t = none → H' t = some (.tup [.str "read", .int (1 + (b : Nat))]) → Same H H' → Q (.ref t) H') ∧
  (¬ a < n → ¬ b < n → ∀ t H', H t = none → H' t = some (.tup [.str "end", last]) → Same H H' → Q (.ref t) H')
def spAccept (K : PySem.W.Frag) : Sp := fun vs H Q _ => ∃ iv s w z n a b last lv t v num, vs = [.ref iv, .ref t] ∧ IvAt K H iv s w z n a b last lv ∧ H t = some (.tup [v, num]) ∧ n ≤ 100 ∧
  (a < n → ∀ s' H', IvAt K H' iv s' w z n (a + 1) b num lv → H s' = none → But iv H H' → Q .non H') ∧
  (¬ a < n → ∃ i T l, v = .int i ∧ LeV H lv l ∧ l.tk = T ∧ (i = T → ∀ w' H', IvAt K H' iv s w' z n a (b + 1) num lv → H w' = none → But iv H H' → Q .non H') ∧
    (i ≠ T → ∀ H', IvAt K H' iv s w z n a b num lv → But iv H H' → Q .non H'))
abbrev fStk (ml : Addr) (r : V) : List (Str × V) := [("machines", .ref ml), ("result", r)]
def StAt (K : PySem.W.Frag) (H : Hp) (st ml : Addr) (ms : List V) (r : V) : Prop := (∃ dx, H st = some (.ins (C_Stack K) dx (fStk ml r))) ∧ H ml = some (.lst ms)
def spStackInit (K : PySem.W.Frag) : Sp := fun vs H Q _ => ∃ st dx v, vs = [.ref st, v] ∧ H st = some (.ins (C_Stack K) dx []) ∧ ∀ ml H', H ml = none → StAt K H' st ml [v] .non → But st H H' → Q .non H'
def spPassOn (K : PySem.W.Frag) : Sp := fun vs H Q _ => ∃ st ml r v, vs = [.ref st, v] ∧ StAt K H st ml [] r ∧ ∀ H', StAt K H' st ml [] v → But st H H' → Q .non H'
def spEnded (K : PySem.W.Frag) : Sp := fun vs H Q _ => ∃ st ml ms r, vs = [.ref st] ∧ StAt K H st ml ms r ∧ Q (.bl (decide (ms.length = 0))) H
def spValue (K : PySem.W.Frag) : Sp := fun vs H Q _ => ∃ st ml ms r, vs = [.ref st] ∧ StAt K H st ml ms r ∧ Q r H
/-- settling: a machine that is through is taken away -/
def spSettle (K : PySem.W.Frag) : Sp := fun vs H Q _ => ∃ st ml, vs = [.ref st] ∧ ((∃ r, StAt K H st ml [] r ∧ Q .non H) ∨
  ∃ iv s w z n a b last lv, StAt K H st ml [.ref iv] .non ∧ IvAt K H iv s w z n a b last lv ∧ (∃ dz fs, H z = some (.ins (C_Sizes K) dz (fSz fs))) ∧
    (a < n ∨ b < n → ∀ H', Same H H' → Q .non H') ∧
    (¬ a < n → ¬ b < n → ∀ H', StAt K H' st ml [] last → (∀ c o, H c = some o → c ≠ st → c ≠ ml → H' c = some o) → (∀ c, H' c = none → H c = none) → Q .non H'))
section
variable {P : Program} {w : World} {K : PySem.W.Frag} {mg : Str → Option Value} {base : Heap}
theorem sc_Invalidating_request : FnScope ["self"] ["self"] (defScope s_Invalidating_request) := ⟨rfl, rfl, rfl, by decide +kernel, rfl, by decide +kernel, by decide +kernel⟩
theorem ok_Invalidating_request (T : T w K mg) : Ok P w K mg base 2 at_Invalidating_request ["self"] (spRequest K) := by
  obtain ⟨_, G_Sizes_acknowledge, B_Sizes_acknowledge, P_Sizes_acknowledge⟩ := ok_Sizes_acknowledge (P := P) (base := base) T
  obtain ⟨fd, F⟩ := T.d_Invalidating_request
  refine ⟨fd, F.ok sc_Invalidating_request (fun vs H Q E h => ?_) (fun cdv_ A_ outer_ s_ H vs Q E hr h => ?_), F.bindsN fun _ _ _ _ _ _ us hl => match us, hl with | [_], _ => rfl, F.kp⟩
  · obtain ⟨iv, s, w_, z, n, a, b, last, lv, rfl, _⟩ := h
    rfl
  · obtain ⟨iv, s, w_, z, n, a, b, last, lv, rfl, ⟨⟨dx, hv⟩, hs, hw⟩, ⟨dz, fs, hz⟩, k1, k2, k3⟩ := h
    refine ⟨_, PSs.nox (pss_cons (ps_if (pt_truth (pe_fld (pv 0) rfl) (by intro _; rfl)) (pss_one (ps_ret (pe_tup (pa_cons pe_str (pa_cons (pe_ix ix_list (pe_fld (pv 0) rfl) pe_int (fun _ _ => rfl)) (pa_cons (pe_fld (pv 0) rfl) pa_nil)))))) pss_nil) (pss_cons (ps_if (pt_truth (pe_fld (pv 0) rfl) (by intro _; rfl)) (pss_one (ps_ret (pe_tup (pa_cons pe_str (pa_cons (pe_meth (pe_fld (pv 0) rfl) T.c_Sizes T.m_Sizes_acknowledge G_Sizes_acknowledge (hr.mono (by decide)) B_Sizes_acknowledge .nil pass0 (pa_cons (pe_ix ix_list (pe_fld (pv 0) rfl) pe_int (fun _ _ => rfl)) pa_nil)) pa_nil))))) pss_nil) (pss_one (ps_ret (pe_tup (pa_cons pe_str (pa_cons (pe_fld (pv 0) rfl) pa_nil))))))), ?_⟩
    refine ⟨_, rfl, iv, _, dx, _, _, rfl, hv, T.c_Invalidating, T.n_Invalidating_sends, rfl, _, .inl ⟨_, SqL.of hs, rfl⟩, ?_⟩
    by_cases ha : a < n
    · have e := tl_lt ha
      rw [e] at hs
      rw [e]
      refine ⟨_, rfl, iv, _, dx, _, _, rfl, hv, T.c_Invalidating, T.n_Invalidating_sends, rfl, s, _, _, _, rfl, rfl, SqL.of hs, at_of (j := 0) rfl rfl, _, rfl, iv, _, dx, _, _, rfl, hv, T.c_Invalidating, T.n_Invalidating_letter, rfl, (by show 3 ≤ sizeLine; decide), fun t ht => ?_⟩
      exact k1 ha t _ ht upd_same (Same.new ht)
    · have e : tl n a = [] := by
        apply List.eq_nil_of_length_eq_zero
        rw [tl_len]
        omega
      rw [e]
      refine ⟨_, rfl, iv, _, dx, _, _, rfl, hv, T.c_Invalidating, T.n_Invalidating_waits, rfl, _, .inl ⟨_, SqL.of hw, rfl⟩, ?_⟩
      by_cases hb : b < n
      · have e := tl_lt hb
        rw [e] at hw
        rw [e]
        refine ⟨_, rfl, iv, _, dx, _, _, rfl, hv, T.c_Invalidating, T.n_Invalidating_sizes, rfl, z, dz, _, rfl, hz, rfl, _, rfl, iv, _, dx, _, _, rfl, hv, T.c_Invalidating, T.n_Invalidating_waits, rfl, w_, _, _, _, rfl, rfl, SqL.of hw, at_of (j := 0) rfl rfl, z, _, rfl, (by show 2 ≤ sizeLine; decide), fun t ht => ?_⟩
        exact k2 ha hb t _ ht upd_same (Same.new ht)
      · have e : tl n b = [] := by
          apply List.eq_nil_of_length_eq_zero
          rw [tl_len]
          omega
        rw [e]
        refine ⟨_, rfl, iv, _, dx, _, _, rfl, hv, T.c_Invalidating, T.n_Invalidating_last, rfl, (by show 2 ≤ sizeLine; decide), fun t ht => ?_⟩
        exact k3 ha hb t _ ht upd_same (Same.new ht)
theorem sc_Invalidating_accept : FnScope ["self", "result"] ["self", "result"] (defScope s_Invalidating_accept) := ⟨rfl, rfl, rfl, by decide +kernel, rfl, by decide +kernel, by decide +kernel⟩
theorem ok_Invalidating_accept (T : T w K mg) : Ok P w K mg base 1 at_Invalidating_accept ["self", "result"] (spAccept K) := by
  obtain ⟨fd, F⟩ := T.d_Invalidating_accept
  refine ⟨fd, F.ok sc_Invalidating_accept (fun vs H Q E h => ?_) (fun cdv_ A_ outer_ s_ H vs Q E hr h => ?_), F.bindsN fun _ _ _ _ _ _ us hl => match us, hl with | [_, _], _ => rfl, F.kp⟩
  · obtain ⟨iv, s, w_, z, n, a, b, last, lv, t, v, num, rfl, _⟩ := h
    rfl
  · obtain ⟨iv, s, w_, z, n, a, b, last, lv, t, v, num, rfl, ⟨⟨dx, hv⟩, hs, hw⟩, ht, hn, k1, k2⟩ := h
    refine ⟨_, PSs.nox (pss_cons (ps_fld (pv 0) (pe_ix ix_tup (pv 1) pe_int (fun _ _ => rfl)) rfl) (pss_one (ps_if (pt_truth (pe_fld (pv 0) rfl) (by intro _; rfl)) (pss_one (ps_fld (pv 0) (pe_slice sl_list (pe_fld (pv 0) rfl) (po_some pe_int) po_none) rfl)) (pss_one (ps_if (pt_cmpR op_eq (pe_ix ix_tup (pv 1) pe_int (fun _ _ => rfl)) (pe_ix ix_tup (pe_fld (pv 0) rfl) pe_int (fun _ _ => rfl)) (nomark _)) (pss_one (ps_fld (pv 0) (pe_slice sl_list (pe_fld (pv 0) rfl) (po_some pe_int) po_none) rfl)) pss_nil))))), ?_⟩
    refine ⟨_, rfl, t, _, _, _, rfl, rfl, SqT.of ht, at_of (j := 1) rfl rfl, _, rfl, iv, _, dx, _, rfl, hv, T.c_Invalidating, T.n_Invalidating_last, (by show 5 < 1000; decide), ?_⟩
    have B1 : But iv H (upd H iv (.ins (C_Invalidating K) dx (putF "last" num (fInv z s w_ last lv)))) := But.up
    have hv1 : (upd H iv (.ins (C_Invalidating K) dx (putF "last" num (fInv z s w_ last lv)))) iv = some (.ins (C_Invalidating K) dx (fInv z s w_ num lv)) := upd_same
    generalize (upd H iv (.ins (C_Invalidating K) dx (putF "last" num (fInv z s w_ last lv)))) = H1 at *
    have nsv : s ≠ iv := ne_of hs hv (by intro z; cases z)
    have nwv : w_ ≠ iv := ne_of hw hv (by intro z; cases z)
    have ntv : t ≠ iv := ne_of ht hv (by intro z; cases z)
    have hs1 := B1 _ _ hs nsv
    have hw1 := B1 _ _ hw nwv
    have ht1 := B1 _ _ ht ntv
    have live1 : ∀ c, H1 c = none → H c = none := But.live B1 (by rw [hv1]; intro z; cases z)
    refine ⟨_, rfl, iv, _, dx, _, _, rfl, hv1, T.c_Invalidating, T.n_Invalidating_sends, rfl, _, .inl ⟨_, SqL.of hs1, rfl⟩, ?_⟩
    by_cases ha : a < n
    · have e := tl_lt ha
      have e' := tl_drop n a
      have hs2 := hs1
      rw [e] at hs2
      rw [e]
      refine ⟨_, rfl, iv, _, dx, _, _, rfl, hv1, T.c_Invalidating, T.n_Invalidating_sends, rfl, _, rfl, s, _, rfl, SqL.of hs1, fun q hq => ?_⟩
      rw [cutV_1, e']
      have nvq : iv ≠ q := ne_of_none hv1 hq
      have nwq : w_ ≠ q := ne_of_none hw1 hq
      refine ⟨_, rfl, iv, _, dx, _, rfl, (by rw [upd_ne nvq]; exact hv1), T.c_Invalidating, T.n_Invalidating_sends, (by show 5 < 1000; decide), ?_⟩
      exact k1 ha q _ ⟨⟨dx, upd_same⟩, by rw [upd_ne nvq.symm]; exact upd_same, by rw [upd_ne nwv, upd_ne nwq]; exact hw1⟩ (live1 _ hq) (But.trans B1 (But.trans (Same.but (Same.new hq)) But.up))
    · have e : tl n a = [] := by
        apply List.eq_nil_of_length_eq_zero
        rw [tl_len]
        omega
      rw [e]
      obtain ⟨i, T_, l, rfl, ⟨la, lt, lps, rfl, hla, hlt, hlp⟩, rfl, k3, k4⟩ := k2 ha
      have nlv : la ≠ iv := ne_of hla hv (by intro z; cases z)
      have hla1 := B1 _ _ hla nlv
      refine ⟨_, rfl, t, _, _, _, rfl, rfl, SqT.of ht1, at_of (j := 0) rfl rfl, _, rfl, iv, _, dx, _, _, rfl, hv1, T.c_Invalidating, T.n_Invalidating_letter, rfl, la, _, _, _, rfl, rfl, SqT.of hla1, at_of (j := 0) rfl rfl, rfl, _, rfl, ?_⟩
      by_cases hi : i = l.tk
      · rw [decide_eq_true (congrArg V.int hi)]
        refine ⟨_, rfl, iv, _, dx, _, _, rfl, hv1, T.c_Invalidating, T.n_Invalidating_waits, rfl, _, rfl, w_, _, rfl, SqL.of hw1, fun q hq => ?_⟩
        rw [cutV_1, tl_drop]
        have nvq : iv ≠ q := ne_of_none hv1 hq
        have nsq : s ≠ q := ne_of_none hs1 hq
        refine ⟨_, rfl, iv, _, dx, _, rfl, (by rw [upd_ne nvq]; exact hv1), T.c_Invalidating, T.n_Invalidating_waits, (by show 5 < 1000; decide), ?_⟩
        exact k3 hi q _ ⟨⟨dx, upd_same⟩, by rw [upd_ne nsv, upd_ne nsq]; exact hs1, by rw [upd_ne nvq.symm]; exact upd_same⟩ (live1 _ hq) (But.trans B1 (But.trans (Same.but (Same.new hq)) But.up))
      · rw [decide_eq_false (fun z => hi (V.int.inj z))]
        exact k4 hi _ ⟨⟨dx, hv1⟩, hs1, hw1⟩ B1
theorem sc_Stack_init : FnScope ["self", "machine"] ["self", "machine"] (defScope s_Stack_init) := ⟨rfl, rfl, rfl, by decide +kernel, rfl, by decide +kernel, by decide +kernel⟩
theorem ok_Stack_init (T : T w K mg) : Ok P w K mg base 1 at_Stack_init ["self", "machine"] (spStackInit K) := by
  obtain ⟨fd, F⟩ := T.d_Stack_init
  refine ⟨fd, F.ok sc_Stack_init (fun vs H Q E h => ?_) (fun cdv_ A_ outer_ s_ H vs Q E hr h => ?_), F.bindsN fun _ _ _ _ _ _ us hl => match us, hl with | [_, _], _ => rfl, F.kp⟩
  · obtain ⟨st, dx, v, rfl, _⟩ := h
    rfl
  · obtain ⟨st, dx, v, rfl, hst, k⟩ := h
    refine ⟨_, PSs.nox (pss_cons (ps_fld (pv 0) (pe_lst (pa_cons (pv 1) pa_nil)) rfl) (pss_one (ps_fld (pv 0) pe_non rfl))), ?_⟩
    refine ⟨_, rfl, (by show 1 ≤ sizeLine; decide), fun l hl => ?_⟩
    have nsl : st ≠ l := ne_of_none hst hl
    refine ⟨_, rfl, st, _, dx, _, rfl, (by rw [upd_ne nsl]; exact hst), T.c_Stack, T.n_Stack_machines, (by show 0 < 1000; decide), ?_⟩
    refine ⟨_, rfl, st, _, dx, _, rfl, upd_same, T.c_Stack, T.n_Stack_result, (by show 1 < 1000; decide), ?_⟩
    exact k l _ hl ⟨⟨dx, upd_same⟩, by rw [upd_ne nsl.symm, upd_ne nsl.symm]; exact upd_same⟩ (But.trans (Same.but (Same.new hl)) (But.trans But.up But.up))
theorem sc_Stack_pass_on : FnScope ["self", "value"] ["self", "value"] (defScope s_Stack_pass_on) := ⟨rfl, rfl, rfl, by decide +kernel, rfl, by decide +kernel, by decide +kernel⟩
theorem ok_Stack_pass_on (T : T w K mg) : Ok P w K mg base 1 at_Stack_pass_on ["self", "value"] (spPassOn K) := by
  obtain ⟨fd, F⟩ := T.d_Stack_pass_on
  refine ⟨fd, F.ok sc_Stack_pass_on (fun vs H Q E h => ?_) (fun cdv_ A_ outer_ s_ H vs Q E hr h => ?_), F.bindsN fun _ _ _ _ _ _ us hl => match us, hl with | [_, _], _ => rfl, F.kp⟩
  · obtain ⟨st, ml, r, v, rfl, _⟩ := h
    rfl
  · obtain ⟨st, ml, r, v, rfl, ⟨⟨dx, hst⟩, hml⟩, k⟩ := h
    refine ⟨_, PSs.nox (pss_one (ps_if (pt_truth (pe_fld (pv 0) rfl) (by intro _; rfl)) (pss_one (ps_never)) (pss_one (ps_fld (pv 0) (pv 1) rfl)))), ?_⟩
    have nms : ml ≠ st := ne_of hml hst (by intro z; cases z)
    refine ⟨_, rfl, st, _, dx, _, _, rfl, hst, T.c_Stack, T.n_Stack_machines, rfl, _, .inl ⟨_, SqL.of hml, rfl⟩, ?_⟩
    refine ⟨_, rfl, _, rfl, st, _, dx, _, rfl, hst, T.c_Stack, T.n_Stack_result, (by show 2 < 1000; decide), ?_⟩
    exact k _ ⟨⟨dx, upd_same⟩, by rw [upd_ne nms]; exact hml⟩ But.up
theorem sc_Stack_ended : FnScope ["self"] ["self"] (defScope s_Stack_ended) := ⟨rfl, rfl, rfl, by decide +kernel, rfl, by decide +kernel, by decide +kernel⟩
theorem ok_Stack_ended (T : T w K mg) : Ok P w K mg base 1 at_Stack_ended ["self"] (spEnded K) := by
  obtain ⟨fd, F⟩ := T.d_Stack_ended
  refine ⟨fd, F.ok sc_Stack_ended (fun vs H Q E h => ?_) (fun cdv_ A_ outer_ s_ H vs Q E hr h => ?_), F.bindsN fun _ _ _ _ _ _ us hl => match us, hl with | [_], _ => rfl, F.kp⟩
  · obtain ⟨st, ml, ms, r, rfl, _⟩ := h
    rfl
  · obtain ⟨st, ml, ms, r, rfl, ⟨⟨dx, hst⟩, hml⟩, k⟩ := h
    refine ⟨_, PSs.nox (pss_one (ps_ret (pe_cmpR op_eq (pe_callB call_len_seq (by rfl) T.f_len b_len (pa_cons (pe_fld (pv 0) rfl) pa_nil)) pe_int (nomark _)))), ?_⟩
    refine ⟨_, rfl, st, _, dx, _, _, rfl, hst, T.c_Stack, T.n_Stack_machines, rfl, ml, _, rfl, .inl (SqL.of hml), rfl, ?_⟩
    have e : decide (V.int (ms.length : Nat) = V.int 0) = decide (ms.length = 0) := by
      by_cases z : ms.length = 0
      · rw [z]
        rfl
      · rw [decide_eq_false z, decide_eq_false (fun q => z (by injection q with q; omega))]
    show Q (.bl (decide (V.int (ms.length : Nat) = V.int 0))) H
    rw [e]
    exact k
theorem sc_Stack_value : FnScope ["self"] ["self"] (defScope s_Stack_value) := ⟨rfl, rfl, rfl, by decide +kernel, rfl, by decide +kernel, by decide +kernel⟩
theorem ok_Stack_value (T : T w K mg) : Ok P w K mg base 1 at_Stack_value ["self"] (spValue K) := by
  obtain ⟨fd, F⟩ := T.d_Stack_value
  refine ⟨fd, F.ok sc_Stack_value (fun vs H Q E h => ?_) (fun cdv_ A_ outer_ s_ H vs Q E hr h => ?_), F.bindsN fun _ _ _ _ _ _ us hl => match us, hl with | [_], _ => rfl, F.kp⟩
  · obtain ⟨st, ml, ms, r, rfl, _⟩ := h
    rfl
  · obtain ⟨st, ml, ms, r, rfl, ⟨⟨dx, hst⟩, hml⟩, k⟩ := h
    refine ⟨_, PSs.nox (pss_one (ps_ret (pe_fld (pv 0) rfl))), ?_⟩
    exact ⟨_, rfl, st, _, dx, _, _, rfl, hst, T.c_Stack, T.n_Stack_result, rfl, k⟩
end
end K8

-- ===== part K8N =====
set_option Elab.async false
set_option linter.all false
set_option maxRecDepth 100000
set_option maxHeartbeats 4000000
namespace K8
open PySem PySem.Spec PyProof.Rows L2
/-! settling and stepping -/
/-- a change of the memory and of the objects in X -/
structure NxX (X : Addr → Prop) (n : Nat) (H : Hp) (A : AD) (H' : Hp) (A' : AD) : Prop where
  keep : ∀ b o, H b = some o → ¬ X b → ¬ Fp A n b → H' b = some o
  own : ∀ b, Fp A' n b → Fp A n b ∨ H b = none
  live : ∀ b, H' b = none → H b = none
  m : A'.m = A.m
  sz : A'.sz = A.sz
theorem NxX.trans {X : Addr → Prop} {n : Nat} {H H1 H2 : Hp} {A A1 A2 : AD} (a : NxX X n H A H1 A1) (b : NxX X n H1 A1 H2 A2) : NxX X n H A H2 A2 := by
  refine ⟨fun c o e x h => b.keep c o (a.keep c o e x h) x fun q => ?_, fun c h => ?_, fun c h => a.live c (b.live c h), b.m.trans a.m, b.sz.trans a.sz⟩
  · rcases a.own c q with z | z
    · exact h z
    · rw [e] at z; cases z
  · rcases b.own c h with z | z
    · exact a.own c z
    · exact .inr (a.live c z)
theorem Nx.tox {X : Addr → Prop} {n : Nat} {H H1 : Hp} {A A1 : AD} (a : Nx n H A H1 A1) : NxX X n H A H1 A1 := ⟨fun b o e _ h => a.keep b o e h, a.own, a.live, a.m, a.sz⟩
theorem NxX.same {X : Addr → Prop} {n : Nat} {H H1 : Hp} {A : AD} (s : Same H H1) : NxX X n H A H1 A := ⟨fun b o e _ _ => s b o e, fun _ h => .inl h, fun _ h => Same.free s h, rfl, rfl⟩
theorem But.x {X : Addr → Prop} {n : Nat} {H H1 : Hp} {A : AD} {p : Addr} (b : But p H H1) (hp : H1 p ≠ none) (hx : X p) : NxX X n H A H1 A := ⟨fun c o e x _ => b c o e fun z => x (by rw [z]; exact hx), fun _ h => .inl h, b.live hp, rfl, rfl⟩
theorem NxX.mono {X Y : Addr → Prop} {n : Nat} {H H1 : Hp} {A A1 : AD} (a : NxX X n H A H1 A1) (h : ∀ b, X b → Y b) : NxX Y n H A H1 A1 := ⟨fun b o e y f => a.keep b o e (fun x => y (h b x)) f, a.own, a.live, a.m, a.sz⟩
theorem NxX.out {X : Addr → Prop} {n : Nat} {H H1 : Hp} {A A1 : AD} (a : NxX X n H A H1 A1) {b : Addr} {o : HO} (e : H b = some o) (x : ¬ X b) (f : ¬ Fp A n b) : H1 b = some o ∧ ¬ Fp A1 n b := ⟨a.keep b o e x f, fun q => by
  rcases a.own b q with z | z
  · exact f z
  · rw [e] at z; cases z⟩
structure Mach (K : PySem.W.Frag) (H : Hp) (A : AD) (n : Nat) (st ml iv s w : Addr) (a b : Nat) (last lv : V) : Prop where
  stk : StAt K H st ml [.ref iv] .non
  inv : IvAt K H iv s w A.sz n a b last lv
  o1 : ¬ Fp A n st
  o2 : ¬ Fp A n ml
  o3 : ¬ Fp A n iv
  o4 : ¬ Fp A n s
  o5 : ¬ Fp A n w
/-- behind a step -/
def After (K : PySem.W.Frag) (H : Hp) (A : AD) (n : Nat) (st ml iv s w : Addr) (a b : Nat) (last lv : V) : Prop :=
  (a < n ∨ b < n → Mach K H A n st ml iv s w a b last lv) ∧ (¬ a < n → ¬ b < n → StAt K H st ml [] last)
def X3 (st ml iv : Addr) : Addr → Prop := fun c => c = st ∨ c = ml ∨ c = iv
def spStep (K : PySem.W.Frag) : Sp := fun vs H Q _ => ∃ st ml iv s w A S a b last l lv, vs = [.ref st, .ref (AD.m A), .int 0] ∧ MemR K H A S ∧ Mach K H A S.n st ml iv s w a b last lv ∧ S.cnt ≤ 50000 ∧ (a < S.n ∨ b < S.n → LeV H lv l ∧ l.ok) ∧ (a < S.n → S.box a = []) ∧
  (¬ a < S.n → ¬ b < S.n → ∀ H', StAt K H' st ml [] last → MemR K H' A S → NxX (X3 st ml iv) S.n H A H' A → Q (.bl false) H') ∧
  (a < S.n → ∀ H' A' S' s', Eff S 0 (.send a l) S' → MemR K H' A' S' → NxX (X3 st ml iv) S.n H A H' A' → After K H' A' S.n st ml iv s' w (a + 1) b (.int (S'.cnt : Nat)) lv → Q (.bl true) H') ∧
  (¬ a < S.n → b < S.n → ∀ H' A' S' w' b', Eff S 0 (.read b) S' → (S.ack b = l.tk → b' = b + 1) → (S.ack b ≠ l.tk → b' = b) → MemR K H' A' S' → NxX (X3 st ml iv) S.n H A H' A' → After K H' A' S.n st ml iv s w' a b' (.int (S'.cnt : Nat)) lv → Q (.bl true) H')
section
variable {P : Program} {w : World} {K : PySem.W.Frag} {mg : Str → Option Value} {base : Heap}
theorem sc_Stack_settle : FnScope ["self", "request"] ["self"] (defScope s_Stack_settle) := ⟨rfl, rfl, rfl, by decide +kernel, rfl, by decide +kernel, by decide +kernel⟩
theorem ok_Stack_settle (T : T w K mg) : Ok P w K mg base 3 at_Stack_settle ["self"] (spSettle K) := by
  obtain ⟨_, G_Stack_pass_on, B_Stack_pass_on, P_Stack_pass_on⟩ := ok_Stack_pass_on (P := P) (base := base) T
  obtain ⟨_, G_Invalidating_request, B_Invalidating_request, P_Invalidating_request⟩ := ok_Invalidating_request (P := P) (base := base) T
  obtain ⟨fd, F⟩ := T.d_Stack_settle
  refine ⟨fd, F.ok sc_Stack_settle (fun vs H Q E h => ?_) (fun cdv_ A_ outer_ s_ H vs Q E hr h => ?_), F.bindsN fun _ _ _ _ _ _ us hl => match us, hl with | [_], _ => rfl, F.kp⟩
  · obtain ⟨st, ml, rfl, _⟩ := h
    rfl
  · obtain ⟨st, ml, rfl, h⟩ := h
    refine ⟨_, PSs.nox (pss_one (ps_while PassesOwn.never (pt_truth (pe_fld (pv 0) rfl) (by intro _; rfl)) (pss_cons (ps_set (i := 1) sc_Stack_settle.nd rfl (Or.inl rfl) (pe_meth0 (pe_ix ix_list (pe_fld (pv 0) rfl) (pe_un un_neg pe_int) (fun _ _ => rfl)) T.c_Invalidating T.m_Invalidating_request G_Invalidating_request (hr.mono (by decide)) B_Invalidating_request .nil pass0 )) (pss_one (ps_if (pt_cmpR op_eq (pe_ix ix_tup (pv 1) pe_int (fun _ _ => rfl)) pe_str (nomark _)) (pss_one (ps_never)) (pss_one (ps_if (pt_cmpR op_eq (pe_ix ix_tup (pv 1) pe_int (fun _ _ => rfl)) pe_str (nomark _)) (pss_cons (ps_expr (pe_bm0 PySem.F.plainAttrs_list PySem.F.slot_list_pop PySem.F.type_list_pop mt_pop (pe_fld (pv 0) rfl))) (pss_one (ps_expr (pe_meth (pv 0) T.c_Stack T.m_Stack_pass_on G_Stack_pass_on (hr.mono (by decide)) B_Stack_pass_on .nil pass0 (pa_cons (pe_ix ix_tup (pv 1) pe_int (fun _ _ => rfl)) pa_nil))))) (pss_one (ps_retN))))))))), ?_⟩
    rcases h with ⟨r, ⟨⟨dx, hst⟩, hml⟩, k⟩ | ⟨iv, s, w_, z, n, a, b, last, lv, ⟨⟨dx, hst⟩, hml⟩, I, hz, k1, k2⟩
    · refine ⟨fun m σ' H' => σ' = L2.start ["self", "request"] [.ref st] ∧ H' = H, ⟨0, rfl, rfl⟩, ?_⟩
      rintro m σ' H' ⟨rfl, rfl⟩
      refine ⟨_, rfl, st, _, dx, _, _, rfl, hst, T.c_Stack, T.n_Stack_machines, rfl, _, .inl ⟨_, SqL.of hml, rfl⟩, ?_⟩
      exact k
    · refine ⟨fun m σ' H' => (m = 1 ∧ σ' = L2.start ["self", "request"] [.ref st] ∧ H' = H) ∨ (m = 0 ∧ (∃ v, σ' = [some (.ref st), v]) ∧ StAt K H' st ml [] last ∧ ¬ a < n ∧ ¬ b < n ∧ (∀ c o, H c = some o → c ≠ st → c ≠ ml → H' c = some o) ∧ (∀ c, H' c = none → H c = none)), ⟨1, .inl ⟨rfl, rfl, rfl⟩⟩, ?_⟩
      rintro m σ' H' (⟨rfl, rfl, rfl⟩ | ⟨rfl, ⟨v, rfl⟩, ⟨⟨d', hst'⟩, hml'⟩, ha, hb, kp, lv'⟩)
      · refine ⟨_, rfl, st, _, dx, _, _, rfl, hst, T.c_Stack, T.n_Stack_machines, rfl, _, .inl ⟨_, SqL.of hml, rfl⟩, ?_⟩
        refine ⟨fun σ2 H2 => (∃ v, σ2 = [some (.ref st), v]) ∧ StAt K H2 st ml [] last ∧ ¬ a < n ∧ ¬ b < n ∧ (∀ c o, H' c = some o → c ≠ st → c ≠ ml → H2 c = some o) ∧ (∀ c, H2 c = none → H' c = none), fun σ2 H2 h => ⟨0, by omega, .inr ⟨rfl, h⟩⟩, ?_⟩
        obtain ⟨di, hiv⟩ := I.ob
        refine ⟨_, rfl, st, _, dx, _, _, rfl, hst, T.c_Stack, T.n_Stack_machines, rfl, _, rfl, ml, _, _, _, rfl, rfl, SqL.of hml, atI_last [] _, iv, di, _, rfl, hiv, rfl, ?_⟩
        refine ⟨iv, s, w_, z, n, a, b, last, lv, rfl, I, hz, fun ha t H2 ht ht2 sm => ?_, fun ha hb t H2 ht ht2 sm => ?_, fun ha hb t H2 ht ht2 sm => ?_⟩
        · refine ⟨_, rfl, t, _, _, _, rfl, rfl, SqT.of ht2, at_of (j := 0) rfl rfl, rfl, _, rfl, ?_⟩
          refine ⟨_, rfl, t, _, _, _, rfl, rfl, SqT.of ht2, at_of (j := 0) rfl rfl, rfl, _, rfl, ?_⟩
          exact k1 (.inl ha) H2 sm
        · refine ⟨_, rfl, t, _, _, _, rfl, rfl, SqT.of ht2, at_of (j := 0) rfl rfl, rfl, _, rfl, ?_⟩
          refine ⟨_, rfl, t, _, _, _, rfl, rfl, SqT.of ht2, at_of (j := 0) rfl rfl, rfl, _, rfl, ?_⟩
          exact k1 (.inr hb) H2 sm
        · refine ⟨_, rfl, t, _, _, _, rfl, rfl, SqT.of ht2, at_of (j := 0) rfl rfl, rfl, _, rfl, ?_⟩
          refine ⟨_, rfl, t, _, _, _, rfl, rfl, SqT.of ht2, at_of (j := 0) rfl rfl, rfl, _, rfl, ?_⟩
          have hst2 := sm _ _ hst
          have hml2 := sm _ _ hml
          have nms : ml ≠ st := ne_of hml hst (by intro z; cases z)
          have ntm : t ≠ ml := ne_of ht2 hml2 (by intro z; cases z)
          refine ⟨_, rfl, st, _, dx, _, _, rfl, hst2, T.c_Stack, T.n_Stack_machines, rfl, .inl ⟨rfl, _, SqL.of hml2⟩, ml, _, _, rfl, rfl, hml2, rfl, ?_⟩
          have hst3 : (upd H2 ml (.lst ([V.ref iv] : List V).dropLast)) st = some (.ins (C_Stack K) dx (fStk ml .non)) := by rw [upd_ne nms.symm]; exact hst2
          have ht3 : (upd H2 ml (.lst ([V.ref iv] : List V).dropLast)) t = some (.tup [.str "end", last]) := by rw [upd_ne ntm]; exact ht2
          refine ⟨_, rfl, st, dx, _, rfl, hst3, rfl, _, rfl, t, _, _, _, rfl, rfl, SqT.of ht3, at_of (j := 1) rfl rfl, st, ml, .non, last, rfl, ⟨⟨dx, hst3⟩, upd_same⟩, fun H4 S4 B4 => ?_⟩
          refine ⟨⟨_, rfl⟩, S4, ha, hb, fun c o e n1 n2 => B4 _ _ (by rw [upd_ne n2]; exact sm _ _ e) n1, fun c e => ?_⟩
          have l4 := But.live B4 (by obtain ⟨⟨_, z⟩, _⟩ := S4; rw [z]; intro y; cases y) c e
          have ncm : c ≠ ml := fun z => by rw [z, upd_same] at l4; cases l4
          rw [upd_ne ncm] at l4
          exact Same.free sm l4
      · refine ⟨_, rfl, st, _, d', _, _, rfl, hst', T.c_Stack, T.n_Stack_machines, rfl, _, .inl ⟨_, SqL.of hml', rfl⟩, ?_⟩
        exact k2 ha hb H' ⟨⟨d', hst'⟩, hml'⟩ kp lv'
theorem x1 {st ml iv : Addr} : X3 st ml iv st := .inl rfl
theorem x2 {st ml iv : Addr} : X3 st ml iv ml := .inr (.inl rfl)
theorem x3 {st ml iv : Addr} : X3 st ml iv iv := .inr (.inr rfl)
theorem sc_Stack_step : FnScope ["self", "memory", "processor", "top"] ["self", "memory", "processor"] (defScope s_Stack_step) := ⟨rfl, rfl, rfl, by decide +kernel, rfl, by decide +kernel, by decide +kernel⟩
theorem ok_Stack_step (T : T w K mg) : Ok P w K mg base 6 at_Stack_step ["self", "memory", "processor"] (spStep K) := by
  obtain ⟨_, G_Stack_settle, B_Stack_settle, P_Stack_settle⟩ := ok_Stack_settle (P := P) (base := base) T
  obtain ⟨_, G_Invalidating_accept, B_Invalidating_accept, P_Invalidating_accept⟩ := ok_Invalidating_accept (P := P) (base := base) T
  obtain ⟨_, G_Memory_access, B_Memory_access, P_Memory_access⟩ := ok_Memory_access (P := P) (base := base) T
  obtain ⟨_, G_Invalidating_request, B_Invalidating_request, P_Invalidating_request⟩ := ok_Invalidating_request (P := P) (base := base) T
  obtain ⟨fd, F⟩ := T.d_Stack_step
  refine ⟨fd, F.ok sc_Stack_step (fun vs H Q E h => ?_) (fun cdv_ A_ outer_ s_ H vs Q E hr h => ?_), F.bindsN fun _ _ _ _ _ _ us hl => match us, hl with | [_, _, _], _ => rfl, F.kp⟩
  · obtain ⟨st, ml, iv, s, w_, A, S, a, b, last, l, lv, rfl, _⟩ := h
    rfl
  · obtain ⟨st, ml, iv, s, w_, A, S, a, b, last, l, lv, rfl, M, Ma, hcnt, hle, hbx, k0, k1, k2⟩ := h
    obtain ⟨⟨dx, hst⟩, hml⟩ := Ma.stk
    have n1 := M.n1
    have n3 := M.n3
    have nms : ml ≠ st := ne_of hml hst (by intro z; cases z)
    obtain ⟨di, hiv⟩ := Ma.inv.ob
    have nsv : st ≠ iv := ne_of hst hiv (by intro q; injection q with _ _ q; cases q)
    have nmv : ml ≠ iv := ne_of hml hiv (by intro q; cases q)
    -- behind the accept
    have fin : ∀ (H3 H4 : Hp) (A3 : AD) (S3 : MS) (s' w' : Addr) (a' b' : Nat), MemR K H3 A3 S3 → S3.n = S.n → NxX (X3 st ml iv) S.n H A H3 A3 → H3 st = some (.ins (C_Stack K) dx (fStk ml .non)) → H3 ml = some (.lst [.ref iv]) → (∃ d f, H3 iv = some (.ins (C_Invalidating K) d f)) →
        IvAt K H4 iv s' w' A.sz S.n a' b' (.int (S3.cnt : Nat)) lv → But iv H3 H4 → ¬ Fp A3 S.n s' → ¬ Fp A3 S.n w' → ¬ Fp A3 S.n st → ¬ Fp A3 S.n ml → ¬ Fp A3 S.n iv →
        (∀ H5, MemR K H5 A3 S3 → NxX (X3 st ml iv) S.n H A H5 A3 → After K H5 A3 S.n st ml iv s' w' a' b' (.int (S3.cnt : Nat)) lv → Q (.bl true) H5) → spSettle K [.ref st] H4 (fun _ H5 => Q (.bl true) H5) E0 := by
      intro H3 H4 A3 S3 s' w' a' b' M3 en N3 hst3 hml3 hiv3 I4 B4 fs fw fst fml fiv kk
      obtain ⟨d3, f3, hiv3⟩ := hiv3
      have tv : ∀ xs, H3 iv ≠ some (.tup xs) := fun xs z => by rw [hiv3] at z; cases z
      have M4 : MemR K H4 A3 S3 := M3.but (by rw [en]; exact fiv) B4 tv
      obtain ⟨d4, hiv4⟩ := I4.ob
      have N4 : NxX (X3 st ml iv) S.n H A H4 A3 := N3.trans (B4.x (by rw [hiv4]; intro z; cases z) x3)
      have hst4 := B4 _ _ hst3 nsv
      have hml4 := B4 _ _ hml3 nmv
      refine ⟨st, ml, rfl, .inr ⟨iv, s', w', A.sz, S.n, a', b', _, lv, ⟨⟨dx, hst4⟩, hml4⟩, I4, ?_, fun hab H5 s5 => ?_, fun na nb H5 S5 kp5 lv5 => ?_⟩⟩
      · obtain ⟨d, e⟩ := M4.osz
        rw [N3.sz] at e
        exact ⟨d, _, e⟩
      · refine kk H5 (M4.same s5) (N4.trans (NxX.same s5)) ⟨fun _ => ⟨⟨⟨dx, s5 _ _ hst4⟩, s5 _ _ hml4⟩, ⟨I4.ob.imp fun d e => by rw [N3.sz] at *; exact s5 _ _ e, s5 _ _ I4.sl, s5 _ _ I4.wl⟩, fst, fml, fiv, fs, fw⟩, fun na nb => ?_⟩
        rcases hab with z | z
        · exact absurd z na
        · exact absurd z nb
      · have t5 : Tups H4 H5 := fun c xs e => kp5 c _ e (ne_of e hst4 (by intro z; cases z)) (ne_of e hml4 (by intro z; cases z))
        refine kk H5 (M4.frame (fun r h o e => kp5 _ _ e (fun z => fst ⟨r, by rw [← en]; exact h, z⟩) fun z => fml ⟨r, by rw [← en]; exact h, z⟩) t5)
          (N4.trans ⟨fun c o e x _ => kp5 c o e (fun z => x (.inl z)) fun z => x (.inr (.inl z)), fun _ h => .inl h, lv5, rfl, rfl⟩) ⟨fun z => ?_, fun _ _ => S5⟩
        rcases z with z | z
        · exact absurd z na
        · exact absurd z nb
    refine ⟨_, PSs.nox (pss_cons (ps_expr (pe_meth0 (pv 0) T.c_Stack T.m_Stack_settle G_Stack_settle (hr.mono (by decide)) B_Stack_settle .nil pass0 )) (pss_cons (ps_if (pt_not (pt_truth (pe_fld (pv 0) rfl) (by intro _; rfl))) (pss_one (ps_ret pe_bl)) pss_nil) (pss_cons (ps_set (i := 3) sc_Stack_step.nd rfl (Or.inl rfl) (pe_ix ix_list (pe_fld (pv 0) rfl) (pe_un un_neg pe_int) (fun _ _ => rfl))) (pss_cons (ps_expr (pe_meth (pv 3) T.c_Invalidating T.m_Invalidating_accept G_Invalidating_accept (hr.mono (by decide)) B_Invalidating_accept .nil pass0 (pa_cons (pe_meth (pv 1) T.c_Memory T.m_Memory_access G_Memory_access (hr.mono (by decide)) B_Memory_access .nil pass0 (pa_cons (pv 2) (pa_cons (pe_meth0 (pv 3) T.c_Invalidating T.m_Invalidating_request G_Invalidating_request (hr.mono (by decide)) B_Invalidating_request .nil pass0 ) pa_nil))) pa_nil))) (pss_cons (ps_expr (pe_meth0 (pv 0) T.c_Stack T.m_Stack_settle G_Stack_settle (hr.mono (by decide)) B_Stack_settle .nil pass0 )) (pss_one (ps_ret pe_bl))))))), ?_⟩
    refine ⟨_, rfl, st, dx, _, rfl, hst, rfl, st, ml, rfl, .inr ⟨iv, s, w_, A.sz, S.n, a, b, last, lv, Ma.stk, Ma.inv, let ⟨d, e⟩ := M.osz; ⟨d, S.n, e⟩, fun hab H1 sm => ?_, fun ha hb H1 S1 kp lv1 => ?_⟩⟩
    · have hst1 := sm _ _ hst
      have hml1 := sm _ _ hml
      have hiv1 := sm _ _ hiv
      have M1 := M.same sm
      obtain ⟨dm, hm1⟩ := M1.om
      obtain ⟨dz, hz1⟩ := M1.osz
      obtain ⟨hL, hlok⟩ := hle hab
      refine ⟨_, rfl, st, _, dx, _, _, rfl, hst1, T.c_Stack, T.n_Stack_machines, rfl, _, .inl ⟨_, SqL.of hml1, rfl⟩, ?_⟩
      refine ⟨_, rfl, st, _, dx, _, _, rfl, hst1, T.c_Stack, T.n_Stack_machines, rfl, _, rfl, ml, _, _, _, rfl, rfl, SqL.of hml1, atI_last [] _, ?_⟩
      refine ⟨_, rfl, iv, di, _, rfl, hiv1, rfl, _, rfl, A.m, dm, _, rfl, hm1, rfl, _, rfl, _, rfl, iv, di, _, rfl, hiv1, rfl, ?_⟩
      refine ⟨iv, s, w_, A.sz, S.n, a, b, last, lv, rfl, ⟨⟨di, hiv1⟩, sm _ _ Ma.inv.sl, sm _ _ Ma.inv.wl⟩, ⟨dz, S.n, hz1⟩, fun ha t H2 ht ht2 s2 => ?_, fun na hb t H2 ht ht2 s2 => ?_, fun na nb t H2 ht ht2 s2 => ?_⟩
      · have s02 := Same.trans sm s2
        have N2 : NxX (X3 st ml iv) S.n H A H2 A := NxX.same s02
        refine ⟨A, S, 0, t, .send a l, rfl, M.same s02, by omega, ⟨lv, ht2, LeV.keep (Same.tups s02) hL⟩, ⟨ha, hlok⟩, hcnt, fun to l' e => (by cases e; exact hbx ha), fun v tr H3 A3 S3 E3 hv M3 N3 htr htr3 => ?_⟩
        have en := E3.n
        obtain ⟨hst3, fst⟩ := N3.out (s02 _ _ hst) Ma.o1
        obtain ⟨hml3, fml⟩ := N3.out (s02 _ _ hml) Ma.o2
        obtain ⟨hiv3, fiv⟩ := N3.out (s02 _ _ hiv) Ma.o3
        obtain ⟨hs3, fs⟩ := N3.out (s02 _ _ Ma.inv.sl) Ma.o4
        obtain ⟨hw3, fw⟩ := N3.out (s02 _ _ Ma.inv.wl) Ma.o5
        refine ⟨iv, s, w_, A.sz, S.n, a, b, last, lv, tr, v, _, rfl, ⟨⟨di, hiv3⟩, hs3, hw3⟩, htr3, by omega, fun _ s' H4 I4 hs' B4 => ?_, fun na => absurd ha na⟩
        have hst4 := B4 _ _ hst3 nsv
        refine ⟨_, rfl, st, dx, _, rfl, hst4, rfl, ?_⟩
        exact fin H3 H4 A3 S3 s' w_ (a + 1) b M3 en (N2.trans N3.tox) hst3 hml3 ⟨_, _, hiv3⟩ I4 B4 (by rw [← en]; exact M3.new_out hs') fw fst fml fiv fun H5 M5 N5 Af => k1 ha H5 A3 S3 s' E3 M5 N5 Af
      · have s02 := Same.trans sm s2
        have N2 : NxX (X3 st ml iv) S.n H A H2 A := NxX.same s02
        refine ⟨A, S, 0, t, .read b, rfl, M.same s02, by omega, ht2, hb, hcnt, fun to l' e => (by cases e), fun v tr H3 A3 S3 E3 hv M3 N3 htr htr3 => ?_⟩
        have en := E3.n
        obtain ⟨hst3, fst⟩ := N3.out (s02 _ _ hst) Ma.o1
        obtain ⟨hml3, fml⟩ := N3.out (s02 _ _ hml) Ma.o2
        obtain ⟨hiv3, fiv⟩ := N3.out (s02 _ _ hiv) Ma.o3
        obtain ⟨hs3, fs⟩ := N3.out (s02 _ _ Ma.inv.sl) Ma.o4
        obtain ⟨hw3, fw⟩ := N3.out (s02 _ _ Ma.inv.wl) Ma.o5
        have hL3 : LeV H3 lv l := LeV.keep (Tups.trans (Same.tups s02) (N3.tups (M.same s02))) hL
        refine ⟨iv, s, w_, A.sz, S.n, a, b, last, lv, tr, v, _, rfl, ⟨⟨di, hiv3⟩, hs3, hw3⟩, htr3, by omega, fun ha => absurd ha na, fun _ => ⟨S.ack b, l.tk, l, hv b rfl, hL3, rfl, fun he w' H4 I4 hw' B4 => ?_, fun he H4 I4 B4 => ?_⟩⟩
        · have hst4 := B4 _ _ hst3 nsv
          refine ⟨_, rfl, st, dx, _, rfl, hst4, rfl, ?_⟩
          exact fin H3 H4 A3 S3 s w' a (b + 1) M3 en (N2.trans N3.tox) hst3 hml3 ⟨_, _, hiv3⟩ I4 B4 fs (by rw [← en]; exact M3.new_out hw') fst fml fiv fun H5 M5 N5 Af => k2 na hb H5 A3 S3 w' (b + 1) E3 (fun _ => rfl) (fun z => absurd he z) M5 N5 Af
        · have hst4 := B4 _ _ hst3 nsv
          refine ⟨_, rfl, st, dx, _, rfl, hst4, rfl, ?_⟩
          exact fin H3 H4 A3 S3 s w_ a b M3 en (N2.trans N3.tox) hst3 hml3 ⟨_, _, hiv3⟩ I4 B4 fs fw fst fml fiv fun H5 M5 N5 Af => k2 na hb H5 A3 S3 w_ b E3 (fun z => absurd z he) (fun _ => rfl) M5 N5 Af
      · rcases hab with z | z
        · exact absurd z na
        · exact absurd z nb
    · obtain ⟨⟨d1, hst1⟩, hml1⟩ := S1
      refine ⟨_, rfl, st, _, d1, _, _, rfl, hst1, T.c_Stack, T.n_Stack_machines, rfl, _, .inl ⟨_, SqL.of hml1, rfl⟩, ?_⟩
      have t1 : Tups H H1 := fun c xs e => kp c _ e (ne_of e hst (by intro z; cases z)) (ne_of e hml (by intro z; cases z))
      refine k0 ha hb H1 ⟨⟨d1, hst1⟩, hml1⟩ (M.frame (fun r h o e => kp _ _ e (fun z => Ma.o1 ⟨r, h, z⟩) fun z => Ma.o2 ⟨r, h, z⟩) t1) ⟨fun c o e x _ => kp c o e (fun z => x (.inl z)) fun z => x (.inr (.inl z)), fun _ h => .inl h, lv1, rfl, rfl⟩
end
end K8

-- ===== part K8O =====
set_option Elab.async false
set_option linter.all false
set_option maxRecDepth 100000
set_option maxHeartbeats 4000000
namespace K8
open PySem PySem.Spec PyProof.Rows L2
/-! the law's helpers: tape, word, other -/
def spTape (K : PySem.W.Frag) : Sp := fun vs H Q _ => ∃ (a : Addr) (ns : List Int), vs = [.ref a] ∧ SqL K H a (ns.map V.int) ∧ ns.length ≤ 63 ∧ ∀ (l : Addr) (ts : List Int) (H' : Hp), H l = none → H' l = some (.lst (ts.map V.int)) → ts.length ≤ 4000 → Same H H' → Q (.ref l) H'
def spAt : Sp := fun vs H Q _ => ∃ (l : Addr) (ts : List Int) (k : Int), vs = [.ref l, .int k] ∧ H l = some (.lst (ts.map V.int)) ∧ 0 ≤ k ∧ Q (.int (atT ts k.toNat)) H
def spLWord : Sp := fun vs H Q _ => ∃ num : Int, vs = [.int num] ∧ ∀ v x H', WdV H' v x → Same H H' → Q v H'
def Oth (S : MS) (p : Nat) (S' : MS) : Prop := S' = S ∨ (∃ s g, Eff S p (.walk s g) S') ∨ Eff S p .take S'
def spOther (K : PySem.W.Frag) : Sp := fun vs H Q _ => ∃ A S p num, vs = [.ref (AD.m A), .int (p : Nat), .int num] ∧ MemR K H A S ∧ p < S.n ∧ S.cnt ≤ 50000 ∧ ∀ H' A' S', Oth S p S' → MemR K H' A' S' → Nx S.n H A H' A' → Q .non H'
theorem map_int {ns : List Int} {i : Nat} (h : i < ns.length) : ∃ z, (ns.map V.int)[i]? = some (V.int z) := by
  refine ⟨ns[i], ?_⟩
  rw [List.getElem?_map, List.getElem?_eq_getElem h]
  rfl
section
variable {P : Program} {w : World} {K : PySem.W.Frag} {mg : Str → Option Value} {base : Heap}
theorem sc_law_tape : FnScope ["_law_script", "_law_tape_here", "_law_k", "_law_value", "_law_step"] ["_law_script"] (defScope s_law_tape) := ⟨rfl, rfl, rfl, by decide +kernel, rfl, by decide +kernel, by decide +kernel⟩
theorem ok_law_tape (T : T w K mg) : Ok P w K mg base 1 at_law_tape ["_law_script"] (spTape K) := by
  obtain ⟨fd, F⟩ := T.d_law_tape
  refine ⟨fd, F.ok sc_law_tape (fun vs H Q E h => ?_) (fun cdv_ A_ outer_ s_ H vs Q E hr h => ?_), F.bindsN fun _ _ _ _ _ _ us hl => match us, hl with | [_], _ => rfl, F.kp⟩
  · obtain ⟨a, ns, rfl, _⟩ := h
    rfl
  · obtain ⟨a, ns, rfl, hS, hlen, k⟩ := h
    refine ⟨_, PSs.nox (pss_cons (ps_set (i := 1) sc_law_tape.nd rfl (Or.inl rfl) (pe_lst pa_nil)) (pss_cons (ps_for PassesOwn.never rfl (pi_range1 (by rfl) T.f_range (pa_cons (pe_callB call_len_seq (by rfl) T.f_len b_len (pa_cons (pv 0) pa_nil)) pa_nil)) (pg_name (i := 2) sc_law_tape.nd rfl (Or.inl rfl)) (pss_cons (ps_set (i := 3) sc_law_tape.nd rfl (Or.inl rfl) (pe_callB call_abs (by rfl) T.f_abs b_abs (pa_cons (pe_callTy call_int1 (by rfl) T.f_int b_int (pa_cons (pe_ix ix_list (pv 0) (pv 2) (fun _ _ => rfl)) pa_nil)) pa_nil))) (pss_one (ps_if (pt_cmpR op_ge (pv 3) (pe_op op_pow pe_int pe_int) (nomark _)) (pss_one (ps_for PassesOwn.never rfl (pi_range1 (by rfl) T.f_range (pa_cons pe_int pa_nil)) (pg_name (i := 4) sc_law_tape.nd rfl (Or.inl rfl)) (pss_one (ps_if (pt_cmpR op_gt (pv 3) pe_int (nomark _)) (pss_cons (ps_expr (pe_bm PySem.F.plainAttrs_list PySem.F.slot_list_append PySem.F.type_list_append mt_append (pv 1) (pa_cons (pe_op op_mod (pv 3) pe_int) pa_nil))) (pss_one (ps_set (i := 3) sc_law_tape.nd rfl (Or.inl rfl) (pe_op op_fdiv (pv 3) pe_int)))) pss_nil)))) (pss_one (ps_for PassesOwn.never rfl (pi_range1 (by rfl) T.f_range (pa_cons pe_int pa_nil)) (pg_name (i := 4) sc_law_tape.nd rfl (Or.inl rfl)) (pss_cons (ps_set (i := 3) sc_law_tape.nd rfl (Or.inl rfl) (pe_op op_mod (pe_op op_add (pe_op op_add (pe_op op_mul (pv 3) pe_int) (pe_op op_mul pe_int (pe_op op_add (pv 2) pe_int))) (pe_op op_mul pe_int (pv 4))) pe_int)) (pss_cons (ps_set (i := 3) sc_law_tape.nd rfl (Or.inl rfl) (pe_op op_mod (pe_op op_mul (pv 3) pe_int) pe_int)) (pss_one (ps_expr (pe_bm PySem.F.plainAttrs_list PySem.F.slot_list_append PySem.F.type_list_append mt_append (pv 1) (pa_cons (pe_op op_mod (pe_op op_fdiv (pv 3) pe_int) pe_int) pa_nil)))))))))))) (pss_one (ps_ret (pv 1))))), ?_⟩
    refine ⟨Nat.zero_le _, fun l hl => ?_⟩
    have hl0 := hl
    refine ⟨_, rfl, a, _, rfl, .inl (Same.seq (Same.new hl) hS), _, rfl, by rw [List.length_map]; omega, by rw [List.length_map]; omega, ?_⟩
    refine for_range (lo := 0) (n := (((ns.map V.int).length : Nat) : Int).toNat) (fun i σ H' => ∃ (ts : List Int) (v2 v3 v4 : Option V), σ = [some (.ref a), some (.ref l), v2, v3, v4] ∧ Same H H' ∧ H' l = some (.lst (ts.map V.int)) ∧ ts.length ≤ 60 * i)
      ⟨[], none, none, none, rfl, Same.new hl, upd_same, Nat.le_refl _⟩ ?_ ?_
    · rintro i σ H' hi ⟨ts, v2, v3, v4, rfl, sm, hL, hts⟩
      have hi' : i < ns.length := by rw [List.length_map] at hi; omega
      obtain ⟨z, hz⟩ := map_int hi'
      have up : ∀ xs, Same H (upd H' l (.lst xs)) := fun xs b o e => by rw [upd_ne (ne_of_none e hl0)]; exact sm _ _ e
      refine ⟨_, rfl, _, rfl, a, _, _, _, rfl, rfl, sm.seq hS, at_of (j := i) (by omega) hz, .inl ⟨_, rfl, _, rfl, ?_⟩⟩
      refine ⟨_, rfl, _, _, rfl, rfl, ⟨by decide, by decide, by decide⟩, _, _, rfl, rfl, _, rfl, ?_⟩
      refine ite_b (fun _ => ?_) (fun _ => ?_)
      · refine ⟨_, rfl, by decide, by decide, for_range (lo := 0) (n := (60 : Int).toNat) (fun j σ H2 => ∃ (ts : List Int) (v2 v4 : Option V) (y : Int), σ = [some (.ref a), some (.ref l), v2, some (.int y), v4] ∧ Same H H2 ∧ H2 l = some (.lst (ts.map V.int)) ∧ ts.length ≤ 60 * i + j)
          ⟨ts, _, _, _, rfl, sm, hL, hts⟩ ?_ ?_⟩
        · rintro j σ H2 hj ⟨ts2, u2, u4, y, rfl, sm2, hL2, hts2⟩
          have up2 : ∀ xs, Same H (upd H2 l (.lst xs)) := fun xs b o e => by rw [upd_ne (ne_of_none e hl0)]; exact sm2 _ _ e
          refine ⟨_, rfl, _, _, rfl, rfl, _, rfl, ?_⟩
          refine ite_b (fun _ => ?_) (fun _ => ?_)
          · have hj' : j < 60 := hj
            refine ⟨_, rfl, .inl ⟨rfl, _, SqL.of hL2⟩, _, rfl, _, _, rfl, rfl, (by show (0 : Int) < 1000; decide), l, _, _, rfl, rfl, hL2, small _ (by rw [List.length_map]; omega), ?_⟩
            refine ⟨_, rfl, _, _, rfl, rfl, ⟨by decide, by decide⟩, ?_⟩
            refine ⟨ts2 ++ [y % 1000], _, _, _, rfl, up2 _, ?_, by rw [List.length_append]; show ts2.length + 1 ≤ _; omega⟩
            rw [upd_same, List.map_append]
            rfl
          · exact ⟨ts2, _, _, y, rfl, sm2, hL2, by omega⟩
        · rintro σ H2 ⟨ts2, u2, u4, y, rfl, sm2, hL2, hts2⟩
          have hts3 : ts2.length ≤ 60 * i + 60 := hts2
          exact ⟨ts2, _, _, _, rfl, sm2, hL2, by omega⟩
      · refine ⟨_, rfl, by decide, by decide, for_range (lo := 0) (n := (4 : Int).toNat) (fun j σ H2 => ∃ (ts : List Int) (v4 : Option V) (y : Int), σ = [some (.ref a), some (.ref l), some (.int (0 + (i : Nat))), some (.int y), v4] ∧ Same H H2 ∧ H2 l = some (.lst (ts.map V.int)) ∧ ts.length ≤ 60 * i + j)
          ⟨ts, _, _, rfl, sm, hL, hts⟩ ?_ ?_⟩
        · rintro j σ H2 hj ⟨ts2, u4, y, rfl, sm2, hL2, hts2⟩
          have up2 : ∀ xs, Same H (upd H2 l (.lst xs)) := fun xs b o e => by rw [upd_ne (ne_of_none e hl0)]; exact sm2 _ _ e
          have hj' : j < 4 := hj
          refine ⟨_, rfl, _, _, rfl, rfl, .inr ⟨by decide, by decide⟩, _, rfl, _, _, rfl, rfl, _, _, rfl, rfl, .inl ⟨by decide, by decide⟩, _, _, rfl, rfl, _, rfl, _, _, rfl, rfl, .inl ⟨by decide, by decide⟩, _, _, rfl, rfl, _, _, rfl, rfl, (by show (0 : Int) < 2147483647; decide), ?_⟩
          refine ⟨_, rfl, _, _, rfl, rfl, .inr ⟨by decide, by decide⟩, _, _, rfl, rfl, (by show (0 : Int) < 2147483647; decide), ?_⟩
          refine ⟨_, rfl, .inl ⟨rfl, _, SqL.of hL2⟩, _, rfl, _, _, rfl, rfl, ⟨by decide, by decide⟩, _, _, rfl, rfl, (by show (0 : Int) < 1000; decide), l, _, _, rfl, rfl, hL2, small _ (by rw [List.length_map]; omega), ?_⟩
          refine ⟨ts2 ++ [(y * 48271 + 69621 * (0 + (i : Nat) + 1) + 7 * (0 + (j : Nat))) % 2147483647 * 16807 % 2147483647 / 1000 % 1000], _, _, rfl, up2 _, ?_, by rw [List.length_append]; show ts2.length + 1 ≤ _; omega⟩
          rw [upd_same, List.map_append]
          rfl
        · rintro σ H2 ⟨ts2, u4, y, rfl, sm2, hL2, hts2⟩
          have hts3 : ts2.length ≤ 60 * i + 4 := hts2
          exact ⟨ts2, _, _, _, rfl, sm2, hL2, by omega⟩
    · rintro σ H' ⟨ts, v2, v3, v4, rfl, sm, hL, hts⟩
      refine ⟨_, rfl, ?_⟩
      have : (((ns.map V.int).length : Nat) : Int).toNat = ns.length := by rw [List.length_map]; omega
      exact k l ts H' hl0 hL (by omega) sm
theorem sc_law_at : FnScope ["_law_tape_here", "_law_k"] ["_law_tape_here", "_law_k"] (defScope s_law_at) := ⟨rfl, rfl, rfl, by decide +kernel, rfl, by decide +kernel, by decide +kernel⟩
theorem ok_law_at (T : T w K mg) : Ok P w K mg base 1 at_law_at ["_law_tape_here", "_law_k"] spAt := by
  obtain ⟨fd, F⟩ := T.d_law_at
  refine ⟨fd, F.ok sc_law_at (fun vs H Q E h => ?_) (fun cdv_ A_ outer_ s_ H vs Q E hr h => ?_), F.bindsN fun _ _ _ _ _ _ us hl => match us, hl with | [_, _], _ => rfl, F.kp⟩
  · obtain ⟨l, ts, k, rfl, _⟩ := h
    rfl
  · obtain ⟨l, ts, k, rfl, hL, h0, kk⟩ := h
    refine ⟨_, PSs.nox (pss_cons (ps_if (pt_cmpR op_lt (pv 1) (pe_callB call_len_seq (by rfl) T.f_len b_len (pa_cons (pv 0) pa_nil)) (nomark _)) (pss_one (ps_ret (pe_ix ix_list (pv 0) (pv 1) (fun _ _ => rfl)))) pss_nil) (pss_one (ps_ret pe_int))), ?_⟩
    refine ⟨_, rfl, _, rfl, l, _, rfl, .inl (SqL.of hL), _, _, rfl, rfl, _, rfl, ?_⟩
    by_cases hk : k < (((ts.map V.int).length : Nat) : Int)
    · refine iteD hk ?_
      have hk' : k.toNat < ts.length := by rw [List.length_map] at hk; omega
      refine ⟨_, rfl, _, rfl, l, _, _, .int (atT ts k.toNat), rfl, rfl, SqL.of hL, at_of (j := k.toNat) (by omega) ?_, kk⟩
      unfold atT
      rw [List.getElem?_map, List.getElem?_eq_getElem hk', List.getD_eq_getElem?_getD, List.getElem?_eq_getElem hk']
      rfl
    · refine iteDF hk ?_
      have hk' : ts.length ≤ k.toNat := by rw [List.length_map] at hk; omega
      have e : atT ts k.toNat = 0 := by
        unfold atT
        rw [List.getD_eq_getElem?_getD, List.getElem?_eq_none hk']
        rfl
      rw [e] at kk
      exact kk
theorem sc_law_word : FnScope ["_law_number"] ["_law_number"] (defScope s_law_word) := ⟨rfl, rfl, rfl, by decide +kernel, rfl, by decide +kernel, by decide +kernel⟩
theorem ok_law_word (T : T w K mg) : Ok P w K mg base 1 at_law_word ["_law_number"] spLWord := by
  obtain ⟨fd, F⟩ := T.d_law_word
  refine ⟨fd, F.ok sc_law_word (fun vs H Q E h => ?_) (fun cdv_ A_ outer_ s_ H vs Q E hr h => ?_), F.bindsN fun _ _ _ _ _ _ us hl => match us, hl with | [_], _ => rfl, F.kp⟩
  · obtain ⟨num, rfl, _⟩ := h
    rfl
  · obtain ⟨num, rfl, k⟩ := h
    refine ⟨_, PSs.nox (pss_one (ps_ret (pe_ix ix_list (pe_lst (pa_cons (pe_tup (pa_cons pe_str (pa_cons (pe_op op_mod (pv 0) pe_int) (pa_cons pe_bl pa_nil)))) (pa_cons (pe_tup (pa_cons pe_str (pa_cons (pe_op op_mod (pv 0) pe_int) (pa_cons pe_bl pa_nil)))) (pa_cons pe_non (pa_cons (pe_tup (pa_cons pe_str (pa_cons pe_int pa_nil))) pa_nil))))) (pe_op op_mod (pe_op op_fdiv (pv 0) pe_int) pe_int) (fun _ _ => rfl)))), ?_⟩
    refine ⟨_, rfl, _, _, rfl, rfl, (by show (0 : Int) < 4; decide), (by show 3 ≤ sizeLine; decide), fun t1 h1 => ?_⟩
    have s1 : Same H (upd H t1 (.tup [.str "frame", .int (num % 4), .bl true])) := Same.new h1
    refine ⟨_, rfl, _, _, rfl, rfl, (by show (0 : Int) < 4; decide), (by show 3 ≤ sizeLine; decide), fun t2 h2 => ?_⟩
    have s2 := Same.trans s1 (Same.new (o := .tup [.str "frame", .int (num % 4), .bl false]) h2)
    refine ⟨(by show 2 ≤ sizeLine; decide), fun t3 h3 => ⟨(by show 4 ≤ sizeLine; decide), fun ll hl => ?_⟩⟩
    have s3 := Same.trans s2 (Same.new (o := .tup [.str "swap", .int 1]) h3)
    have s4 := Same.trans s3 (Same.new (o := .lst [.ref t1, .ref t2, .non, .ref t3]) hl)
    have e1 : (upd (upd (upd (upd H t1 (.tup [.str "frame", .int (num % 4), .bl true])) t2 (.tup [.str "frame", .int (num % 4), .bl false])) t3 (.tup [.str "swap", .int 1])) ll (.lst [.ref t1, .ref t2, .non, .ref t3])) t1 = some (.tup [.str "frame", .int (num % 4), .bl true]) :=
      Same.new hl _ _ (Same.new h3 _ _ (Same.new h2 _ _ upd_same))
    have e2 : (upd (upd (upd (upd H t1 (.tup [.str "frame", .int (num % 4), .bl true])) t2 (.tup [.str "frame", .int (num % 4), .bl false])) t3 (.tup [.str "swap", .int 1])) ll (.lst [.ref t1, .ref t2, .non, .ref t3])) t2 = some (.tup [.str "frame", .int (num % 4), .bl false]) :=
      Same.new hl _ _ (Same.new h3 _ _ upd_same)
    have e3 : (upd (upd (upd (upd H t1 (.tup [.str "frame", .int (num % 4), .bl true])) t2 (.tup [.str "frame", .int (num % 4), .bl false])) t3 (.tup [.str "swap", .int 1])) ll (.lst [.ref t1, .ref t2, .non, .ref t3])) t3 = some (.tup [.str "swap", .int 1]) :=
      Same.new hl _ _ upd_same
    refine ⟨_, rfl, _, _, rfl, rfl, ⟨by decide, by decide⟩, _, _, rfl, rfl, (by show (0 : Int) < 4; decide), ?_⟩
    have hc : num / 4 % 4 = 0 ∨ num / 4 % 4 = 1 ∨ num / 4 % 4 = 2 ∨ num / 4 % 4 = 3 := by omega
    rcases hc with z | z | z | z
    · exact ⟨ll, _, _, _, rfl, rfl, SqL.of upd_same, at_of (j := 0) z rfl, k _ (.fr (num % 4) true) _ ⟨t1, rfl, e1⟩ s4⟩
    · exact ⟨ll, _, _, _, rfl, rfl, SqL.of upd_same, at_of (j := 1) z rfl, k _ (.fr (num % 4) false) _ ⟨t2, rfl, e2⟩ s4⟩
    · exact ⟨ll, _, _, _, rfl, rfl, SqL.of upd_same, at_of (j := 2) z rfl, k _ .non _ rfl s4⟩
    · exact ⟨ll, _, _, _, rfl, rfl, SqL.of upd_same, at_of (j := 3) z rfl, k _ .sw _ ⟨t3, rfl, e3⟩ s4⟩
theorem sc_law_other : FnScope ["_law_memory", "_law_p", "_law_number", "_law_kind"] ["_law_memory", "_law_p", "_law_number"] (defScope s_law_other) := ⟨rfl, rfl, rfl, by decide +kernel, rfl, by decide +kernel, by decide +kernel⟩
theorem ok_law_other (T : T w K mg) : Ok P w K mg base 6 at_law_other ["_law_memory", "_law_p", "_law_number"] (spOther K) := by
  obtain ⟨_, G_Memory_access, B_Memory_access, P_Memory_access⟩ := ok_Memory_access (P := P) (base := base) T
  obtain ⟨fd, F⟩ := T.d_law_other
  refine ⟨fd, F.ok sc_law_other (fun vs H Q E h => ?_) (fun cdv_ A_ outer_ s_ H vs Q E hr h => ?_), F.bindsN fun _ _ _ _ _ _ us hl => match us, hl with | [_, _, _], _ => rfl, F.kp⟩
  · obtain ⟨A, S, p, num, rfl, _⟩ := h
    rfl
  · obtain ⟨A, S, p, num, rfl, M, hp, hcnt, k⟩ := h
    obtain ⟨dx, hm⟩ := M.om
    refine ⟨_, PSs.nox (pss_cons (ps_set (i := 3) sc_law_other.nd rfl (Or.inl rfl) (pe_op op_mod (pv 2) pe_int)) (pss_one (ps_if (pt_cmpR op_lt (pv 3) pe_int (nomark _)) (pss_one (ps_expr (pe_meth (pv 0) T.c_Memory T.m_Memory_access G_Memory_access (hr.mono (by decide)) B_Memory_access .nil pass0 (pa_cons (pv 1) (pa_cons (pe_tup (pa_cons pe_str (pa_cons (pe_op op_mod (pe_op op_fdiv (pv 2) pe_int) pe_int) (pa_cons (pe_op op_mod (pe_op op_fdiv (pv 2) pe_int) pe_int) pa_nil)))) pa_nil))))) (pss_one (ps_if (pt_cmpR op_eq (pv 3) pe_int (nomark _)) (pss_one (ps_expr (pe_meth (pv 0) T.c_Memory T.m_Memory_access G_Memory_access (hr.mono (by decide)) B_Memory_access .nil pass0 (pa_cons (pv 1) (pa_cons (pe_tup (pa_cons pe_str pa_nil)) pa_nil))))) pss_nil))))), ?_⟩
    refine ⟨_, rfl, _, _, rfl, rfl, (by show (0 : Int) < 5; decide), ?_⟩
    refine ⟨_, rfl, _, _, rfl, rfl, _, rfl, ?_⟩
    refine ite_b (fun _ => ?_) (fun _ => ?_)
    · refine ⟨_, rfl, A.m, dx, _, rfl, hm, rfl, _, rfl, _, rfl, _, _, rfl, rfl, ⟨by decide, by decide⟩, _, _, rfl, rfl, (by show (0 : Int) < 2; decide), _, rfl, _, _, rfl, rfl, ⟨by decide, by decide⟩, _, _, rfl, rfl, (by show (0 : Int) < 4; decide), (by show 3 ≤ sizeLine; decide), fun t ht => ?_⟩
      have sm : Same H _ := Same.new (o := .tup [.str "walk", .int (num / 5 % 2), .int (num / 10 % 4)]) ht
      refine ⟨A, S, p, t, .walk (num / 5 % 2).toNat (num / 10 % 4).toNat, rfl, M.same sm, hp, ?_, ⟨by omega, by omega⟩, hcnt, fun to l e => (by cases e), fun v tr H3 A3 S3 E3 _ M3 N3 _ _ => ?_⟩
      · show (upd H t (.tup [.str "walk", .int (num / 5 % 2), .int (num / 10 % 4)])) t = some (.tup [.str "walk", .int (((num / 5 % 2).toNat : Nat) : Int), .int (((num / 10 % 4).toNat : Nat) : Int)])
        rw [upd_same, Int.toNat_of_nonneg (by omega), Int.toNat_of_nonneg (by omega)]
      · exact k H3 A3 S3 (.inr (.inl ⟨_, _, E3⟩)) M3 ((Nx.same sm).trans N3)
    · refine ⟨_, rfl, rfl, _, rfl, ?_⟩
      refine ite_b (fun _ => ?_) (fun _ => ?_)
      · refine ⟨_, rfl, A.m, dx, _, rfl, hm, rfl, _, rfl, (by show 1 ≤ sizeLine; decide), fun t ht => ?_⟩
        have sm : Same H _ := Same.new (o := .tup [.str "take"]) ht
        refine ⟨A, S, p, t, .take, rfl, M.same sm, hp, upd_same, trivial, hcnt, fun to l e => (by cases e), fun v tr H3 A3 S3 E3 _ M3 N3 _ _ => ?_⟩
        exact k H3 A3 S3 (.inr (.inr E3)) M3 ((Nx.same sm).trans N3)
      · exact k H A S (.inl rfl) M (Nx.refl _ _ _)
end
end K8

-- ===== part K8P =====
set_option Elab.async false
set_option linter.all false
set_option maxRecDepth 100000
set_option maxHeartbeats 4000000
namespace K8
open PySem PySem.Spec PyProof.Rows L2
/-! the law's helpers: entries, change -/
def spEntries (K : PySem.W.Frag) : Sp := fun vs H Q _ => ∃ A S c ps qs, vs = [.ref (AD.m A), .int (S.n : Nat), .ref c] ∧ MemR K H A S ∧ H c = some (.lst ps) ∧ Paired (PrV H) ps qs ∧ (∀ q ∈ qs, q.1 < 4 ∧ q.2 < 8) ∧
  (∀ p, p < S.n → S.box p = []) ∧ (∀ p, p < S.n → Coh S qs p) ∧ ∀ H', Same H H' → Q (.bl true) H'
structure Wr (S S' : MS) (i : Nat) : Prop where
  n : S'.n = S.n
  ack : S'.ack = S.ack
  buf : S'.buf = S.buf
  box : S'.box = S.box
  cnt : S'.cnt ≤ S.cnt + i
def spChange (K : PySem.W.Frag) : Sp := fun vs H Q _ => ∃ (A : AD) (S : MS) (l : Addr) (ts : List Int) (place : Int), vs = [.ref A.m, .ref l, .int place] ∧ MemR K H A S ∧ S.cnt ≤ 40000 ∧ ¬ Fp A S.n l ∧ H l = some (.lst (ts.map V.int)) ∧ 0 ≤ place ∧
  ∀ c ps qs H' A' S', H c = none → H' c = some (.lst ps) → ¬ Fp A' S.n c → Paired (PrV H') ps qs → qs.length ≤ 4 → (∀ q ∈ qs, q.1 < 4 ∧ q.2 < 8) → Wr S S' 4 → MemR K H' A' S' → Nx S.n H A H' A' → Q (.ref c) H'
theorem eqv_nil : PyData.eqv (.list []) (.list []) = true := by simp [PyData.eqv, PyData.eqvAll]
theorem eqv_frame (i : Int) (b : Bool) : PyData.eqv (.tuple [.str "frame", .int i, .bool b]) (.tuple [.str "frame", .int i, .bool b]) = true := by simp [PyData.eqv, PyData.eqvAll]
theorem shaped_nil : SeqAt.shaped (.list []) = true := by decide +kernel
theorem shaped_frame (i : Int) (b : Bool) : SeqAt.shaped (.tuple [.str "frame", .int i, .bool b]) = true := by
  have h : PyData.strOk ("frame" : Str) = true := by decide +kernel
  simp [SeqAt.shaped, PyData.canLay0, PyData.canLayAll0, PyData.depth, PyData.depthAll, h]
theorem Nx.upd_new {n : Nat} {H H' : Hp} {A A' : AD} {c : Addr} {o : HO} (N : Nx n H A H' A') (hc : H c = none) : Nx n H A (upd H' c o) A' :=
  ⟨fun b u e f => by rw [upd_ne (ne_of_none e hc)]; exact N.keep b u e f, N.own, fun b z => by
    have ne : b ≠ c := fun y => by rw [y, upd_same] at z; cases z
    rw [upd_ne ne] at z
    exact N.live b z, N.m, N.sz, N.bl, N.xl, N.b, N.x⟩
section
variable {P : Program} {w : World} {K : PySem.W.Frag} {mg : Str → Option Value} {base : Heap}
theorem sc_law_entries : FnScope ["_law_memory", "_law_many", "_law_pairs", "_law_p", "_law_row", "_law_word_here"] ["_law_memory", "_law_many", "_law_pairs"] (defScope s_law_entries) := ⟨rfl, rfl, rfl, by decide +kernel, rfl, by decide +kernel, by decide +kernel⟩
theorem ok_law_entries (T : T w K mg) : Ok P w K mg base 5 at_law_entries ["_law_memory", "_law_many", "_law_pairs"] (spEntries K) := by
  obtain ⟨_, G_Buffer_entries, B_Buffer_entries, P_Buffer_entries⟩ := ok_Buffer_entries (P := P) (base := base) T
  obtain ⟨_, G_Memory_peek, B_Memory_peek, P_Memory_peek⟩ := ok_Memory_peek (P := P) (base := base) T
  obtain ⟨_, G_Sizes_word, B_Sizes_word, P_Sizes_word⟩ := ok_Sizes_word (P := P) (base := base) T
  obtain ⟨_, G_Box_letters, B_Box_letters, P_Box_letters⟩ := ok_Box_letters (P := P) (base := base) T
  obtain ⟨fd, F⟩ := T.d_law_entries
  refine ⟨fd, F.ok sc_law_entries (fun vs H Q E h => ?_) (fun cdv_ A_ outer_ s_ H vs Q E hr h => ?_), F.bindsN fun _ _ _ _ _ _ us hl => match us, hl with | [_, _, _], _ => rfl, F.kp⟩
  · obtain ⟨A, S, c, ps, qs, rfl, _⟩ := h
    rfl
  · obtain ⟨A, S, c, ps, qs, rfl, M, hc, hps, hq, hbox, hcoh, k⟩ := h
    obtain ⟨dm, hm⟩ := M.om
    obtain ⟨dz, hz⟩ := M.osz
    have n3 := M.n3
    refine ⟨_, PSs.nox (pss_cons (ps_for PassesOwn.never rfl (pi_range1 (by rfl) T.f_range (pa_cons (pv 1) pa_nil)) (pg_name (i := 3) sc_law_entries.nd rfl (Or.inl rfl)) (pss_cons (ps_if (pt_cmpR (op_neD hr.units) (pe_meth0 (pe_ix ix_list (pe_fld (pv 0) rfl) (pv 3) (fun _ _ => rfl)) T.c_Box T.m_Box_letters G_Box_letters (hr.mono (by decide)) B_Box_letters .nil pass0 ) (pe_lst pa_nil) (nomark _)) (pss_one (ps_ret pe_bl)) pss_nil) (pss_one (ps_for PassesOwn.never rfl (pi_list (pe_meth0 (pe_ix ix_list (pe_fld (pv 0) rfl) (pv 3) (fun _ _ => rfl)) T.c_Buffer T.m_Buffer_entries G_Buffer_entries (hr.mono (by decide)) B_Buffer_entries .nil pass0 )) (pg_name (i := 4) sc_law_entries.nd rfl (Or.inl rfl)) (pss_one (ps_if (pt_cmpR (op_inP (hu65 hr)) (pe_slice sl_tup (pv 4) po_none (po_some pe_int)) (pv 2) (by rfl)) (pss_cons (ps_set (i := 5) sc_law_entries.nd rfl (Or.inl rfl) (pe_meth (pv 0) T.c_Memory T.m_Memory_peek G_Memory_peek (hr.mono (by decide)) B_Memory_peek .nil pass0 (pa_cons (pe_meth (pe_fld (pv 0) rfl) T.c_Sizes T.m_Sizes_word G_Sizes_word (hr.mono (by decide)) B_Sizes_word .nil pass0 (pa_cons (pe_ix ix_tup (pv 4) pe_int (fun _ _ => rfl)) (pa_cons (pe_ix ix_tup (pv 4) pe_int (fun _ _ => rfl)) pa_nil))) pa_nil))) (pss_one (ps_if (pt_cmpR (op_neD hr.units) (pv 5) (pe_tup (pa_cons pe_str (pa_cons (pe_ix ix_tup (pv 4) pe_int (fun _ _ => rfl)) (pa_cons (pe_ix ix_tup (pv 4) pe_int (fun _ _ => rfl)) pa_nil)))) (nomark _)) (pss_one (ps_ret pe_bl)) pss_nil))) pss_nil)))))) (pss_one (ps_ret pe_bl))), ?_⟩
    refine ⟨_, rfl, _, rfl, by omega, by omega, for_range (lo := 0) (n := ((S.n : Nat) : Int).toNat) (fun i σ H' => ∃ v3 v4 v5, σ = [some (.ref A.m), some (.int (S.n : Nat)), some (.ref c), v3, v4, v5] ∧ Same H H') ⟨none, none, none, rfl, Same.refl H⟩ ?_ ?_⟩
    · rintro i σ H' hi ⟨v3, v4, v5, rfl, sm⟩
      have hi' : i < S.n := by omega
      obtain ⟨xs, ⟨⟨db, hx⟩, hxr⟩, _, hxE⟩ := M.ox i hi'
      rw [hbox i hi'] at hxE
      have e := Paired.nil_inv hxE
      subst e
      obtain ⟨us, ⟨⟨dd, hb⟩, hbr⟩, hul, hE⟩ := M.ob i hi'
      -- boxes[p].letters() != []
      refine ⟨_, rfl, A.m, _, dm, _, _, rfl, sm _ _ hm, T.c_Memory, T.n_Memory_boxes, rfl, _, rfl, A.xl, _, _, _, rfl, rfl, SqL.of (sm _ _ M.oxl), at_of (j := i) (by omega) (map_get _ hi'), A.x i, db, _, rfl, sm _ _ hx, rfl, A.x i, A.xr i, [], rfl, ⟨⟨db, sm _ _ hx⟩, sm _ _ hxr⟩, fun l1 H2 hl1 hL1 s2 => ?_⟩
      refine ⟨Nat.zero_le _, fun l2 hl2 => ⟨.list [], .list [], .lst (SqL.of (Same.new hl2 _ _ hL1)) .nil, .lst (SqL.of upd_same) .nil, shaped_nil, shaped_nil, _, rfl, iteN eqv_nil ?_⟩⟩
      have s3 := Same.trans sm (Same.trans s2 (Same.new (o := .lst []) hl2))
      -- for row in buffers[p].entries()
      refine ⟨_, rfl, A.m, _, dm, _, _, rfl, s3 _ _ hm, T.c_Memory, T.n_Memory_buffers, rfl, _, rfl, A.bl, _, _, _, rfl, rfl, SqL.of (s3 _ _ M.obl), at_of (j := i) (by omega) (map_get _ hi'), A.b i, dd, _, rfl, s3 _ _ hb, rfl, A.b i, A.br i, us, rfl, ⟨⟨dd, s3 _ _ hb⟩, s3 _ _ hbr⟩, fun l4 H4 hl4 hL4 s4 => ?_⟩
      have s04 := Same.trans s3 s4
      refine ⟨l4, rfl, ⟨_, SqL.of hL4⟩, for_list (K := K) (a := l4) (xs := us) (fun j σ H5 => ∃ v4 v5, σ = [some (.ref A.m), some (.int (S.n : Nat)), some (.ref c), some (.int (0 + (i : Nat))), v4, v5] ∧ Same H H5 ∧ H5 l4 = some (.lst us)) ⟨_, _, rfl, s04, hL4⟩ (fun j σ H5 _ ⟨_, _, _, _, h⟩ => SqL.of h) ?_ ?_⟩
      · rintro j x σ H5 hj ⟨u4, u5, rfl, s5, hL5⟩
        obtain ⟨e, he, a, rfl, ha⟩ := Paired.get hE hj
        have hmem := List.mem_of_getElem? he
        have ha5 := s5 _ _ ha
        refine ⟨_, rfl, _, rfl, a, _, rfl, SqT.of ha5, cut2_no _ _ _ _, fun q hqn => ?_⟩
        have ec : cutV [V.int ((e.s : Nat) : Int), V.int ((e.g : Nat) : Int), V.int e.i, V.bl e.b] none (some 2) = [V.int ((e.s : Nat) : Int), V.int ((e.g : Nat) : Int)] := cut2 _ _ _ _
        rw [ec]
        have s6 : Same H (upd H5 q (.tup [.int (e.s : Nat), .int (e.g : Nat)])) := Same.trans s5 (Same.new hqn)
        have hL6 : (upd H5 q (.tup [.int (e.s : Nat), .int (e.g : Nat)])) l4 = some (.lst us) := Same.new hqn _ _ hL5
        have ha6 := s6 _ _ ha
        refine ⟨_, rfl, (e.s, e.g), c, ps, qs, ⟨q, rfl, upd_same⟩, rfl, .inl (s6 _ _ hc), Paired.keep (fun _ _ => PrV.keep (Same.tups s6)) hps, _, rfl, ?_⟩
        by_cases hin : (e.s, e.g) ∈ qs
        · have eb : (if false = true then !decide ((e.s, e.g) ∈ qs) else decide ((e.s, e.g) ∈ qs)) = true := by rw [decide_eq_true hin]; rfl
          rw [eb]
          obtain ⟨h4, h8⟩ := hq _ hin
          have hwd := hcoh i hi' e hmem hin
          have M6 := M.same s6
          refine ⟨_, rfl, A.m, dm, _, rfl, s6 _ _ hm, rfl, _, rfl, A.m, _, dm, _, _, rfl, s6 _ _ hm, T.c_Memory, T.n_Memory_sizes, rfl, A.sz, dz, _, rfl, s6 _ _ hz, rfl,
            _, rfl, a, _, _, _, rfl, rfl, SqT.of ha6, at_of (j := 0) rfl rfl, _, rfl, a, _, _, _, rfl, rfl, SqT.of ha6, at_of (j := 1) rfl rfl, A.sz, dz, S.n, _, _, rfl, s6 _ _ hz, A, S, _, rfl, M6, by omega, by omega, fun hs v hhl hO hv => ?_⟩
          have hv' : hs[1 + S.n + 8 * e.s + e.g]? = some v := by
            rw [← hv]
            rw [show (1 + (S.n : Int) + 8 * (e.s : Int) + (e.g : Int)).toNat = 1 + S.n + 8 * e.s + e.g by omega]
          obtain ⟨v', hv2, hW⟩ := hO.wd e.s e.g h4 h8
          rw [hv'] at hv2
          have ev := Option.some.inj hv2
          subst ev
          rw [hwd] at hW
          obtain ⟨a2, rfl, ha2⟩ := hW
          refine ⟨_, rfl, _, rfl, a, _, _, _, rfl, rfl, SqT.of ha6, at_of (j := 2) rfl rfl, _, rfl, a, _, _, _, rfl, rfl, SqT.of ha6, at_of (j := 3) rfl rfl, (by show 3 ≤ sizeLine; decide), fun t ht => ?_⟩
          have s7 : Same (upd H5 q (.tup [.int (e.s : Nat), .int (e.g : Nat)])) _ := Same.new (o := .tup [.str "frame", .int e.i, .bl e.b]) ht
          refine ⟨.tuple [.str "frame", .int e.i, .bool e.b], .tuple [.str "frame", .int e.i, .bool e.b], .tup (SqT.of (s7 _ _ ha2)) (.cons (.str _) (.cons (.int _) (.cons (.bl _) .nil))), .tup (SqT.of upd_same) (.cons (.str _) (.cons (.int _) (.cons (.bl _) .nil))), shaped_frame _ _, shaped_frame _ _, _, rfl, iteN (eqv_frame _ _) ?_⟩
          exact ⟨_, _, rfl, Same.trans s6 s7, s7 _ _ hL6⟩
        · have eb : (if false = true then !decide ((e.s, e.g) ∈ qs) else decide ((e.s, e.g) ∈ qs)) = false := by rw [decide_eq_false hin]; rfl
          rw [eb]
          exact ⟨_, _, rfl, s6, hL6⟩
      · rintro σ H5 ⟨u4, u5, rfl, s5, hL5⟩
        exact ⟨_, _, _, rfl, s5⟩
    · rintro σ H' ⟨v3, v4, v5, rfl, sm⟩
      exact k H' sm
theorem sc_law_change : FnScope ["_law_memory", "_law_tape_here", "_law_place", "_law_pairs", "_law_k", "_law_number", "_law_pair"] ["_law_memory", "_law_tape_here", "_law_place"] (defScope s_law_change) := ⟨rfl, rfl, rfl, by decide +kernel, rfl, by decide +kernel, by decide +kernel⟩
theorem ok_law_change (T : T w K mg) : Ok P w K mg base 6 at_law_change ["_law_memory", "_law_tape_here", "_law_place"] (spChange K) := by
  obtain ⟨_, G_law_at, B_law_at, P_law_at⟩ := ok_law_at (P := P) (base := base) T
  obtain ⟨_, G_Memory_access, B_Memory_access, P_Memory_access⟩ := ok_Memory_access (P := P) (base := base) T
  obtain ⟨_, G_law_word, B_law_word, P_law_word⟩ := ok_law_word (P := P) (base := base) T
  obtain ⟨_, G_Sizes_word, B_Sizes_word, P_Sizes_word⟩ := ok_Sizes_word (P := P) (base := base) T
  obtain ⟨fd, F⟩ := T.d_law_change
  refine ⟨fd, F.ok sc_law_change (fun vs H Q E h => ?_) (fun cdv_ A_ outer_ s_ H vs Q E hr h => ?_), F.bindsN fun _ _ _ _ _ _ us hl => match us, hl with | [_, _, _], _ => rfl, F.kp⟩
  · obtain ⟨A, S, l, ts, place, rfl, _⟩ := h
    rfl
  · obtain ⟨A, S, l, ts, place, rfl, M, hcnt, fl, hl, h0, k⟩ := h
    refine ⟨_, PSs.nox (pss_cons (ps_set (i := 3) sc_law_change.nd rfl (Or.inl rfl) (pe_lst pa_nil)) (pss_cons (ps_for PassesOwn.never rfl (pi_range1 (by rfl) T.f_range (pa_cons (pe_op op_mod (pe_call G_law_at (hr.mono (by decide)) (by rfl) T.g_law_at P_law_at B_law_at .nil pass0 (pa_cons (pv 1) (pa_cons (pv 2) pa_nil))) pe_int) pa_nil)) (pg_name (i := 4) sc_law_change.nd rfl (Or.inl rfl)) (pss_cons (ps_set (i := 5) sc_law_change.nd rfl (Or.inl rfl) (pe_call G_law_at (hr.mono (by decide)) (by rfl) T.g_law_at P_law_at B_law_at .nil pass0 (pa_cons (pv 1) (pa_cons (pe_op op_add (pe_op op_add (pv 2) pe_int) (pv 4)) pa_nil)))) (pss_cons (ps_set (i := 6) sc_law_change.nd rfl (Or.inl rfl) (pe_tup (pa_cons (pe_op op_mod (pv 5) pe_int) (pa_cons (pe_op op_mod (pe_op op_fdiv (pv 5) pe_int) pe_int) pa_nil)))) (pss_one (ps_if (pt_cmpR (op_notInP (hu65 hr)) (pv 6) (pv 3) (by rfl)) (pss_cons (ps_expr (pe_bm PySem.F.plainAttrs_list PySem.F.slot_list_append PySem.F.type_list_append mt_append (pv 3) (pa_cons (pv 6) pa_nil))) (pss_one (ps_expr (pe_meth (pv 0) T.c_Memory T.m_Memory_access G_Memory_access (hr.mono (by decide)) B_Memory_access .nil pass0 (pa_cons pe_int (pa_cons (pe_tup (pa_cons pe_str (pa_cons (pe_meth (pe_fld (pv 0) rfl) T.c_Sizes T.m_Sizes_word G_Sizes_word (hr.mono (by decide)) B_Sizes_word .nil pass0 (pa_cons (pe_ix ix_tup (pv 6) pe_int (fun _ _ => rfl)) (pa_cons (pe_ix ix_tup (pv 6) pe_int (fun _ _ => rfl)) pa_nil))) (pa_cons (pe_call G_law_word (hr.mono (by decide)) (by rfl) T.g_law_word P_law_word B_law_word .nil pass0 (pa_cons (pe_op op_fdiv (pv 5) pe_int) pa_nil)) pa_nil)))) pa_nil)))))) pss_nil))))) (pss_one (ps_ret (pv 3))))), ?_⟩
    refine ⟨Nat.zero_le _, fun c hc => ?_⟩
    have s1 : Same H (upd H c (.lst [])) := Same.new hc
    refine ⟨_, rfl, _, rfl, l, ts, place, rfl, s1 _ _ hl, h0, _, _, rfl, rfl, (by show (0 : Int) < 5; decide), _, rfl, by omega, by omega, ?_⟩
    refine for_range (lo := 0) (n := (atT ts place.toNat % 5).toNat) (fun i σ H' => ∃ ps qs A' S' v4 v5 v6, σ = [some (.ref A.m), some (.ref l), some (.int place), some (.ref c), v4, v5, v6] ∧ MemR K H' A' S' ∧ Nx S.n H A H' A' ∧ Wr S S' i ∧ H' c = some (.lst ps) ∧ ¬ Fp A' S.n c ∧ Paired (PrV H') ps qs ∧ qs.length ≤ i ∧ (∀ q ∈ qs, q.1 < 4 ∧ q.2 < 8))
      ⟨[], [], A, S, none, none, none, rfl, M.same s1, Nx.same s1, ⟨rfl, rfl, rfl, rfl, Nat.le_refl _⟩, upd_same, M.new_out hc, .nil, Nat.le_refl _, fun q h => by cases h⟩ ?_ ?_
    · rintro i σ H' hi ⟨ps, qs, A', S', v4, v5, v6, rfl, M', N', W', hc', fc', hp', hql, hqb⟩
      have hi5 : i < 5 := by omega
      have hl' := N'.keep _ _ hl fl
      -- number, pair
      refine ⟨_, rfl, _, rfl, _, _, rfl, rfl, _, rfl, _, _, rfl, rfl, l, ts, _, rfl, hl', by omega, ?_⟩
      generalize atT ts (place + 1 + (0 + ((i : Nat) : Int))).toNat = num
      refine ⟨_, rfl, _, _, rfl, rfl, (by show (0 : Int) < 2; decide), _, rfl, _, _, rfl, rfl, ⟨by decide, by decide⟩, _, _, rfl, rfl, (by show (0 : Int) < 4; decide), (by show 2 ≤ sizeLine; decide), fun t ht => ?_⟩
      have s2 : Same H' (upd H' t (.tup [.int (num % 2), .int (num / 2 % 4)])) := Same.new ht
      have M2 := M'.same s2
      have N2 : Nx S.n H A (upd H' t (.tup [.int (num % 2), .int (num / 2 % 4)])) A' := N'.trans (Nx.same s2)
      have ht2 : (upd H' t (.tup [.int (num % 2), .int (num / 2 % 4)])) t = some (.tup [.int (((num % 2).toNat : Nat) : Int), .int (((num / 2 % 4).toNat : Nat) : Int)]) := by
        rw [upd_same, Int.toNat_of_nonneg (by omega), Int.toNat_of_nonneg (by omega)]
      have hc2 := s2 _ _ hc'
      have hp2 := Paired.keep (fun _ _ => PrV.keep (Same.tups s2)) hp'
      generalize hH2 : (upd H' t (.tup [.int (num % 2), .int (num / 2 % 4)])) = H2 at *
      refine ⟨_, rfl, _, rfl, ((num % 2).toNat, (num / 2 % 4).toNat), c, ps, qs, ⟨t, rfl, ht2⟩, rfl, .inl hc2, hp2, _, rfl, ?_⟩
      by_cases hin : ((num % 2).toNat, (num / 2 % 4).toNat) ∈ qs
      · have eb : (if true = true then !decide (((num % 2).toNat, (num / 2 % 4).toNat) ∈ qs) else decide (((num % 2).toNat, (num / 2 % 4).toNat) ∈ qs)) = false := by rw [decide_eq_true hin]; rfl
        rw [eb]
        exact ⟨ps, qs, A', S', _, _, _, rfl, M2, N2, ⟨W'.n, W'.ack, W'.buf, W'.box, by have := W'.cnt; omega⟩, hc2, fc', hp2, by omega, hqb⟩
      · have eb : (if true = true then !decide (((num % 2).toNat, (num / 2 % 4).toNat) ∈ qs) else decide (((num % 2).toNat, (num / 2 % 4).toNat) ∈ qs)) = true := by rw [decide_eq_false hin]; rfl
        rw [eb]
        have hpl := Paired.length hp2
        refine ⟨_, rfl, .inl ⟨rfl, _, SqL.of hc2⟩, _, rfl, c, ps, _, rfl, rfl, hc2, small _ (by omega), ?_⟩
        have B3 : But c H2 (upd H2 c (.lst (ps ++ [.ref t]))) := But.up
        have tc2 : ∀ xs, H2 c ≠ some (.tup xs) := fun xs z => by rw [hc2] at z; cases z
        have t3 := B3.tups tc2
        have en := W'.n
        have M3 := M2.but (by rw [en]; exact fc') B3 tc2
        have N3 : Nx S.n H A (upd H2 c (.lst (ps ++ [.ref t]))) A' := N2.upd_new hc
        have ht3 := t3 _ _ ht2
        have hc3 : (upd H2 c (.lst (ps ++ [.ref t]))) c = some (.lst (ps ++ [.ref t])) := upd_same
        have hp3 : Paired (PrV (upd H2 c (.lst (ps ++ [.ref t])))) (ps ++ [.ref t]) (qs ++ [((num % 2).toNat, (num / 2 % 4).toNat)]) := Paired.snoc (Paired.keep (fun _ _ => PrV.keep t3) hp2) ⟨t, rfl, ht3⟩
        have ht3' := t3 _ _ (by rw [← hH2]; exact upd_same : H2 t = some (.tup [.int (num % 2), .int (num / 2 % 4)]))
        generalize (upd H2 c (.lst (ps ++ [.ref t]))) = H3 at *
        obtain ⟨dm, hm⟩ := M3.om
        obtain ⟨dz, hz⟩ := M3.osz
        rw [N'.m] at hm
        refine ⟨_, rfl, A.m, dm, _, rfl, hm, rfl, _, rfl, A.m, _, dm, _, _, rfl, hm, T.c_Memory, T.n_Memory_sizes, rfl, A'.sz, dz, _, rfl, hz, rfl,
          _, rfl, t, _, _, _, rfl, rfl, SqT.of ht3', at_of (j := 0) rfl rfl, _, rfl, t, _, _, _, rfl, rfl, SqT.of ht3', at_of (j := 1) rfl rfl, A'.sz, dz, S'.n, _, _, rfl, hz,
          _, rfl, _, _, rfl, rfl, ⟨by decide, by decide⟩, _, rfl, fun v x H4 hW s4 => ⟨(by show 3 ≤ sizeLine; decide), fun t2 ht4 => ?_⟩⟩
        have s5 : Same H4 _ := Same.new (o := .tup [.str "write", .int (1 + (S'.n : Nat) + 8 * (num % 2) + num / 2 % 4), v]) ht4
        have s35 := Same.trans s4 s5
        have M5 := M3.same s35
        have N5 : Nx S.n H A _ A' := N3.trans (Nx.same s35)
        refine ⟨A', S', 0, t2, .write (num % 2).toNat (num / 2 % 4).toNat x, by rw [N'.m]; rfl, M5, M5.n1, ⟨v, ?_, WdV.keep (Same.tups s5) hW⟩, ⟨by omega, by omega⟩, by have := W'.cnt; omega, fun to l e => (by cases e), fun vr tr H6 A6 S6 E6 _ M6 N6 _ _ => ?_⟩
        · rw [upd_same, Int.toNat_of_nonneg (by omega), Int.toNat_of_nonneg (by omega)]
        · have hc5 := s35 _ _ hc3
          obtain ⟨hc6, fc6⟩ := N6.out hc5 (by rw [en]; exact fc')
          have ec := E6.cnt
          have e6 : S6 = _ := E6
          have wc := W'.cnt
          refine ⟨ps ++ [.ref t], qs ++ [((num % 2).toNat, (num / 2 % 4).toNat)], A6, S6, _, _, _, rfl, M6, N5.trans (by rw [← en]; exact N6), ⟨E6.n.trans en, ?_, ?_, ?_, by omega⟩, hc6, by rw [← en]; exact fc6, Paired.keep (fun _ _ => PrV.keep (Tups.trans (Same.tups s35) (N6.tups M5))) hp3, by rw [List.length_append]; show qs.length + 1 ≤ i + 1; omega, fun q h => ?_⟩
          · rw [e6]; exact W'.ack
          · rw [e6]; exact W'.buf
          · rw [e6]; exact W'.box
          · rcases List.mem_append.mp h with h | h
            · exact hqb q h
            · have := List.mem_singleton.mp h
              subst this
              exact ⟨by show (num % 2).toNat < 4; omega, by show (num / 2 % 4).toNat < 8; omega⟩
    · rintro σ H' ⟨ps, qs, A', S', v4, v5, v6, rfl, M', N', W', hc', fc', hp', hql, hqb⟩
      have : (atT ts place.toNat % 5).toNat ≤ 4 := by omega
      refine ⟨_, rfl, ?_⟩
      exact k c ps qs H' A' S' hc hc' fc' hp' (by omega) hqb ⟨W'.n, W'.ack, W'.buf, W'.box, by have := W'.cnt; omega⟩ M' N'
end
end K8

-- ===== part K8Q =====
set_option Elab.async false
set_option linter.all false
set_option maxRecDepth 100000
set_option maxHeartbeats 4000000
namespace K8
open PySem PySem.Spec PyProof.Rows L2
/-! the run -/
theorem ifS_cut {c : TT} {a b : TS} {D : Ends} {σ : L2.St} {H : Hp} (bv : Bool) (hc : ∀ Q : Bool → Hp → Prop, Q bv H → c σ H Q) (h1 : bv = true → a D σ H) (h2 : bv = false → b D σ H) : tIfS c a b D σ H := by
  refine hc _ ?_
  cases bv with
  | true => exact h1 rfl
  | false => exact h2 rfl
section
variable {ts : List Int} {place n k a b made : Nat} {T : Int} {ps : List (Nat × Nat)} {S S' : MS}
theorem Run.oth {p : Nat} (R : Run (who ts place n) n T ps k S a b made) (hp1 : 1 ≤ p) (hpn : p < n) (O : Oth S p S') : Run (who ts place n) n T ps k S' a b made := by
  rcases O with e | ⟨s, g, E⟩ | E
  · rw [e]; exact R
  · exact R.walk E
  · exact (R.take hp1 hpn E).1
theorem Oth.cnt {p : Nat} (O : Oth S p S') : S'.cnt ≤ S.cnt + 1 := by
  rcases O with e | ⟨s, g, E⟩ | E
  · rw [e]; omega
  · rw [E.cnt]; exact Nat.le_refl _
  · rw [E.cnt]; exact Nat.le_refl _
theorem Oth.en {p : Nat} (O : Oth S p S') : S'.n = S.n := by
  rcases O with e | ⟨s, g, E⟩ | E
  · rw [e]
  · exact E.n
  · exact E.n
end
/-- behind a step of the machine: it has ended, or it goes on -/
def Gone (K : PySem.W.Frag) (H : Hp) (A : AD) (S : MS) (h : Nat → Nat) (n : Nat) (T : Int) (ps : List (Nat × Nat)) (k : Nat) (st ml iv : Addr) (lv last : V) (made : Nat) : Prop :=
  (StAt K H st ml [] last ∧ Done n T ps S made) ∨ ∃ s w a b, Mach K H A n st ml iv s w a b last lv ∧ Run h n T ps k S a b made
/-- a step, told by the run -/
theorem step_run {K : PySem.W.Frag} {H : Hp} {Q : VK} {E : XK} {A : AD} {S : MS} {ts : List Int} {place n k a b made : Nat} {T : Int} {ps : List (Nat × Nat)} {st ml iv s w : Addr} {last lv : V} {m : Addr}
    (em : A.m = m) (M : MemR K H A S) (Ma : Mach K H A n st ml iv s w a b last lv) (R : Run (who ts place n) n T ps k S a b made) (hcnt : S.cnt ≤ 50000) (hl : ps ≠ [] → LeV H lv ⟨T, ps⟩ ∧ (Le.mk T ps).ok) (pk : who ts place n k = 0 ∨ 200 < k)
    (kk : ∀ (mv : Bool) H' A' S' last' made', MemR K H' A' S' → NxX (X3 st ml iv) n H A H' A' → S'.cnt ≤ S.cnt + 1 → Gone K H' A' S' (who ts place n) n T ps (k + 1) st ml iv lv last' made' →
      (mv = false → last' = last ∧ made' = made) → (mv = true → last' = .int (S'.cnt : Nat) ∧ made' = made + 1) → Q (.bl mv) H') : spStep K [.ref st, .ref m, .int 0] H Q E := by
  have sn := R.sn
  subst sn
  subst em
  have an := R.an
  have bn := R.bn
  have n3 := R.n3
  refine ⟨st, ml, iv, s, w, A, S, a, b, last, ⟨T, ps⟩, lv, rfl, M, Ma, hcnt, fun h => hl fun e => ?_, fun ha => (R.togo a (Nat.le_refl _) ha).1, fun na nb H' S1 M1 N1 => ?_, fun ha H' A' S' s' E1 M1 N1 Af => ?_, fun na hb H' A' S' w' b' E1 e1 e2 M1 N1 Af => ?_⟩
  · have := R.nil e
    omega
  · exact kk false H' A S last made M1 N1 (by omega) (.inl ⟨S1, R.done0 (by omega) (by omega)⟩) (fun _ => ⟨rfl, rfl⟩) fun z => by cases z
  · have R' := R.send ha E1
    have hb1 := (R.ab ha).1
    have a1 := R.a1
    exact kk true H' A' S' _ _ M1 N1 (by rw [E1.cnt]; exact Nat.le_refl _) (.inr ⟨s', w, a + 1, b, Af.1 (.inr (by omega)), R'⟩) (fun z => by cases z) fun _ => ⟨rfl, rfl⟩
  · have R' := R.read (by omega) hb pk E1
    by_cases he : S.ack b = T
    · have eb := e1 he
      subst eb
      by_cases hbn : b + 1 < S.n
      · exact kk true H' A' S' _ _ M1 N1 (by rw [E1.cnt]; exact Nat.le_refl _) (.inr ⟨s, w', a, b + 1, Af.1 (.inr hbn), (R'.1 he).2 hbn⟩) (fun z => by cases z) fun _ => ⟨rfl, rfl⟩
      · exact kk true H' A' S' _ _ M1 N1 (by rw [E1.cnt]; exact Nat.le_refl _) (.inl ⟨Af.2 na (by omega), (R'.1 he).1 (by omega)⟩) (fun z => by cases z) fun _ => ⟨rfl, rfl⟩
    · have eb := e2 he
      subst eb
      exact kk true H' A' S' _ _ M1 N1 (by rw [E1.cnt]; exact Nat.le_refl _) (.inr ⟨s, w', a, b', Af.1 (.inr hb), R'.2 he⟩) (fun z => by cases z) fun _ => ⟨rfl, rfl⟩
def spRun (K : PySem.W.Frag) : Sp := fun vs H Q _ => ∃ (A : AD) (S : MS) (st ml iv s w lt : Addr) (lv : V) (T : Int) (ps : List (Nat × Nat)) (n a b : Nat) (ts : List Int) (place : Nat), vs = [.ref A.m, .ref st, .int (n : Nat), .ref lt, .int (place : Nat)] ∧
  MemR K H A S ∧ Mach K H A n st ml iv s w a b .non lv ∧ Run (who ts place n) n T ps 0 S a b 0 ∧ (ps ≠ [] → LeV H lv ⟨T, ps⟩ ∧ (Le.mk T ps).ok) ∧ H lt = some (.lst (ts.map V.int)) ∧ ¬ Fp A n lt ∧ lt ≠ ml ∧ S.cnt ≤ 20000 ∧
  ∀ t last (made : Nat) H' A' S', Done n T ps S' made → (last = .non ∨ ∃ c : Int, last = .int c) → H t = none → H' t = some (.tup [last, .int (made : Nat)]) → StAt K H' st ml [] last → MemR K H' A' S' → NxX (X3 st ml iv) n H A H' A' → S'.cnt ≤ S.cnt + 800 → Q (.ref t) H'
section
variable {P : Program} {w : World} {K : PySem.W.Frag} {mg : Str → Option Value} {base : Heap}
theorem sc_law_run : FnScope ["_law_memory", "_law_stack", "_law_many", "_law_tape_here", "_law_place", "_law_last", "_law_made", "_law_k", "_law_number", "_law_p", "_law_moved"] ["_law_memory", "_law_stack", "_law_many", "_law_tape_here", "_law_place"] (defScope s_law_run) := ⟨rfl, rfl, rfl, by decide +kernel, rfl, by decide +kernel, by decide +kernel⟩
theorem ok_law_run (T : T w K mg) : Ok P w K mg base 7 at_law_run ["_law_memory", "_law_stack", "_law_many", "_law_tape_here", "_law_place"] (spRun K) := by
  obtain ⟨_, G_Stack_ended, B_Stack_ended, P_Stack_ended⟩ := ok_Stack_ended (P := P) (base := base) T
  obtain ⟨_, G_Stack_step, B_Stack_step, P_Stack_step⟩ := ok_Stack_step (P := P) (base := base) T
  obtain ⟨_, G_Memory_access, B_Memory_access, P_Memory_access⟩ := ok_Memory_access (P := P) (base := base) T
  obtain ⟨_, G_law_other, B_law_other, P_law_other⟩ := ok_law_other (P := P) (base := base) T
  obtain ⟨_, G_law_at, B_law_at, P_law_at⟩ := ok_law_at (P := P) (base := base) T
  obtain ⟨fd, F⟩ := T.d_law_run
  refine ⟨fd, F.ok sc_law_run (fun vs H Q E h => ?_) (fun cdv_ A_ outer_ s_ H vs Q E hr h => ?_), F.bindsN fun _ _ _ _ _ _ us hl => match us, hl with | [_, _, _, _, _], _ => rfl, F.kp⟩
  · obtain ⟨A, S, st, ml, iv, s, w_, lt, lv, T_, ps, n, a, b, ts, place, rfl, _⟩ := h
    rfl
  · obtain ⟨A, S, st, ml, iv, s, w_, lt, lv, T_, ps, n, a, b, ts, place, rfl, M, Ma, R, hle, hlt, flt, nlm, hcnt, k⟩ := h
    obtain ⟨⟨dst, hst0⟩, hml0⟩ := Ma.stk
    obtain ⟨div, hiv0⟩ := Ma.inv.ob
    have xlt : ¬ X3 st ml iv lt := fun z => by
      rcases z with z | z | z
      · rw [z, hst0] at hlt; cases hlt
      · exact nlm z
      · rw [z, hiv0] at hlt; cases hlt
    have n1 := R.n1
    have n3 := R.n3
    refine ⟨_, PSs.nox (pss_cons (ps_set (i := 5) sc_law_run.nd rfl (Or.inl rfl) pe_non) (pss_cons (ps_set (i := 6) sc_law_run.nd rfl (Or.inl rfl) pe_int) (pss_cons (ps_for PassesOwn.never rfl (pi_range1 (by rfl) T.f_range (pa_cons pe_int pa_nil)) (pg_name (i := 7) sc_law_run.nd rfl (Or.inl rfl)) (pss_cons (ps_set (i := 8) sc_law_run.nd rfl (Or.inl rfl) (pe_op op_add (pe_call G_law_at (hr.mono (by decide)) (by rfl) T.g_law_at P_law_at B_law_at .nil pass0 (pa_cons (pv 3) (pa_cons (pe_op op_add (pv 4) (pe_op op_mod (pv 7) pe_int)) pa_nil))) (pe_op op_fdiv (pv 7) pe_int))) (pss_cons (ps_set (i := 9) sc_law_run.nd rfl (Or.inl rfl) (pe_op op_mod (pv 8) (pv 2))) (pss_one (ps_if (PW.pt (pw_or (pt_cmpR op_eq (pv 9) pe_int (nomark _)) (pw_or1 (PW.pt (pw_and (pt_cmpR op_gt (pv 7) pe_int (nomark _)) (pw_and1 (pt_cmpR op_eq (pe_op op_mod (pv 7) pe_int) pe_int (nomark _)))))))) (pss_cons (ps_set (i := 10) sc_law_run.nd rfl (Or.inl rfl) (pe_meth (pv 1) T.c_Stack T.m_Stack_step G_Stack_step (hr.mono (by decide)) B_Stack_step .nil pass0 (pa_cons (pv 0) (pa_cons pe_int pa_nil)))) (pss_cons (ps_if (pt_val (pv 10)) (pss_cons (ps_set (i := 6) sc_law_run.nd rfl (Or.inl rfl) (pe_op op_add (pv 6) pe_int)) (pss_one (ps_set (i := 5) sc_law_run.nd rfl (Or.inl rfl) (pe_fld (pv 0) rfl)))) pss_nil) (pss_one (ps_if (pt_val (pe_meth0 (pv 1) T.c_Stack T.m_Stack_ended G_Stack_ended (hr.mono (by decide)) B_Stack_ended .nil pass0 )) (pss_one (ps_ret (pe_tup (pa_cons (pv 5) (pa_cons (pv 6) pa_nil))))) pss_nil)))) (pss_cons (ps_expr (pe_call G_law_other (hr.mono (by decide)) (by rfl) T.g_law_other P_law_other B_law_other .nil pass0 (pa_cons (pv 0) (pa_cons (pv 9) (pa_cons (pe_op op_fdiv (pv 8) (pv 2)) pa_nil))))) (pss_one (ps_if (pt_cmpR op_gt (pv 7) pe_int (nomark _)) (pss_one (ps_expr (pe_meth (pv 0) T.c_Memory T.m_Memory_access G_Memory_access (hr.mono (by decide)) B_Memory_access .nil pass0 (pa_cons (pv 9) (pa_cons (pe_tup (pa_cons pe_str pa_nil)) pa_nil))))) pss_nil)))))))) (pss_one (ps_ret (pe_tup (pa_cons (pv 5) (pa_cons (pe_un un_neg pe_int) pa_nil)))))))), ?_⟩
    refine ⟨_, rfl, by decide, by decide, for_range (lo := 0) (n := (400 : Int).toNat) (fun i σ H' => ∃ A' S' s' w' a b last made v7 v8 v9 v10, σ = [some (.ref A.m), some (.ref st), some (.int (n : Nat)), some (.ref lt), some (.int (place : Nat)), some last, some (.int ((made : Nat) : Int)), v7, v8, v9, v10] ∧
      MemR K H' A' S' ∧ NxX (X3 st ml iv) n H A H' A' ∧ Mach K H' A' n st ml iv s' w' a b last lv ∧ Run (who ts place n) n T_ ps i S' a b made ∧ S'.cnt ≤ S.cnt + 2 * i ∧ (last = .non ∨ ∃ c : Int, last = .int c))
      ⟨A, S, s, w_, a, b, .non, 0, none, none, none, none, rfl, M, NxX.same (Same.refl H), Ma, R, by omega, .inl rfl⟩ ?_ ?_⟩
    · rintro i σ H' hi ⟨A', S', s', w', a, b, last, made, v7, v8, v9, v10, rfl, M', N', Ma', R', hc', hlast⟩
      have hi400 : i < 400 := hi
      have hlt' := N'.keep _ _ hlt xlt flt
      have hw : num ts place i % ((n : Nat) : Int) = ((who ts place n i : Nat) : Int) := by
        unfold who
        rw [Int.toNat_of_nonneg (Int.emod_nonneg _ (by omega))]
      have hwn : who ts place n i < n := who_lt n1
      -- number, p
      refine ⟨_, rfl, _, rfl, _, rfl, _, _, rfl, rfl, (by show (0 : Int) < 40; decide), _, _, rfl, rfl, lt, ts, _, rfl, hlt', by omega, _, rfl, _, _, rfl, rfl, ⟨by decide, by decide⟩, atT ts (place + i % 40), ((i / 40 : Nat) : Int), ?_, ?_, ?_⟩
      · rw [show ((place : Int) + (0 + (i : Int)) % 40).toNat = place + i % 40 by omega]
      · show V.int ((0 + (i : Int)) / 40) = _
        rw [show (0 + (i : Int)) / 40 = ((i / 40 : Nat) : Int) by omega]
      refine ⟨_, rfl, _, rfl, num ts place i, ((n : Nat) : Int), rfl, rfl, (by show (0 : Int) < ((n : Nat) : Int); omega), ?_⟩
      dsimp only
      rw [hw]
      refine ifS_cut (decide (who ts place n i = 0 ∨ (200 < i ∧ i % 3 = 0))) (fun Q2 hQ => ?_) (fun hb => ?_) (fun hb => ?_)
      · -- the test
        refine ⟨_, rfl, rfl, _, rfl, ?_⟩
        by_cases h0 : who ts place n i = 0
        · rw [decide_eq_true (show _ ∨ _ from .inl h0)] at hQ
          rw [decide_eq_true (show V.int ((who ts place n i : Nat) : Int) = V.int 0 by rw [h0]; rfl)]
          exact hQ
        · rw [decide_eq_false (show ¬ V.int ((who ts place n i : Nat) : Int) = V.int 0 from fun z => h0 (by injection z with z; omega))]
          refine ⟨_, rfl, _, _, rfl, rfl, _, rfl, ?_⟩
          by_cases h1 : 200 < i
          · refine iteD (by omega) ?_
            refine ⟨_, rfl, _, _, rfl, rfl, (by show (0 : Int) < 3; decide), rfl, _, rfl, ?_⟩
            by_cases h2 : i % 3 = 0
            · rw [decide_eq_true (show _ ∨ _ from .inr ⟨h1, h2⟩)] at hQ
              rw [decide_eq_true (show V.int ((0 + (i : Int)) % 3) = V.int 0 by rw [show (0 + (i : Int)) % 3 = 0 by omega])]
              exact hQ
            · rw [decide_eq_false (show ¬ (_ ∨ _) from fun z => by rcases z with z | z; exact h0 z; exact h2 z.2)] at hQ
              rw [decide_eq_false (show ¬ V.int ((0 + (i : Int)) % 3) = V.int 0 from fun z => h2 (by injection z with z; omega))]
              exact hQ
          · refine iteDF (by omega) ?_
            rw [decide_eq_false (show ¬ (_ ∨ _) from fun z => by rcases z with z | z; exact h0 z; exact h1 z.1)] at hQ
            exact hQ
      · -- the machine's step
        have hpk := of_decide_eq_true hb
        obtain ⟨⟨d1, hst⟩, hml⟩ := Ma'.stk
        refine ⟨_, rfl, st, d1, _, rfl, hst, rfl, _, rfl, ?_⟩
        dsimp only [tCons, tC, tNil, List.cons_append, List.nil_append]
        refine step_run (A := A') (S := S') N'.m M' Ma' R' (by omega) (fun hps => ⟨LeV.keep ?_ (hle hps).1, (hle hps).2⟩) (by omega) (fun mv H1 A1 S1 last1 made1 M1 N1 hc1 G1 e1 e2 => ?_)
        · intro c xs e
          exact N'.keep _ _ e (fun z => by
            rcases z with z | z | z
            · rw [z, hst0] at e; cases e
            · rw [z, hml0] at e; cases e
            · rw [z, hiv0] at e; cases e) (by rw [← R.sn]; exact M.tup_out e)
        · have hlast1 : last1 = .non ∨ ∃ c : Int, last1 = .int c := by
            cases mv with
            | false => rw [(e1 rfl).1]; exact hlast
            | true => exact .inr ⟨_, (e2 rfl).1⟩
          have N01 := N'.trans N1
          obtain ⟨dm, hm1⟩ := M1.om
          rw [N01.m] at hm1
          refine seq_cutIf (fun σ' H2 => H2 = H1 ∧ σ' = [some (.ref A.m), some (.ref st), some (.int (n : Nat)), some (.ref lt), some (.int (place : Nat)), some last1, some (.int ((made1 : Nat) : Int)), some (.int (0 + (i : Nat))), some (.int (num ts place i)), some (.int ((who ts place n i : Nat) : Int)), some (.bl mv)]) (fun D' hrt hD => ?_) ?_
          · refine ⟨_, rfl, mv, rfl, ?_⟩
            cases mv with
            | false =>
              obtain ⟨rfl, rfl⟩ := e1 rfl
              exact hD _ _ ⟨rfl, rfl⟩
            | true =>
              obtain ⟨rfl, rfl⟩ := e2 rfl
              refine ⟨_, rfl, _, _, rfl, rfl, _, rfl, A.m, _, dm, _, _, rfl, hm1, T.c_Memory, T.n_Memory_count, rfl, ?_⟩
              exact hD _ _ ⟨rfl, rfl⟩
          · rintro σ' H2 ⟨rfl, rfl⟩
            rcases G1 with ⟨⟨⟨d2, hst2⟩, hml2⟩, Dn⟩ | ⟨s2, w2, a2, b2, Ma2, R2⟩
            · refine ⟨_, rfl, st, d2, _, rfl, hst2, rfl, st, ml, [], last1, rfl, ⟨⟨d2, hst2⟩, hml2⟩, true, rfl, ?_⟩
              refine ⟨_, rfl, _, rfl, (by show 2 ≤ sizeLine; decide), fun t ht => ?_⟩
              have s3 : Same H2 _ := Same.new (o := .tup [last1, .int ((made1 : Nat) : Int)]) ht
              exact k t last1 made1 _ A1 S1 Dn hlast1 (N01.live _ ht) upd_same ⟨⟨d2, s3 _ _ hst2⟩, s3 _ _ hml2⟩ (M1.same s3) (N01.trans (NxX.same s3)) (by omega)
            · obtain ⟨⟨d2, hst2⟩, hml2⟩ := Ma2.stk
              refine ⟨_, rfl, st, d2, _, rfl, hst2, rfl, st, ml, [.ref iv], .non, rfl, ⟨⟨d2, hst2⟩, hml2⟩, false, rfl, ?_⟩
              exact ⟨A1, S1, s2, w2, a2, b2, last1, made1, _, _, _, _, rfl, M1, N01, Ma2, R2, by omega, hlast1⟩
      · -- another processor
        have hpk := of_decide_eq_false hb
        have hp1 : 1 ≤ who ts place n i := by omega
        have nf : ¬ (200 < i ∧ i % 3 = 0) := fun z => hpk (.inr z)
        have sn := R'.sn
        obtain ⟨dm, hm'⟩ := M'.om
        refine ⟨_, rfl, _, rfl, _, rfl, _, rfl, num ts place i, ((n : Nat) : Int), rfl, rfl, ⟨by omega, by omega⟩, A', S', who ts place n i, _, (by rw [N'.m]; rfl), M', by omega, by omega, fun H1 A1 S1 O1 M1 N1 => ?_⟩
        have R1 := R'.oth hp1 hwn O1
        have hc1 := O1.cnt
        have N01 : NxX (X3 st ml iv) n H A H1 A1 := N'.trans (by rw [← sn]; exact N1.tox)
        have on : S1.n = n := R1.sn
        have mach : ∀ {H2 A2}, Nx n H' A' H2 A2 → Mach K H2 A2 n st ml iv s' w' a b last lv := fun {H2 A2} N => by
          obtain ⟨⟨d2, hst2⟩, hml2⟩ := Ma'.stk
          obtain ⟨d3, hiv2⟩ := Ma'.inv.ob
          obtain ⟨e1, f1⟩ := N.out hst2 Ma'.o1
          obtain ⟨e2, f2⟩ := N.out hml2 Ma'.o2
          obtain ⟨e3, f3⟩ := N.out hiv2 Ma'.o3
          obtain ⟨e4, f4⟩ := N.out Ma'.inv.sl Ma'.o4
          obtain ⟨e5, f5⟩ := N.out Ma'.inv.wl Ma'.o5
          exact ⟨⟨⟨d2, e1⟩, e2⟩, ⟨⟨d3, by rw [N.sz]; exact e3⟩, e4, e5⟩, f1, f2, f3, f4, f5⟩
        have N1n : Nx n H' A' H1 A1 := by rw [← sn]; exact N1
        refine ⟨_, rfl, _, _, rfl, rfl, _, rfl, ?_⟩
        by_cases h100 : 100 < i
        · refine iteD (by omega) ?_
          obtain ⟨dm1, hm1⟩ := M1.om
          rw [N01.m] at hm1
          refine ⟨_, rfl, A.m, dm1, _, rfl, hm1, rfl, _, rfl, (by show 1 ≤ sizeLine; decide), fun t ht => ?_⟩
          have s2 : Same H1 _ := Same.new (o := .tup [.str "take"]) ht
          refine ⟨A1, S1, who ts place n i, t, .take, (by rw [N01.m]; rfl), M1.same s2, by omega, upd_same, trivial, by omega, fun to l e => (by cases e), fun v tr H3 A3 S3 E3 _ M3 N3 _ _ => ?_⟩
          have ec := E3.cnt
          obtain ⟨R3, hb3⟩ := R1.take hp1 hwn E3
          have N3n := N3
          rw [on] at N3n
          exact ⟨A3, S3, s', w', a, b, last, made, _, _, _, _, rfl, M3, N01.trans (NxX.trans (NxX.same s2) N3n.tox), mach (N1n.trans ((Nx.same s2).trans N3n)), R3.next rfl hp1 nf fun _ ea => hb3 ea, by omega, hlast⟩
        · refine iteDF (by omega) ?_
          exact ⟨A1, S1, s', w', a, b, last, made, _, _, _, _, rfl, M1, N01, mach N1n, R1.next rfl hp1 nf fun z => absurd z h100, by omega, hlast⟩
    · rintro σ H' ⟨A', S', s', w', a, b, last, made, v7, v8, v9, v10, rfl, M', N', Ma', R', hc', hlast⟩
      exact (R'.end (by show 205 ≤ 400; decide)).elim
end
end K8

-- ===== part K8R =====
set_option Elab.async false
set_option linter.all false
set_option maxRecDepth 100000
set_option maxHeartbeats 16000000
namespace K8
open PySem PySem.Spec PyProof.Rows L2
/-! between two turns of the law -/
structure Idle (n : Nat) (T : Int) (S : MS) : Prop where
  box : ∀ p, p < n → S.box p = []
  ack : ∀ p, 1 ≤ p → p < n → S.ack p ≤ T
theorem Idle.oth {n p : Nat} {T : Int} {S S' : MS} (I : Idle n T S) (hp : p < n) (O : Oth S p S') : Idle n T S' := by
  rcases O with e | ⟨s, g, E⟩ | E
  · rw [e]; exact I
  · obtain ⟨bf, _, _, e⟩ := E
    subst e
    exact ⟨I.box, I.ack⟩
  · rcases E with ⟨_, e⟩ | ⟨l, r, e, _⟩
    · subst e
      exact ⟨I.box, I.ack⟩
    · rw [I.box p hp] at e
      cases e
theorem Idle.wr {n i : Nat} {T : Int} {S S' : MS} (I : Idle n T S) (W : Wr S S' i) : Idle n T S' :=
  ⟨fun p h => by rw [W.box]; exact I.box p h, fun p h1 h => by rw [W.ack]; exact I.ack p h1 h⟩
/-- nothing is to be invalidated -/
theorem Run.start0 {ts : List Int} {place n : Nat} {T : Int} {S : MS} (h1 : 1 ≤ n) (h3 : n ≤ 3) (sn : S.n = n) (I : Idle n T S) : Run (who ts place n) n T [] 0 S n n 0 :=
  ⟨h1, h3, sn, h1, Nat.le_refl _, h1, Nat.le_refl _, fun h => absurd h (Nat.lt_irrefl _), ⟨I.box 0 (by omega), fun _ _ z => by cases z⟩, fun p hp hn => .inr ⟨I.box p hn, .inl rfl, I.ack p hp hn, fun _ _ z => by cases z⟩,
    fun p hp hn => by omega, fun p _ hn => I.box p hn, ⟨fun z => absurd rfl z, fun _ => rfl⟩, fun _ => ⟨rfl, rfl⟩, fun _ _ => rfl, .inl rfl, fun p _ hn k' z => by omega, fun z => by omega, fun z => by omega⟩
/-- pairs are to be invalidated -/
theorem Run.start1 {ts : List Int} {place n : Nat} {T : Int} {S : MS} {qs : List (Nat × Nat)} (h1 : 1 ≤ n) (h3 : n ≤ 3) (sn : S.n = n) (I : Idle n T S) (hq : qs ≠ []) :
    Run (who ts place n) n (T + 1) qs 0 { S with buf := fset S.buf 0 (drop qs (S.buf 0)) } 1 1 0 := by
  refine ⟨h1, h3, sn, Nat.le_refl _, h1, Nat.le_refl _, h1, fun _ => ⟨rfl, hq⟩, ⟨I.box 0 (by omega), fun x hx hp => ?_⟩, fun p hp hn => by omega, fun p hp hn => ⟨I.box p hn, by have := I.ack p hp hn; show S.ack p < T + 1; omega⟩, fun p hp hn => by omega, ⟨fun _ => by omega, fun _ => rfl⟩, fun z => absurd z hq,
    fun _ _ => rfl, .inr (Nat.le_refl _), fun p _ hn k' z => by omega, fun z => by omega, fun z => by omega⟩
  have hx' : x ∈ fset S.buf 0 (drop qs (S.buf 0)) 0 := hx
  rw [fset_same] at hx'
  have := (List.mem_filter.mp hx').2
  rw [decide_eq_true hp] at this
  cases this
/-- what stands between two turns -/
structure Base (K : PySem.W.Frag) (n : Nat) (m k tl : Addr) (ts : List Int) (T : Int) (H : Hp) (A : AD) (S : MS) : Prop where
  mem : MemR K H A S
  sn : S.n = n
  am : A.m = m
  ker : KerAt K H k A.m A.sz T
  fk : ¬ Fp A n k
  htl : H tl = some (.lst (ts.map V.int))
  ftl : ¬ Fp A n tl
  idle : Idle n T S
theorem Base.nx {K : PySem.W.Frag} {n : Nat} {m k tl : Addr} {ts : List Int} {T : Int} {H H' : Hp} {A A' : AD} {S S' : MS} (B : Base K n m k tl ts T H A S) (N : Nx n H A H' A') (M' : MemR K H' A' S') (sn : S'.n = n) (I : Idle n T S') : Base K n m k tl ts T H' A' S' := by
  obtain ⟨d, o1, o2, o3, o4, hk⟩ := B.ker
  obtain ⟨hk', fk'⟩ := N.out hk B.fk
  obtain ⟨ht', ft'⟩ := N.out B.htl B.ftl
  exact ⟨M', sn, N.m.trans B.am, ⟨d, o1, o2, o3, o4, by rw [N.m, N.sz]; exact hk'⟩, fk', ht', ft', I⟩
theorem Base.same {K : PySem.W.Frag} {n : Nat} {m k tl : Addr} {ts : List Int} {T : Int} {H H' : Hp} {A : AD} {S : MS} (B : Base K n m k tl ts T H A S) (s : Same H H') : Base K n m k tl ts T H' A S :=
  B.nx (Nx.same s) (B.mem.same s) B.sn B.idle
/-- the making of an invalidation, told by the run that follows -/
theorem inv_start {K : PySem.W.Frag} {H : Hp} {Q : VK} {E : XK} {n : Nat} {m k tl : Addr} {ts : List Int} {T : Int} {A : AD} {S : MS} {iv dx c : Addr} {ps : List V} {qs : List (Nat × Nat)} (place : Nat) (B : Base K n m k tl ts T H A S) (h0 : 0 ≤ T) (hiv : H iv = some (.ins (C_Invalidating K) dx [])) (fiv : ¬ Fp A n iv) (fc : ¬ Fp A n c)
    (hc : H c = some (.lst ps)) (hps : Paired (PrV H) ps qs) (hql : qs.length ≤ 4) (hqb : ∀ q ∈ qs, q.1 < 4 ∧ q.2 < 8)
    (kk : ∀ H4 A4 S4 s w lv a b, MemR K H4 A4 S4 → A4.m = m → KerAt K H4 k A4.m A4.sz (if qs = [] then T else T + 1) → IvAt K H4 iv s w A4.sz n a b .non lv → Run (who ts place n) n (if qs = [] then T else T + 1) qs 0 S4 a b 0 →
      (qs ≠ [] → LeV H4 lv ⟨if qs = [] then T else T + 1, qs⟩ ∧ (Le.mk (if qs = [] then T else T + 1) qs).ok) → ¬ Fp A4 n s → ¬ Fp A4 n w → S4.cnt = S.cnt → NxX (fun b => b = iv ∨ b = k) n H A H4 A4 → Q .non H4) : spInvInit K [.ref iv, .ref k, .int 0, .ref c] H Q E := by
  have sn := B.sn
  subst sn
  have n1 := B.mem.n1
  have n3 := B.mem.n3
  refine ⟨iv, dx, k, A, S, T, c, ps, qs, rfl, hiv, B.ker, B.fk, fiv, fc, B.mem, hc, hps, by omega, fun e H' s w hs hw I' B' => ?_, fun ne H' A' s w lv M' em ez K' I' L' fs fw keep own live => ?_⟩
  · subst e
    obtain ⟨d, o1, o2, o3, o4, hk⟩ := B.ker
    have nkv : k ≠ iv := ne_of hk hiv (by intro q; injection q with _ _ q; cases q)
    have tv : ∀ xs, H iv ≠ some (.tup xs) := fun xs z => by rw [hiv] at z; cases z
    obtain ⟨d', hv'⟩ := I'.ob
    exact kk H' A S s w .non S.n S.n (B.mem.but fiv B' tv) B.am ⟨d, o1, o2, o3, o4, B' _ _ hk nkv⟩ I' (Run.start0 n1 n3 rfl B.idle) (fun z => absurd rfl z) (B.mem.new_out hs) (B.mem.new_out hw) rfl (But.x B' (by rw [hv']; intro z; cases z) (.inl rfl))
  · rw [if_neg ne] at kk
    refine kk H' A' _ s w lv 1 1 M' (em.trans B.am) (by rw [em, ez]; exact K') (by rw [ez]; exact I') (Run.start1 n1 n3 rfl B.idle ne) (fun _ => ⟨L', by show (1 : Int) ≤ T + 1; omega, ne, hqb, by show qs.length ≤ 100; omega⟩) fs fw rfl ⟨fun b o e x f => keep b o e (fun z => x (.inl z)) (fun z => x (.inr z)) f, own, live, em, ez⟩
def spLaw (K : PySem.W.Frag) : Sp := fun vs H Q _ => ∃ (a : Addr) (ns : List Int), vs = [.ref a] ∧ SqL K H a (ns.map V.int) ∧ ns.length ≤ 63 ∧ ∀ H', Q (.bl true) H'
section
variable {P : Program} {w : World} {K : PySem.W.Frag} {mg : Str → Option Value} {base : Heap}
theorem sc_law : FnScope ["_law_script", "_law_tape_here", "_law_many", "_law_memory", "_law_kernel", "_law_space", "_law_page", "_law_ticket", "_law_turn", "_law_k", "_law_number", "_law_pairs", "_law_passed", "_law_stack", "_law_last", "_law_made", "_law_least", "_law_p"] ["_law_script"] (defScope s_law) := ⟨rfl, rfl, rfl, by decide +kernel, rfl, by decide +kernel, by decide +kernel⟩
theorem okF_law (T : T w K mg) {fd : FuncData} (F : DefAt K at_law "law" "law" s_law fd) : FnOk P w K mg base CX0 8 (He.fAd K at_law) fd ["_law_script"] (spLaw K) := by
  obtain ⟨_, G_law_entries, B_law_entries, P_law_entries⟩ := ok_law_entries (P := P) (base := base) T
  obtain ⟨_, G_Memory_peek, B_Memory_peek, P_Memory_peek⟩ := ok_Memory_peek (P := P) (base := base) T
  obtain ⟨_, G_Sizes_acknowledge, B_Sizes_acknowledge, P_Sizes_acknowledge⟩ := ok_Sizes_acknowledge (P := P) (base := base) T
  obtain ⟨_, G_Stack_value, B_Stack_value, P_Stack_value⟩ := ok_Stack_value (P := P) (base := base) T
  obtain ⟨_, G_Stack_ended, B_Stack_ended, P_Stack_ended⟩ := ok_Stack_ended (P := P) (base := base) T
  obtain ⟨_, G_law_run, B_law_run, P_law_run⟩ := ok_law_run (P := P) (base := base) T
  obtain ⟨_, G_Stack_init, B_Stack_init, P_Stack_init⟩ := ok_Stack_init (P := P) (base := base) T
  obtain ⟨_, G_Invalidating_init, B_Invalidating_init, P_Invalidating_init⟩ := ok_Invalidating_init (P := P) (base := base) T
  obtain ⟨_, G_law_change, B_law_change, P_law_change⟩ := ok_law_change (P := P) (base := base) T
  obtain ⟨_, G_law_at, B_law_at, P_law_at⟩ := ok_law_at (P := P) (base := base) T
  obtain ⟨_, G_law_other, B_law_other, P_law_other⟩ := ok_law_other (P := P) (base := base) T
  obtain ⟨_, G_Memory_access, B_Memory_access, P_Memory_access⟩ := ok_Memory_access (P := P) (base := base) T
  obtain ⟨_, G_Sizes_word, B_Sizes_word, P_Sizes_word⟩ := ok_Sizes_word (P := P) (base := base) T
  obtain ⟨_, G_Kernel_init, B_Kernel_init, P_Kernel_init⟩ := ok_Kernel_init (P := P) (base := base) T
  obtain ⟨_, G_Memory_init, B_Memory_init, P_Memory_init⟩ := ok_Memory_init (P := P) (base := base) T
  obtain ⟨_, G_Sizes_init, B_Sizes_init, P_Sizes_init⟩ := ok_Sizes_init (P := P) (base := base) T
  obtain ⟨_, G_law_tape, B_law_tape, P_law_tape⟩ := ok_law_tape (P := P) (base := base) T
  refine F.ok sc_law (fun vs H Q E h => ?_) (fun cdv_ A_ outer_ s_ H vs Q E hr h => ?_)
  · obtain ⟨a, ns, rfl, _⟩ := h
    rfl
  · obtain ⟨a, ns, rfl, hS, hlen, k⟩ := h
    refine ⟨_, PSs.nox (pss_cons (ps_set (i := 1) sc_law.nd rfl (Or.inl rfl) (pe_call G_law_tape (hr.mono (by decide)) (by rfl) T.g_law_tape P_law_tape B_law_tape .nil pass0 (pa_cons (pv 0) pa_nil))) (pss_cons (ps_set (i := 2) sc_law.nd rfl (Or.inl rfl) (pe_op op_add pe_int (pe_op op_mod (pe_call G_law_at (hr.mono (by decide)) (by rfl) T.g_law_at P_law_at B_law_at .nil pass0 (pa_cons (pv 1) (pa_cons pe_int pa_nil))) pe_int))) (pss_cons (ps_set (i := 3) sc_law.nd rfl (Or.inl rfl) (pe_make T.k_Memory G_Memory_init (hr.mono (by decide)) (by rfl) T.g_Memory B_Memory_init .nil pass0 (pa_cons (pe_make T.k_Sizes G_Sizes_init (hr.mono (by decide)) (by rfl) T.g_Sizes B_Sizes_init .nil pass0 (pa_cons (pv 2) (pa_cons pe_int (pa_cons pe_int pa_nil)))) pa_nil))) (pss_cons (ps_set (i := 4) sc_law.nd rfl (Or.inl rfl) (pe_make T.k_Kernel G_Kernel_init (hr.mono (by decide)) (by rfl) T.g_Kernel B_Kernel_init .nil pass0 (pa_cons (pv 3) pa_nil))) (pss_cons (ps_for PassesOwn.never rfl (pi_range1 (by rfl) T.f_range (pa_cons pe_int pa_nil)) (pg_name (i := 5) sc_law.nd rfl (Or.inl rfl)) (pss_one (ps_for PassesOwn.never rfl (pi_range1 (by rfl) T.f_range (pa_cons pe_int pa_nil)) (pg_name (i := 6) sc_law.nd rfl (Or.inl rfl)) (pss_one (ps_expr (pe_meth (pv 3) T.c_Memory T.m_Memory_access G_Memory_access (hr.mono (by decide)) B_Memory_access .nil pass0 (pa_cons pe_int (pa_cons (pe_tup (pa_cons pe_str (pa_cons (pe_meth (pe_fld (pv 3) rfl) T.c_Sizes T.m_Sizes_word G_Sizes_word (hr.mono (by decide)) B_Sizes_word .nil pass0 (pa_cons (pv 5) (pa_cons (pv 6) pa_nil))) (pa_cons (pe_tup (pa_cons pe_str (pa_cons (pv 6) (pa_cons pe_bl pa_nil)))) pa_nil)))) pa_nil)))))))) (pss_cons (ps_set (i := 7) sc_law.nd rfl (Or.inl rfl) pe_int) (pss_cons (ps_for PassesOwn.never rfl (pi_range1 (by rfl) T.f_range (pa_cons (pe_callB (call_min2 rfl) (by rfl) T.f_min b_min (pa_cons pe_int (pa_cons (pe_op op_add pe_int (pe_op op_fdiv (pe_callB call_len_seq (by rfl) T.f_len b_len (pa_cons (pv 1) pa_nil)) pe_int)) pa_nil))) pa_nil)) (pg_name (i := 8) sc_law.nd rfl (Or.inl rfl)) (pss_cons (ps_for PassesOwn.never rfl (pi_range1 (by rfl) T.f_range (pa_cons (pe_op op_mod (pe_call G_law_at (hr.mono (by decide)) (by rfl) T.g_law_at P_law_at B_law_at .nil pass0 (pa_cons (pv 1) (pa_cons (pe_op op_add (pv 8) pe_int) pa_nil))) pe_int) pa_nil)) (pg_name (i := 9) sc_law.nd rfl (Or.inl rfl)) (pss_cons (ps_set (i := 10) sc_law.nd rfl (Or.inl rfl) (pe_call G_law_at (hr.mono (by decide)) (by rfl) T.g_law_at P_law_at B_law_at .nil pass0 (pa_cons (pv 1) (pa_cons (pe_op op_add (pv 8) (pv 9)) pa_nil)))) (pss_one (ps_expr (pe_call G_law_other (hr.mono (by decide)) (by rfl) T.g_law_other P_law_other B_law_other .nil pass0 (pa_cons (pv 3) (pa_cons (pe_op op_mod (pv 10) (pv 2)) (pa_cons (pe_op op_fdiv (pv 10) (pv 2)) pa_nil)))))))) (pss_cons (ps_set (i := 11) sc_law.nd rfl (Or.inl rfl) (pe_call G_law_change (hr.mono (by decide)) (by rfl) T.g_law_change P_law_change B_law_change .nil pass0 (pa_cons (pv 3) (pa_cons (pv 1) (pa_cons (pe_op op_add (pe_op op_mul pe_int (pv 8)) pe_int) pa_nil))))) (pss_cons (ps_set (i := 12) sc_law.nd rfl (Or.inl rfl) (pe_callTy call_list_of (by rfl) T.f_list b_list (pa_cons (pv 11) pa_nil))) (pss_cons (ps_set (i := 13) sc_law.nd rfl (Or.inl rfl) (pe_make T.k_Stack G_Stack_init (hr.mono (by decide)) (by rfl) T.g_Stack B_Stack_init .nil pass0 (pa_cons (pe_make T.k_Invalidating G_Invalidating_init (hr.mono (by decide)) (by rfl) T.g_Invalidating B_Invalidating_init .nil pass0 (pa_cons (pv 4) (pa_cons pe_int (pa_cons (pv 12) pa_nil)))) pa_nil))) (pss_cons (ps_asg (pe_call G_law_run (hr.mono (by decide)) (by rfl) T.g_law_run P_law_run B_law_run .nil pass0 (pa_cons (pv 3) (pa_cons (pv 13) (pa_cons (pv 2) (pa_cons (pv 1) (pa_cons (pe_op op_add (pe_op op_mul pe_int (pv 8)) pe_int) pa_nil)))))) (pg_tup (by rfl) (pgs_cons (pg_name (i := 14) sc_law.nd rfl (Or.inl rfl)) (pgs_cons (pg_name (i := 15) sc_law.nd rfl (Or.inl rfl)) pgs_nil)))) (pss_cons (ps_set (i := 16) sc_law.nd rfl (Or.inl rfl) (pe_op op_mul (pe_op op_mul (pe_callTy call_int1 (by rfl) T.f_int b_int (pa_cons (pe_cmpR op_gt (pe_callB call_len_seq (by rfl) T.f_len b_len (pa_cons (pv 11) pa_nil)) pe_int (nomark _)) pa_nil)) pe_int) (pe_op op_sub (pv 2) pe_int))) (pss_cons (ps_if (PW.pt (pw_or (pt_cmpR op_lt (pv 15) (pv 16) (nomark _)) (pw_or (PW.pt (pw_and (pt_cmpR op_eq (pv 16) pe_int (nomark _)) (pw_and1 (pt_cmpR op_ne (pv 15) pe_int (nomark _))))) (pw_or (pt_not (pt_val (pe_meth0 (pv 13) T.c_Stack T.m_Stack_ended G_Stack_ended (hr.mono (by decide)) B_Stack_ended .nil pass0 ))) (pw_or (pt_cmpR op_ne (pe_meth0 (pv 13) T.c_Stack T.m_Stack_value G_Stack_value (hr.mono (by decide)) B_Stack_value .nil pass0 ) (pv 14) (nomark _)) (pw_or1 (pt_cmpR (op_neD hr.units) (pv 12) (pv 11) (nomark _)))))))) (pss_one (ps_ret pe_bl)) pss_nil) (pss_cons (ps_if (pt_cmpR op_gt (pe_callB call_len_seq (by rfl) T.f_len b_len (pa_cons (pv 11) pa_nil)) pe_int (nomark _)) (pss_cons (ps_set (i := 7) sc_law.nd rfl (Or.inl rfl) (pe_op op_add (pv 7) pe_int)) (pss_one (ps_for PassesOwn.never rfl (pi_range2 (by rfl) T.f_range (pa_cons pe_int (pa_cons (pv 2) pa_nil))) (pg_name (i := 17) sc_law.nd rfl (Or.inl rfl)) (pss_one (ps_if (pt_cmpR op_ne (pe_meth (pv 3) T.c_Memory T.m_Memory_peek G_Memory_peek (hr.mono (by decide)) B_Memory_peek .nil pass0 (pa_cons (pe_meth (pe_fld (pv 3) rfl) T.c_Sizes T.m_Sizes_acknowledge G_Sizes_acknowledge (hr.mono (by decide)) B_Sizes_acknowledge .nil pass0 (pa_cons (pv 17) pa_nil)) pa_nil)) (pv 7) (nomark _)) (pss_one (ps_ret pe_bl)) pss_nil))))) pss_nil) (pss_one (ps_if (PW.pt (pw_or (pt_cmpR op_ne (pe_fld (pv 4) rfl) (pv 7) (nomark _)) (pw_or1 (pt_not (pt_val (pe_call G_law_entries (hr.mono (by decide)) (by rfl) T.g_law_entries P_law_entries B_law_entries .nil pass0 (pa_cons (pv 3) (pa_cons (pv 2) (pa_cons (pv 11) pa_nil))))))))) (pss_one (ps_ret pe_bl)) pss_nil))))))))))) (pss_one (ps_ret pe_bl))))))))), ?_⟩
    -- the tape
    refine ⟨_, rfl, a, ns, rfl, hS, hlen, fun tl ts H1 htl0 htl1 hts s1 => ?_⟩
    -- many
    refine ⟨_, rfl, tl, ts, 0, rfl, htl1, by omega, _, _, rfl, rfl, (by show (0 : Int) < 3; decide), _, _, rfl, rfl, ?_⟩
    obtain ⟨n, hn, n1, n3⟩ : ∃ n : Nat, 1 + atT ts (0 : Int).toNat % 3 = (n : Int) ∧ 1 ≤ n ∧ n ≤ 3 := ⟨(1 + atT ts (0 : Int).toNat % 3).toNat, by omega, by omega, by omega⟩
    dsimp only
    rw [hn]
    -- memory = Memory(Sizes(many, 4, 2))
    refine ⟨_, rfl, ?_⟩
    intro z dz nz ndz nez
    refine ⟨z, dz, n, rfl, upd_same, n1, n3, fun H2 hz2 B2 => ⟨rfl, ?_⟩⟩
    have s2 : Same H1 H2 := Same.made nz ndz B2
    intro m dm nm ndm nem
    obtain ⟨dz', hz2⟩ := hz2
    have hz3 : (upd (upd H2 dm (.own m)) m (.ins (C_Memory K) dm [])) z = some (.ins (C_Sizes K) dz' (fSz n)) := by rw [upd_ne (ne_of_none hz2 nm), upd_ne (ne_of_none hz2 ndm)]; exact hz2
    refine ⟨m, dm, z, dz', n, rfl, upd_same, hz3, n1, n3, fun H3 A M hAm hAz B3 hF => ⟨rfl, ?_⟩⟩
    have s3 : Same H2 H3 := Same.made nm ndm B3
    have htl3 := s3 _ _ (s2 _ _ htl1)
    have ftl3 : ¬ Fp A n tl := fun f => by
      rcases hF tl f with e | e | e
      · rw [e] at htl1
        exact absurd (Same.free s2 nm) (by rw [htl1]; intro y; cases y)
      · rw [e, nz] at htl1; cases htl1
      · have : (upd (upd H2 dm (.own m)) m (.ins (C_Memory K) dm [])) tl = some (.lst (ts.map V.int)) := by
          have t2 := s2 _ _ htl1
          rw [upd_ne (ne_of_none t2 nm), upd_ne (ne_of_none t2 ndm)]
          exact t2
        rw [this] at e
        cases e
    -- kernel = Kernel(memory)
    refine ⟨_, rfl, ?_⟩
    intro kr dk nk ndk nek
    have sk : Same H3 (upd (upd H3 dk (.own kr)) kr (.ins (C_Kernel K) dk [])) := fun b o e => by rw [upd_ne (ne_of_none e nk), upd_ne (ne_of_none e ndk)]; exact e
    have Mk3 := M.same sk
    refine ⟨kr, dk, A, ms0 n, (by rw [hAm]; rfl), upd_same, Mk3, fun H4 K4 B4 => ⟨rfl, ?_⟩⟩
    have fk : ¬ Fp A n kr := M.new_out nk
    have M4 : MemR K H4 A (ms0 n) := Mk3.but fk B4 (fun xs y => by rw [upd_same] at y; cases y)
    have htl4 : H4 tl = some (.lst (ts.map V.int)) := B4 _ _ (sk _ _ htl3) (ne_of_none htl3 nk)
    have Ba : Base K n m kr tl ts 0 H4 A (ms0 n) := ⟨M4, rfl, hAm, K4, fk, htl4, ftl3, ⟨fun _ _ => rfl, fun _ _ _ => Int.le_refl _⟩⟩
    -- the first words
    refine ⟨_, rfl, by decide, by decide, for_range (lo := 0) (n := (2 : Int).toNat) (fun i σ H' => ∃ A' S' v5 v6, σ = [some (.ref a), some (.ref tl), some (.int (n : Nat)), some (.ref m), some (.ref kr), v5, v6, none, none, none, none, none, none, none, none, none, none, none] ∧ Base K n m kr tl ts 0 H' A' S' ∧ S'.cnt ≤ 4 * i)
      ⟨A, ms0 n, none, none, rfl, Ba, Nat.zero_le _⟩ ?_ ?_⟩
    · rintro i σ H' hi ⟨A', S', v5, v6, rfl, B', hc'⟩
      have hi2 : i < 2 := hi
      refine ⟨_, rfl, by decide, by decide, for_range (lo := 0) (n := (4 : Int).toNat) (fun j σ H' => ∃ A' S' v6, σ = [some (.ref a), some (.ref tl), some (.int (n : Nat)), some (.ref m), some (.ref kr), some (.int (0 + (i : Nat))), v6, none, none, none, none, none, none, none, none, none, none, none] ∧ Base K n m kr tl ts 0 H' A' S' ∧ S'.cnt ≤ 4 * i + j)
        ⟨A', S', _, rfl, B', hc'⟩ ?_ ?_⟩
      · rintro j σ H5 hj ⟨A5, S5, v6, rfl, B5, hc5⟩
        have hj4 : j < 4 := hj
        obtain ⟨d5, hm5⟩ := B5.mem.om
        obtain ⟨dz5, hz5⟩ := B5.mem.osz
        rw [B5.am] at hm5
        have sn := B5.sn
        refine ⟨_, rfl, m, d5, _, rfl, hm5, rfl, _, rfl, m, _, d5, _, _, rfl, hm5, T.c_Memory, T.n_Memory_sizes, rfl, A5.sz, dz5, _, rfl, hz5, rfl, _, rfl, _, rfl, A5.sz, dz5, S5.n, _, _, rfl, hz5, _, rfl, (by show 3 ≤ sizeLine; decide), fun t1 ht1 => ⟨(by show 3 ≤ sizeLine; decide), fun t2 ht2 => ?_⟩⟩
        have s5 : Same H5 _ := Same.new (o := .tup [.str "frame", .int (0 + (j : Nat)), .bl true]) ht1
        have s6 : Same _ _ := Same.new (o := .tup [.str "write", .int (1 + (S5.n : Nat) + 8 * (0 + (i : Nat)) + (0 + (j : Nat))), .ref t1]) ht2
        have s56 := Same.trans s5 s6
        refine ⟨A5, S5, 0, t2, .write i j (.fr (0 + (j : Nat)) true), (by rw [B5.am]; rfl), B5.mem.same s56, B5.mem.n1, ⟨.ref t1, ?_, t1, rfl, s6 _ _ upd_same⟩, ⟨by omega, by omega⟩, by omega, fun to l e => (by cases e), fun vr tr H6 A6 S6 E6 _ M6 N6 _ _ => ?_⟩
        · rw [upd_same, show (1 + (S5.n : Int) + 8 * (0 + (i : Int)) + (0 + (j : Int))) = 1 + (S5.n : Int) + 8 * (i : Int) + (j : Int) by omega]
        · have ec := E6.cnt
          have e6 : S6 = _ := E6
          refine ⟨A6, S6, _, rfl, (B5.same s56).nx (by rw [← sn]; exact N6) M6 (E6.n.trans sn) ⟨fun p hp => ?_, fun p h1 hp => ?_⟩, by omega⟩
          · rw [e6]; exact B5.idle.box p hp
          · rw [e6]; exact B5.idle.ack p h1 hp
      · rintro σ H5 ⟨A5, S5, v6, rfl, B5, hc5⟩
        have hc6 : S5.cnt ≤ 4 * i + 4 := hc5
        exact ⟨A5, S5, _, _, rfl, B5, by omega⟩
    rintro σ H5 ⟨A5, S5, v5, v6, rfl, B5, hc5⟩
    have hc8 : S5.cnt ≤ 8 := hc5
    -- for turn in range(min(6, 1 + len(tape) // 8))
    refine ⟨_, rfl, tl, _, rfl, .inl (SqL.of B5.htl), _, _, rfl, rfl, ⟨by decide, by decide⟩, _, _, rfl, rfl, 6, _, rfl, ?_⟩
    dsimp only
    generalize hJ : (if 1 + (((ts.map V.int).length : Nat) : Int) / 8 < 6 then 1 + (((ts.map V.int).length : Nat) : Int) / 8 else 6) = J
    have hJ6 : 1 ≤ J ∧ J ≤ 6 := by
      rw [← hJ]
      split <;> omega
    refine ⟨_, rfl, by omega, by omega, ?_⟩
    refine for_range (D := { nx := fun _ H' => Q (.bl true) H', rt := Q }) (lo := 0) (n := J.toNat) (fun i σ H' => ∃ (A' : AD) (S' : MS) (T : Nat) (v5 v6 v8 v9 v10 v11 v12 v13 v14 v15 v16 v17 : Option V), σ = [some (.ref a), some (.ref tl), some (.int (n : Nat)), some (.ref m), some (.ref kr), v5, v6, some (.int ((T : Nat) : Int)), v8, v9, v10, v11, v12, v13, v14, v15, v16, v17] ∧ Base K n m kr tl ts (T : Nat) H' A' S' ∧ S'.cnt ≤ 8 + 1000 * i)
      ?_ ?_ ?_
    · exact ⟨A5, S5, 0, v5, v6, none, none, none, none, none, none, none, none, none, none, rfl, B5, hc8⟩
    · rintro i σ H6 hi ⟨A6, S6, T_, v5, v6, v8, v9, v10, v11, v12, v13, v14, v15, v16, v17, rfl, B6, hc6⟩
      have hi6 : i < 6 := by omega
      -- for k in range(_law_at(tape, turn + 1) % 7): other processors, this one
      refine ⟨_, rfl, _, rfl, _, _, rfl, rfl, tl, ts, _, rfl, B6.htl, by omega, _, _, rfl, rfl, (by show (0 : Int) < 7; decide), ?_⟩
      obtain ⟨x7, hx7⟩ : ∃ x, x = atT ts (0 + ((i : Nat) : Int) + 1).toNat := ⟨_, rfl⟩
      have hx70 := Int.emod_nonneg x7 (b := 7) (by decide)
      have hx71 := Int.emod_lt_of_pos x7 (b := 7) (by decide)
      rw [← hx7]
      refine ⟨x7 % 7, rfl, by omega, by omega, ?_⟩
      refine for_range (lo := 0) (n := (x7 % 7).toNat) (fun j σ H' => ∃ A' S' v9 v10, σ = [some (.ref a), some (.ref tl), some (.int (n : Nat)), some (.ref m), some (.ref kr), v5, v6, some (.int ((T_ : Nat) : Int)), some (.int (0 + (i : Nat))), v9, v10, v11, v12, v13, v14, v15, v16, v17] ∧ Base K n m kr tl ts (T_ : Nat) H' A' S' ∧ S'.cnt ≤ 8 + 1000 * i + j)
        ⟨A6, S6, _, _, rfl, B6, hc6⟩ ?_ ?_
      · rintro j σ H7 hj ⟨A7, S7, u9, u10, rfl, B7, hc7⟩
        have hj7 : j < 7 := by omega
        refine ⟨_, rfl, _, rfl, _, rfl, _, _, rfl, rfl, tl, ts, _, rfl, B7.htl, by omega, ?_⟩
        generalize atT ts (0 + ((i : Nat) : Int) + (0 + ((j : Nat) : Int))).toNat = num
        have sn := B7.sn
        refine ⟨_, rfl, _, rfl, _, rfl, _, _, rfl, rfl, (by show (0 : Int) < ((n : Nat) : Int); omega), _, rfl, _, rfl, _, _, rfl, rfl, ⟨by omega, by omega⟩, A7, S7, (num % ((n : Nat) : Int)).toNat, num / ((n : Nat) : Int), ?_, B7.mem, ?_, by omega, fun H8 A8 S8 O8 M8 N8 => ?_⟩
        · rw [B7.am, Int.toNat_of_nonneg (Int.emod_nonneg _ (by omega))]
          rfl
        · have e1 := Int.emod_nonneg num (b := ((n : Nat) : Int)) (by omega)
          have e2 := Int.emod_lt_of_pos num (b := ((n : Nat) : Int)) (by omega)
          omega
        · have e1 := Int.emod_nonneg num (b := ((n : Nat) : Int)) (by omega)
          have e2 := Int.emod_lt_of_pos num (b := ((n : Nat) : Int)) (by omega)
          have oc := O8.cnt
          exact ⟨A8, S8, _, _, rfl, B7.nx (by rw [← sn]; exact N8) M8 (O8.en.trans sn) (B7.idle.oth (by omega) O8), by omega⟩
      · rintro σ H7 ⟨A7, S7, u9, u10, rfl, B7, hc7⟩
        have hc7' : S7.cnt ≤ 8 + 1000 * i + 6 := by omega
        have sn := B7.sn
        -- pairs = _law_change(memory, tape, 7 * turn + 1)
        refine ⟨_, rfl, _, rfl, _, rfl, _, _, rfl, rfl, .inl ⟨by decide, by decide⟩, _, _, rfl, rfl, A7, S7, tl, ts, _, (by rw [B7.am]; rfl), B7.mem, by omega, (by rw [sn]; exact B7.ftl), B7.htl, by omega, fun c ps qs H8 A8 S8 hc0 hc8 fc8 hps hql hqb W8 M8 N8 => ?_⟩
        rw [sn] at N8 fc8
        have B8 : Base K n m kr tl ts (T_ : Nat) H8 A8 S8 := B7.nx N8 M8 (W8.n.trans sn) (B7.idle.wr W8)
        have wc := W8.cnt
        -- passed = list(pairs)
        refine ⟨_, rfl, c, ps, rfl, .inl (SqL.of hc8), fun c2 hc2 => ?_⟩
        have s9 : Same H8 (upd H8 c2 (.lst ps)) := Same.new hc2
        have ncc : c ≠ c2 := ne_of_none hc8 hc2
        have B9 := B8.same s9
        have hc9 := s9 _ _ hc8
        have hc29 : (upd H8 c2 (.lst ps)) c2 = some (.lst ps) := upd_same
        have hps9 := Paired.keep (fun _ _ => PrV.keep (Same.tups s9)) hps
        have fc29 : ¬ Fp A8 n c2 := by rw [← B8.sn]; exact M8.new_out hc2
        generalize (upd H8 c2 (.lst ps)) = H9 at *
        -- stack = Stack(Invalidating(kernel, 0, passed))
        refine ⟨_, rfl, _, rfl, ?_⟩
        intro iv div niv ndiv neiv
        have s10 : Same H9 (upd (upd H9 div (.own iv)) iv (.ins (C_Invalidating K) div [])) := fun b o e => by rw [upd_ne (ne_of_none e niv), upd_ne (ne_of_none e ndiv)]; exact e
        have B10 := B9.same s10
        have hv10 : (upd (upd H9 div (.own iv)) iv (.ins (C_Invalidating K) div [])) iv = some (.ins (C_Invalidating K) div []) := upd_same
        have fv10 : ¬ Fp A8 n iv := by rw [← B9.sn]; exact B9.mem.new_out niv
        have ncv : c ≠ iv := ne_of_none hc9 niv
        have nc2v : c2 ≠ iv := ne_of_none hc29 niv
        have ntv : tl ≠ iv := ne_of_none B9.htl niv
        have hps10 := Paired.keep (fun _ _ => PrV.keep (Same.tups s10)) hps9
        refine inv_start (5 * i + 2) B10 (by omega) hv10 fv10 fc29 (s10 _ _ hc29) hps10 hql hqb (fun H11 A11 S11 s w_ lv ia ib M11 am11 K11 I11 R11 L11 fs11 fw11 ec11 N11 => ⟨rfl, ?_⟩)
        have nck : c ≠ kr := by
          obtain ⟨_, _, _, _, _, hk⟩ := B9.ker
          exact ne_of hc9 hk (by intro y; cases y)
        have nc2k : c2 ≠ kr := by
          obtain ⟨_, _, _, _, _, hk⟩ := B9.ker
          exact ne_of hc29 hk (by intro y; cases y)
        have ntk : tl ≠ kr := by
          obtain ⟨_, _, _, _, _, hk⟩ := B9.ker
          exact ne_of B9.htl hk (by intro y; cases y)
        obtain ⟨hc11, fc11⟩ := N11.out (s10 _ _ hc9) (fun y => by rcases y with y | y; exact ncv y; exact nck y) fc8
        obtain ⟨hc211, fc211⟩ := N11.out (s10 _ _ hc29) (fun y => by rcases y with y | y; exact nc2v y; exact nc2k y) fc29
        obtain ⟨htl11, ftl11⟩ := N11.out B10.htl (fun y => by rcases y with y | y; exact ntv y; exact ntk y) B10.ftl
        have fk11 : ¬ Fp A11 n kr := fun f => by
          rcases N11.own kr f with y | y
          · exact B10.fk y
          · obtain ⟨_, _, _, _, _, hk⟩ := B10.ker
            rw [hk] at y
            cases y
        have fv11 : ¬ Fp A11 n iv := fun f => by
          rcases N11.own iv f with y | y
          · exact fv10 y
          · rw [hv10] at y
            cases y
        have t11 : Tups (upd (upd H9 div (.own iv)) iv (.ins (C_Invalidating K) div [])) H11 := fun b xs e => N11.keep b _ e (fun y => by
          rcases y with y | y
          · rw [y, hv10] at e; cases e
          · obtain ⟨_, _, _, _, _, hk⟩ := B10.ker
            rw [y, hk] at e
            cases e) (by rw [← B10.sn]; exact B10.mem.tup_out e)
        have hps11 := Paired.keep (fun _ _ => PrV.keep t11) hps10
        have sn11 := R11.sn
        intro st dst nst ndst nest
        have s12 : Same H11 (upd (upd H11 dst (.own st)) st (.ins (C_Stack K) dst [])) := fun b o e => by rw [upd_ne (ne_of_none e nst), upd_ne (ne_of_none e ndst)]; exact e
        refine ⟨st, dst, .ref iv, rfl, upd_same, fun ml H13 hml St13 B13 => ⟨rfl, ?_⟩⟩
        have s13 : Same H11 H13 := fun b o e => B13 _ _ (s12 _ _ e) (ne_of_none e nst)
        have M13 := M11.same s13
        have nml : H11 ml = none := Same.free s12 hml
        have fst : ¬ Fp A11 n st := by rw [← sn11]; exact M11.new_out nst
        have fml : ¬ Fp A11 n ml := by rw [← sn11]; exact M11.new_out nml
        have Ma13 : Mach K H13 A11 n st ml iv s w_ ia ib .non lv := ⟨St13, ⟨I11.ob.imp fun d e => s13 _ _ e, s13 _ _ I11.sl, s13 _ _ I11.wl⟩, fst, fml, fv11, fs11, fw11⟩
        -- last, made = _law_run(memory, stack, many, tape, 5 * turn + 2)
        refine ⟨_, rfl, _, rfl, _, rfl, _, rfl, _, rfl, _, _, rfl, rfl, .inl ⟨by decide, by decide⟩, _, _, rfl, rfl, ?_⟩
        refine ⟨A11, S11, st, ml, iv, s, w_, tl, lv, _, qs, n, ia, ib, ts, 5 * i + 2, ?_, M13, Ma13, R11, fun e => ⟨LeV.keep (Same.tups s13) (L11 e).1, (L11 e).2⟩, s13 _ _ htl11, ftl11, ne_of_none htl11 nml, by omega, fun t last made H14 A14 S14 Dn hlast ht13 ht14 St14 M14 N14 hc14 => ?_⟩
        · rw [am11]
          show [V.ref m, V.ref st, V.int (n : Nat), V.ref tl, V.int (5 * (0 + (i : Int)) + 2)] = _
          rw [show (5 * (0 + (i : Int)) + 2) = ((5 * i + 2 : Nat) : Int) by omega]
        generalize hT4 : (if qs = [] then ((T_ : Nat) : Int) else ((T_ : Nat) : Int) + 1) = T4 at *
        -- what of the earlier objects is still there
        have nkv : kr ≠ iv := by
          obtain ⟨_, _, _, _, _, hk⟩ := B9.ker
          exact ne_of_none hk niv
        have nx3 : ∀ {b : Addr} {o : HO}, H11 b = some o → b ≠ iv → ¬ X3 st ml iv b := fun {b o} e ne y => by
          rcases y with y | y | y
          · rw [y, nst] at e; cases e
          · rw [y, nml] at e; cases e
          · exact ne y
        have out14 : ∀ {b : Addr} {o : HO}, H11 b = some o → b ≠ iv → ¬ Fp A11 n b → H14 b = some o ∧ ¬ Fp A14 n b := fun {b o} e ne f => N14.out (s13 _ _ e) (nx3 e ne) f
        obtain ⟨hc14', fc14⟩ := out14 hc11 ncv fc11
        obtain ⟨hc214, fc214⟩ := out14 hc211 nc2v fc211
        obtain ⟨htl14, ftl14⟩ := out14 htl11 ntv ftl11
        obtain ⟨dk5, o1, o2, o3, o4, hk11⟩ := K11
        obtain ⟨hk14, fk14⟩ := out14 hk11 nkv fk11
        have t14 : Tups H11 H14 := fun b xs e => N14.keep b _ (s13 _ _ e) (nx3 e (fun y => by
          obtain ⟨d, hv⟩ := I11.ob
          rw [y, hv] at e
          cases e)) (by rw [← sn11]; exact M11.tup_out e)
        have hps14 : Paired (PrV H14) ps qs := Paired.keep (fun _ _ => PrV.keep t14) hps11
        have m14 : A14.m = m := N14.m.trans am11
        have sn14 : S14.n = n := Dn.sn
        obtain ⟨T', hT'⟩ : ∃ T' : Nat, T4 = ((T' : Nat) : Int) := by
          refine ⟨if qs = [] then T_ else T_ + 1, ?_⟩
          rw [← hT4]
          by_cases hq : qs = []
          · rw [if_pos hq, if_pos hq]
          · rw [if_neg hq, if_neg hq]
            omega
        subst hT'
        have hTe : qs = [] → ((T' : Nat) : Int) = ((T_ : Nat) : Int) := fun hq => by rw [← hT4, if_pos hq]
        have hTn : qs ≠ [] → ((T' : Nat) : Int) = ((T_ : Nat) : Int) + 1 := fun hq => by rw [← hT4, if_neg hq]
        have hlen0 : (0 : Int) < ((ps.length : Nat) : Int) ↔ qs ≠ [] := by
          cases hps14 with
          | nil => exact ⟨fun y => (by cases y), fun y => absurd rfl y⟩
          | cons _ _ => exact ⟨fun _ => List.cons_ne_nil _ _, fun _ => by rw [List.length_cons]; omega⟩
        obtain ⟨dm14, hm14⟩ := M14.om
        obtain ⟨dz14, hz14⟩ := M14.osz
        rw [m14] at hm14
        -- last, made, least
        refine ⟨t, _, rfl, SqT.of ht14, rfl, _, _, rfl, _, _, rfl, rfl, ?_⟩
        refine ⟨_, rfl, c, ps, rfl, .inl (SqL.of hc14'), _, _, rfl, rfl, .inr ⟨_, rfl, _, _, rfl, rfl, .inr ⟨by decide, by decide⟩, _, rfl, _, _, rfl, rfl, _, _, rfl, rfl, .inr ⟨by omega, by omega⟩, ?_⟩⟩
        obtain ⟨L, hL⟩ : ∃ L : Int, (if decide ((0 : Int) < ((ps.length : Nat) : Int)) = true then (1 : Int) else 0) * 2 * (((n : Nat) : Int) - 1) = L := ⟨_, rfl⟩
        dsimp only
        rw [hL]
        have hLe : qs = [] → L = 0 := fun hq => by
          rw [← hL, decide_eq_false (fun y => hlen0.mp y hq)]
          simp
        have hLn : qs ≠ [] → L = 2 * (((n : Nat) : Int) - 1) := fun hq => by
          rw [← hL, decide_eq_true (hlen0.mpr hq)]
          simp
        obtain ⟨dn1, dn2⟩ := Dn.many
        -- the five questions
        refine ifS_cut false (fun Q2 hQ => ?_) (fun hb => by cases hb) (fun _ => ?_)
        · refine ⟨_, rfl, _, rfl, _, _, rfl, rfl, _, rfl, iteDF ?_ ?_⟩
          · by_cases hq : qs = []
            · have := hLe hq
              omega
            · have := hLn hq
              have := dn1 hq
              omega
          have qE : ∀ b : Bool, b = false → Q2 b H14 := fun b e => by rw [e]; exact hQ
          refine ⟨_, rfl, rfl, _, rfl, ?_⟩
          by_cases h0 : L = 0
          · refine iteD (by rw [h0]) ?_
            have hm0 : made = 0 := dn2 (by
              by_cases hq : qs = []
              · exact .inl hq
              · have := hLn hq
                exact .inr (by omega))
            refine ⟨_, rfl, rfl, _, rfl, iteN (decide_eq_true (by rw [hm0]; rfl)) ?_⟩
            have stk : StAt K H14 st ml [] last := St14
            obtain ⟨⟨d2, hst2⟩, hml2⟩ := stk
            refine ⟨_, rfl, st, d2, _, rfl, hst2, rfl, st, ml, [], last, rfl, ⟨⟨d2, hst2⟩, hml2⟩, true, rfl, ?_⟩
            refine ⟨_, rfl, st, d2, _, rfl, hst2, rfl, st, ml, [], last, rfl, ⟨⟨d2, hst2⟩, hml2⟩, _, rfl, (by rcases hlast with e | ⟨x, e⟩ <;> rw [e] <;> rfl), _, rfl, iteN (decide_eq_true rfl) ?_⟩
            refine ⟨_, rfl, _, rfl, .list (qs.map prD), .list (qs.map prD), .lst (SqL.of hc214) (prs_dp hps14), .lst (SqL.of hc14') (prs_dp hps14), prDs_shapedL qs, prDs_shapedL qs, _, rfl, qE _ ?_⟩
            rw [show PyData.eqv (.list (qs.map prD)) (.list (qs.map prD)) = true by simp only [PyData.eqv]; exact prs_eqv qs]
            rfl
          · refine iteDF (fun y => h0 (by injection y)) ?_
            have stk : StAt K H14 st ml [] last := St14
            obtain ⟨⟨d2, hst2⟩, hml2⟩ := stk
            refine ⟨_, rfl, st, d2, _, rfl, hst2, rfl, st, ml, [], last, rfl, ⟨⟨d2, hst2⟩, hml2⟩, true, rfl, ?_⟩
            refine ⟨_, rfl, st, d2, _, rfl, hst2, rfl, st, ml, [], last, rfl, ⟨⟨d2, hst2⟩, hml2⟩, _, rfl, (by rcases hlast with e | ⟨x, e⟩ <;> rw [e] <;> rfl), _, rfl, iteN (decide_eq_true rfl) ?_⟩
            refine ⟨_, rfl, _, rfl, .list (qs.map prD), .list (qs.map prD), .lst (SqL.of hc214) (prs_dp hps14), .lst (SqL.of hc14') (prs_dp hps14), prDs_shapedL qs, prDs_shapedL qs, _, rfl, qE _ ?_⟩
            rw [show PyData.eqv (.list (qs.map prD)) (.list (qs.map prD)) = true by simp only [PyData.eqv]; exact prs_eqv qs]
            rfl
        -- the ticket, the acknowledgements
        dsimp only [tNext]
        refine seq_cutIf (fun σ' H' => H' = H14 ∧ ∃ w10 w17, σ' = [some (.ref a), some (.ref tl), some (.int (n : Nat)), some (.ref m), some (.ref kr), v5, v6, some (.int ((T' : Nat) : Int)), some (.int (0 + (i : Nat))), u9, w10, some (.ref c), some (.ref c2), some (.ref st), some last, some (.int ((made : Nat) : Int)), some (.int L), w17]) (fun D' hrt hD => ?_) ?_
        · refine ifS_cut (decide ((0 : Int) < ((ps.length : Nat) : Int))) (fun Q2 hQ => ⟨_, rfl, c, ps, rfl, .inl (SqL.of hc14'), _, _, rfl, rfl, _, rfl, hQ⟩) (fun hb => ?_) (fun hb => ?_)
          · have hq := hlen0.mp (of_decide_eq_true hb)
            refine ⟨_, rfl, _, _, rfl, rfl, ?_⟩
            dsimp only
            rw [← hTn hq]
            refine ⟨_, rfl, 1, ((n : Nat) : Int), rfl, ⟨by decide, by decide, by omega, by omega⟩, ?_⟩
            refine for_range (D := D') (lo := 1) (n := (((n : Nat) : Int) - 1).toNat) (fun j σ H' => H' = H14 ∧ ∃ w10 w17, σ = [some (.ref a), some (.ref tl), some (.int (n : Nat)), some (.ref m), some (.ref kr), v5, v6, some (.int ((T' : Nat) : Int)), some (.int (0 + (i : Nat))), u9, w10, some (.ref c), some (.ref c2), some (.ref st), some last, some (.int ((made : Nat) : Int)), some (.int L), w17])
              ⟨rfl, _, _, rfl⟩ ?_ ?_
            · rintro j σ H' hj ⟨rfl, w10, w17, rfl⟩
              refine ⟨_, rfl, m, dm14, _, rfl, hm14, rfl, _, rfl, m, _, dm14, _, _, rfl, hm14, T.c_Memory, T.n_Memory_sizes, rfl, A14.sz, dz14, _, rfl, hz14, rfl, _, rfl, A14.sz, _, rfl, A14, S14, 1 + (1 + ((j : Nat) : Int)), (by rw [m14]; rfl), M14, by omega, by omega, fun us v hhl hO hv => ?_⟩
              have hv' : us[1 + (1 + j)]? = some v := by
                rw [← hv]
                rw [show (1 + (1 + ((j : Nat) : Int))).toNat = 1 + (1 + j) by omega]
              rw [hO.ack (1 + j) (by omega)] at hv'
              have ev := Option.some.inj hv'
              subst ev
              have ea : S14.ack (1 + j) = ((T' : Nat) : Int) := by
                rcases (Dn.ack (1 + j) (by omega) (by omega)).2 with e | e
                · exact absurd e hq
                · exact e
              refine ⟨_, rfl, rfl, _, rfl, iteN (decide_eq_true (by rw [ea])) ?_⟩
              exact ⟨rfl, _, _, rfl⟩
            · rintro σ H' ⟨rfl, w10, w17, rfl⟩
              exact hD _ _ ⟨rfl, _, _, rfl⟩
          · have hq : qs = [] := by
              by_cases hq : qs = []
              · exact hq
              · exact absurd (hlen0.mpr hq) (of_decide_eq_false hb)
            refine hD _ _ ⟨rfl, u10, v17, ?_⟩
            rw [hTe hq]
            rfl
        · rintro σ' H' ⟨rfl, w10, w17, rfl⟩
          -- the kernel's ticket, the entries
          refine ⟨_, rfl, kr, _, dk5, _, _, rfl, hk14, T.c_Kernel, T.n_Kernel_ticket, rfl, _, rfl, rfl, _, rfl, iteN (decide_eq_true rfl) ?_⟩
          refine ⟨_, rfl, _, rfl, _, rfl, A14, S14, c, ps, qs, (by rw [m14, sn14]; rfl), M14, hc14', hps14, hqb, (by rw [sn14]; exact Dn.box), (by rw [sn14]; exact Dn.coh), fun H15 s15 => ⟨true, rfl, ?_⟩⟩
          exact ⟨A14, S14, T', _, _, _, _, _, _, _, _, _, _, _, _, rfl, ⟨M14.same s15, sn14, m14, ⟨dk5, o1, o2, o3, o4, by rw [N14.m, N14.sz]; exact s15 _ _ hk14⟩, fk14, s15 _ _ htl14, ftl14, ⟨Dn.box, fun p h1 h2 => (Dn.ack p h1 h2).1⟩⟩, by omega⟩
    · rintro σ H6 ⟨A6, S6, T_, v5, v6, v8, v9, v10, v11, v12, v13, v14, v15, v16, v17, rfl, B6, hc6⟩
      exact k H6
end
end K8

-- ===== part K8Z =====
set_option Elab.async false
set_option linter.all false
set_option maxRecDepth 100000
set_option maxHeartbeats 0
namespace K8
open PySem PySem.W PySem.Calls PyProof.Rows L2
/-- the law's function, by the head's facts -/
theorem law_facts {P : Program} {w : World} {K : PySem.W.Frag} {h : Heap} {mg : Str → Option Value} {f : Addr} (X : K.In h) (G : h.Ns mainGlobals mg) (hfa : mg ("law" : Str) = some (.ref f)) (c : He.SaysX fa fn tabs [] exB w h K) :
    ∃ fd : FuncData, (∀ (s : Shared) (v : Value), BindsTo s fd ⟨[v], []⟩ [("_law_script", v)]) ∧ ∀ base : Heap, FnOk P w K mg base CX0 8 f fd ["_law_script"] (spLaw K) := by
  have T := t_of X G c
  obtain ⟨fd, F⟩ := T.d_law
  have e := hfa.symm.trans T.g_law
  cases e
  have b := FunD.bindsA (ps := ["_law_script"]) F fun _ _ _ _ _ _ us hl => match us, hl with | [_], _ => rfl
  exact ⟨fd, fun s v => b s [v] rfl, fun base => okF_law (P := P) (base := base) T F⟩
end K8
open PySem PySem.W PySem.Calls PyProof.Rows
theorem PySem.Challenge.cw_frametally_k08_whole_invalidations_holds : PySem.Challenge.rw_frametally_k08_whole_invalidations.Holds := by
  w_on; o_law
  refine HandSHeadRun.head_any (r := OpenLaw.row PySem.Challenge.rw_frametally_k08_whole_invalidations) (q := view (OpenLaw.row PySem.Challenge.rw_frametally_k08_whole_invalidations).prog [43]) (H := K8.hk) (ob := K8.ob) (M := 5000) (loose := K8.loose) (d := HandSHeadRun.topDef (OpenLaw.row PySem.Challenge.rw_frametally_k08_whole_invalidations).prog 43) (kwd := []) K8.ob_eq
    (by kernel_rfl) (fun s => by kernel_rfl) K8.run (by kernel_rfl) (by kernel_rfl) (by kernel_rfl) (by rfl) (by first | assumption | decide +kernel) (by decide +kernel) ⟨rfl, rfl, rfl, rfl, rfl, by decide +kernel⟩ ?hw ?hc
  case hw => w_witness2
  case hc =>
    refine L2.walk_ofE (l := PySem.Challenge.rw_frametally_k08_whole_invalidations) (n := 63) (k := 8) (x := "_law_script") (CX := L2.CX0) rfl (by decide) (by kernel_rfl) ⟨rfl, by decide, by decide⟩ ?F (fun _ _ _ _ z => z)
    intro w mg fa h Y G hmg0
    obtain ⟨K, KX, c⟩ := Y
    have hmg : mg ("law" : PySem.Str) = some (.ref fa) := by
      have e : (HandSHeadRun.topDef (OpenLaw.row PySem.Challenge.rw_frametally_k08_whole_invalidations).prog 43).name = ("law" : PySem.Str) := by kernel_rfl
      rw [← e]
      exact hmg0
    obtain ⟨fd, hb, hF⟩ := K8.law_facts (P := (PySem.Challenge.rw_frametally_k08_whole_invalidations).prog) (w := w) KX G hmg c
    exact ⟨K, fd, K8.spLaw K, KX, hb, fun H a ns hl _ hS => ⟨a, ns, rfl, hS, hl, fun _ => rfl⟩, fun base _ _ => hF base⟩

