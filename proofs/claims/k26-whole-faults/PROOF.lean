import PyProof.Rows.All
import Wide.All
import OpenK.AllK
import Wide.FinOn
import HandS.ForMost
import HandS.Defaults
import HandS.HeadHook1
import HandS.HeadHook2
import HandS.HeadHook3
import HandS.TupAny
import HandS.Steps
import HandS.Star
import HandS.TupMul
import HandS.Zip
import HandS.DictComp
import HandS.NoneIn
import HandS.Conv
import HandS.Finally
import HandS.More
import HandS.WrittenGet
import HandS.Style
import HandS.Keys
import HandS.Walk
import HandS.ClsMeth
import KE.KUnpackStar
import PySem.Challenge.RW_guestblocks_k26_whole_faults_leave_all_e
set_option Elab.async false
set_option linter.all false
set_option maxRecDepth 100000
set_option maxHeartbeats 4000000
namespace GB
open PySem PySem.Spec PyProof.Rows L2
/-! part P01text -/
def top (i : Nat) : Stmt := PySem.Challenge.pw_guestblocks_k26_whole_faults_leave_all_e.main.body.getD i (.Pass ⟨0, 0, 0, 0⟩)
abbrev s_head_of : Stmt := top 17
abbrev N_head_of : List Str := ["cell", "number", "digits", "word", "shape", "bounds", "digit", "bound"]
theorem sc_head_of : FnScope N_head_of ["cell"] (defScope s_head_of) := ⟨rfl, rfl, rfl, by decide +kernel, rfl, by decide +kernel, by decide +kernel⟩
abbrev s_size_of : Stmt := top 18
abbrev N_size_of : List Str := ["head"]
theorem sc_size_of : FnScope N_size_of ["head"] (defScope s_size_of) := ⟨rfl, rfl, rfl, by decide +kernel, rfl, by decide +kernel, by decide +kernel⟩
abbrev s_State_init : Stmt := inClass (top 27) 0
abbrev N_State_init : List Str := ["self", "cells", "begin", "page"]
theorem sc_State_init : FnScope N_State_init ["self", "cells", "begin"] (defScope s_State_init) := ⟨rfl, rfl, rfl, by decide +kernel, rfl, by decide +kernel, by decide +kernel⟩
abbrev s_State_spot : Stmt := inClass (top 27) 1
abbrev N_State_spot : List Str := ["self", "place"]
theorem sc_State_spot : FnScope N_State_spot ["self", "place"] (defScope s_State_spot) := ⟨rfl, rfl, rfl, by decide +kernel, rfl, by decide +kernel, by decide +kernel⟩
abbrev s_State_is_zero : Stmt := inClass (top 27) 2
abbrev N_State_is_zero : List Str := ["self", "word", "one", "other"]
theorem sc_State_is_zero : FnScope N_State_is_zero ["self"] (defScope s_State_is_zero) := ⟨rfl, rfl, rfl, by decide +kernel, rfl, by decide +kernel, by decide +kernel⟩
abbrev s_State_is_carry : Stmt := inClass (top 27) 3
abbrev N_State_is_carry : List Str := ["self", "word", "one", "other"]
theorem sc_State_is_carry : FnScope N_State_is_carry ["self"] (defScope s_State_is_carry) := ⟨rfl, rfl, rfl, by decide +kernel, rfl, by decide +kernel, by decide +kernel⟩
abbrev s_State_fault : Stmt := inClass (top 27) 4
abbrev N_State_fault : List Str := ["self", "kind", "place"]
theorem sc_State_fault : FnScope N_State_fault ["self", "kind", "place"] (defScope s_State_fault) := ⟨rfl, rfl, rfl, by decide +kernel, rfl, by decide +kernel, by decide +kernel⟩
abbrev s_State_goal : Stmt := inClass (top 27) 5
abbrev N_State_goal : List Str := ["self", "row", "behind", "word"]
theorem sc_State_goal : FnScope N_State_goal ["self", "row", "behind"] (defScope s_State_goal) := ⟨rfl, rfl, rfl, by decide +kernel, rfl, by decide +kernel, by decide +kernel⟩
abbrev s_State_reached : Stmt := inClass (top 27) 6
abbrev N_State_reached : List Str := ["self", "row", "word", "place", "spot"]
theorem sc_State_reached : FnScope N_State_reached ["self", "row"] (defScope s_State_reached) := ⟨rfl, rfl, rfl, by decide +kernel, rfl, by decide +kernel, by decide +kernel⟩
abbrev s_State_do : Stmt := inClass (top 27) 7
abbrev N_State_do : List Str := ["self", "row", "place", "behind", "reach", "goal", "written"]
theorem sc_State_do : FnScope N_State_do ["self", "row", "place", "behind"] (defScope s_State_do) := ⟨rfl, rfl, rfl, by decide +kernel, rfl, by decide +kernel, by decide +kernel⟩
abbrev s_State_change : Stmt := inClass (top 27) 8
abbrev N_State_change : List Str := ["self", "row", "behind", "word", "parts", "one", "other"]
theorem sc_State_change : FnScope N_State_change ["self", "row", "behind"] (defScope s_State_change) := ⟨rfl, rfl, rfl, by decide +kernel, rfl, by decide +kernel, by decide +kernel⟩
abbrev s_need_guest : Stmt := top 31
abbrev N_need_guest : List Str := ["cells", "begin", "at", "cell"]
theorem sc_need_guest : FnScope N_need_guest ["cells", "begin"] (defScope s_need_guest) := ⟨rfl, rfl, rfl, by decide +kernel, rfl, by decide +kernel, by decide +kernel⟩
abbrev s_read_row : Stmt := top 32
abbrev N_read_row : List Str := ["state", "place", "spot", "head", "further"]
theorem sc_read_row : FnScope N_read_row ["state"] (defScope s_read_row) := ⟨rfl, rfl, rfl, by decide +kernel, rfl, by decide +kernel, by decide +kernel⟩
abbrev s_done_alone : Stmt := top 33
abbrev N_done_alone : List Str := ["state", "row", "told"]
theorem sc_done_alone : FnScope N_done_alone ["state"] (defScope s_done_alone) := ⟨rfl, rfl, rfl, by decide +kernel, rfl, by decide +kernel, by decide +kernel⟩
abbrev s_Plain_init : Stmt := inClass (top 34) 0
abbrev N_Plain_init : List Str := ["self", "cells", "begin"]
theorem sc_Plain_init : FnScope N_Plain_init ["self", "cells", "begin"] (defScope s_Plain_init) := ⟨rfl, rfl, rfl, by decide +kernel, rfl, by decide +kernel, by decide +kernel⟩
abbrev s_Plain_go : Stmt := inClass (top 34) 1
abbrev N_Plain_go : List Str := ["self", "count", "first"]
theorem sc_Plain_go : FnScope N_Plain_go ["self", "count"] (defScope s_Plain_go) := ⟨rfl, rfl, rfl, by decide +kernel, rfl, by decide +kernel, by decide +kernel⟩
abbrev s_Plain_advance : Stmt := inClass (top 34) 2
abbrev N_Plain_advance : List Str := ["self"]
theorem sc_Plain_advance : FnScope N_Plain_advance ["self"] (defScope s_Plain_advance) := ⟨rfl, rfl, rfl, by decide +kernel, rfl, by decide +kernel, by decide +kernel⟩
abbrev s_Plain_rows_done : Stmt := inClass (top 34) 4
abbrev N_Plain_rows_done : List Str := ["self"]
theorem sc_Plain_rows_done : FnScope N_Plain_rows_done ["self"] (defScope s_Plain_rows_done) := ⟨rfl, rfl, rfl, by decide +kernel, rfl, by decide +kernel, by decide +kernel⟩
abbrev s_Plain_place : Stmt := inClass (top 34) 5
abbrev N_Plain_place : List Str := ["self"]
theorem sc_Plain_place : FnScope N_Plain_place ["self"] (defScope s_Plain_place) := ⟨rfl, rfl, rfl, by decide +kernel, rfl, by decide +kernel, by decide +kernel⟩
abbrev s_Plain_why : Stmt := inClass (top 34) 6
abbrev N_Plain_why : List Str := ["self"]
theorem sc_Plain_why : FnScope N_Plain_why ["self"] (defScope s_Plain_why) := ⟨rfl, rfl, rfl, by decide +kernel, rfl, by decide +kernel, by decide +kernel⟩
abbrev s_Plain_registers : Stmt := inClass (top 34) 7
abbrev N_Plain_registers : List Str := ["self"]
theorem sc_Plain_registers : FnScope N_Plain_registers ["self"] (defScope s_Plain_registers) := ⟨rfl, rfl, rfl, by decide +kernel, rfl, by decide +kernel, by decide +kernel⟩
abbrev s_Plain_flags : Stmt := inClass (top 34) 8
abbrev N_Plain_flags : List Str := ["self"]
theorem sc_Plain_flags : FnScope N_Plain_flags ["self"] (defScope s_Plain_flags) := ⟨rfl, rfl, rfl, by decide +kernel, rfl, by decide +kernel, by decide +kernel⟩
abbrev s_Plain_cells : Stmt := inClass (top 34) 9
abbrev N_Plain_cells : List Str := ["self"]
theorem sc_Plain_cells : FnScope N_Plain_cells ["self"] (defScope s_Plain_cells) := ⟨rfl, rfl, rfl, by decide +kernel, rfl, by decide +kernel, by decide +kernel⟩
abbrev s_Plain_said : Stmt := inClass (top 34) 10
abbrev N_Plain_said : List Str := ["self"]
theorem sc_Plain_said : FnScope N_Plain_said ["self"] (defScope s_Plain_said) := ⟨rfl, rfl, rfl, by decide +kernel, rfl, by decide +kernel, by decide +kernel⟩
abbrev s_Plain_pages : Stmt := inClass (top 34) 11
abbrev N_Plain_pages : List Str := ["self"]
theorem sc_Plain_pages : FnScope N_Plain_pages ["self"] (defScope s_Plain_pages) := ⟨rfl, rfl, rfl, by decide +kernel, rfl, by decide +kernel, by decide +kernel⟩
abbrev s_Plain_guard : Stmt := inClass (top 34) 12
abbrev N_Plain_guard : List Str := ["self"]
theorem sc_Plain_guard : FnScope N_Plain_guard ["self"] (defScope s_Plain_guard) := ⟨rfl, rfl, rfl, by decide +kernel, rfl, by decide +kernel, by decide +kernel⟩
abbrev s_Block_init : Stmt := inClass (top 43) 0
abbrev N_Block_init : List Str := ["self", "start", "rows", "spots"]
theorem sc_Block_init : FnScope N_Block_init ["self", "start", "rows", "spots"] (defScope s_Block_init) := ⟨rfl, rfl, rfl, by decide +kernel, rfl, by decide +kernel, by decide +kernel⟩
abbrev s_Block_exits : Stmt := inClass (top 43) 1
abbrev N_Block_exits : List Str := ["self", "place", "row", "behind", "found"]
theorem sc_Block_exits : FnScope N_Block_exits ["self"] (defScope s_Block_exits) := ⟨rfl, rfl, rfl, by decide +kernel, rfl, by decide +kernel, by decide +kernel⟩
abbrev s_block_at : Stmt := top 44
abbrev N_block_at : List Str := ["state", "place", "long", "rows", "spots", "page", "spot", "head", "size"]
theorem sc_block_at : FnScope N_block_at ["state", "place", "long"] (defScope s_block_at) := ⟨rfl, rfl, rfl, by decide +kernel, rfl, by decide +kernel, by decide +kernel⟩
abbrev s_Turner_init : Stmt := inClass (top 45) 0
abbrev N_Turner_init : List Str := ["self", "cells", "begin", "long", "room"]
theorem sc_Turner_init : FnScope N_Turner_init ["self", "cells", "begin", "long", "room"] (defScope s_Turner_init) := ⟨rfl, rfl, rfl, by decide +kernel, rfl, by decide +kernel, by decide +kernel⟩
abbrev s_Turner_advance : Stmt := inClass (top 45) 1
abbrev N_Turner_advance : List Str := ["self", "written", "row", "block", "place", "behind"]
theorem sc_Turner_advance : FnScope N_Turner_advance ["self"] (defScope s_Turner_advance) := ⟨rfl, rfl, rfl, by decide +kernel, rfl, by decide +kernel, by decide +kernel⟩
abbrev s_Turner_change_blocks : Stmt := inClass (top 45) 2
abbrev N_Turner_change_blocks : List Str := ["self", "written", "row", "page", "some", "block"]
theorem sc_Turner_change_blocks : FnScope N_Turner_change_blocks ["self", "written", "row"] (defScope s_Turner_change_blocks) := ⟨rfl, rfl, rfl, by decide +kernel, rfl, by decide +kernel, by decide +kernel⟩
abbrev s_Turner_found : Stmt := inClass (top 45) 3
abbrev N_Turner_found : List Str := ["self", "place", "come", "block"]
theorem sc_Turner_found : FnScope N_Turner_found ["self"] (defScope s_Turner_found) := ⟨rfl, rfl, rfl, by decide +kernel, rfl, by decide +kernel, by decide +kernel⟩
abbrev s_Turner_begin : Stmt := inClass (top 45) 4
abbrev N_Turner_begin : List Str := ["self", "block"]
theorem sc_Turner_begin : FnScope N_Turner_begin ["self", "block"] (defScope s_Turner_begin) := ⟨rfl, rfl, rfl, by decide +kernel, rfl, by decide +kernel, by decide +kernel⟩
abbrev s_Turner_make : Stmt := inClass (top 45) 5
abbrev N_Turner_make : List Str := ["self", "place", "block", "eldest", "other"]
theorem sc_Turner_make : FnScope N_Turner_make ["self", "place"] (defScope s_Turner_make) := ⟨rfl, rfl, rfl, by decide +kernel, rfl, by decide +kernel, by decide +kernel⟩
abbrev s_Turner_throw : Stmt := inClass (top 45) 6
abbrev N_Turner_throw : List Str := ["self", "some", "block", "other", "place", "goal"]
theorem sc_Turner_throw : FnScope N_Turner_throw ["self", "some"] (defScope s_Turner_throw) := ⟨rfl, rfl, rfl, by decide +kernel, rfl, by decide +kernel, by decide +kernel⟩
abbrev s_l_dice : Stmt := top 47
abbrev N_l_dice : List Str := ["_law_script", "_law_mixed", "_law_cell"]
theorem sc_l_dice : FnScope N_l_dice ["_law_script"] (defScope s_l_dice) := ⟨rfl, rfl, rfl, by decide +kernel, rfl, by decide +kernel, by decide +kernel⟩
abbrev s_l_next : Stmt := top 48
abbrev N_l_next : List Str := ["_law_dice_here", "_law_many", "_law_found", "_law_cell"]
theorem sc_l_next : FnScope N_l_next ["_law_dice_here", "_law_many"] (defScope s_l_next) := ⟨rfl, rfl, rfl, by decide +kernel, rfl, by decide +kernel, by decide +kernel⟩
abbrev s_l_terms : Stmt := top 49
abbrev N_l_terms : List Str := ["_law_first"]
theorem sc_l_terms : FnScope N_l_terms [] (defScope s_l_terms) := ⟨rfl, rfl, rfl, by decide +kernel, rfl, by decide +kernel, by decide +kernel⟩
abbrev s_l_bounds : Stmt := top 50
abbrev N_l_bounds : List Str := ["_law_term"]
theorem sc_l_bounds : FnScope N_l_bounds ["_law_term"] (defScope s_l_bounds) := ⟨rfl, rfl, rfl, by decide +kernel, rfl, by decide +kernel, by decide +kernel⟩
abbrev s_l_is_long : Stmt := top 51
abbrev N_l_is_long : List Str := ["_law_term"]
theorem sc_l_is_long : FnScope N_l_is_long ["_law_term"] (defScope s_l_is_long) := ⟨rfl, rfl, rfl, by decide +kernel, rfl, by decide +kernel, by decide +kernel⟩
abbrev s_l_head : Stmt := top 52
abbrev N_l_head : List Str := ["_law_cell", "_law_number", "_law_one_here", "_law_other", "_law_term", "_law_bounds_here"]
theorem sc_l_head : FnScope N_l_head ["_law_cell"] (defScope s_l_head) := ⟨rfl, rfl, rfl, by decide +kernel, rfl, by decide +kernel, by decide +kernel⟩
abbrev s_l_code_of : Stmt := top 53
abbrev N_l_code_of : List Str := ["_law_row_here", "_law_term", "_law_digits", "_law_bounds_here", "_law_many", "_law_one_here", "_law_other", "_law_found"]
theorem sc_l_code_of : FnScope N_l_code_of ["_law_row_here"] (defScope s_l_code_of) := ⟨rfl, rfl, rfl, by decide +kernel, rfl, by decide +kernel, by decide +kernel⟩
abbrev s_l_row : Stmt := top 54
abbrev N_l_row : List Str := ["_law_d", "_law_more", "_law_term", "_law_bounds_here", "_law_row_here", "_law_number"]
theorem sc_l_row : FnScope N_l_row ["_law_d"] (defScope s_l_row) := ⟨rfl, rfl, rfl, by decide +kernel, rfl, by decide +kernel, by decide +kernel⟩
abbrev s_l_code : Stmt := top 55
abbrev N_l_code : List Str := ["_law_d", "_law_found", "_law_k", "_law_row_here"]
theorem sc_l_code : FnScope N_l_code ["_law_d"] (defScope s_l_code) := ⟨rfl, rfl, rfl, by decide +kernel, rfl, by decide +kernel, by decide +kernel⟩
abbrev s_l_own : Stmt := top 56
abbrev N_l_own : List Str := ["_law_cells", "_law_first", "_law_g"]
theorem sc_l_own : FnScope N_l_own ["_law_cells", "_law_first"] (defScope s_l_own) := ⟨rfl, rfl, rfl, by decide +kernel, rfl, by decide +kernel, by decide +kernel⟩
abbrev s_l_spot : Stmt := top 57
abbrev N_l_spot : List Str := ["_law_g", "_law_place"]
theorem sc_l_spot : FnScope N_l_spot ["_law_g", "_law_place"] (defScope s_l_spot) := ⟨rfl, rfl, rfl, by decide +kernel, rfl, by decide +kernel, by decide +kernel⟩
abbrev s_l_at : Stmt := top 58
abbrev N_l_at : List Str := ["_law_g", "_law_place", "_law_spot_here", "_law_head_here", "_law_further"]
theorem sc_l_at : FnScope N_l_at ["_law_g", "_law_place"] (defScope s_l_at) := ⟨rfl, rfl, rfl, by decide +kernel, rfl, by decide +kernel, by decide +kernel⟩
abbrev s_l_one : Stmt := top 59
abbrev N_l_one : List Str := ["_law_g", "_law_place", "_law_row_here", "_law_behind", "_law_fault", "_law_spot_here", "_law_held", "_law_goal_here"]
theorem sc_l_one : FnScope N_l_one ["_law_g"] (defScope s_l_one) := ⟨rfl, rfl, rfl, by decide +kernel, rfl, by decide +kernel, by decide +kernel⟩
abbrev s_l_goal : Stmt := top 60
abbrev N_l_goal : List Str := ["_law_g", "_law_row_here", "_law_behind", "_law_term", "_law_goes"]
theorem sc_l_goal : FnScope N_l_goal ["_law_g", "_law_row_here", "_law_behind"] (defScope s_l_goal) := ⟨rfl, rfl, rfl, by decide +kernel, rfl, by decide +kernel, by decide +kernel⟩
abbrev s_l_change : Stmt := top 61
abbrev N_l_change : List Str := ["_law_g", "_law_row_here", "_law_behind", "_law_term", "_law_held", "_law_one_here", "_law_other", "_law_number"]
theorem sc_l_change : FnScope N_l_change ["_law_g", "_law_row_here", "_law_behind"] (defScope s_l_change) := ⟨rfl, rfl, rfl, by decide +kernel, rfl, by decide +kernel, by decide +kernel⟩
abbrev s_l_all : Stmt := top 62
abbrev N_l_all : List Str := ["_law_machine", "_law_found"]
theorem sc_l_all : FnScope N_l_all ["_law_machine"] (defScope s_l_all) := ⟨rfl, rfl, rfl, by decide +kernel, rfl, by decide +kernel, by decide +kernel⟩
abbrev s_law : Stmt := top 63
abbrev N_law : List Str := ["_law_script", "_law_d", "_law_cells", "_law_machine", "_law_g", "_law_step", "_law_before", "_law_post", "_law_row_here", "_law_many", "_law_behind"]
theorem sc_law : FnScope N_law ["_law_script"] (defScope s_law) := ⟨rfl, rfl, rfl, by decide +kernel, rfl, by decide +kernel, by decide +kernel⟩
def gA (K : PySem.W.Frag) (x : Str) : Addr := He.ga K x

/-! part P02mirror -/
inductive W20 where
  | stop | copy | take | add | less | load | store | fetch | send | jump | zero | other | carry | call | back | say | lay | keep | leave | guard
  deriving DecidableEq
namespace W20
def str : W20 → Str
  | stop => "stop" | copy => "copy" | take => "take" | add => "add" | less => "less" | load => "load" | store => "store" | fetch => "fetch" | send => "send" | jump => "jump"
  | zero => "zero" | other => "other" | carry => "carry" | call => "call" | back => "back" | say => "say" | lay => "lay" | keep => "keep" | leave => "leave" | guard => "guard"
def all : List W20 := [stop, copy, take, add, less, load, store, fetch, send, jump, zero, other, carry, call, back, say, lay, keep, leave, guard]
/-- a number behind it -/
def long : W20 → Bool
  | take | load | store | jump | zero | other | carry | call | guard => true
  | _ => false
/-- the bounds of its digits -/
def b1 : W20 → Int
  | stop | jump | zero | other | carry | call | guard => 1
  | _ => 4
def b2 : W20 → Int
  | copy | add | less | fetch | send => 4
  | lay | keep => 8
  | _ => 1
def digits (w : W20) (x y : Int) : List Int := match w with
  | copy | add | less | fetch | send | lay | keep => [x, y]
  | take | load | store | back | say | leave => [x]
  | _ => []
/-- it reaches a cell by N, by a register -/
def byN : W20 → Bool
  | load | store => true
  | _ => false
def byR : W20 → Bool
  | fetch | send => true
  | _ => false
def writes : W20 → Bool
  | store | send => true
  | _ => false
def reads : W20 → Bool
  | load | fetch => true
  | _ => false
/-- it is the last of a block -/
def ends : W20 → Bool
  | stop | jump | zero | other | carry | call | back | lay | keep | leave | guard => true
  | _ => false
def maps : W20 → Bool
  | lay | keep | leave => true
  | _ => false
end W20
structure Head where
  w : W20
  x : Int
  y : Int
structure Row where
  w : W20
  x : Int
  y : Int
  n : Int
def Head.args (h : Head) : List Int := h.w.digits h.x h.y
def Row.head (r : Row) : Head := ⟨r.w, r.x, r.y⟩
def Row.tail (r : Row) : List Int := if r.w.long then [r.n] else []
def Row.args (r : Row) : List Int := r.w.digits r.x r.y ++ r.tail
def Head.vs (h : Head) : List V := .str h.w.str :: h.args.map V.int
def Row.vs (r : Row) : List V := .str r.w.str :: r.args.map V.int
def gi (ns : List Int) (i : Int) : Int := ns.getD i.toNat 0
structure S where
  cells : List Int
  pages : List (Option (Int × Bool))
  held : List Int
  sum : Option (Str × Int × Int)
  place : Int
  post : Option Int
  said : List Int
  why : Str
  many : Int
def zeroOf : Option (Str × Int × Int) → Bool
  | none => false
  | some (w, a, b) => if w = "add" then decide ((a + b) % 10000 = 0) else decide (a = b)
def carryOf : Option (Str × Int × Int) → Bool
  | none => false
  | some (w, a, b) => if w = "add" then decide (a + b > 9999) else decide (a < b)
def headOf (c : Int) : Option Head :=
  if c / 100 < 20 then
    if c / 10 % 10 < (W20.all.getD (c / 100).toNat .stop).b1 ∧ c % 10 < (W20.all.getD (c / 100).toNat .stop).b2 then some ⟨W20.all.getD (c / 100).toNat .stop, c / 10 % 10, c % 10⟩ else none
  else none
def pgOf (pg : List (Option (Int × Bool))) (i : Int) : Option (Int × Bool) := pg.getD i.toNat none
def spotOf (pg : List (Option (Int × Bool))) (p : Int) : Option Int :=
  if 0 ≤ p ∧ p < 64 then (match pgOf pg (p / 16) with
    | none => none
    | some (f, _) => some (f * 16 + p % 16)) else none
inductive Told where
  | bad (k : Str)
  | row (r : Row) (b : Int)
def readRow (cells : List Int) (pg : List (Option (Int × Bool))) (p : Int) : Told := match spotOf pg p with
  | none => .bad "lacks"
  | some s => match headOf (gi cells s) with
    | none => .bad "row"
    | some h => if h.w.long then (match spotOf pg (p + 1) with
        | none => .bad "lacks"
        | some f => .row ⟨h.w, h.x, h.y, gi cells f⟩ (p + 2)) else .row ⟨h.w, h.x, h.y, 0⟩ (p + 1)
/-- the place that a row reads or writes beside -/
def goalPl (s : S) (r : Row) : Option Int := if r.w.byN then some r.n else if r.w.byR then some (gi s.held r.y) else none
inductive Reach where
  | none
  | lacks
  | at_ (spot : Int) (wr : Bool) (page : Int)
def reachOf (s : S) (r : Row) : Reach := match goalPl s r with
  | .none => .none
  | some p => match spotOf s.pages p with
    | .none => .lacks
    | some c => .at_ c r.w.writes (p / 16)
def openPg (s : S) (i : Int) : Bool := match pgOf s.pages i with
  | none => false
  | some (_, o) => o
def kindN (k : Str) : Int := if k = "lacks" then 1 else if k = "kept" then 2 else 3
def faultS (s : S) (k : Str) (p : Int) : S := match s.post with
  | none => { s with place := p, why := k }
  | some g => { s with held := (s.held.set 0 (kindN k)).set 1 p, place := g, post := none, many := s.many + 1 }
def goalOf (s : S) (r : Row) (b : Int) : Int := match r.w with
  | .jump | .call => r.n
  | .back => gi s.held r.x
  | .zero => if zeroOf s.sum = true then r.n else b
  | .other => if zeroOf s.sum = true then b else r.n
  | .carry => if carryOf s.sum = true then r.n else b
  | _ => b
def changeS (s : S) (r : Row) (b : Int) : S := match r.w with
  | .add => { s with sum := some ("add", gi s.held r.x, gi s.held r.y), held := s.held.set r.x.toNat ((gi s.held r.x + gi s.held r.y) % 10000) }
  | .less => { s with sum := some ("less", gi s.held r.x, gi s.held r.y), held := s.held.set r.x.toNat ((gi s.held r.x - gi s.held r.y) % 10000) }
  | .copy => { s with held := s.held.set r.x.toNat (gi s.held r.y) }
  | .take => { s with held := s.held.set r.x.toNat r.n }
  | .lay => { s with pages := s.pages.set r.x.toNat (some (r.y, true)) }
  | .keep => { s with pages := s.pages.set r.x.toNat (some (r.y, false)) }
  | .leave => { s with pages := s.pages.set r.x.toNat none }
  | .call => { s with held := s.held.set 3 b }
  | .say => { s with said := s.said ++ [gi s.held r.x] }
  | .guard => { s with post := some r.n }
  | .stop => { s with why := "stop" }
  | _ => s
/-- a row that has no fault, at p, with b behind it: what it changes but the place and the count -/
def effS (s : S) (r : Row) (b : Int) : S := match reachOf s r with
  | .at_ c true _ => { s with cells := s.cells.set c.toNat (gi s.held r.x) }
  | .at_ c false _ => { s with held := s.held.set r.x.toNat (gi s.cells c) }
  | _ => changeS s r b
def doneS (s : S) (r : Row) (p b : Int) : S := { effS s r b with place := if r.w = .stop then p else goalOf s r b, many := s.many + 1 }
/-- the row's fault -/
def doFault (s : S) (r : Row) : Option Str := match reachOf s r with
  | .lacks => some "lacks"
  | .at_ _ true pg => if openPg s pg = true then none else some "kept"
  | _ => none
/-- a row at p done, or its fault -/
def doS (s : S) (r : Row) (p b : Int) : S := match doFault s r with
  | some k => faultS s k p
  | none => doneS s r p b
/-- what do hands back: the cell written, -1 for none, None at a fault -/
def wroteV (s : S) (r : Row) : V := match doFault s r with
  | some _ => .non
  | none => match reachOf s r with
    | .at_ c true _ => .int c
    | _ => .int (-1)
/-- the next row -/
def stepS (s : S) : S := match readRow s.cells s.pages s.place with
  | .bad k => faultS s k s.place
  | .row r b => doS s r s.place b
/-- the row that is done without a fault -/
def stepRow (s : S) : Option Row := match readRow s.cells s.pages s.place with
  | .bad _ => none
  | .row r _ => match doFault s r with
    | some _ => none
    | none => some r
structure S.Ok (s : S) : Prop where
  cl : s.cells.length = 128
  cr : ∀ c ∈ s.cells, 0 ≤ c ∧ c ≤ 9999
  pl : s.pages.length = 4
  pr : ∀ f o, some (f, o) ∈ s.pages → 0 ≤ f ∧ f < 8
  hl : s.held.length = 4
  hr : ∀ c ∈ s.held, 0 ≤ c ∧ c ≤ 9999
  p0 : 0 ≤ s.place ∧ s.place ≤ 9999
  po : ∀ g, s.post = some g → 0 ≤ g ∧ g ≤ 9999
  sm : ∀ w a b, s.sum = some (w, a, b) → (w = "add" ∨ w = "less") ∧ 0 ≤ a ∧ a ≤ 9999 ∧ 0 ≤ b ∧ b ≤ 9999
  sd : (s.said.length : Int) ≤ s.many
structure Row.Ok (r : Row) : Prop where
  x0 : 0 ≤ r.x
  x1 : r.x < r.w.b1
  y0 : 0 ≤ r.y
  y1 : r.y < r.w.b2
  n0 : 0 ≤ r.n
  n1 : r.n ≤ 9999
theorem gi_mem {ns : List Int} {i : Int} (h0 : 0 ≤ i) (h1 : i < ns.length) : gi ns i ∈ ns := by
  unfold gi
  have h : i.toNat < ns.length := by omega
  rw [List.getD_eq_getElem?_getD, List.getElem?_eq_getElem h]
  exact List.getElem_mem h
theorem W20.b1_le (w : W20) : w.b1 ≤ 4 := by cases w <;> decide
theorem W20.b2_le (w : W20) : w.b2 ≤ 8 := by cases w <;> decide
theorem headOf_ok {c : Int} {h : Head} (h0 : 0 ≤ c) (e : headOf c = some h) : 0 ≤ h.x ∧ h.x < h.w.b1 ∧ 0 ≤ h.y ∧ h.y < h.w.b2 := by
  unfold headOf at e
  split at e
  · split at e
    · rename_i h1
      have e1 := (Option.some.inj e).symm
      subst e1
      exact ⟨by show 0 ≤ c / 10 % 10; omega, h1.1, by show 0 ≤ c % 10; omega, h1.2⟩
    · cases e
  · cases e
theorem pgOf_mem {pg : List (Option (Int × Bool))} {i f : Int} {o : Bool} (e : pgOf pg i = some (f, o)) : some (f, o) ∈ pg := by
  unfold pgOf at e
  rw [List.getD_eq_getElem?_getD] at e
  cases q : pg[i.toNat]? with
  | none => rw [q] at e; cases e
  | some v =>
    rw [q] at e
    have e2 : v = some (f, o) := e
    rw [← e2]
    exact List.mem_of_getElem? q
theorem spotOf_ok {pg : List (Option (Int × Bool))} {p c : Int} (hp : ∀ f o, some (f, o) ∈ pg → 0 ≤ f ∧ f < 8) (e : spotOf pg p = some c) : 0 ≤ c ∧ c < 128 ∧ 0 ≤ p ∧ p < 64 := by
  unfold spotOf at e
  split at e
  · rename_i h
    split at e
    · cases e
    · rename_i f o q
      have e1 := (Option.some.inj e).symm
      subst e1
      have := hp f o (pgOf_mem q)
      omega
  · cases e
theorem readRow_ok {s : S} (ok : s.Ok) {p : Int} {r : Row} {b : Int} (e : readRow s.cells s.pages p = .row r b) : r.Ok ∧ 0 ≤ p ∧ p < 64 ∧ 0 < b ∧ b ≤ 65 := by
  unfold readRow at e
  split at e
  · cases e
  · rename_i c hc
    have hs := spotOf_ok ok.pr hc
    split at e
    · cases e
    · rename_i h hh
      have g0 := ok.cr _ (gi_mem (ns := s.cells) (i := c) hs.1 (by rw [ok.cl]; omega))
      have ho := headOf_ok g0.1 hh
      split at e
      · split at e
        · cases e
        · rename_i f hf
          have hs2 := spotOf_ok ok.pr hf
          have g1 := ok.cr _ (gi_mem (ns := s.cells) (i := f) hs2.1 (by rw [ok.cl]; omega))
          injection e with e1 e2
          subst e1 e2
          exact ⟨⟨ho.1, ho.2.1, ho.2.2.1, ho.2.2.2, g1.1, g1.2⟩, by omega, by omega, by omega, by omega⟩
      · injection e with e1 e2
        subst e1 e2
        exact ⟨⟨ho.1, ho.2.1, ho.2.2.1, ho.2.2.2, by show (0:Int) ≤ 0; omega, by show (0:Int) ≤ 9999; omega⟩, by omega, by omega, by omega, by omega⟩

/-! part P02ok -/
/-! ### the mirror keeps its bounds -/
theorem all_set {α : Type} {P : α → Prop} {xs : List α} {v : α} (i : Nat) (hv : P v) (h : ∀ c ∈ xs, P c) : ∀ c ∈ xs.set i v, P c := fun c hc => by
  rcases List.mem_or_eq_of_mem_set hc with z | z
  · exact h c z
  · rw [z]; exact hv
theorem mod10000 (i : Int) : 0 ≤ i % 10000 ∧ i % 10000 ≤ 9999 := ⟨Int.emod_nonneg _ (by decide), by have := Int.emod_lt_of_pos i (show (0 : Int) < 10000 by decide); omega⟩
theorem S.Ok.held_at {s : S} (ok : s.Ok) {i : Int} (h0 : 0 ≤ i) (h1 : i < 4) : 0 ≤ gi s.held i ∧ gi s.held i ≤ 9999 := ok.hr _ (gi_mem h0 (by rw [ok.hl]; exact h1))
theorem S.Ok.cell_at {s : S} (ok : s.Ok) {i : Int} (h0 : 0 ≤ i) (h1 : i < 128) : 0 ≤ gi s.cells i ∧ gi s.cells i ≤ 9999 := ok.cr _ (gi_mem h0 (by rw [ok.cl]; exact h1))
theorem kindN_ok (k : Str) : 0 ≤ kindN k ∧ kindN k ≤ 9999 := by
  unfold kindN
  split
  · decide
  · split <;> decide
theorem faultS_ok {s : S} (ok : s.Ok) {k : Str} {p : Int} (hp : 0 ≤ p ∧ p ≤ 9999) (hm : 0 ≤ s.many) : (faultS s k p).Ok := by
  obtain ⟨cl, cr, pl, pr, hl, hr, p0, po, sm, sd⟩ := ok
  unfold faultS
  cases e : s.post with
  | none => exact ⟨cl, cr, pl, pr, hl, hr, hp, (fun _ z => by cases z), sm, sd⟩
  | some g => exact ⟨cl, cr, pl, pr, by simp [hl], all_set _ hp (all_set _ (kindN_ok k) hr), po g e, (fun _ z => by cases z), sm, (by dsimp only; omega)⟩
theorem goalOf_ok {s : S} (ok : s.Ok) {r : Row} (ro : r.Ok) {b : Int} (hb : 0 ≤ b ∧ b ≤ 9999) : 0 ≤ goalOf s r b ∧ goalOf s r b ≤ 9999 := by
  have hx := ok.held_at ro.x0 (Int.lt_of_lt_of_le ro.x1 (W20.b1_le _))
  have hn : 0 ≤ r.n ∧ r.n ≤ 9999 := ⟨ro.n0, ro.n1⟩
  unfold goalOf
  cases r.w <;> dsimp only <;> first | exact hn | exact hx | exact hb | (split <;> first | exact hn | exact hb)
/-- what a reading that finds a spot knows of it -/
theorem reach_spot {s : S} (ok : s.Ok) {r : Row} {c pg : Int} {wr : Bool} (e : reachOf s r = .at_ c wr pg) : 0 ≤ c ∧ c < 128 := by
  unfold reachOf at e
  split at e
  · cases e
  · split at e
    · cases e
    · rename_i h
      injection e with e1 _ _
      subst e1
      have := spotOf_ok ok.pr h
      exact ⟨this.1, this.2.1⟩
theorem changeS_ok {s : S} (ok : s.Ok) {r : Row} (ro : r.Ok) {b : Int} (hb : 0 ≤ b ∧ b ≤ 9999) :
    (changeS s r b).cells = s.cells ∧ (changeS s r b).pages.length = 4 ∧ (∀ f o, some (f, o) ∈ (changeS s r b).pages → 0 ≤ f ∧ f < 8) ∧ (changeS s r b).held.length = 4 ∧ (∀ c ∈ (changeS s r b).held, 0 ≤ c ∧ c ≤ 9999) ∧
    (∀ g, (changeS s r b).post = some g → 0 ≤ g ∧ g ≤ 9999) ∧ (∀ w x y, (changeS s r b).sum = some (w, x, y) → (w = "add" ∨ w = "less") ∧ 0 ≤ x ∧ x ≤ 9999 ∧ 0 ≤ y ∧ y ≤ 9999) ∧ (changeS s r b).said.length ≤ s.said.length + 1 := by
  obtain ⟨w, x, y, n⟩ := r
  have hy4 : ∀ v : W20, v.b2 = 4 → y < v.b2 → y < 4 := fun v e h => by rw [e] at h; exact h
  obtain ⟨x0, x1, y0, y1, n0, n1⟩ := ro
  dsimp only at x0 x1 y0 y1 n0 n1
  have hx4 : x < 4 := Int.lt_of_lt_of_le x1 (W20.b1_le _)
  have hy8 : y < 8 := Int.lt_of_lt_of_le y1 (W20.b2_le _)
  have hx := ok.held_at x0 hx4
  obtain ⟨cl, cr, pl, pr, hl, hr, p0, po, sm, sd⟩ := id ok
  have setp : ∀ v : Option (Int × Bool), (∀ f o, v = some (f, o) → 0 ≤ f ∧ f < 8) → ∀ f o, some (f, o) ∈ s.pages.set x.toNat v → 0 ≤ f ∧ f < 8 := fun v hv f o hm => by
    rcases List.mem_or_eq_of_mem_set hm with z | z
    · exact pr f o z
    · exact hv f o z.symm
  cases w <;> dsimp only [changeS] <;> refine ⟨rfl, ?_, ?_, ?_, ?_, ?_, ?_, ?_⟩ <;> first
    | exact pl | exact pr | exact hl | exact hr | exact po | exact sm | (exact Nat.le_succ _)
    | (rw [List.length_set]; exact pl) | (rw [List.length_set]; exact hl)
    | (exact all_set _ (mod10000 _) hr) | (exact all_set _ ⟨n0, n1⟩ hr) | (exact all_set _ hb hr)
    | (exact all_set _ (ok.held_at y0 (hy4 _ rfl y1)) hr)
    | (exact setp _ fun f o z => by injection z with z; injection z with z1 z2; rw [← z1]; exact ⟨y0, hy8⟩)
    | (exact setp _ fun f o z => by cases z)
    | (rw [List.length_append]; exact Nat.le_refl _)
    | (intro g z; injection z with z; rw [← z]; exact ⟨n0, n1⟩)
    | (intro w' a b' z; injection z with z; injection z with z1 z2; injection z2 with z2 z3; rw [← z1, ← z2, ← z3]; exact ⟨.inl rfl, hx.1, hx.2, (ok.held_at y0 (hy4 _ rfl y1)).1, (ok.held_at y0 (hy4 _ rfl y1)).2⟩)
    | (intro w' a b' z; injection z with z; injection z with z1 z2; injection z2 with z2 z3; rw [← z1, ← z2, ← z3]; exact ⟨.inr rfl, hx.1, hx.2, (ok.held_at y0 (hy4 _ rfl y1)).1, (ok.held_at y0 (hy4 _ rfl y1)).2⟩)
theorem doneS_ok {s : S} (ok : s.Ok) {r : Row} (ro : r.Ok) {p b : Int} (hp : 0 ≤ p ∧ p ≤ 9999) (hb : 0 ≤ b ∧ b ≤ 9999) (hm : 0 ≤ s.many) : (doneS s r p b).Ok := by
  have hg := goalOf_ok ok ro hb
  have hpl : 0 ≤ (if r.w = .stop then p else goalOf s r b) ∧ (if r.w = .stop then p else goalOf s r b) ≤ 9999 := by split <;> assumption
  have hx := ok.held_at ro.x0 (Int.lt_of_lt_of_le ro.x1 (W20.b1_le _))
  have ch : effS s r b = changeS s r b → (doneS s r p b).Ok := fun e => by
    obtain ⟨h1, h2, h3, h4, h5, h6, h7, h8⟩ := changeS_ok ok ro hb
    have := ok.sd
    exact ⟨by show (effS s r b).cells.length = 128; rw [e, h1]; exact ok.cl, by show ∀ c ∈ (effS s r b).cells, _; rw [e, h1]; exact ok.cr, by show (effS s r b).pages.length = 4; rw [e]; exact h2, by show ∀ f o, some (f, o) ∈ (effS s r b).pages → _; rw [e]; exact h3,
      by show (effS s r b).held.length = 4; rw [e]; exact h4, by show ∀ c ∈ (effS s r b).held, _; rw [e]; exact h5, hpl, by show ∀ g, (effS s r b).post = some g → _; rw [e]; exact h6, by show ∀ w a b', (effS s r b).sum = some (w, a, b') → _; rw [e]; exact h7,
      by show ((effS s r b).said.length : Int) ≤ s.many + 1; rw [e]; omega⟩
  cases e : reachOf s r with
  | none => exact ch (by unfold effS; rw [e])
  | lacks => exact ch (by unfold effS; rw [e])
  | at_ c wr pg =>
    obtain ⟨c0, c1⟩ := reach_spot ok e
    obtain ⟨cl, cr, pl, pr, hl, hr, p0, po, sm, sd⟩ := id ok
    cases wr with
    | true =>
      have ee : effS s r b = { s with cells := s.cells.set c.toNat (gi s.held r.x) } := by unfold effS; rw [e]
      unfold doneS
      rw [ee]
      exact ⟨by simp [cl], all_set _ hx cr, pl, pr, hl, hr, hpl, po, sm, by dsimp only; omega⟩
    | false =>
      have ee : effS s r b = { s with held := s.held.set r.x.toNat (gi s.cells c) } := by unfold effS; rw [e]
      unfold doneS
      rw [ee]
      exact ⟨cl, cr, pl, pr, by simp [hl], all_set _ (ok.cell_at c0 c1) hr, hpl, po, sm, by dsimp only; omega⟩
theorem S.Ok.m0 {s : S} (ok : s.Ok) : 0 ≤ s.many := by have := ok.sd; omega
theorem doS_ok {s : S} (ok : s.Ok) {r : Row} (ro : r.Ok) {p b : Int} (hp : 0 ≤ p ∧ p ≤ 9999) (hb : 0 ≤ b ∧ b ≤ 9999) : (doS s r p b).Ok := by
  unfold doS
  split
  · exact faultS_ok ok hp ok.m0
  · exact doneS_ok ok ro hp hb ok.m0
theorem stepS_ok {s : S} (ok : s.Ok) : (stepS s).Ok := by
  unfold stepS
  split
  · exact faultS_ok ok ok.p0 ok.m0
  · rename_i r b e
    obtain ⟨ro, _, _, b0, b1⟩ := readRow_ok ok e
    exact doS_ok ok ro ok.p0 ⟨by omega, by omega⟩
theorem faultS_many (s : S) (k : Str) (p : Int) : (faultS s k p).many = s.many + (if s.post = none then 0 else 1) ∧ (faultS s k p).said = s.said := by
  unfold faultS
  cases s.post <;> simp
theorem doS_said {s : S} (ok : s.Ok) {r : Row} (ro : r.Ok) {p b : Int} (hb : 0 ≤ b ∧ b ≤ 9999) : (doS s r p b).said.length ≤ s.said.length + 1 := by
  unfold doS
  split
  · rw [(faultS_many s _ p).2]; exact Nat.le_succ _
  · show (effS s r b).said.length ≤ _
    unfold effS
    split
    · exact Nat.le_succ _
    · exact Nat.le_succ _
    · exact (changeS_ok ok ro hb).2.2.2.2.2.2.2
theorem stepS_said {s : S} (ok : s.Ok) : (stepS s).said.length ≤ s.said.length + 1 := by
  unfold stepS
  split
  · rw [(faultS_many s _ _).2]; exact Nat.le_succ _
  · rename_i r b e
    obtain ⟨ro, _, _, b0, b1⟩ := readRow_ok ok e
    exact doS_said ok ro ⟨by omega, by omega⟩
/-- by how much the count rises: 1, or 0 and the machine ends -/
theorem stepS_many (s : S) : (stepS s).many = s.many + 1 ∨ ((stepS s).many = s.many ∧ s.post = none ∧ (stepS s).why ≠ "") := by
  have hf : ∀ (k : Str) (p : Int), (k = "lacks" ∨ k = "kept" ∨ k = "row") → (faultS s k p).many = s.many + 1 ∨ ((faultS s k p).many = s.many ∧ s.post = none ∧ (faultS s k p).why ≠ "") := fun k p hk => by
    unfold faultS
    cases s.post with
    | none => exact .inr ⟨rfl, rfl, by rcases hk with rfl | rfl | rfl <;> (dsimp only; decide)⟩
    | some g => exact .inl rfl
  unfold stepS
  split
  · rename_i k e
    refine hf _ _ ?_
    unfold readRow at e
    split at e
    · injection e with e; exact .inl e.symm
    · split at e
      · injection e with e; exact .inr (.inr e.symm)
      · split at e
        · split at e
          · injection e with e; exact .inl e.symm
          · cases e
        · cases e
  · unfold doS
    split
    · rename_i k e
      refine hf _ _ ?_
      unfold doFault at e
      split at e
      · injection e with e; exact .inl e.symm
      · split at e
        · cases e
        · injection e with e; exact .inr (.inl e.symm)
      · cases e
    · exact .inl rfl

/-! part P03layer -/
abbrev St' := L2.St
/-! ### wrappers of what follows -/
def kB (Q : Bool → Hp → Prop) : VK := fun x H => ∃ k, x = .bl k ∧ Q k H
def kI (A B : Hp → Prop) : Bool → Hp → Prop := fun c H => if c = true then A H else B H
def kN (Q : Bool → Hp → Prop) : Bool → Hp → Prop := fun c H => Q (!c) H
def kAV (tb : TE) (σ : St') (Q : VK) : VK := fun x H1 => ∃ c, x = .bl c ∧ if c = true then tb σ H1 Q else Q (.bl false) H1
def kOV (tb : TE) (σ : St') (Q : VK) : VK := fun x H1 => ∃ c, x = .bl c ∧ if c = true then Q (.bl true) H1 else tb σ H1 Q
def kNV (Q : VK) : VK := fun x H1 => ∃ c, x = .bl c ∧ Q (.bl (!c)) H1
def kC (r' : R2) (y : V) (tc : TE) (σ : St') (Q : VK) : VK := fun z H => ∃ k, z = .bl k ∧ (if k = true then tc σ H fun w H4 => r' y w H4 Q else Q (.bl false) H)
def kF (C : Addr) (f : Str) (Q : VK) : VK := fun x H1 => ∃ a dx fs v, x = .ref a ∧ H1 a = some (.ins C dx fs) ∧ fs.lookup f = some v ∧ Q v H1
def kSF (C : Addr) (f : Str) (y : V) (N : Hp → Prop) : VK := fun x H2 => ∃ a dx fs, x = .ref a ∧ H2 a = some (.ins C dx fs) ∧ fs.length < 1000 ∧ N (upd H2 a (.ins C dx (putF f y fs)))
def kM (C : Addr) (m : Str) (R : V → Hp → Prop) : VK := fun x H1 => ∃ a dx fs, x = .ref a ∧ H1 a = some (.ins C dx fs) ∧ fs.lookup m = none ∧ R x H1
def kT (Q : VK) : List V → Hp → Prop := fun xs H1 => xs.length ≤ sizeLine ∧ ∀ p, H1 p = none → Q (.ref p) (upd H1 p (.tup xs))
def kL (Q : VK) : List V → Hp → Prop := fun xs H1 => xs.length ≤ sizeLine ∧ ∀ p, H1 p = none → Q (.ref p) (upd H1 p (.lst xs))
def kPt (Q : Option Int → Hp → Prop) : VK := fun x H1 => ∃ i, x = .int i ∧ Q (some i) H1
section
variable {K : PySem.W.Frag} {σ : St'} {H : Hp} {Q : VK} {QB : Bool → Hp → Prop} {QA : List V → Hp → Prop} {v x y : V} {k : Bool} {ta tb tc : TE} {r r' : R2} {t : TE} {c u : TT} {A B : Hp → Prop} {p : Prop}
theorem w_var {i : Nat} (h : σ[i]? = some (some v)) (q : Q v H) : tVar i σ H Q := ⟨v, h, q⟩
theorem w_C (q : Q v H) : tC v σ H Q := q
theorem w_op (q : ta σ H fun x H1 => tb σ H1 fun y H2 => r x y H2 Q) : tOp r ta tb σ H Q := q
theorem w_test (q : t σ H (kB QB)) : tTest t σ H QB := q
theorem w_tB (q : t σ H (kB QB)) : tB t σ H QB := q
theorem w_kB (q : QB k H) : kB QB (.bl k) H := ⟨k, rfl, q⟩
theorem w_and (q : c σ H (kI (fun H1 => u σ H1 QB) (fun H1 => QB false H1))) : tAnd c u σ H QB := q
theorem w_or (q : c σ H (kI (fun H1 => QB true H1) (fun H1 => u σ H1 QB))) : tOr c u σ H QB := q
theorem w_not (q : c σ H (kN QB)) : tNot c σ H QB := q
theorem w_if (q : c σ H (kI (fun H1 => ta σ H1 Q) (fun H1 => tb σ H1 Q))) : tIf c ta tb σ H Q := q
theorem w_andV (q : ta σ H (kAV tb σ Q)) : tAndV ta tb σ H Q := q
theorem w_orV (q : ta σ H (kOV tb σ Q)) : tOrV ta tb σ H Q := q
theorem w_notV (q : ta σ H (kNV Q)) : tNotV ta σ H Q := q
theorem w_chain (q : ta σ H fun x H1 => tb σ H1 fun y H2 => r x y H2 (kC r' y tc σ Q)) : tChain r r' ta tb tc σ H Q := q
theorem kI_T (a : A H) : kI A B true H := by unfold kI; rw [if_pos rfl]; exact a
theorem kI_F (b : B H) : kI A B false H := by unfold kI; rw [if_neg Bool.false_ne_true]; exact b
theorem kI_y [Decidable p] (h : p) (a : A H) : kI A B (decide p) H := by rw [decide_eq_true h]; exact kI_T a
theorem kI_n [Decidable p] (h : ¬ p) (b : B H) : kI A B (decide p) H := by rw [decide_eq_false h]; exact kI_F b
theorem kI_d [Decidable p] (a : p → A H) (b : ¬ p → B H) : kI A B (decide p) H := by
  by_cases h : p
  · exact kI_y h (a h)
  · exact kI_n h (b h)
theorem kI_b (a : k = true → A H) (b : k = false → B H) : kI A B k H := by
  cases k with
  | true => exact kI_T (a rfl)
  | false => exact kI_F (b rfl)
theorem kN_T (q : QB false H) : kN QB true H := q
theorem kN_F (q : QB true H) : kN QB false H := q
theorem kN_d [Decidable p] (q : QB (decide (¬ p)) H) : kN QB (decide p) H := by
  show QB (!decide p) H
  rw [← decide_not]; exact q
theorem kN_N (q : QB k H) : kN QB (!k) H := by
  show QB (!!k) H
  rw [Bool.not_not]; exact q
theorem kN_b (q : QB (!k) H) : kN QB k H := q
theorem kAV_T (q : tb σ H Q) : kAV tb σ Q (.bl true) H := ⟨true, rfl, by rw [if_pos rfl]; exact q⟩
theorem kAV_F (q : Q (.bl false) H) : kAV tb σ Q (.bl false) H := ⟨false, rfl, by rw [if_neg Bool.false_ne_true]; exact q⟩
theorem kAV_d [Decidable p] (a : p → tb σ H Q) (b : ¬ p → Q (.bl false) H) : kAV tb σ Q (.bl (decide p)) H := by
  by_cases h : p
  · rw [decide_eq_true h]; exact kAV_T (a h)
  · rw [decide_eq_false h]; exact kAV_F (b h)
theorem kOV_T (q : Q (.bl true) H) : kOV tb σ Q (.bl true) H := ⟨true, rfl, by rw [if_pos rfl]; exact q⟩
theorem kOV_F (q : tb σ H Q) : kOV tb σ Q (.bl false) H := ⟨false, rfl, by rw [if_neg Bool.false_ne_true]; exact q⟩
theorem kOV_d [Decidable p] (a : p → Q (.bl true) H) (b : ¬ p → tb σ H Q) : kOV tb σ Q (.bl (decide p)) H := by
  by_cases h : p
  · rw [decide_eq_true h]; exact kOV_T (a h)
  · rw [decide_eq_false h]; exact kOV_F (b h)
theorem kNV_b (q : Q (.bl (!k)) H) : kNV Q (.bl k) H := ⟨k, rfl, q⟩
theorem kNV_d [Decidable p] (q : Q (.bl (decide (¬ p))) H) : kNV Q (.bl (decide p)) H := ⟨decide p, rfl, by rw [← decide_not]; exact q⟩
theorem kC_T (q : tc σ H fun w H4 => r' y w H4 Q) : kC r' y tc σ Q (.bl true) H := ⟨true, rfl, by rw [if_pos rfl]; exact q⟩
theorem kC_F (q : Q (.bl false) H) : kC r' y tc σ Q (.bl false) H := ⟨false, rfl, by rw [if_neg Bool.false_ne_true]; exact q⟩
theorem kC_y [Decidable p] (h : p) (q : tc σ H fun w H4 => r' y w H4 Q) : kC r' y tc σ Q (.bl (decide p)) H := by rw [decide_eq_true h]; exact kC_T q
theorem kC_n [Decidable p] (h : ¬ p) (q : Q (.bl false) H) : kC r' y tc σ Q (.bl (decide p)) H := by rw [decide_eq_false h]; exact kC_F q
theorem kC_d [Decidable p] (a : p → tc σ H fun w H4 => r' y w H4 Q) (b : ¬ p → Q (.bl false) H) : kC r' y tc σ Q (.bl (decide p)) H := by
  by_cases h : p
  · exact kC_y h (a h)
  · exact kC_n h (b h)
/-! operators on values -/
theorem w_I0 {g : Int → Int → V} {i j : Int} (q : Q (g i j) H) : rI0 g (.int i) (.int j) H Q := ⟨i, j, rfl, rfl, q⟩
theorem w_I {C : Int → Int → Prop} {g : Int → Int → V} {i j : Int} (h : C i j) (q : Q (g i j) H) : rI C g (.int i) (.int j) H Q := ⟨i, j, rfl, rfl, h, q⟩
theorem w_eqI {i j : Int} (q : Q (.bl (decide (i = j))) H) : rEq (.int i) (.int j) H Q := ⟨rfl, by
  have e : decide (V.int i = V.int j) = decide (i = j) := by simp
  rw [e]; exact q⟩
theorem w_eqS {i j : Str} (q : Q (.bl (decide (i = j))) H) : rEq (.str i) (.str j) H Q := ⟨rfl, by
  have e : decide (V.str i = V.str j) = decide (i = j) := by simp
  rw [e]; exact q⟩
theorem w_eqB {i j : Bool} (q : Q (.bl (decide (i = j))) H) : rEq (.bl i) (.bl j) H Q := ⟨rfl, by
  have e : decide (V.bl i = V.bl j) = decide (i = j) := by simp
  rw [e]; exact q⟩
theorem w_neI {i j : Int} (q : Q (.bl (decide (¬ i = j))) H) : rNe (.int i) (.int j) H Q := ⟨rfl, by
  have e : (!decide (V.int i = V.int j)) = decide (¬ i = j) := by simp
  rw [e]; exact q⟩
theorem w_neS {i j : Str} (q : Q (.bl (decide (¬ i = j))) H) : rNe (.str i) (.str j) H Q := ⟨rfl, by
  have e : (!decide (V.str i = V.str j)) = decide (¬ i = j) := by simp
  rw [e]; exact q⟩
theorem w_isN (q : Q (.bl (decide (x = .non))) H) : rIsN x .non H Q := ⟨rfl, q⟩
theorem w_isNT (q : Q (.bl true) H) : rIsN .non .non H Q := ⟨rfl, q⟩
theorem w_isNF {a : Addr} (q : Q (.bl false) H) : rIsN (.ref a) .non H Q := ⟨rfl, q⟩
theorem w_isNFI {a : Int} (q : Q (.bl false) H) : rIsN (.int a) .non H Q := ⟨rfl, q⟩
theorem w_noN (q : Q (.bl (!decide (x = .non))) H) : rNotN x .non H Q := ⟨rfl, q⟩
theorem w_noNF (q : Q (.bl false) H) : rNotN .non .non H Q := ⟨rfl, q⟩
theorem w_noNT {a : Addr} (q : Q (.bl true) H) : rNotN (.ref a) .non H Q := ⟨rfl, q⟩
theorem w_noNTI {a : Int} (q : Q (.bl true) H) : rNotN (.int a) .non H Q := ⟨rfl, q⟩
/-! fields, methods, displays -/
theorem w_kF {C a dx : Addr} {f : Str} {fs : List (Str × V)} (ho : H a = some (.ins C dx fs)) (hl : fs.lookup f = some v) (q : Q v H) : kF C f Q (.ref a) H := ⟨a, dx, fs, v, rfl, ho, hl, q⟩
theorem w_kSF {C a dx : Addr} {f : Str} {fs : List (Str × V)} {N : Hp → Prop} (ho : H a = some (.ins C dx fs)) (hl : fs.length < 1000) (q : N (upd H a (.ins C dx (putF f y fs)))) : kSF C f y N (.ref a) H := ⟨a, dx, fs, rfl, ho, hl, q⟩
theorem w_kM {C a dx : Addr} {m : Str} {fs : List (Str × V)} {R : V → Hp → Prop} (ho : H a = some (.ins C dx fs)) (hl : fs.lookup m = none) (q : R (.ref a) H) : kM C m R (.ref a) H := ⟨a, dx, fs, rfl, ho, hl, q⟩
theorem w_kT {xs : List V} (hl : xs.length ≤ sizeLine) (q : ∀ p, H p = none → Q (.ref p) (upd H p (.tup xs))) : kT Q xs H := ⟨hl, q⟩
theorem w_kL {xs : List V} (hl : xs.length ≤ sizeLine) (q : ∀ p, H p = none → Q (.ref p) (upd H p (.lst xs))) : kL Q xs H := ⟨hl, q⟩
theorem w_tup {tA : TA} (q : tA σ H (kT Q)) : tTup tA σ H Q := q
theorem w_lst {tA : TA} (q : tA σ H (kL Q)) : tLst tA σ H Q := q
theorem w_nil (q : QA [] H) : tNil σ H QA := q
theorem w_cons {tr : TA} (q : ta σ H fun x H1 => tr σ H1 fun xs H2 => QA (x :: xs) H2) : tCons ta tr σ H QA := q
theorem w_CB {rr : List V → Hp → VK → Prop} {tA : TA} (q : tA σ H fun vs H1 => rr vs H1 Q) : tCB rr tA σ H Q := q
theorem w_call {sp : Sp} {dvs : List V} {E : XK} {tA : TA} (q : tA σ H fun vs H1 => sp (vs ++ dvs) H1 Q E) : tCall sp dvs E tA σ H Q := q
theorem w_meth {C : Addr} {m : Str} {sp : Sp} {dvs : List V} {E : XK} {tA : TA} (q : ta σ H (kM C m fun x H1 => tA σ H1 fun vs H2 => sp (x :: (vs ++ dvs)) H2 Q E)) : tMeth C m sp dvs E ta tA σ H Q := q
/-! subscripts -/
theorem w_ixL {p : Addr} {xs : List V} {i : Int} (h : SqL K H p xs) (ha : atI xs i = some v) (q : Q v H) : rIxL K (.ref p) (.int i) H Q := ⟨p, xs, i, v, rfl, rfl, h, ha, q⟩
theorem w_ixT {p : Addr} {xs : List V} {i : Int} (h : SqT K H p xs) (ha : atI xs i = some v) (q : Q v H) : rIxT K (.ref p) (.int i) H Q := ⟨p, xs, i, v, rfl, rfl, h, ha, q⟩
/-! statements -/
variable {n b d : St' → Hp → Prop} {rt : VK} {s1 s2 : TS}
theorem w_seq (q : s1 ⟨s2 ⟨n, rt, b, d⟩, rt, b, d⟩ σ H) : tSeq s1 s2 ⟨n, rt, b, d⟩ σ H := q
theorem w_next (q : n σ H) : tNext ⟨n, rt, b, d⟩ σ H := q
theorem w_brk (q : b σ H) : tBreak ⟨n, rt, b, d⟩ σ H := q
theorem w_cont (q : d σ H) : tCont ⟨n, rt, b, d⟩ σ H := q
theorem w_ret (q : ta σ H rt) : tRet ta ⟨n, rt, b, d⟩ σ H := q
theorem w_retN (q : rt .non H) : tRetN ⟨n, rt, b, d⟩ σ H := q
theorem w_drop (q : ta σ H fun _ H1 => n σ H1) : tDrop ta ⟨n, rt, b, d⟩ σ H := q
theorem w_ifS (q : c σ H (kI (fun H1 => s1 ⟨n, rt, b, d⟩ σ H1) (fun H1 => s2 ⟨n, rt, b, d⟩ σ H1))) : tIfS c s1 s2 ⟨n, rt, b, d⟩ σ H := q
theorem w_asg {g : TG} (q : ta σ H fun x H1 => g x σ H1 n) : tAsg ta g ⟨n, rt, b, d⟩ σ H := q
theorem w_gName {i : Nat} {N : St' → Hp → Prop} {σ' : St'} (e : σ.set i (some v) = σ') (q : N σ' H) : gName i v σ H N := by
  subst e; exact q
end
section
variable {X : Cx} {e o : Expr} {te ta tv : TE} {pos pos' : Pos} {C : Addr} {f : Str}
/-- e.f, the class known -/
def tF (C : Addr) (f : Str) (ta : TE) : TE := fun σ H Q => ta σ H (kF C f Q)
theorem w_F {σ : St'} {H : Hp} {Q : VK} (q : ta σ H (kF C f Q)) : tF C f ta σ H Q := q
theorem pe_f (he : PE X e te) (c : Cls X.K C) (n : NoAttr X.K C f) (hb : attributeBase e f X.env (eval e X.env) = eval e X.env := by rfl) : PE X (.Attribute e f pos) (tF C f te) := by
  refine ⟨fun pins s σ H Q I h => ?_⟩
  refine attr_of hb (thn (he.run pins s σ H _ I h) fun u s1 ⟨x, H1, I1, rx, a, dx, fs, v, ex, ea, l, q⟩ => ?_)
  subst ex
  obtain rfl : u = Value.ref a := rx
  exact getattr_ok I1 ea c n l fun u' s2 I2 ru => ⟨v, H1, I2, ru, q⟩
/-- e.f = value, the class known -/
def sF_ (C : Addr) (f : Str) (ta tv : TE) : TS := fun D σ H => tv σ H fun y H1 => ta σ H1 (kSF C f y fun H' => D.nx σ H')
theorem w_sF {σ : St'} {H : Hp} {n b d : St' → Hp → Prop} {rt : VK} (q : tv σ H fun y H1 => ta σ H1 (kSF C f y fun H' => n σ H')) : sF_ C f ta tv ⟨n, rt, b, d⟩ σ H := q
theorem ps_f {value : Expr} (ha : PE X o ta) (hv : PE X value tv) (c : Cls X.K C) (n : NoAttr X.K C f) (hs : swapsWith value (some (.Attribute o f pos')) pos.line X.env = pure false := by rfl) : PS X (.Assign [.Attribute o f pos'] value pos) (sF_ C f ta tv) := by
  refine ⟨fun pins s σ H D I h => ?_⟩
  refine plainObj_wpAny_Assign_Attribute (thn (hv.run pins s σ H _ I h) fun u s1 ⟨y, H1, I1, ry, q⟩ => thn (ha.run pins s1 σ H1 _ I1 q) fun ov s2 ⟨x, H2, I2, rx, a, dx, fs, ex, ea, l, q2⟩ => ?_) hs
  subst ex
  obtain rfl : ov = Value.ref a := rx
  exact setattr_ok I2 ea c n l ry fun s3 I3 => ⟨σ, _, I3, q2⟩
/-- o.f as a target -/
def gF (C : Addr) (f : Str) (ta : TE) : TG := fun v σ H N => ta σ H (kSF C f v fun H' => N σ H')
theorem w_gF {σ : St'} {H : Hp} {v : V} {N : St' → Hp → Prop} (q : ta σ H (kSF C f v fun H' => N σ H')) : gF C f ta v σ H N := q
theorem pg_f (ha : PE X o ta) (c : Cls X.K C) (n : NoAttr X.K C f)
    (hs : ∀ v, assign (.Attribute o f pos) X.env v = (do
      let ov ← holding [v] (eval o X.env)
      standAt pos.atName
      holding [v, ov] (setAttr ov f v)
      release [v, ov] []) := by intro _; rfl) : PG X (.Attribute o f pos) (gF C f ta) := by
  refine ⟨fun pins s σ H v u N I r h => ?_⟩
  rw [hs]
  refine wpAny_bind (wpAny_holding (thn (ha.run pins s σ H _ I h) fun ov s1 ⟨x, H1, I1, rx, a, dx, fs, ex, ea, l, q2⟩ => ?_))
  subst ex
  obtain rfl : ov = Value.ref a := rx
  refine wpAny_bind (wpAny_standAt (wpAny_bind (wpAny_holding (setattr_ok I1 ea c n l r fun s3 I3 => ?_))))
  exact wpAny_release ⟨σ, _, I3, q2⟩
/-- e.f op= value -/
def kAug (C : Addr) (f : Str) (tv : TE) (rd : V → V → Hp → VK → Prop) (σ : St') (N : Hp → Prop) : VK := fun x H1 => ∃ a dx fs v, x = .ref a ∧ H1 a = some (.ins C dx fs) ∧ fs.lookup f = some v ∧
  tv σ H1 fun y H2 => rd v y H2 fun z H3 => ∃ dx' fs', H3 a = some (.ins C dx' fs') ∧ fs'.length < 1000 ∧ N (upd H3 a (.ins C dx' (putF f z fs')))
def sAug (C : Addr) (f : Str) (ta tv : TE) (rd : V → V → Hp → VK → Prop) : TS := fun D σ H => ta σ H (kAug C f tv rd σ fun H' => D.nx σ H')
theorem w_sAug {rd : V → V → Hp → VK → Prop} {σ : St'} {H : Hp} {n b d : St' → Hp → Prop} {rt : VK} (q : ta σ H (kAug C f tv rd σ fun H' => n σ H')) : sAug C f ta tv rd ⟨n, rt, b, d⟩ σ H := q
theorem ps_fa {value : Expr} {op : Operator} {rd : V → V → Hp → VK → Prop} (ha : PE X o ta) (hv : PE X value tv) (hop : InOp X op rd) (c : Cls X.K C) (n : NoAttr X.K C f) : PS X (.AugAssign (.Attribute o f pos') op value pos) (sAug C f ta tv rd) := by
  refine ⟨fun pins s σ H D I h => ?_⟩
  refine wpAny_AugAssign_AttributeAny (thn (ha.run pins s σ H _ I h) fun ov s1 ⟨x, H1, I1, rx, a, dx, fs, v, ex, ea, l, q⟩ => ?_)
  subst ex
  obtain rfl : ov = Value.ref a := rx
  refine getattr_ok I1 ea c n l fun u s2 I2 ru => thn (hv.run pins s2 σ H1 _ I2 q) fun w3 s3 ⟨y, H2, I3, ry, q3⟩ => thn (hop pins s3 σ H2 v y u w3 _ I3 ru ry q3) fun w4 s4 ⟨z, H3, I4, rz, dx', fs', ea', l', q4⟩ => ?_
  exact setattr_ok I4 ea' c n l' rz fun s5 I5 => ⟨σ, _, I5, q4⟩
/-- self.f += e, an int by an int, straight -/
theorem w_kAug {σ : St'} {H : Hp} {N : Hp → Prop} {a dx : Addr} {fs : List (Str × V)} {i j : Int} (ho : H a = some (.ins C dx fs)) (hl : fs.lookup f = some (.int i)) (h1 : fs.length < 1000)
    (hv : ∀ Q : VK, Q (.int j) H → tv σ H Q) (q : N (upd H a (.ins C dx (putF f (.int (i + j)) fs)))) : kAug C f tv rAdd σ N (.ref a) H :=
  ⟨a, dx, fs, .int i, rfl, ho, hl, hv _ ⟨i, j, rfl, rfl, dx, fs, ho, h1, q⟩⟩
/-! ### module's names -/
def GlV (mg : Str → Option Value) (x : Str) (v : V) : Prop := ∃ u, mg x = some u ∧ RelV v u
theorem pe_gv {x : Str} {v : V} (h : GlV X.mg x v) (hg : Gl X x := by rfl) (hd : (x == ("__debug__" : Str)) = false := by decide) : PE X (.Name x pos) (tC v) := by
  obtain ⟨u, hm, r⟩ := h
  exact pe_glob hg hm r hd
end
/-! ### defs and methods as they are called -/
section
variable (P : Program) (w : World) (K : PySem.W.Frag) (mg : Str → Option Value) (base : Heap)
/-- the module's def x keeps the promise sp -/
structure GDef (x : Str) (k : Nat) (dvs : List V) (sp : Sp) : Prop where
  ex : ∃ f fd ps ds, FnOk P w K mg base CX0 k f fd ps sp ∧ mg x = some (.ref f) ∧ PySem.W.keepIn K (.ref f) = true ∧ Binds K fd ps ds ∧ Vals dvs ds
/-- the method m of the class at C keeps the promise sp -/
structure MDef (C : Addr) (m : Str) (k : Nat) (dvs : List V) (sp : Sp) : Prop where
  ex : ∃ f fd ps ds, FnOk P w K mg base CX0 k f fd ps sp ∧ Meth K C m f ∧ Binds K fd ps ds ∧ Vals dvs ds
/-- a class's making -/
structure CDef (x : Str) (C : Addr) (k : Nat) (dvs : List V) (sp : Sp) : Prop where
  ex : ∃ f fd ps ds, FnOk P w K mg base CX0 k f fd ps sp ∧ Mk K C f ∧ mg x = some (.ref C) ∧ Binds K fd ps ds ∧ Vals dvs ds
end
section
variable {X : Cx} {e o : Expr} {es : List Expr} {x m : Str} {k j : Nat} {dvs : List V} {sp : Sp} {C : Addr} {t : TA} {te : TE} {p pos apos : Pos}
theorem e_call (G : GDef X.prog X.w X.K X.mg X.base x k dvs sp) (hr : Room j X.A) (ha : PA X (e :: es) t) (hkj : k ≤ j := by decide) (hg : Gl X x := by rfl) (hdb : (x == ("__debug__" : Str)) = false := by decide)
    (he : starEach (e :: es) X.env = (false, eval e X.env) :: starEach es X.env := by rfl) (hpl : (backTo pos (starEach es X.env)).any (·.1) = false := by rfl) : PE X (.Call (.Name x p) (e :: es) [] pos) (tCall sp dvs E0 t) := by
  obtain ⟨f, fd, ps, ds, F, hm, hk, hb, hd⟩ := G.ex
  exact pe_call F (hr.mono hkj) hg hm hk hb hd pass0 ha hdb he hpl
theorem e_call0 (G : GDef X.prog X.w X.K X.mg X.base x k dvs sp) (hr : Room j X.A) (hkj : k ≤ j := by decide) (hg : Gl X x := by rfl) (hdb : (x == ("__debug__" : Str)) = false := by decide) : PE X (.Call (.Name x p) [] [] pos) (tCall sp dvs E0 tNil) := by
  obtain ⟨f, fd, ps, ds, F, hm, hk, hb, hd⟩ := G.ex
  exact pe_call0 F (hr.mono hkj) hg hm hk hb hd pass0 hdb
theorem e_make (G : CDef X.prog X.w X.K X.mg X.base x C k dvs sp) (hr : Room j X.A) (ha : PA X (e :: es) t) (hkj : k + 1 ≤ j := by decide) (hg : Gl X x := by rfl) (hdb : (x == ("__debug__" : Str)) = false := by decide)
    (he : starEach (e :: es) X.env = (false, eval e X.env) :: starEach es X.env := by rfl) (hpl : (backTo pos (starEach es X.env)).any (·.1) = false := by rfl) : PE X (.Call (.Name x p) (e :: es) [] pos) (tMake C sp dvs E0 t) := by
  obtain ⟨f, fd, ps, ds, F, M, hm, hb, hd⟩ := G.ex
  exact pe_make M F (hr.mono hkj) hg hm hb hd pass0 ha hdb he hpl
theorem e_meth {pl : Sem Bool} (he : PE X o te) (c : Cls X.K C) (G : MDef X.prog X.w X.K X.mg X.base C m k dvs sp) (hr : Room j X.A) (ha : PA X (e :: es) t) (hkj : k ≤ j := by decide)
    (hst : starEach (e :: es) X.env = (false, eval e X.env) :: starEach es X.env := by rfl) (hpl : (backTo pos (starEach es X.env)).any (·.1) = false := by rfl)
    (ht : eval (.Call (.Attribute o m apos) (e :: es) [] pos) X.env = (do
      let ov ← eval o X.env
      standAt apos.atName
      let (f, first) ← holding [ov] (getMethod ov m pl)
      callWith pos f first (backTo pos (starEach (e :: es) X.env)) (backToKw pos (keywordEach [] X.env))) := by rfl) :
    PE X (.Call (.Attribute o m apos) (e :: es) [] pos) (tMeth C m sp dvs E0 te t) := by
  obtain ⟨f, fd, ps, ds, F, hm, hb, hd⟩ := G.ex
  exact pe_meth he c hm F (hr.mono hkj) hb hd pass0 ha hst hpl ht
theorem e_meth0 {pl : Sem Bool} (he : PE X o te) (c : Cls X.K C) (G : MDef X.prog X.w X.K X.mg X.base C m k dvs sp) (hr : Room j X.A) (hkj : k ≤ j := by decide)
    (ht : eval (.Call (.Attribute o m apos) [] [] pos) X.env = (do
      let ov ← eval o X.env
      standAt apos.atName
      let (f, first) ← holding [ov] (getMethod ov m pl)
      callWith pos f first (backTo pos (starEach [] X.env)) (backToKw pos (keywordEach [] X.env))) := by rfl) :
    PE X (.Call (.Attribute o m apos) [] [] pos) (tMeth C m sp dvs E0 te tNil) := by
  obtain ⟨f, fd, ps, ds, F, hm, hb, hd⟩ := G.ex
  exact pe_meth0 he c hm F (hr.mono hkj) hb hd pass0 ht
end
/-- two readings, either -/
theorem pe_or2 {X : Cx} {e : Expr} {t u : TE} (h1 : PE X e t) (h2 : PE X e u) : PE X e (fun σ H Q => t σ H Q ∨ u σ H Q) := ⟨fun pins s σ H Q I h => h.elim (h1.run pins s σ H Q I) (h2.run pins s σ H Q I)⟩

/-! part P03calls -/
def rLen1 (K : PySem.W.Frag) : List V → Hp → VK → Prop := fun xs H Q => ∃ p ys, xs = [.ref p] ∧ (SqL K H p ys ∨ SqT K H p ys) ∧ Q (.int ys.length) H
theorem len_seq {X : Cx} : CallR X (.builtin "len") (rLen1 X.K) := call_len_seq
def rList1 (K : PySem.W.Frag) : List V → Hp → VK → Prop := fun xs H Q => ∃ p ys, xs = [.ref p] ∧ (SqL K H p ys ∨ SqT K H p ys) ∧ ∀ l, H l = none → Q (.ref l) (upd H l (.lst ys))
theorem list_of {X : Cx} : CallR X (.type "list") (rList1 X.K) := call_list_of
def rTup1 (K : PySem.W.Frag) : List V → Hp → VK → Prop := fun xs H Q => ∃ p ys, xs = [.ref p] ∧ ((SqL K H p ys ∧ ∀ l, H l = none → Q (.ref l) (upd H l (.tup ys))) ∨ (SqT K H p ys ∧ Q (.ref p) H))
theorem tup_of {X : Cx} : CallR X (.type "tuple") (rTup1 X.K) := call_tuple_of
def rInt1 : List V → Hp → VK → Prop := fun xs H Q => (∃ i, xs = [.int i] ∧ Q (.int i) H) ∨ ∃ k, xs = [.bl k] ∧ Q (.int (if k then 1 else 0)) H
theorem int1 {X : Cx} : CallR X (.type "int") rInt1 := call_int1
section
variable {K : PySem.W.Frag} {H : Hp} {Q : VK} {p a b : Addr} {ys xs : List V}
theorem w_lenL (h : SqL K H p ys) (q : Q (.int ys.length) H) : rLen1 K [.ref p] H Q := ⟨p, ys, rfl, .inl h, q⟩
theorem w_lenT (h : SqT K H p ys) (q : Q (.int ys.length) H) : rLen1 K [.ref p] H Q := ⟨p, ys, rfl, .inr h, q⟩
theorem w_listL (h : SqL K H p ys) (q : ∀ l, H l = none → Q (.ref l) (upd H l (.lst ys))) : rList1 K [.ref p] H Q := ⟨p, ys, rfl, .inl h, q⟩
theorem w_listT (h : SqT K H p ys) (q : ∀ l, H l = none → Q (.ref l) (upd H l (.lst ys))) : rList1 K [.ref p] H Q := ⟨p, ys, rfl, .inr h, q⟩
theorem w_tupL (h : SqL K H p ys) (q : ∀ l, H l = none → Q (.ref l) (upd H l (.tup ys))) : rTup1 K [.ref p] H Q := ⟨p, ys, rfl, .inl ⟨h, q⟩⟩
theorem w_int1I {i : Int} (q : Q (.int i) H) : rInt1 [.int i] H Q := .inl ⟨i, rfl, q⟩
theorem w_int1T (q : Q (.int 1) H) : rInt1 [.bl true] H Q := .inr ⟨true, rfl, q⟩
theorem w_int1F (q : Q (.int 0) H) : rInt1 [.bl false] H Q := .inr ⟨false, rfl, q⟩
theorem w_int1b {k : Bool} (q : Q (.int (if k then 1 else 0)) H) : rInt1 [.bl k] H Q := .inr ⟨k, rfl, q⟩
/-- the slice of a tuple that isn't the whole; of a list -/
theorem w_slA {lo hi : Option Int} (h : SqT K H a xs) (n : ¬ (HT.sIx xs.length 0 lo = 0 ∧ HT.sIx xs.length xs.length hi = xs.length)) (q : ∀ p, H p = none → Q (.ref p) (upd H p (.tup (cutV xs lo hi)))) : rSlA K (.ref a) lo hi H Q :=
  ⟨a, xs, rfl, h, fun e => absurd e n, fun _ => q⟩
theorem w_slW {lo hi : Option Int} (h : SqT K H a xs) (n : HT.sIx xs.length 0 lo = 0 ∧ HT.sIx xs.length xs.length hi = xs.length) (q : Q (.ref a) H) : rSlA K (.ref a) lo hi H Q :=
  ⟨a, xs, rfl, h, fun _ => q, fun e => absurd n e⟩
theorem w_slL {lo hi : Option Int} (h : SqL K H a xs) (q : ∀ p, H p = none → Q (.ref p) (upd H p (.lst (cutV xs lo hi)))) : rSlL K (.ref a) lo hi H Q := ⟨a, xs, rfl, h, q⟩
theorem w_cnt {l b : Addr} {xs zs : List V} (h : H l = some (.lst xs)) (h' : H b = some (.lst zs)) (hl : xs.length + zs.length ≤ sizeLine) (q : ∀ p, H p = none → Q (.ref p) (upd H p (.lst (xs ++ zs)))) : rCat (.ref l) (.ref b) H Q := ⟨l, b, xs, zs, rfl, rfl, h, h', hl, q⟩
theorem w_repL {l : Addr} {k : Int} {xs : List V} (h : H l = some (.lst xs)) (h0 : -(2 ^ 63) ≤ k) (h1 : k < 2 ^ 63) (h2 : xs.length * k.toNat ≤ sizeLine) (q : ∀ p, H p = none → Q (.ref p) (upd H p (.lst (List.replicate k.toNat xs).flatten))) : rRep (.ref l) (.int k) H Q := ⟨l, k, xs, rfl, rfl, h, h0, h1, h2, q⟩
end
section
variable {σ : St'} {H : Hp} {Q : VK} {r : V → Option Int → Option Int → Hp → VK → Prop} {te t : TE} {tl th : TO} {QO : Option Int → Hp → Prop}
theorem w_sl (q : te σ H fun x H1 => tl σ H1 fun l H2 => th σ H2 fun u H3 => r x l u H3 Q) : tSl r te tl th σ H Q := q
theorem w_noPart (q : QO none H) : tNoPart σ H QO := q
theorem w_part (q : t σ H (kPt QO)) : tPart t σ H QO := q
theorem w_kPt {i : Int} (q : QO (some i) H) : kPt QO (.int i) H := ⟨i, rfl, q⟩
end
/-! ### a list comprehension over zip of two tuples -/
section
variable {K : PySem.W.Frag} {a b : Addr} {xs ys : List V}
theorem walk_zipT (hn : xs.length = ys.length) : Walk (RZ.ItzT K a b) xs.length (fun H => SqT K H a xs ∧ SqT K H b ys) (YPair (fun i => xs[i]?) (fun i => ys[i]?)) :=
  ⟨fun i _ hi q => ⟨xs, ys, xs[i], ys[i]'(by omega), q.1, q.2, by simp [hi], by simp [show i < ys.length by omega]⟩, fun _ q => ⟨xs, ys, q.1, q.2, .inl (Nat.le_refl _)⟩,
    fun i H v H' _ q ⟨T, x, z, h1, h2, h3, h4, h5⟩ => ⟨T, x, z, h1, h2, h3, h4 xs q.1, h5 ys q.2⟩⟩
end
def kZip (K : PySem.W.Frag) (R : It → Hp → Prop) : List V → Hp → Prop := fun vs H1 => ∃ a b xs ys, vs = [.ref a, .ref b] ∧ ((SqL K H1 a xs ∧ SqL K H1 b ys ∧ R (Itz K a b) H1) ∨ (SqT K H1 a xs ∧ SqT K H1 b ys ∧ R (RZ.ItzT K a b) H1))
/-- the comprehension's reading: its list D grows by turns -/
def kLc (g : TG) (tt : TT) (te : TE) (vs : List Nat) (σ : St') (Q : VK) : It → Hp → Prop := fun J H1 => ∀ D, H1 D = none → ∃ W : Nat → Nat → Hp → Prop, (∃ m, W 0 m (upd H1 D (.lst []))) ∧ ∀ i m H, W i m H →
  (J.stop i H ∧ Q (.ref D) H) ∨ (J.go i H ∧ ∃ Nx : Hp → Prop, (∀ H', Nx H' → ∃ m', m' < m ∧ W (i + 1) m' H') ∧ ∀ x H', J.yld i H x H' → g x (wipe σ vs) H' fun σ2 H2 => wipe σ2 vs = wipe σ vs ∧ tt σ2 H2 fun b H3 =>
    if b = true then te σ2 H3 fun y H4 => ∃ acc, H4 D = some (.lst acc) ∧ acc.length < sizeLine ∧ Nx (upd H4 D (.lst (acc ++ [y]))) else Nx H3)
theorem w_lc {wi : TI} {g : TG} {tt : TT} {te : TE} {vs : List Nat} {σ : St'} {H : Hp} {Q : VK} (q : wi σ H (kLc g tt te vs σ Q)) : tLc wi g tt te vs σ H Q := q
/-- a turn's end: the item kept | left out -/
def kTurn (te : TE) (D : Addr) (Nx : Hp → Prop) (σ2 : St') : Bool → Hp → Prop := fun b H3 => if b = true then te σ2 H3 fun y H4 => ∃ acc, H4 D = some (.lst acc) ∧ acc.length < sizeLine ∧ Nx (upd H4 D (.lst (acc ++ [y]))) else Nx H3
def kKeep (D : Addr) (Nx : Hp → Prop) : VK := fun y H4 => ∃ acc, H4 D = some (.lst acc) ∧ acc.length < sizeLine ∧ Nx (upd H4 D (.lst (acc ++ [y])))
theorem kTurn_y {te : TE} {D : Addr} {Nx : Hp → Prop} {σ2 : St'} {H : Hp} {p : Prop} [Decidable p] (h : p) (q : te σ2 H (kKeep D Nx)) : kTurn te D Nx σ2 (decide p) H := by
  unfold kTurn
  rw [decide_eq_true h, if_pos rfl]
  exact q
theorem kTurn_T {te : TE} {D : Addr} {Nx : Hp → Prop} {σ2 : St'} {H : Hp} (q : te σ2 H (kKeep D Nx)) : kTurn te D Nx σ2 true H := by
  unfold kTurn
  rw [if_pos rfl]
  exact q
theorem kTurn_n {te : TE} {D : Addr} {Nx : Hp → Prop} {σ2 : St'} {H : Hp} {p : Prop} [Decidable p] (h : ¬ p) (q : Nx H) : kTurn te D Nx σ2 (decide p) H := by
  unfold kTurn
  rw [decide_eq_false h, if_neg Bool.false_ne_true]
  exact q
theorem w_kKeep {D : Addr} {Nx : Hp → Prop} {acc : List V} {y : V} {H : Hp} (h : H D = some (.lst acc)) (hl : acc.length < sizeLine) (q : Nx (upd H D (.lst (acc ++ [y])))) : kKeep D Nx y H := ⟨acc, h, hl, q⟩
def kTgt (tt : TT) (te : TE) (D : Addr) (vs : List Nat) (σ : St') (Nx : Hp → Prop) : St' → Hp → Prop := fun σ2 H2 => wipe σ2 vs = wipe σ vs ∧ tt σ2 H2 (kTurn te D Nx σ2)
theorem w_kTgt {tt : TT} {te : TE} {D : Addr} {vs : List Nat} {σ σ2 : St'} {Nx : Hp → Prop} {H : Hp} (e : wipe σ2 vs = wipe σ vs) (q : tt σ2 H (kTurn te D Nx σ2)) : kTgt tt te D vs σ Nx σ2 H := ⟨e, q⟩
theorem w_zipT {K : PySem.W.Frag} {a b : Addr} {xs ys : List V} {g : TG} {tt : TT} {te : TE} {vs : List Nat} {σ : St'} {H : Hp} {Q : VK} (hx : SqT K H a xs) (hy : SqT K H b ys) (hn : xs.length = ys.length)
    (F : Nat → List V) (f0 : F 0 = [])
    (hs : ∀ i D T H' x y, i < xs.length → xs[i]? = some x → ys[i]? = some y → H D = none → H' D = some (.lst (F i)) → Same H H' → H' T = none →
      g (.ref T) (wipe σ vs) (upd H' T (.tup [x, y])) (kTgt tt te D vs σ fun H3 => H3 D = some (.lst (F (i + 1))) ∧ Same H H3))
    (q : ∀ D H', H D = none → H' D = some (.lst (F xs.length)) → Same H H' → Q (.ref D) H') : kZip K (kLc g tt te vs σ Q) [.ref a, .ref b] H := by
  refine ⟨a, b, xs, ys, rfl, .inr ⟨hx, hy, fun D hD => ?_⟩⟩
  have keep : ∀ {H' : Hp} {c : Addr} {zs : List V}, Same H H' → SqT K H c zs → SqT K H' c zs := fun {H' c zs} e h => by
    rcases h with (h | ⟨o, h⟩) | h
    · exact .inl (.inl (e _ _ h))
    · exact .inl (.inr ⟨o, e _ _ h⟩)
    · exact .inr h
  refine lc_it (walk_zipT hn) (fun i H' => H' D = some (.lst (F i)) ∧ Same H H') ⟨by rw [f0]; exact upd_same, fun c o h => ?_⟩ (fun i H' _ ⟨_, e⟩ => ⟨keep e hx, keep e hy⟩) ?_ (fun H' ⟨h1, h2⟩ => q D H' hD h1 h2)
  · rw [upd_ne (ne_of_none h hD)]
    exact h
  · rintro i v H' H2 hi ⟨h1, h2⟩ ⟨T, x, y, rfl, hT, rfl, ex, ey⟩
    exact hs i D T H' x y hi ex ey hD h1 h2 hT
theorem w_iZip {K : PySem.W.Frag} {tA : TA} {σ : St'} {H : Hp} {R : It → Hp → Prop} (q : tA σ H (kZip K R)) : RZ.iZipA K tA σ H R := q

/-! part P03eqobj -/
/-! ### == of two instances without an __eq__ of their own, and of None and such a one -/
structure ObjEq (K : PySem.W.Frag) (C : Addr) : Prop where
  top : PySem.W.mroIn K C (.type "object") = some true
  eq : PySem.W.findIn K (.ref C) "__eq__" = some (some (.builtin "object.__eq__"))
  nn : PySem.W.mroIn K C (.type "NoneType") = some false
section
variable {M : Model} {prog : Program} {w : World} {A : Around} {E : Value → Shared → Prop} {s : Shared} {K : PySem.W.Frag} {x y C : Addr} {ox oy : Obj} {od od' : Option Obj}
theorem InstAt_noTuple (I : PySem.W.InstAt s.heap x ox C od) : ox.cls ≠ .type "tuple" := by rw [I.cls]; intro e; cases e
theorem call_oeq_same {Q : Value → Shared → Prop} (X : K.In s.heap) (I : PySem.W.InstAt s.heap x ox C od) (o : ObjEq K C) (hq : Q (.bool true) s) :
    wpAny (model prog w) A (call (.builtin "object.__eq__") [.ref x, .ref x]) Q E s :=
  wpAny_call (codeAny_call_builtin F.cmp_object.eq.plain F.cmpEntry_eq (PySem.W.check_slot F.cmpKind_eq F.cmpSplit_eq (I.type.andThen (PySem.W.looks_mroIn X o.top)) (F.cmpArgs_eq _ _) (objEq_entry_same hq)))
theorem call_oeq_other {Q : Value → Shared → Prop} (X : K.In s.heap) (I : PySem.W.InstAt s.heap x ox C od) (J : PySem.W.InstAt s.heap y oy C od') (hxy : x ≠ y) (o : ObjEq K C) (hq : Q .notImplemented s) :
    wpAny (model prog w) A (call (.builtin "object.__eq__") [.ref x, .ref y]) Q E s :=
  wpAny_call (codeAny_call_builtin F.cmp_object.eq.plain F.cmpEntry_eq (PySem.W.check_slot F.cmpKind_eq F.cmpSplit_eq (I.type.andThen (PySem.W.looks_mroIn X o.top)) (F.cmpArgs_eq _ _) (objEq_entry_other hxy I.at_ J.at_ (InstAt_noTuple I) hq)))
theorem try_same (X : K.In s.heap) (I : PySem.W.InstAt s.heap x ox C od) (o : ObjEq K C) : wpAny (model prog w) A (tryCompare (.ref x) "__eq__" (.ref x)) (fun r s' => r = some (.bool true) ∧ s' = s) E s := by
  unfold tryCompare
  exact wpAny_bind (HN.ifBound_objEq X I o.eq (call_oeq_same X I o (wpAny_pure ⟨rfl, rfl⟩)))
theorem try_other (X : K.In s.heap) (I : PySem.W.InstAt s.heap x ox C od) (J : PySem.W.InstAt s.heap y oy C od') (hxy : x ≠ y) (o : ObjEq K C) : wpAny (model prog w) A (tryCompare (.ref x) "__eq__" (.ref y)) (fun r s' => r = none ∧ s' = s) E s := by
  unfold tryCompare
  exact wpAny_bind (HN.ifBound_objEq X I o.eq (call_oeq_other X I J hxy o (wpAny_pure ⟨rfl, rfl⟩)))
theorem rc_same (hu : A.units < cLine) (X : K.In s.heap) (I : PySem.W.InstAt s.heap x ox C od) (o : ObjEq K C) {Q : Value → Shared → Prop} (h : Q (.bool true) s) : wpAny (model prog w) A (richCompare .Eq (.ref x) (.ref x)) Q E s := by
  simp only [richCompare, cmpInfo_Eq, oneThing_ref]
  refine wpAny_holding (wpAny_bind (wpAny_cRoomFor hu ?_))
  refine wpAny_bind (I.type.here (wpAny_bind (I.type.here ?_)))
  split
  · rename_i q; exact absurd q (by simp)
  · simp only [pure_bind, Bool.false_eq_true, if_false]
    refine wpAny_bind (wpAny_mono (try_same X I o) (fun r s1 z => ?_) fun _ _ e => e)
    obtain ⟨rfl, rfl⟩ := z
    exact wpAny_pure h
theorem rc_other (hu : A.units < cLine) (X : K.In s.heap) (I : PySem.W.InstAt s.heap x ox C od) (J : PySem.W.InstAt s.heap y oy C od') (hxy : x ≠ y) (o : ObjEq K C) {Q : Value → Shared → Prop} (h : Q (.bool false) s) :
    wpAny (model prog w) A (richCompare .Eq (.ref x) (.ref y)) Q E s := by
  simp only [richCompare, cmpInfo_Eq, oneThing_ref]
  refine wpAny_holding (wpAny_bind (wpAny_cRoomFor hu ?_))
  refine wpAny_bind (I.type.here (wpAny_bind (J.type.here ?_)))
  split
  · rename_i q; exact absurd q (by simp)
  · simp only [pure_bind, Bool.false_eq_true, if_false, Bool.not_false, if_true]
    refine wpAny_bind (wpAny_mono (try_other X I J hxy o) (fun r s1 z => ?_) fun _ _ e => e)
    obtain ⟨rfl, rfl⟩ := z
    refine wpAny_bind (wpAny_mono (try_other X J I hxy.symm o) (fun r s1 z => ?_) fun _ _ e => e)
    obtain ⟨rfl, rfl⟩ := z
    refine wpAny_bind (wpAny_rule (wpAny_bind ?_))
    exact wpAny_isSame_ref_other hxy I.at_ J.at_ (InstAt_noTuple I) (wpAny_pure h)
theorem rc_nonref (hu : A.units < cLine) (X : K.In s.heap) (I : PySem.W.InstAt s.heap x ox C od) (o : ObjEq K C) {Q : Value → Shared → Prop} (h : Q (.bool false) s) :
    wpAny (model prog w) A (richCompare .Eq .none (.ref x)) Q E s := by
  have one : wpAny (model prog w) A (tryCompare (.ref x) "__eq__" .none) (fun r s' => r = none ∧ s' = s) E s := by
    unfold tryCompare
    exact wpAny_bind (HN.ifBound_objEq X I o.eq (HN.call_objEq X I o.top (wpAny_pure ⟨rfl, rfl⟩)))
  have two : wpAny (model prog w) A (tryCompare .none "__eq__" (.ref x)) (fun r s' => r = none ∧ s' = s) E s :=
    wpAny_tryCompare_declines (show s.TypeIs .none "NoneType" from rfl) F.slot_NoneType_eq (call_gives F.slot_NoneType_eq rfl F.entry_NoneType_eq (F.args_NoneType_eq_2 _ _) (SeqAt.NoneType___eq___none_ref_0 x) ⟨rfl, rfl, rfl⟩)
  simp only [richCompare, cmpInfo_Eq, (show s.TypeIs .none "NoneType" from rfl).oneThing_none]
  refine wpAny_holding (wpAny_bind (wpAny_cRoomFor hu ?_))
  refine wpAny_bind (wpAny_typeOf (show s.TypeIs .none "NoneType" from rfl) (wpAny_bind (I.type.here ?_)))
  split
  · refine wpAny_bind ((PySem.W.looks_mroIn X o.nn).here ?_)
    simp only [Bool.false_eq_true, if_false, Bool.not_false, if_true]
    refine wpAny_bind (wpAny_mono two (fun r s1 z => ?_) fun _ _ e => e)
    obtain ⟨rfl, rfl⟩ := z
    refine wpAny_bind (wpAny_mono one (fun r s2 z => ?_) fun _ _ e => e)
    obtain ⟨rfl, rfl⟩ := z
    exact wpAny_bind (wpAny_rule (wpAny_bind (wpAny_of_eq (rfl : isSame .none (.ref x) = pure false) (wpAny_pure h))))
  · rename_i q
    exact absurd (by simp) q
end
def rEqR (K : PySem.W.Frag) (C : Addr) : R2 := fun x y H Q => ∃ b dxb fsb, y = .ref b ∧ H b = some (.ins C dxb fsb) ∧ ((x = .non ∧ Q (.bl false) H) ∨ ∃ a dxa fsa, x = .ref a ∧ H a = some (.ins C dxa fsa) ∧ Q (.bl (decide (a = b))) H)
theorem op_eqR {X : Cx} {C : Addr} (o : ObjEq X.K C) (hu64 : X.A.units + 64 < cLine) : OpR X (compareOp .Eq) (rEqR X.K C) := by
  have hu : X.A.units < cLine := Nat.lt_of_le_of_lt (Nat.le_add_right _ _) hu64
  intro pins s σ H x y v u Q I rx ry h
  obtain ⟨b, dxb, fsb, rfl, hb, h⟩ := h
  cases ry
  obtain ⟨_, Ob, _⟩ := ins_get I.hok hb
  obtain ⟨odb, Jb, _⟩ := Ob.look
  rcases h with ⟨rfl, q⟩ | ⟨a, dxa, fsa, rfl, ha, q⟩
  · cases rx
    exact rc_nonref hu I.kIn Jb o ⟨.bl false, H, I, rfl, q⟩
  · cases rx
    obtain ⟨_, Oa, _⟩ := ins_get I.hok ha
    obtain ⟨oda, Ja, _⟩ := Oa.look
    by_cases e : a = b
    · subst e
      rw [decide_eq_true rfl] at q
      exact rc_same hu I.kIn Ja o ⟨.bl true, H, I, rfl, q⟩
    · rw [decide_eq_false e] at q
      exact rc_other hu I.kIn Ja Jb e o ⟨.bl false, H, I, rfl, q⟩
section
variable {K : PySem.W.Frag} {C a b dxa dxb : Addr} {fsa fsb : List (Str × V)} {H : Hp} {Q : VK}
theorem w_eqRN (hb : H b = some (.ins C dxb fsb)) (q : Q (.bl false) H) : rEqR K C .non (.ref b) H Q := ⟨b, dxb, fsb, rfl, hb, .inl ⟨rfl, q⟩⟩
theorem w_eqRR (ha : H a = some (.ins C dxa fsa)) (hb : H b = some (.ins C dxb fsb)) (q : Q (.bl (decide (a = b))) H) : rEqR K C (.ref a) (.ref b) H Q := ⟨b, dxb, fsb, rfl, hb, .inr ⟨a, dxa, fsa, rfl, ha, q⟩⟩
end

/-! part P03loops -/
/-! ### loops by a walk -/
def kForJ (g : TG) (tb : TS) (D : Ends) (σ : St') : It → Hp → Prop := fun J H1 => ∃ W : Nat → Nat → St' → Hp → Prop, (∃ m, W 0 m σ H1) ∧ ∀ i m σ H, W i m σ H →
  (J.stop i H ∧ D.nx σ H) ∨ (J.go i H ∧ ∃ N : St' → Hp → Prop, (∀ σ' H', N σ' H' → ∃ m', m' < m ∧ W (i + 1) m' σ' H') ∧ ∀ x H', J.yld i H x H' → g x σ H' fun σ2 H2 => tb { D with nx := N, ct := N, bk := D.nx } σ2 H2)
theorem w_for {wi : TI} {g : TG} {tb : TS} {D : Ends} {σ : St'} {H : Hp} (q : wi σ H (kForJ g tb D σ)) : tFor wi g tb D σ H := q
theorem w_forJ {J : It} {len : Nat} {G : Hp → Prop} {Y : Nat → Hp → V → Hp → Prop} (w : Walk J len G Y) {g : TG} {tb : TS} {n b d : St' → Hp → Prop} {rt : VK} {σ : St'} {H : Hp} (Pv : Nat → St' → Hp → Prop) (h0 : Pv 0 σ H) (hG : ∀ i σ H, i ≤ len → Pv i σ H → G H)
    (hs : ∀ i x σ H H', i < len → Pv i σ H → Y i H x H' → g x σ H' fun σ2 H2 => tb ⟨Pv (i + 1), rt, n, Pv (i + 1)⟩ σ2 H2) (hd : ∀ σ H, Pv len σ H → n σ H) : kForJ g tb ⟨n, rt, b, d⟩ σ J H := for_it (D := ⟨n, rt, b, d⟩) w Pv h0 hG hs hd
section
variable {K : PySem.W.Frag} {σ : St'} {H : Hp} {R : It → Hp → Prop} {tl : TE} {tA : TA} {a : Addr} {xs : List V}
def kIL (K : PySem.W.Frag) (R : It → Hp → Prop) : VK := fun x H1 => ∃ a, x = .ref a ∧ (∃ xs, SqL K H1 a xs) ∧ R (Itl K a) H1
theorem w_iList (q : tl σ H (kIL K R)) : iList K tl σ H R := q
theorem w_kIL (h : SqL K H a xs) (q : R (Itl K a) H) : kIL K R (.ref a) H := ⟨a, rfl, ⟨xs, h⟩, q⟩
def kR1 (R : It → Hp → Prop) : List V → Hp → Prop := fun vs H1 => ∃ j : Int, vs = [.int j] ∧ -(2 ^ 62) ≤ j ∧ j < 2 ^ 62 ∧ R (Itr 0 j.toNat) H1
theorem w_iRng1 (q : tA σ H (kR1 R)) : iRng1 tA σ H R := q
theorem w_kR1 {j : Int} (h0 : -(2 ^ 62) ≤ j) (h1 : j < 2 ^ 62) (q : R (Itr 0 j.toNat) H) : kR1 R [.int j] H := ⟨j, rfl, h0, h1, q⟩
def kEn (K : PySem.W.Frag) (R : It → Hp → Prop) : List V → Hp → Prop := fun vs H1 => ∃ a xs, vs = [.ref a] ∧ SqL K H1 a xs ∧ R (Ite K a) H1
theorem w_iEnum (q : tA σ H (kEn K R)) : iEnum K tA σ H R := q
theorem w_kEn (h : SqL K H a xs) (q : R (Ite K a) H) : kEn K R [.ref a] H := ⟨a, xs, rfl, h, q⟩
def kDv (R : It → Hp → Prop) : VK := fun x H1 => ∃ d o kvs, x = .ref d ∧ H1 d = some (.frz o (.dK kvs)) ∧ R (Itd d o kvs) H1
theorem w_iVals (q : tl σ H (kDv R)) : iVals tl σ H R := q
theorem w_kDv {o : Obj} {kvs : List (Key × V)} (h : H a = some (.frz o (.dK kvs))) (q : R (Itd a o kvs) H) : kDv R (.ref a) H := ⟨a, o, kvs, rfl, h, q⟩
def kDi (R : It → Hp → Prop) : VK := fun x H1 => ∃ d o kvs, x = .ref d ∧ H1 d = some (.frz o (.dK kvs)) ∧ R (Iti d o kvs) H1
theorem w_iItems (q : tl σ H (kDi R)) : iItems tl σ H R := q
theorem w_kDi {o : Obj} {kvs : List (Key × V)} (h : H a = some (.frz o (.dK kvs))) (q : R (Iti a o kvs) H) : kDi R (.ref a) H := ⟨a, o, kvs, rfl, h, q⟩
end
/-- a list comprehension by a walk -/
theorem w_lcJ {J : It} {len : Nat} {G : Hp → Prop} {Y : Nat → Hp → V → Hp → Prop} (w : Walk J len G Y) {g : TG} {tt : TT} {te : TE} {vs : List Nat} {σ : St'} {H : Hp} {Q : VK} (Pv : Addr → Nat → Hp → Prop) (h0 : ∀ D, H D = none → Pv D 0 (upd H D (.lst [])))
    (hG : ∀ D i H', H D = none → i ≤ len → Pv D i H' → G H') (hs : ∀ D i x H1 H', H D = none → i < len → Pv D i H1 → Y i H1 x H' → g x (wipe σ vs) H' (kTgt tt te D vs σ (Pv D (i + 1)))) (hd : ∀ D H', H D = none → Pv D len H' → Q (.ref D) H') : kLc g tt te vs σ Q J H :=
  fun D hD => lc_it w (Pv D) (h0 D hD) (fun i H' hi p => hG D i H' hD hi p) (fun i x H1 H' hi p y => hs D i x H1 H' hD hi p y) (fun H' p => hd D H' hD p)
/-- while, by a measure -/
theorem w_while {c : TT} {tb : TS} {n b d : St' → Hp → Prop} {rt : VK} {σ : St'} {H : Hp} (W : Nat → St' → Hp → Prop) (m0 : Nat) (h0 : W m0 σ H)
    (hs : ∀ m σ H, W m σ H → c σ H (kI (fun H1 => tb ⟨fun σ' H' => ∃ m', m' < m ∧ W m' σ' H', rt, n, fun σ' H' => ∃ m', m' < m ∧ W m' σ' H'⟩ σ H1) (fun H1 => n σ H1))) (mono : ∀ σ H (A B : Bool → Hp → Prop), (∀ b H, A b H → B b H) → c σ H A → c σ H B) : tWhile c tb ⟨n, rt, b, d⟩ σ H :=
  ⟨W, ⟨m0, h0⟩, fun m σ H w => mono σ H _ _ (fun k H1 h => by
    cases k with
    | true => 
      rw [if_pos rfl]
      unfold kI at h
      rw [if_pos rfl] at h
      exact ⟨_, fun _ _ q => q, h⟩
    | false =>
      rw [if_neg Bool.false_ne_true]
      unfold kI at h
      rw [if_neg Bool.false_ne_true] at h
      exact h) (hs m σ H w)⟩
/-- the turn's two ways -/
def kW (A : (St' → Hp → Prop) → Hp → Prop) (W : Nat → St' → Hp → Prop) (m : Nat) (B : Hp → Prop) : Bool → Hp → Prop := fun k H1 => if k = true then ∃ N : St' → Hp → Prop, (∀ σ' H', N σ' H' → ∃ m', m' < m ∧ W m' σ' H') ∧ A N H1 else B H1
theorem w_wh {c : TT} {tb : TS} {n b d : St' → Hp → Prop} {rt : VK} {σ : St'} {H : Hp} (W : Nat → St' → Hp → Prop) (m0 : Nat) (h0 : W m0 σ H)
    (hs : ∀ m σ H, W m σ H → c σ H (kW (fun N H1 => tb ⟨N, rt, n, N⟩ σ H1) W m (fun H1 => n σ H1))) : tWhile c tb ⟨n, rt, b, d⟩ σ H := ⟨W, ⟨m0, h0⟩, hs⟩
section
variable {A : (St' → Hp → Prop) → Hp → Prop} {W : Nat → St' → Hp → Prop} {m : Nat} {B : Hp → Prop} {H : Hp} {p : Prop}
theorem kW_T (q : A (fun σ' H' => ∃ m', m' < m ∧ W m' σ' H') H) : kW A W m B true H := by
  unfold kW
  rw [if_pos rfl]
  exact ⟨_, fun _ _ q => q, q⟩
theorem kW_F (q : B H) : kW A W m B false H := by
  unfold kW
  rw [if_neg Bool.false_ne_true]
  exact q
theorem kW_y [Decidable p] (h : p) (q : A (fun σ' H' => ∃ m', m' < m ∧ W m' σ' H') H) : kW A W m B (decide p) H := by rw [decide_eq_true h]; exact kW_T q
theorem kW_n [Decidable p] (h : ¬ p) (q : B H) : kW A W m B (decide p) H := by rw [decide_eq_false h]; exact kW_F q
theorem kW_d [Decidable p] (a : p → A (fun σ' H' => ∃ m', m' < m ∧ W m' σ' H') H) (b : ¬ p → B H) : kW A W m B (decide p) H := by
  by_cases h : p
  · exact kW_y h (a h)
  · exact kW_n h (b h)
end

/-! part P03special -/
/-! ### x, *xs = a tuple -/
theorem star_items {prog : Program} {w : World} {A : Around} {E : Value → Shared → Prop} {s : Shared} {t : Addr} {x : Value} {xs : List Value} {Q : List Value → Shared → Prop} (ht : IsTup s.heap t (x :: xs).toArray) (hh : A.handled = none) (hz : xs.length ≤ 1000)
    (k : ∀ (h' : Heap) (tk : Nat), (∀ b o, s.heap.get? b = some o → h'.get? b = some o) → Q [x, .ref h'.objs.size] { s with heap := h'.push { cls := .type "list", data := .seq xs.toArray }, toks := tk }) : wpAny (model prog w) A (unpackItems (.ref t) 2 (some 1)) Q E s := by
  have hne : t ≠ s.heap.objs.size := by
    obtain ⟨o, ho, _⟩ := ht
    exact Nat.ne_of_lt (Heap.lt_size ho)
  have hsz : (x :: xs).toArray.size = xs.length + 1 := by simp
  unfold unpackItems notIterableAtAll
  refine wpAny_bind (wpAny_bind (wpAny_specialOf ht.typeIs slot_tuple_iter.lookup (wpAny_pure ?_)))
  simp only [Bool.false_eq_true, if_false]
  refine wpAny_bind (wpAny_holding (iter_tuple ht (wpAny_bind (wpAny_holding (draw_tuple hne 1 0 _ _ ⟨_, Heap.get?_push_size _ rfl, rfl, rfl⟩ (ht.push _) (by omega) fun h1 hi1 hs1 => ?_)))))
  have ht1 : IsTup h1 t (x :: xs).toArray := (ht.push _).extBut hs1.extBut hne
  have l1 : s.heap.objs.size < h1.objs.size := let ⟨_, q, _⟩ := id hi1; Heap.lt_size q
  have l2 : t < h1.objs.size := let ⟨_, q, _⟩ := id ht1; Heap.lt_size q
  show wpAny _ _ (if ([x] : List Value).length < 1 then _ else _) _ _ _
  rw [if_neg (by simp)]
  refine wpAny_bind (wpAny_holding (PySem.W.kun_collect (s := { s with heap := h1 }) (T := "tuple_iterator") (.inr (.inr (.inr rfl))) (Walks.tuple (A := A.in1) hh s.heap.objs.size t hne _) (fun _ _ st => st.1.typeIs) (k := 1) (by omega) ⟨hi1, ht1⟩ l1 l2 (fun h2 tk hk => ?_) (by rw [hsz, sizeLine_eq]; omega)))
  show wpAny _ _ (if xs.length < 0 then _ else _) _ _ _
  rw [if_neg (by omega)]
  show wpAny _ _ (newList (xs.take (xs.length - 0)) >>= fun d => pure ([x] ++ [d] ++ xs.drop (xs.length - 0))) _ _ _
  have e1 : xs.take (xs.length - 0) = xs := by simp
  have e2 : xs.drop (xs.length - 0) = [] := by simp
  rw [e1, e2]
  refine wpAny_bind (wpAny_newObj_type (wpAny_pure ?_) (by show xs.toArray.size ≤ sizeLine; rw [sizeLine_eq]; simp; omega))
  exact k h2 tk fun b o e => hk b o (Nat.ne_of_lt (Heap.lt_size e)) (hs1.2 b (Nat.ne_of_lt (Heap.lt_size e)) |>.trans (Heap.get?_push_of_some _ e))
section
variable {X : Cx} {pos : Pos}
/-- x, *xs = t: x at slot i, a new list of the others at slot j -/
def gStar (K : PySem.W.Frag) (i j : Nat) : TG := fun v σ H Q => ∃ a x xs, v = .ref a ∧ SqT K H a (x :: xs) ∧ xs.length ≤ 1000 ∧ ∀ l, H l = none → Q ((σ.set i (some x)).set j (some (.ref l))) (upd H l (.lst xs))
theorem pg_star {i j : Nat} {x y : Str} {k : Nat} {p1 p2 p3 : Pos} (hN : X.N.Nodup) (hi : X.N[i]? = some x) (hj : X.N[j]? = some y) (hx : Loc X.env.scope x) (hy : Loc X.env.scope y) (hc : X.calm = true := by rfl)
    (hfx : X.fn x = true ∨ X.env.scope.names.lookup x = some .local := by exact .inl rfl) (hfy : X.fn y = true ∨ X.env.scope.names.lookup y = some .local := by exact .inl rfl)
    (he : assignEach [.Name x p1, .Starred (.Name y p2) p3] X.env = [(false, assign (.Name x p1) X.env), (true, assign (.Name y p2) X.env)] := by rfl) : PG X (.Tuple [.Name x p1, .Starred (.Name y p2) p3] k pos) (gStar X.K i j) := by
  refine ⟨fun pins s σ H v u Q I r h => ?_⟩
  obtain ⟨a, z, zs, rfl, hq, hl, h⟩ := h
  cases r
  obtain ⟨its, rv, pl, hz⟩ := I.tuple hq
  cases rv with
  | @cons _ u0 _ us r0 rr =>
    rw [PyProof.Rows.assign_Tuple, he]
    refine wpAny_bind (wpAny_standAt ?_)
    unfold unpack
    have hl2 : us.length ≤ 1000 := by rw [← rr.length]; exact hl
    refine wpAny_bind (wpAny_holding (star_items pl (I.ok.hd hc) hl2 fun h' tk keep => ?_))
    have I1 : Inv X pins σ H { s with heap := h', toks := tk } := I.kept keep
    have I2 : Inv X pins σ (upd H h'.objs.size (.lst zs)) { s with heap := h'.push { cls := .type "list", data := .seq us.toArray }, toks := tk } :=
      I1.laid (t' := tk) (o := .lst zs) (fun b ob q => Heap.get?_push_of_some _ q) (Nat.le_refl _) ⟨Nat.le_trans hl (by decide), us, 0, rr, Heap.get?_push_size _ rfl⟩
    have q := h _ (I1.hok.fresh (Nat.le_refl _))
    show wpAny _ _ (assignInOrder [assign (.Name x p1) X.env, assign (.Name y p2) X.env] [u0, .ref h'.objs.size]) _ _ _
    refine assignInOrder_cons (thn ((pg_name (pos := p1) hN hi hx hfx).run pins _ σ _ z u0 (fun σ' H' => σ' = σ.set i (some z) ∧ H' = upd H h'.objs.size (.lst zs)) I2 r0 ⟨rfl, rfl⟩) fun _ s1 ⟨σ1, H1, I3, e1, e2⟩ => ?_)
    subst e1 e2
    refine assignInOrder_cons (thn ((pg_name (pos := p2) hN hj hy hfy).run pins _ _ _ (.ref h'.objs.size) (.ref h'.objs.size) Q I3 rfl q) fun _ s2 w2 => ?_)
    exact assignInOrder_nil w2
end

/-! part P03tryfin -/
/-! ### try: body finally: suite, nothing raised -/
def kFin (tf : TS) (D : Ends) : Ends := { nx := fun σ1 H1 => tf D σ1 H1, rt := fun _ _ => False, bk := fun _ _ => False, ct := fun _ _ => False }
def tTryFin (tb tf : TS) : TS := fun D σ H => tb (kFin tf D) σ H
section
variable {X : Cx} {body : List Stmt} {f₀ : Stmt} {fs : List Stmt} {pos : Pos} {tb tf : TS}
theorem ps_tryFin (hb : PSs X.nox body tb) (hf : PSs X.nox (f₀ :: fs) tf) : PS X (.Try body [] [] (f₀ :: fs) pos) (tTryFin tb tf) := by
  refine ⟨fun pins s σ H D I h => ?_⟩
  refine wpAny_Try_finally (wpAny_mono (hb.run pins s σ H _ (I.wish _) h) (fun g s1 q => ?_) fun _ _ z => False.elim z)
  have q' : SP X pins (kFin tf D) g s1 := q.unwish
  cases g with
  | next =>
    obtain ⟨σ1, H1, I1, q1⟩ := q'
    refine wpAny_execs_nil ?_
    refine wpAny_mono (hf.run pins s1 σ1 H1 D (I1.wish _) q1) (fun g2 s2 q2 => ?_) fun _ _ z => False.elim z
    have q2' : SP X pins D g2 s2 := q2.unwish
    cases g2 <;> exact q2'
  | ret u => obtain ⟨_, _, _, _, _, z⟩ := q'; exact False.elim z
  | brk => obtain ⟨_, _, _, z⟩ := q'; exact False.elim z
  | cont => obtain ⟨_, _, _, z⟩ := q'; exact False.elim z
theorem w_tryFin {n b d : St' → Hp → Prop} {rt : VK} {σ : St'} {H : Hp} (q : tb ⟨fun σ1 H1 => tf ⟨n, rt, b, d⟩ σ1 H1, fun _ _ => False, fun _ _ => False, fun _ _ => False⟩ σ H) : tTryFin tb tf ⟨n, rt, b, d⟩ σ H := q
end
section
variable {X : Cx} {C : Addr} {sp : Sp} {dvs : List V} {E : XK} {tA : TA} {σ : St'} {H : Hp} {Q : VK} {vs : List V}
def kMake (C : Addr) (sp : Sp) (dvs : List V) (E : XK) (Q : VK) : List V → Hp → Prop := fun vs H1 => ∀ x dx, H1 x = none → H1 dx = none → dx ≠ x → sp (.ref x :: (vs ++ dvs)) (upd (upd H1 dx (.own x)) x (.ins C dx [])) (fun v H2 => v = .non ∧ Q (.ref x) H2) E
theorem w_make (q : tA σ H (kMake C sp dvs E Q)) : tMake C sp dvs E tA σ H Q := q
end

/-! part P03tupmul -/
/-! ### (z,) * k for k = 0 and 1 -/
theorem tupMul_one (l : Addr) (v : Value) (n : Nat) (dd : Option Addr) (sl : Array (Option Value)) (u : Tok) :
    Meets (Builtin.«tuple.__mul__» ⟨[.ref l, .int 1 u], []⟩) (fun _ R s => s.heap.get? l = some { cls := .type "tuple", dict := dd, data := .seq #[v] n, slots := sl } ∧ R (.ok (.ret (.ref l))) s) :=
  .of_wp fun prog w A R s h => by
    obtain ⟨hp, g, d, tk, os⟩ := s
    obtain ⟨hl, h⟩ := h
    have f1 := AutoSeq1.idx_int
    wp_walk using wpAny_loadPart' hl
    exact ⟨_, rfl, h⟩
theorem tupMul_zero (l : Addr) (v : Value) (n : Nat) (dd : Option Addr) (sl : Array (Option Value)) (u : Tok) :
    Meets (Builtin.«tuple.__mul__» ⟨[.ref l, .int 0 u], []⟩) (fun _ R s => s.heap.get? l = some { cls := .type "tuple", dict := dd, data := .seq #[v] n, slots := sl } ∧
      R (.ok (.ret (.ref s.heap.objs.size))) { s with heap := s.heap.push { cls := .type "tuple", data := .seq #[] } }) :=
  .of_wp fun prog w A R s h => by
    obtain ⟨hp, g, d, tk, os⟩ := s
    obtain ⟨hl, h⟩ := h
    have f1 := AutoSeq1.idx_int
    wp_walk using wpAny_loadPart' hl
    exact ⟨_, rfl, h⟩
def rRep1 (K : PySem.W.Frag) : R2 := fun x y H Q => ∃ l z, x = .ref l ∧ SqT K H l [z] ∧ ((y = .int 1 ∧ Q (.ref l) H) ∨ (y = .int 0 ∧ ∀ p, H p = none → Q (.ref p) (upd H p (.tup []))))
theorem op_rep1 {X : Cx} : OpR X (binaryOp .Mult) (rRep1 X.K) := by
  intro pins s σ H x y v u Q I rx ry h
  obtain ⟨l, z, rfl, hT, h⟩ := h
  cases rx
  obtain ⟨its, r, ⟨⟨cls, dd, data, sl⟩, ho, hc, n, hd⟩, hs⟩ := I.tuple hT
  simp only at hc hd
  subst hc hd
  obtain ⟨v0, rfl, _⟩ := vals1 r
  rcases h with ⟨rfl, q⟩ | ⟨rfl, q⟩
  · obtain ⟨t, rfl⟩ := ry
    refine wpAny_binaryOp_repeat_ref (T := "tuple") (U := "int") (by decide) ⟨_, ho, rfl⟩ (fun s' => typeIs_int s' 1 t) noFill_tuple_mul F.fills_int_mul F.slot_int_rmul repeat_tuple F.slot_int_index.lookup
      (call_meets F.slot_int_rmul (typeIs_int s 1 t) F.entry_int_rmul (F.args_int_rmul_2 _ _) (int_rmul_tuple 1 t l _ n dd sl) ⟨ho, rfl, ⟨_, ho, rfl⟩, call_meets F.slot_tuple_mul ⟨_, ho, rfl⟩ F.entry_tuple_mul (F.args_tuple_mul_2 _ _) (tupMul_one l v0 n dd sl t) ⟨ho, ?_⟩⟩)
    exact ⟨.ref l, H, I, rfl, q⟩
  · obtain ⟨t, rfl⟩ := ry
    refine wpAny_binaryOp_repeat_ref (T := "tuple") (U := "int") (by decide) ⟨_, ho, rfl⟩ (fun s' => typeIs_int s' 0 t) noFill_tuple_mul F.fills_int_mul F.slot_int_rmul repeat_tuple F.slot_int_index.lookup
      (call_meets F.slot_int_rmul (typeIs_int s 0 t) F.entry_int_rmul (F.args_int_rmul_2 _ _) (int_rmul_tuple 0 t l _ n dd sl) ⟨ho, rfl, ⟨_, ho, rfl⟩, call_meets F.slot_tuple_mul ⟨_, ho, rfl⟩ F.entry_tuple_mul (F.args_tuple_mul_2 _ _) (tupMul_zero l v0 n dd sl t) ⟨ho, ?_⟩⟩)
    refine ⟨.ref s.heap.objs.size, _, I.laid (t' := s.toks) (o := .tup []) (fun b ob q => Heap.get?_push_of_some _ q) (Nat.le_refl _) ⟨Nat.zero_le _, [], .nil, _, Heap.get?_push_size _ rfl, rfl, 0, rfl⟩, rfl, q _ (I.hok.fresh (Nat.le_refl _))⟩
def rRep2 (K : PySem.W.Frag) : R2 := fun x y H Q => rRep1 K x y H Q ∨ rRepT K x y H Q
theorem op_repT1 {X : Cx} : OpR X (binaryOp .Mult) (rRep2 X.K) := op_rep1.or op_repT
section
variable {K : PySem.W.Frag} {H : Hp} {Q : VK} {l : Addr} {z : V}
theorem w_rep0 (h : SqT K H l [z]) (q : ∀ p, H p = none → Q (.ref p) (upd H p (.tup []))) : rRep2 K (.ref l) (.int 0) H Q := .inl ⟨l, z, rfl, h, .inr ⟨rfl, q⟩⟩
theorem w_rep1 (h : SqT K H l [z]) (q : Q (.ref l) H) : rRep2 K (.ref l) (.int 1) H Q := .inl ⟨l, z, rfl, h, .inl ⟨rfl, q⟩⟩
theorem w_rep2 (h : SqT K H l [z]) (q : ∀ p, H p = none → Q (.ref p) (upd H p (.tup [z, z]))) : rRep2 K (.ref l) (.int 2) H Q :=
  .inr ⟨l, 2, [z], rfl, rfl, h, by simp, by decide, by decide, by show 1 ≤ 1000; decide, q⟩
/-! tuple + tuple, slices, len -/
theorem w_cat {a b : Addr} {x : V} {xs ys : List V} (h : SqT K H a (x :: xs)) (h' : SqT K H b ys) (hl : (x :: xs).length + ys.length ≤ sizeLine) (q : ∀ p H', Same H H' → H' p = some (.tup (x :: xs ++ ys)) ∨ SqT K H' p (x :: xs ++ ys) → Q (.ref p) H') : rCatA K (.ref a) (.ref b) H Q := by
  refine ⟨a, b, x :: xs, ys, rfl, rfl, h, h', hl, (fun e => nomatch e), (fun _ e => ?_), (fun _ _ p hp => ?_)⟩
  · subst e
    exact q a H (Same.refl H) (.inr (by rw [List.append_nil]; exact h))
  · exact q p _ (fun b o hb => by rw [upd_ne (ne_of_none hb hp)]; exact hb) (.inl upd_same)
theorem w_cat0 {a b : Addr} {ys : List V} (h : SqT K H a []) (h' : SqT K H b ys) (hl : ys.length ≤ sizeLine) (q : Q (.ref b) H) : rCatA K (.ref a) (.ref b) H Q :=
  ⟨a, b, [], ys, rfl, rfl, h, h', by simpa using hl, fun _ => q, fun e => absurd rfl e, fun e => absurd rfl e⟩
theorem w_catN {a b : Addr} {x : V} {xs ys : List V} (h : H a = some (.tup (x :: xs))) (h' : SqT K H b ys) (hl : (x :: xs).length + ys.length ≤ sizeLine) (q : ∀ p H', Same H H' → H' p = some (.tup (x :: xs ++ ys)) → Q (.ref p) H') : rCatA K (.ref a) (.ref b) H Q := by
  refine ⟨a, b, x :: xs, ys, rfl, rfl, .inl (.inl h), h', hl, (fun e => nomatch e), (fun _ e => ?_), (fun _ _ p hp => ?_)⟩
  · subst e
    exact q a H (Same.refl H) (by rw [List.append_nil]; exact h)
  · exact q p _ (fun b o hb => by rw [upd_ne (ne_of_none hb hp)]; exact hb) upd_same
end

/-! part P03wget -/
/-! ### d.get(k, x), d a dict of the written part with text keys -/
section
variable {X : Cx} {o e f : Expr} {apos cpos : Pos} {td ty tx : TE}
def kWGet (K : PySem.W.Frag) (w : World) (ty tx : TE) (σ : St') (Q : VK) : VK := fun x H1 => ∃ a, x = .ref a ∧ (∃ es n, KDict K w a es n) ∧ ty σ H1 fun y H2 => ∃ z, y = .str z ∧ tx σ H2 fun d H3 => ∃ r, PySem.W.nsIn K a z = some r ∧ (∀ u, r = some u → ∃ v, RelV v u ∧ Q v H3) ∧ (r = none → Q d H3)
def tWGet (K : PySem.W.Frag) (w : World) (td ty tx : TE) : TE := fun σ H Q => td σ H (kWGet K w ty tx σ Q)
theorem e_wget (ho : PE X o td) (he : PE X e ty) (hf : PE X f tx)
    (hbase : attributeBase o "get" X.env (eval o X.env) = eval o X.env := by rfl)
    (hfew : ((backTo cpos (starEach [e, f] X.env)).all (fun x => !x.1) && (backToKw cpos (keywordEach [] X.env)).all (fun x => x.1.isSome)
      && decide (([e, f] : List Expr).length + ([] : List Keyword).length + (if ([] : List Keyword).isEmpty then 0 else 1) < 30)) = true := by rfl)
    (hline : (apos.endLine == cpos.line) = true := by rfl) (htrees : backTo cpos (starEach [e, f] X.env) = [(false, eval e X.env), (false, eval f X.env)] := by rfl) :
    PE X (.Call (.Attribute o "get" apos) [e, f] [] cpos) (tWGet X.K X.w td ty tx) := by
  refine ⟨fun pins s σ H Q I h => ?_⟩
  refine wpAny_Call_method hbase hfew hline PySem.F.plainAttrs_dict PySem.F.slot_dict_get PySem.F.type_dict_get (thn (ho.run pins s σ H _ I h) fun u s1 ⟨x, H1, I1, rx, a, ex, ⟨es, n, D⟩, q1⟩ => ?_)
  subst ex
  obtain rfl : u = Value.ref a := rx
  have hm := PySem.W.mapOf_K (prog := X.prog) (w := X.w) I1.kIn D.at_ D.lit
  refine ⟨hm.typeIs, fun b q => ?_, ?_⟩
  · cases q
    exact ⟨_, I1.kIn _ _ D.at_, rfl⟩
  rw [htrees]
  refine Calls.callWith_builtin rfl (Calls.evalArgs_plain (Calls.spliced_cons (thn (he.run pins s1 σ H1 _ I1 q1) fun iv s2 ⟨y, H2, I2, ry, z, ey, q2⟩ =>
    Calls.spliced_cons (thn (hf.run pins s2 σ H2 _ I2 q2) fun fv s3 ⟨d, H3, I3, rd, r, hr, q3, q4⟩ => Calls.spliced_nil ?_))))
  subst ey
  obtain ⟨t, rfl⟩ := ry
  have hm3 := PySem.W.mapOf_K (prog := X.prog) (w := X.w) I3.kIn D.at_ D.lit
  refine call_meetsIn PySem.F.slot_dict_get hm3.typeIs PySem.F.entry_dict_get (PySem.F.args_dict_get_3 _ _ _) (meets_dict_get_default (strKind X.prog X.w) a (strKind_is X.prog X.w z t) D.low fv) ⟨_, hm3, ?_⟩
  rw [PySem.W.find_K D.at_ hr]
  cases r with
  | none => exact ⟨d, H3, I3.tok _, rd, q4 rfl⟩
  | some u =>
    obtain ⟨v, rv, qv⟩ := q3 u rfl
    exact ⟨v, H3, I3.tok _, rv, qv⟩
end
section
variable {K : PySem.W.Frag} {w : World} {td ty tx : TE} {σ : St'} {H : Hp} {Q : VK} {a : Addr}
theorem w_wget (q : td σ H (kWGet K w ty tx σ Q)) : tWGet K w td ty tx σ H Q := q
def kWG2 (K : PySem.W.Frag) (a : Addr) (tx : TE) (σ : St') (Q : VK) : VK := fun y H2 => ∃ z, y = .str z ∧ tx σ H2 fun d H3 => ∃ r, PySem.W.nsIn K a z = some r ∧ (∀ u, r = some u → ∃ v, RelV v u ∧ Q v H3) ∧ (r = none → Q d H3)
theorem w_kWGet (h : ∃ es n, KDict K w a es n) (q : ty σ H (kWG2 K a tx σ Q)) : kWGet K w ty tx σ Q (.ref a) H := ⟨a, rfl, h, q⟩
def kWG3 (K : PySem.W.Frag) (a : Addr) (z : Str) (Q : VK) : VK := fun d H3 => ∃ r, PySem.W.nsIn K a z = some r ∧ (∀ u, r = some u → ∃ v, RelV v u ∧ Q v H3) ∧ (r = none → Q d H3)
theorem w_kWG2 {z : Str} (q : tx σ H (kWG3 K a z Q)) : kWG2 K a tx σ Q (.str z) H := ⟨z, rfl, q⟩
theorem w_kWG3_in {z : Str} {b : Addr} {d : V} (h : PySem.W.nsIn K a z = some (some (.ref b))) (q : Q (.ref b) H) : kWG3 K a z Q d H := ⟨_, h, fun u e => ⟨.ref b, (Option.some.inj e).symm, q⟩, (fun e => by cases e)⟩
theorem w_kWG3_no {z : Str} {d : V} (h : PySem.W.nsIn K a z = some none) (q : Q d H) : kWG3 K a z Q d H := ⟨_, h, (fun _ e => by cases e), fun _ => q⟩
theorem w_kWG3 {z : Str} {xs : List V} {t : Addr} (h : (∃ b, PySem.W.nsIn K a z = some (some (.ref b)) ∧ ∀ H, SqT K H b xs) ∨ (PySem.W.nsIn K a z = some none ∧ xs = [])) (ht : SqT K H t []) (q : ∀ b, SqT K H b xs → Q (.ref b) H) : kWG3 K a z Q (.ref t) H := by
  rcases h with ⟨b, h1, h2⟩ | ⟨h1, rfl⟩
  · exact w_kWG3_in h1 (q b (h2 H))
  · exact w_kWG3_no h1 (q t ht)
end

/-! part P04txt -/
abbrev cS (K : PySem.W.Frag) : Addr := gA K "State"
abbrev cP (K : PySem.W.Frag) : Addr := gA K "Plain"
abbrev cB (K : PySem.W.Frag) : Addr := gA K "Block"
abbrev cT (K : PySem.W.Frag) : Addr := gA K "Turner"
def tv_ALL_WORDS : List V := [.str "stop", .str "copy", .str "take", .str "add", .str "less", .str "load", .str "store", .str "fetch", .str "send", .str "jump", .str "zero", .str "other", .str "carry", .str "call", .str "back", .str "say", .str "lay", .str "keep", .str "leave", .str "guard"]
def tv_LONGER : List V := [.str "take", .str "load", .str "store", .str "jump", .str "zero", .str "other", .str "carry", .str "call", .str "guard"]
def tv_ENDS : List V := [.str "stop", .str "jump", .str "zero", .str "other", .str "carry", .str "call", .str "back", .str "lay", .str "keep", .str "leave", .str "guard"]
def tv_GOALS : List V := [.str "jump", .str "zero", .str "other", .str "carry", .str "call"]
def tv_NOT_BEHIND : List V := [.str "stop", .str "jump", .str "call", .str "back", .str "lay", .str "keep", .str "leave", .str "guard"]
/-- the table of shapes -/
def shapeL : List (Str × List Int) := [("stop", []), ("copy", [4, 4]), ("take", [4]), ("add", [4, 4]), ("less", [4, 4]), ("load", [4]), ("store", [4]), ("fetch", [4, 4]), ("send", [4, 4]), ("back", [4]), ("say", [4]), ("lay", [4, 8]), ("keep", [4, 8]), ("leave", [4])]
structure Txt (w : World) (K : PySem.W.Frag) (mg : Str → Option Value) : Prop where
  cl_State : Cls K (cS K)
  n_State_store : NoAttr K (cS K) "store"
  n_State_map : NoAttr K (cS K) "map"
  n_State_held : NoAttr K (cS K) "held"
  n_State_sum : NoAttr K (cS K) "sum"
  n_State_next_place : NoAttr K (cS K) "next_place"
  n_State_post : NoAttr K (cS K) "post"
  n_State_told : NoAttr K (cS K) "told"
  n_State_end : NoAttr K (cS K) "end"
  n_State_many : NoAttr K (cS K) "many"
  cl_Plain : Cls K (cP K)
  n_Plain_state : NoAttr K (cP K) "state"
  n_Plain_asked : NoAttr K (cP K) "asked"
  cl_Block : Cls K (cB K)
  n_Block_start : NoAttr K (cB K) "start"
  n_Block_rows : NoAttr K (cB K) "rows"
  n_Block_spots : NoAttr K (cB K) "spots"
  n_Block_chains : NoAttr K (cB K) "chains"
  n_Block_begun : NoAttr K (cB K) "begun"
  n_Block_last : NoAttr K (cB K) "last"
  o_Block : ObjEq K (cB K)
  cl_Turner : Cls K (cT K)
  n_Turner_state : NoAttr K (cT K) "state"
  n_Turner_asked : NoAttr K (cT K) "asked"
  n_Turner_long : NoAttr K (cT K) "long"
  n_Turner_room : NoAttr K (cT K) "room"
  n_Turner_table : NoAttr K (cT K) "table"
  n_Turner_now : NoAttr K (cT K) "now"
  n_Turner_come : NoAttr K (cT K) "come"
  n_Turner_at : NoAttr K (cT K) "at"
  n_Turner_clock : NoAttr K (cT K) "clock"
  n_Turner_made : NoAttr K (cT K) "made"
  n_Turner_looked : NoAttr K (cT K) "looked"
  n_Turner_chained : NoAttr K (cT K) "chained"
  n_Turner_thrown : NoAttr K (cT K) "thrown"
  d_head_of : ∃ f fd, FunD K "head_of" "head_of" (defArgs s_head_of) (defBody s_head_of) (defScope s_head_of) [] [] f fd ∧ mg "head_of" = some (.ref f)
  d_size_of : ∃ f fd, FunD K "size_of" "size_of" (defArgs s_size_of) (defBody s_size_of) (defScope s_size_of) [] [] f fd ∧ mg "size_of" = some (.ref f)
  d_State_init : ∃ f fd, FunD K "__init__" "State.__init__" (defArgs s_State_init) (defBody s_State_init) (defScope s_State_init) [] [] f fd ∧ Mk K (cS K) f ∧ mg "State" = some (.ref (cS K))
  d_State_spot : ∃ f fd, FunD K "spot" "State.spot" (defArgs s_State_spot) (defBody s_State_spot) (defScope s_State_spot) [] [] f fd ∧ Meth K (cS K) "spot" f
  d_State_is_zero : ∃ f fd, FunD K "is_zero" "State.is_zero" (defArgs s_State_is_zero) (defBody s_State_is_zero) (defScope s_State_is_zero) [] [] f fd ∧ Meth K (cS K) "is_zero" f
  d_State_is_carry : ∃ f fd, FunD K "is_carry" "State.is_carry" (defArgs s_State_is_carry) (defBody s_State_is_carry) (defScope s_State_is_carry) [] [] f fd ∧ Meth K (cS K) "is_carry" f
  d_State_fault : ∃ f fd, FunD K "fault" "State.fault" (defArgs s_State_fault) (defBody s_State_fault) (defScope s_State_fault) [] [] f fd ∧ Meth K (cS K) "fault" f
  d_State_goal : ∃ f fd, FunD K "goal" "State.goal" (defArgs s_State_goal) (defBody s_State_goal) (defScope s_State_goal) [] [] f fd ∧ Meth K (cS K) "goal" f
  d_State_reached : ∃ f fd, FunD K "reached" "State.reached" (defArgs s_State_reached) (defBody s_State_reached) (defScope s_State_reached) [] [] f fd ∧ Meth K (cS K) "reached" f
  d_State_do : ∃ f fd, FunD K "do" "State.do" (defArgs s_State_do) (defBody s_State_do) (defScope s_State_do) [] [] f fd ∧ Meth K (cS K) "do" f
  d_State_change : ∃ f fd, FunD K "change" "State.change" (defArgs s_State_change) (defBody s_State_change) (defScope s_State_change) [] [] f fd ∧ Meth K (cS K) "change" f
  d_need_guest : ∃ f fd, FunD K "need_guest" "need_guest" (defArgs s_need_guest) (defBody s_need_guest) (defScope s_need_guest) [] [] f fd ∧ mg "need_guest" = some (.ref f)
  d_read_row : ∃ f fd, FunD K "read_row" "read_row" (defArgs s_read_row) (defBody s_read_row) (defScope s_read_row) [] [] f fd ∧ mg "read_row" = some (.ref f)
  d_done_alone : ∃ f fd, FunD K "done_alone" "done_alone" (defArgs s_done_alone) (defBody s_done_alone) (defScope s_done_alone) [] [] f fd ∧ mg "done_alone" = some (.ref f)
  d_Plain_init : ∃ f fd, FunD K "__init__" "Plain.__init__" (defArgs s_Plain_init) (defBody s_Plain_init) (defScope s_Plain_init) [] [("begin", .int 0)] f fd ∧ Mk K (cP K) f ∧ mg "Plain" = some (.ref (cP K))
  e_Plain : ∃ f fd, FunD K "__init__" "Plain.__init__" (defArgs s_Plain_init) (defBody s_Plain_init) (defScope s_Plain_init) [] [("begin", .int 0)] f fd ∧ ClX.CRead K (cP K) (.type "type") ∧ ClX.CVal K (cP K) (.type "type") "__init__" (.ref f) (.ref f)
  d_Plain_go : ∃ f fd, FunD K "go" "Plain.go" (defArgs s_Plain_go) (defBody s_Plain_go) (defScope s_Plain_go) [.int 1] [] f fd ∧ Meth K (cP K) "go" f ∧ Meth K (cT K) "go" f
  d_Plain_advance : ∃ f fd, FunD K "advance" "Plain.advance" (defArgs s_Plain_advance) (defBody s_Plain_advance) (defScope s_Plain_advance) [] [] f fd ∧ Meth K (cP K) "advance" f
  d_Plain_rows_done : ∃ f fd, FunD K "rows_done" "Plain.rows_done" (defArgs s_Plain_rows_done) (defBody s_Plain_rows_done) (defScope s_Plain_rows_done) [] [] f fd ∧ Meth K (cP K) "rows_done" f ∧ Meth K (cT K) "rows_done" f
  d_Plain_place : ∃ f fd, FunD K "place" "Plain.place" (defArgs s_Plain_place) (defBody s_Plain_place) (defScope s_Plain_place) [] [] f fd ∧ Meth K (cP K) "place" f ∧ Meth K (cT K) "place" f
  d_Plain_why : ∃ f fd, FunD K "why" "Plain.why" (defArgs s_Plain_why) (defBody s_Plain_why) (defScope s_Plain_why) [] [] f fd ∧ Meth K (cP K) "why" f ∧ Meth K (cT K) "why" f
  d_Plain_registers : ∃ f fd, FunD K "registers" "Plain.registers" (defArgs s_Plain_registers) (defBody s_Plain_registers) (defScope s_Plain_registers) [] [] f fd ∧ Meth K (cP K) "registers" f ∧ Meth K (cT K) "registers" f
  d_Plain_flags : ∃ f fd, FunD K "flags" "Plain.flags" (defArgs s_Plain_flags) (defBody s_Plain_flags) (defScope s_Plain_flags) [] [] f fd ∧ Meth K (cP K) "flags" f ∧ Meth K (cT K) "flags" f
  d_Plain_cells : ∃ f fd, FunD K "cells" "Plain.cells" (defArgs s_Plain_cells) (defBody s_Plain_cells) (defScope s_Plain_cells) [] [] f fd ∧ Meth K (cP K) "cells" f ∧ Meth K (cT K) "cells" f
  d_Plain_said : ∃ f fd, FunD K "said" "Plain.said" (defArgs s_Plain_said) (defBody s_Plain_said) (defScope s_Plain_said) [] [] f fd ∧ Meth K (cP K) "said" f ∧ Meth K (cT K) "said" f
  d_Plain_pages : ∃ f fd, FunD K "pages" "Plain.pages" (defArgs s_Plain_pages) (defBody s_Plain_pages) (defScope s_Plain_pages) [] [] f fd ∧ Meth K (cP K) "pages" f ∧ Meth K (cT K) "pages" f
  d_Plain_guard : ∃ f fd, FunD K "guard" "Plain.guard" (defArgs s_Plain_guard) (defBody s_Plain_guard) (defScope s_Plain_guard) [] [] f fd ∧ Meth K (cP K) "guard" f ∧ Meth K (cT K) "guard" f
  d_Block_init : ∃ f fd, FunD K "__init__" "Block.__init__" (defArgs s_Block_init) (defBody s_Block_init) (defScope s_Block_init) [] [] f fd ∧ Mk K (cB K) f ∧ mg "Block" = some (.ref (cB K))
  d_Block_exits : ∃ f fd, FunD K "exits" "Block.exits" (defArgs s_Block_exits) (defBody s_Block_exits) (defScope s_Block_exits) [] [] f fd ∧ Meth K (cB K) "exits" f
  d_block_at : ∃ f fd, FunD K "block_at" "block_at" (defArgs s_block_at) (defBody s_block_at) (defScope s_block_at) [] [] f fd ∧ mg "block_at" = some (.ref f)
  d_Turner_init : ∃ f fd, FunD K "__init__" "Turner.__init__" (defArgs s_Turner_init) (defBody s_Turner_init) (defScope s_Turner_init) [] [("begin", .int 0), ("long", .int 8), ("room", .int 6)] f fd ∧ Mk K (cT K) f ∧ mg "Turner" = some (.ref (cT K))
  d_Turner_advance : ∃ f fd, FunD K "advance" "Turner.advance" (defArgs s_Turner_advance) (defBody s_Turner_advance) (defScope s_Turner_advance) [] [] f fd ∧ Meth K (cT K) "advance" f
  d_Turner_change_blocks : ∃ f fd, FunD K "change_blocks" "Turner.change_blocks" (defArgs s_Turner_change_blocks) (defBody s_Turner_change_blocks) (defScope s_Turner_change_blocks) [] [] f fd ∧ Meth K (cT K) "change_blocks" f
  d_Turner_found : ∃ f fd, FunD K "found" "Turner.found" (defArgs s_Turner_found) (defBody s_Turner_found) (defScope s_Turner_found) [] [] f fd ∧ Meth K (cT K) "found" f
  d_Turner_begin : ∃ f fd, FunD K "begin" "Turner.begin" (defArgs s_Turner_begin) (defBody s_Turner_begin) (defScope s_Turner_begin) [] [] f fd ∧ Meth K (cT K) "begin" f
  d_Turner_make : ∃ f fd, FunD K "make" "Turner.make" (defArgs s_Turner_make) (defBody s_Turner_make) (defScope s_Turner_make) [] [] f fd ∧ Meth K (cT K) "make" f
  d_Turner_throw : ∃ f fd, FunD K "throw" "Turner.throw" (defArgs s_Turner_throw) (defBody s_Turner_throw) (defScope s_Turner_throw) [] [] f fd ∧ Meth K (cT K) "throw" f
  d_l_dice : ∃ f fd, FunD K "_law_dice" "_law_dice" (defArgs s_l_dice) (defBody s_l_dice) (defScope s_l_dice) [] [] f fd ∧ mg "_law_dice" = some (.ref f)
  d_l_next : ∃ f fd, FunD K "_law_next" "_law_next" (defArgs s_l_next) (defBody s_l_next) (defScope s_l_next) [] [] f fd ∧ mg "_law_next" = some (.ref f)
  d_l_terms : ∃ f fd, FunD K "_law_terms" "_law_terms" (defArgs s_l_terms) (defBody s_l_terms) (defScope s_l_terms) [] [] f fd ∧ mg "_law_terms" = some (.ref f)
  d_l_bounds : ∃ f fd, FunD K "_law_bounds" "_law_bounds" (defArgs s_l_bounds) (defBody s_l_bounds) (defScope s_l_bounds) [] [] f fd ∧ mg "_law_bounds" = some (.ref f)
  d_l_is_long : ∃ f fd, FunD K "_law_is_long" "_law_is_long" (defArgs s_l_is_long) (defBody s_l_is_long) (defScope s_l_is_long) [] [] f fd ∧ mg "_law_is_long" = some (.ref f)
  d_l_head : ∃ f fd, FunD K "_law_head" "_law_head" (defArgs s_l_head) (defBody s_l_head) (defScope s_l_head) [] [] f fd ∧ mg "_law_head" = some (.ref f)
  d_l_code_of : ∃ f fd, FunD K "_law_code_of" "_law_code_of" (defArgs s_l_code_of) (defBody s_l_code_of) (defScope s_l_code_of) [] [] f fd ∧ mg "_law_code_of" = some (.ref f)
  d_l_row : ∃ f fd, FunD K "_law_row" "_law_row" (defArgs s_l_row) (defBody s_l_row) (defScope s_l_row) [] [] f fd ∧ mg "_law_row" = some (.ref f)
  d_l_code : ∃ f fd, FunD K "_law_code" "_law_code" (defArgs s_l_code) (defBody s_l_code) (defScope s_l_code) [] [] f fd ∧ mg "_law_code" = some (.ref f)
  d_l_own : ∃ f fd, FunD K "_law_own" "_law_own" (defArgs s_l_own) (defBody s_l_own) (defScope s_l_own) [] [] f fd ∧ mg "_law_own" = some (.ref f)
  d_l_spot : ∃ f fd, FunD K "_law_spot" "_law_spot" (defArgs s_l_spot) (defBody s_l_spot) (defScope s_l_spot) [] [] f fd ∧ mg "_law_spot" = some (.ref f)
  d_l_at : ∃ f fd, FunD K "_law_at" "_law_at" (defArgs s_l_at) (defBody s_l_at) (defScope s_l_at) [] [] f fd ∧ mg "_law_at" = some (.ref f)
  d_l_one : ∃ f fd, FunD K "_law_one" "_law_one" (defArgs s_l_one) (defBody s_l_one) (defScope s_l_one) [] [] f fd ∧ mg "_law_one" = some (.ref f)
  d_l_goal : ∃ f fd, FunD K "_law_goal" "_law_goal" (defArgs s_l_goal) (defBody s_l_goal) (defScope s_l_goal) [] [] f fd ∧ mg "_law_goal" = some (.ref f)
  d_l_change : ∃ f fd, FunD K "_law_change" "_law_change" (defArgs s_l_change) (defBody s_l_change) (defScope s_l_change) [] [] f fd ∧ mg "_law_change" = some (.ref f)
  d_l_all : ∃ f fd, FunD K "_law_all" "_law_all" (defArgs s_l_all) (defBody s_l_all) (defScope s_l_all) [] [] f fd ∧ mg "_law_all" = some (.ref f)
  d_law : ∃ f fd, FunD K "law" "law" (defArgs s_law) (defBody s_law) (defScope s_law) [] [] f fd ∧ mg "law" = some (.ref f)
  v_MOST : GlV mg "MOST" (.int 9999)
  v_REGISTERS : GlV mg "REGISTERS" (.int 4)
  v_PAGES : GlV mg "PAGES" (.int 4)
  v_CELLS : GlV mg "CELLS" (.int 128)
  v_FRAME : GlV mg "FRAME" (.int 16)
  v_PLACES : GlV mg "PLACES" (.int 64)
  v_BEGIN : GlV mg "BEGIN" (.int 0)
  v_MOST_COUNT : GlV mg "MOST_COUNT" (.int 999)
  v_LONG : GlV mg "LONG" (.int 8)
  v_ROOM : GlV mg "ROOM" (.int 6)
  v_MOST_LONG : GlV mg "MOST_LONG" (.int 16)
  v_MOST_ROOM : GlV mg "MOST_ROOM" (.int 20)
  v_LACKS : GlV mg "LACKS" (.str "lacks")
  v_KEPT : GlV mg "KEPT" (.str "kept")
  v_ROW : GlV mg "ROW" (.str "row")
  v_ALL_WORDS : GlV mg "ALL_WORDS" (.ref (gA K "ALL_WORDS"))
  t_ALL_WORDS : ∀ H, SqT K H (gA K "ALL_WORDS") tv_ALL_WORDS
  v_LONGER : GlV mg "LONGER" (.ref (gA K "LONGER"))
  t_LONGER : ∀ H, SqT K H (gA K "LONGER") tv_LONGER
  v_ENDS : GlV mg "ENDS" (.ref (gA K "ENDS"))
  t_ENDS : ∀ H, SqT K H (gA K "ENDS") tv_ENDS
  v_GOALS : GlV mg "GOALS" (.ref (gA K "GOALS"))
  t_GOALS : ∀ H, SqT K H (gA K "GOALS") tv_GOALS
  v_NOT_BEHIND : GlV mg "NOT_BEHIND" (.ref (gA K "NOT_BEHIND"))
  t_NOT_BEHIND : ∀ H, SqT K H (gA K "NOT_BEHIND") tv_NOT_BEHIND
  v_SHAPES : GlV mg "SHAPES" (.ref (gA K "SHAPES"))
  k_SHAPES : ∃ es n, KDict K w (gA K "SHAPES") es n
  t_SHAPES : ∀ q ∈ shapeL, ∃ a, PySem.W.nsIn K (gA K "SHAPES") q.1 = some (some (.ref a)) ∧ ∀ H, SqT K H a (q.2.map V.int)
  m_SHAPES : ∀ x ∈ (["jump", "zero", "other", "carry", "call", "guard"] : List Str), PySem.W.nsIn K (gA K "SHAPES") x = some none
  v_KINDS : GlV mg "KINDS" (.ref (gA K "KINDS"))
  t_KINDS : KDct K w (gA K "KINDS") "lacks" (.int 1) ∧ KDct K w (gA K "KINDS") "kept" (.int 2) ∧ KDct K w (gA K "KINDS") "row" (.int 3)
  f_len : mg "len" = none
  f_list : mg "list" = none
  f_tuple : mg "tuple" = none
  f_range : mg "range" = none
  f_zip : mg "zip" = none
  f_enumerate : mg "enumerate" = none
  f_int : mg "int" = none
  f_min : mg "min" = none

/-! part P05state -/
/-! ### heaps -/
theorem sz0 : 0 ≤ sizeLine := by decide
theorem sz1 : 1 ≤ sizeLine := by decide
theorem sz2 : 2 ≤ sizeLine := by decide
theorem sz3 : 3 ≤ sizeLine := by decide
theorem sz4 : 4 ≤ sizeLine := by decide
theorem sz5 : 5 ≤ sizeLine := by decide
theorem sz6 : 6 ≤ sizeLine := by decide
theorem sz9 : 9 ≤ sizeLine := by decide
theorem sz10 : 10 ≤ sizeLine := by decide
theorem sz12 : 12 ≤ sizeLine := by decide
theorem look_new {H : Hp} {p a : Addr} {x o : HO} (hp : H p = none) (h : H a = some o) : upd H p x a = some o := by
  rw [upd_ne (ne_of_none h hp)]; exact h
theorem fresh_new {H : Hp} {p q : Addr} {x : HO} (h : upd H p x q = none) : H q = none := by
  by_cases e : q = p
  · rw [e, upd_same] at h; cases h
  · rw [upd_ne e] at h; exact h
/-- all that stood stands -/
abbrev Ext (H H' : Hp) : Prop := Same H H'
theorem Ext.new {H : Hp} {p : Addr} {x : HO} (hp : H p = none) : Same H (upd H p x) := fun _ _ h => look_new hp h
/-- all but p stands -/
def KeepP (p : Addr) (H H' : Hp) : Prop := ∀ b o, H b = some o → b ≠ p → H' b = some o
theorem look_kp {p b C dx : Addr} {fs : List (Str × V)} {H H' : Hp} {o : HO} (k : KeepP p H H') (hp : H p = some (.ins C dx fs)) (h : H b = some o) (ho : o ≠ .ins C dx fs) : H' b = some o := k _ _ h (ne_of h hp ho)
theorem w_kSFg {C a dx : Addr} {f : Str} {y : V} {fs : List (Str × V)} {H : Hp} {N : Hp → Prop} (ho : H a = some (.ins C dx fs)) (hl : fs.length < 1000) (q : ∀ H', H' a = some (.ins C dx (putF f y fs)) → KeepP a H H' → N H') : kSF C f y N (.ref a) H :=
  w_kSF ho hl (q _ upd_same fun b o h ne => by rw [upd_ne ne]; exact h)
theorem KeepP.refl {p : Addr} {H : Hp} : KeepP p H H := fun _ _ h _ => h
theorem KeepP.snoc {p : Addr} {H H1 H2 : Hp} (F : KeepP p H1 H2) (a : KeepP p H H1) : KeepP p H H2 := fun b o h n => F b o (a b o h n) n
theorem KeepP.snocN {p x : Addr} {H H1 : Hp} {o : HO} (hx : H1 x = none) (a : KeepP p H H1) : KeepP p H (upd H1 x o) := fun b u h n => by
  have := a b u h n
  rw [upd_ne (ne_of_none this hx)]
  exact this
theorem KeepP.snocS {p : Addr} {H H1 H2 : Hp} (F : Same H1 H2) (a : KeepP p H H1) : KeepP p H H2 := fun b o h n => F b o (a b o h n)
theorem SqL.of' {K : PySem.W.Frag} {H : Hp} {a : Addr} {xs : List V} (h : H a = some (.lst xs)) : SqL K H a xs := Or.inl (Or.inl h)
theorem SqT.of' {K : PySem.W.Frag} {H : Hp} {a : Addr} {xs : List V} (h : H a = some (.tup xs)) : SqT K H a xs := Or.inl (Or.inl h)
theorem SqT.same {K : PySem.W.Frag} {H H' : Hp} {a : Addr} {xs : List V} (e : Same H H') (h : SqT K H a xs) : SqT K H' a xs := by
  rcases h with (h | ⟨o, h⟩) | h
  · exact .inl (.inl (e _ _ h))
  · exact .inl (.inr ⟨o, e _ _ h⟩)
  · exact .inr h
theorem SqT.new {K : PySem.W.Frag} {H : Hp} {a p : Addr} {xs : List V} {o : HO} (hp : H p = none) (h : SqT K H a xs) : SqT K (upd H p o) a xs := SqT.same (Ext.new hp) h
theorem SqL.same {K : PySem.W.Frag} {H H' : Hp} {a : Addr} {xs : List V} (e : Same H H') (h : SqL K H a xs) : SqL K H' a xs := e.seq h
theorem SqL.new {K : PySem.W.Frag} {H : Hp} {a p : Addr} {xs : List V} {o : HO} (hp : H p = none) (h : SqL K H a xs) : SqL K (upd H p o) a xs := (Ext.new hp).seq h
/-! ### lists of ints by place -/
theorem gi_at {ns : List Int} {i : Int} (h0 : 0 ≤ i) (h1 : i < ns.length) : atI (ns.map V.int) i = some (.int (gi ns i)) := by
  obtain ⟨j, rfl⟩ : ∃ j : Nat, i = (j : Int) := ⟨i.toNat, by omega⟩
  have hj : j < ns.length := by omega
  refine atI_nat ?_
  rw [List.getElem?_map, List.getElem?_eq_getElem hj]
  unfold gi
  rw [List.getD_eq_getElem?_getD]
  simp [List.getElem?_eq_getElem hj]
theorem ixN_of {n : Nat} {i : Int} (h0 : 0 ≤ i) (h1 : i < n) : ixN n i = some i.toNat := by
  unfold ixN
  rw [if_pos h0, if_pos h1]
/-! ### pages, sums as values -/
def PgV (H : Hp) : Option (Int × Bool) → V → Prop
  | none, v => v = .non
  | some (f, o), v => ∃ a, v = .ref a ∧ H a = some (.tup [.int f, .bl o])
def SumV (H : Hp) : Option (Str × Int × Int) → V → Prop
  | none, v => v = .non
  | some (w, x, y), v => ∃ a, v = .ref a ∧ H a = some (.tup [.str w, .int x, .int y])
def optV : Option Int → V
  | none => .non
  | some i => .int i
def TupKeep (H H' : Hp) : Prop := ∀ b xs, H b = some (.tup xs) → H' b = some (.tup xs)
theorem PgV.keep {H H' : Hp} (k : TupKeep H H') : ∀ {p : Option (Int × Bool)} {v : V}, PgV H p v → PgV H' p v
  | none, _, h => h
  | some (f, o), _, ⟨a, e, h⟩ => ⟨a, e, k _ _ h⟩
theorem SumV.keep {H H' : Hp} (k : TupKeep H H') : ∀ {p : Option (Str × Int × Int)} {v : V}, SumV H p v → SumV H' p v
  | none, _, h => h
  | some (w, x, y), _, ⟨a, e, h⟩ => ⟨a, e, k _ _ h⟩
/-- places of the state's lists -/
structure Lay where
  st : Addr
  mp : Addr
  hd : Addr
  td : Addr
def sF (L : Lay) (sm : V) (p : Int) (po : V) (y : Str) (m : Int) : List (Str × V) :=
  [("store", .ref L.st), ("map", .ref L.mp), ("held", .ref L.hd), ("sum", sm), ("next_place", .int p), ("post", po), ("told", .ref L.td), ("end", .str y), ("many", .int m)]
structure StAt (K : PySem.W.Frag) (H : Hp) (p : Addr) (L : Lay) (s : S) : Prop where
  ob : ∃ dx sm, H p = some (.ins (cS K) dx (sF L sm s.place (optV s.post) s.why s.many)) ∧ SumV H s.sum sm
  st : H L.st = some (.lst (s.cells.map V.int))
  mp : ∃ mv, H L.mp = some (.lst mv) ∧ Paired (PgV H) s.pages mv
  hd : H L.hd = some (.lst (s.held.map V.int))
  td : H L.td = some (.lst (s.said.map V.int))
  n1 : L.st ≠ L.mp
  n2 : L.st ≠ L.hd
  n3 : L.st ≠ L.td
  n4 : L.mp ≠ L.hd
  n5 : L.mp ≠ L.td
  n6 : L.hd ≠ L.td
  cl : s.cells.length = 128
  pl : s.pages.length = 4
  hl : s.held.length = 4
/-- a place within the state -/
def Lay.In (L : Lay) (p b : Addr) : Prop := b = p ∨ b = L.st ∨ b = L.mp ∨ b = L.hd ∨ b = L.td
theorem Paired.at {α β : Type} {F : α → β → Prop} : ∀ {l : List α} {m : List β} {i : Nat} {a : α}, Paired F l m → l[i]? = some a → ∃ b, m[i]? = some b ∧ F a b
  | _, _, _, _, .nil, e => by simp at e
  | _, _, 0, _, .cons r _, e => by simp at e; subst e; exact ⟨_, rfl, r⟩
  | _, _, i + 1, a, .cons _ t, e => by
    obtain ⟨b, h1, h2⟩ := Paired.at (i := i) (a := a) t (by simpa using e)
    exact ⟨b, by simpa using h1, h2⟩
theorem pg_at {H : Hp} {pg : List (Option (Int × Bool))} {mv : List V} (P : Paired (PgV H) pg mv) {i : Int} (h0 : 0 ≤ i) (h1 : i < pg.length) : ∃ v, atI mv i = some v ∧ PgV H (pgOf pg i) v := by
  obtain ⟨j, rfl⟩ : ∃ j : Nat, i = (j : Int) := ⟨i.toNat, by omega⟩
  have hj : j < pg.length := by omega
  obtain ⟨b, e, h⟩ := Paired.at P (List.getElem?_eq_getElem hj)
  refine ⟨b, atI_nat e, ?_⟩
  unfold pgOf
  rw [List.getD_eq_getElem?_getD]
  simp [List.getElem?_eq_getElem hj]
  exact h
/-! ### the step of a reading -/
section
variable {K : PySem.W.Frag} {σ : St'} {H : Hp} {Q : VK} {v y : V} {tb tc : TE} {r' : R2} {p : Prop}
theorem kAV_y [Decidable p] (h : p) (q : tb σ H Q) : kAV tb σ Q (.bl (decide p)) H := by rw [decide_eq_true h]; exact kAV_T q
theorem kAV_n [Decidable p] (h : ¬ p) (q : Q (.bl false) H) : kAV tb σ Q (.bl (decide p)) H := by rw [decide_eq_false h]; exact kAV_F q
theorem kOV_y [Decidable p] (h : p) (q : Q (.bl true) H) : kOV tb σ Q (.bl (decide p)) H := by rw [decide_eq_true h]; exact kOV_T q
theorem kOV_n [Decidable p] (h : ¬ p) (q : tb σ H Q) : kOV tb σ Q (.bl (decide p)) H := by rw [decide_eq_false h]; exact kOV_F q
theorem w_ixLI {q : Addr} {ns : List Int} {i : Int} (h : H q = some (.lst (ns.map V.int))) (h0 : 0 ≤ i) (h1 : i < ns.length) (k : Q (.int (gi ns i)) H) : rIxL K (.ref q) (.int i) H Q := w_ixL (SqL.of' h) (gi_at h0 h1) k
end
section
variable {CX : CXT} {P : Program} {w : World} {K : PySem.W.Frag} {mg : Str → Option Value} {base : Heap} {N : List Str} {qual : Str} {sc : Scope} {f : Addr} {cd : Value} {A : Around} {outer : List Env} {s : Shared} {H : Hp} {E : XK}
theorem cxK : (cxOf CX P w K mg base N qual sc f cd A outer s H E).K = K := rfl
theorem cxW : (cxOf CX P w K mg base N qual sc f cd A outer s H E).w = w := rfl
end
/-! ### promises by the number of arguments -/
def sp1 (R : V → Hp → VK → Prop) : Sp := fun vs H Q _ => ∃ a, vs = [a] ∧ R a H Q
def sp2 (R : V → V → Hp → VK → Prop) : Sp := fun vs H Q _ => ∃ a b, vs = [a, b] ∧ R a b H Q
def sp3 (R : V → V → V → Hp → VK → Prop) : Sp := fun vs H Q _ => ∃ a b c, vs = [a, b, c] ∧ R a b c H Q
def sp4 (R : V → V → V → V → Hp → VK → Prop) : Sp := fun vs H Q _ => ∃ a b c d, vs = [a, b, c, d] ∧ R a b c d H Q
def sp5 (R : V → V → V → V → V → Hp → VK → Prop) : Sp := fun vs H Q _ => ∃ a b c d e, vs = [a, b, c, d, e] ∧ R a b c d e H Q
section
variable {H : Hp} {Q : VK} {E : XK} {a b c d e : V}
theorem w_spF1 {R : V → Hp → VK → Prop} (q : R a H Q) : sp1 R ([a] ++ []) H Q E := ⟨a, rfl, q⟩
theorem w_spF2 {R : V → V → Hp → VK → Prop} (q : R a b H Q) : sp2 R ([a, b] ++ []) H Q E := ⟨a, b, rfl, q⟩
theorem w_spF3 {R : V → V → V → Hp → VK → Prop} (q : R a b c H Q) : sp3 R ([a, b, c] ++ []) H Q E := ⟨a, b, c, rfl, q⟩
theorem w_spM1 {R : V → Hp → VK → Prop} (q : R a H Q) : sp1 R (a :: ([] ++ [])) H Q E := ⟨a, rfl, q⟩
theorem w_spM2 {R : V → V → Hp → VK → Prop} (q : R a b H Q) : sp2 R (a :: ([b] ++ [])) H Q E := ⟨a, b, rfl, q⟩
theorem w_spM3 {R : V → V → V → Hp → VK → Prop} (q : R a b c H Q) : sp3 R (a :: ([b, c] ++ [])) H Q E := ⟨a, b, c, rfl, q⟩
theorem w_spM4 {R : V → V → V → V → Hp → VK → Prop} (q : R a b c d H Q) : sp4 R (a :: ([b, c, d] ++ [])) H Q E := ⟨a, b, c, d, rfl, q⟩
end
theorem w_un {σ : St'} {H : Hp} {Q : VK} {ta : TE} {r : V → Hp → VK → Prop} (q : ta σ H fun x H1 => r x H1 Q) : tUn r ta σ H Q := q
theorem w_U {H : Hp} {Q : VK} {g : Int → Int} {i : Int} (q : Q (.int (g i)) H) : rU (fun i => V.int (g i)) (.int i) H Q := ⟨i, rfl, q⟩
theorem w_neg {H : Hp} {Q : VK} {i : Int} (q : Q (.int (-i)) H) : rU (fun i => V.int (-i)) (.int i) H Q := ⟨i, rfl, q⟩
/-- the tuple of a written name -/
theorem w_ixTK {K : PySem.W.Frag} {H : Hp} {Q : VK} {v : V} {p : Addr} {xs : List V} {i : Int} (h : SqT K H p xs) (ha : atI xs i = some v) (q : Q v H) : rIxT K (.ref p) (.int i) H Q := w_ixT h ha q
theorem w_setL {l : Addr} {xs : List V} {i : Int} {v : V} {H : Hp} {N : Hp → Prop} (h : H l = some (.lst xs)) (h0 : 0 ≤ i) (h1 : i < xs.length) (q : N (upd H l (.lst (xs.set i.toNat v)))) : rSetL (.ref l) (.int i) v H N :=
  ⟨l, xs, i, i.toNat, rfl, rfl, h, ixN_of h0 h1, q⟩
theorem w_setLI {l : Addr} {ns : List Int} {i j : Int} {H : Hp} {N : Hp → Prop} (h : H l = some (.lst (ns.map V.int))) (h0 : 0 ≤ i) (h1 : i < ns.length) (q : N (upd H l (.lst ((ns.set i.toNat j).map V.int)))) : rSetL (.ref l) (.int i) (.int j) H N := by
  refine w_setL h h0 (by rw [List.length_map]; exact h1) ?_
  rw [List.map_set] at q
  exact q
theorem w_gSub {σ : St'} {H : Hp} {N : St' → Hp → Prop} {v : V} {to ti : TE} {t : TSet} (q : to σ H fun o H1 => ti σ H1 fun i H2 => t o i v H2 fun H3 => N σ H3) : gSub to ti t v σ H N := q
/-- the in of a tuple just made, of a written one -/
theorem w_inT {K : PySem.W.Frag} {H : Hp} {Q : VK} {x : V} {p : Addr} {xs : List V} {k : Bool} (h : SqT K H p xs) (hx : flatV x = true) (ha : xs.all flatV = true) (e : inV x xs = k) (q : Q (.bl k) H) : rIn K false x (.ref p) H Q :=
  ⟨p, xs, rfl, .inr h, hx, ha, by rw [e]; exact q⟩
theorem w_niT {K : PySem.W.Frag} {H : Hp} {Q : VK} {x : V} {p : Addr} {xs : List V} {k : Bool} (h : SqT K H p xs) (hx : flatV x = true) (ha : xs.all flatV = true) (e : (!inV x xs) = k) (q : Q (.bl k) H) : rIn K true x (.ref p) H Q :=
  ⟨p, xs, rfl, .inr h, hx, ha, by rw [if_pos rfl, e]; exact q⟩
/-! ### the state changed -/
/-- what stands outside of the state stands -/
def FrS (L : Lay) (p : Addr) (H H' : Hp) : Prop := ∀ b o, H b = some o → ¬ L.In p b → H' b = some o
theorem FrS.refl {L : Lay} {p : Addr} {H : Hp} : FrS L p H H := fun _ _ h _ => h
theorem FrS.trans {L : Lay} {p : Addr} {H H1 H2 : Hp} (a : FrS L p H H1) (b : FrS L p H1 H2) : FrS L p H H2 := fun x o h n => b x o (a x o h n) n
theorem FrS.same {L : Lay} {p : Addr} {H H' : Hp} (a : Same H H') : FrS L p H H' := fun x o h _ => a x o h
theorem FrS.put {L : Lay} {p x : Addr} {H : Hp} {o : HO} (i : L.In p x) : FrS L p H (upd H x o) := fun b u h n => by
  rw [upd_ne (fun q => n (by rw [q]; exact i))]; exact h
theorem FrS.snoc {L : Lay} {p : Addr} {H H1 H2 : Hp} (F : FrS L p H1 H2) (a : FrS L p H H1) : FrS L p H H2 := a.trans F
theorem FrS.snocN {L : Lay} {p x : Addr} {H H1 : Hp} {o : HO} (hx : H1 x = none) (a : FrS L p H H1) : FrS L p H (upd H1 x o) := a.trans (FrS.same (Ext.new hx))
theorem FrS.snocS {L : Lay} {p : Addr} {H H1 H2 : Hp} (F : Same H1 H2) (a : FrS L p H H1) : FrS L p H H2 := a.trans (FrS.same F)
theorem look_same {H H' : Hp} (e : Same H H') {a : Addr} {o : HO} (h : H a = some o) : H' a = some o := e _ _ h
section
variable {K : PySem.W.Frag} {H H' : Hp} {p : Addr} {L : Lay} {s s' : S}
theorem Same.tups (e : Same H H') : TupKeep H H' := fun b xs h => e b _ h
theorem Paired.mono {α β : Type} {F G : α → β → Prop} : ∀ {l₁ : List α} {l₂ : List β}, Paired F l₁ l₂ → (∀ a b, F a b → G a b) → Paired G l₁ l₂
  | _, _, .nil, _ => .nil
  | _, _, .cons r t, f => .cons (f _ _ r) (Paired.mono t f)
theorem StAt.same (e : Same H H') (R : StAt K H p L s) : StAt K H' p L s := by
  obtain ⟨⟨dx, sm, h1, h2⟩, h3, ⟨mv, h4, h5⟩, h6, h7, n1, n2, n3, n4, n5, n6, cl, pl, hl⟩ := R
  exact ⟨⟨dx, sm, e _ _ h1, h2.keep (Same.tups e)⟩, e _ _ h3, ⟨mv, e _ _ h4, Paired.mono h5 fun _ _ q => q.keep (Same.tups e)⟩, e _ _ h6, e _ _ h7, n1, n2, n3, n4, n5, n6, cl, pl, hl⟩
theorem StAt.new {q : Addr} {o : HO} (hq : H q = none) (R : StAt K H p L s) : StAt K (upd H q o) p L s := R.same (Ext.new hq)
theorem StAt.ne (R : StAt K H p L s) : p ≠ L.st ∧ p ≠ L.mp ∧ p ≠ L.hd ∧ p ≠ L.td := by
  obtain ⟨⟨dx, sm, h1, h2⟩, h3, ⟨mv, h4, h5⟩, h6, h7, _⟩ := R
  exact ⟨ne_of h1 h3 (by intro z; cases z), ne_of h1 h4 (by intro z; cases z), ne_of h1 h6 (by intro z; cases z), ne_of h1 h7 (by intro z; cases z)⟩
theorem tup_upd {x : Addr} {o u : HO} (h : H x = some u) (hu : ∀ xs, u ≠ .tup xs) : TupKeep H (upd H x o) := fun b xs q => by
  rw [upd_ne (ne_of q h fun z => hu xs z.symm)]; exact q
theorem StAt.notIn {b : Addr} (h : H b = none) (R : StAt K H p L s) : ¬ L.In p b := by
  obtain ⟨⟨dx, sm, h1, h2⟩, h3, ⟨mv, h4, h5⟩, h6, h7, _⟩ := R
  rintro (rfl | rfl | rfl | rfl | rfl)
  · rw [h] at h1; cases h1
  · rw [h] at h3; cases h3
  · rw [h] at h4; cases h4
  · rw [h] at h6; cases h6
  · rw [h] at h7; cases h7
theorem StAt.notTup {b : Addr} {xs : List V} (h : H b = some (.tup xs)) (R : StAt K H p L s) : ¬ L.In p b := by
  obtain ⟨⟨dx, sm, h1, h2⟩, h3, ⟨mv, h4, h5⟩, h6, h7, _⟩ := R
  rintro (rfl | rfl | rfl | rfl | rfl)
  · rw [h] at h1; cases h1
  · rw [h] at h3; cases h3
  · rw [h] at h4; cases h4
  · rw [h] at h6; cases h6
  · rw [h] at h7; cases h7
theorem look_fr {a : Addr} {o : HO} (F : FrS L p H H') (n : ¬ L.In p a) (h : H a = some o) : H' a = some o := F _ _ h n
theorem StAt.setOb {dx : Addr} {fs : List (Str × V)} {sm : V} (R : StAt K H p L s) (ho : H p = some (.ins (cS K) dx fs)) (hs : SumV H s'.sum sm) (e1 : s'.cells = s.cells) (e2 : s'.pages = s.pages) (e3 : s'.held = s.held) (e4 : s'.said = s.said) :
    StAt K (upd H p (.ins (cS K) dx (sF L sm s'.place (optV s'.post) s'.why s'.many))) p L s' := by
  have ne := R.ne
  obtain ⟨⟨dx', sm', h1, h2⟩, h3, ⟨mv, h4, h5⟩, h6, h7, n1, n2, n3, n4, n5, n6, cl, pl, hl⟩ := R
  have tk : TupKeep H (upd H p (.ins (cS K) dx (sF L sm s'.place (optV s'.post) s'.why s'.many))) := tup_upd ho (by intro xs z; cases z)
  exact ⟨⟨dx, sm, upd_same, hs.keep tk⟩, by rw [upd_ne ne.1.symm, e1]; exact h3, ⟨mv, by rw [upd_ne ne.2.1.symm]; exact h4, by rw [e2]; exact Paired.mono h5 fun _ _ q => q.keep tk⟩, by rw [upd_ne ne.2.2.1.symm, e3]; exact h6, by rw [upd_ne ne.2.2.2.symm, e4]; exact h7, n1, n2, n3, n4, n5, n6, by rw [e1]; exact cl, by rw [e2]; exact pl, by rw [e3]; exact hl⟩
theorem StAt.setSt (R : StAt K H p L s) (cs : List Int) (hcs : cs.length = 128) : StAt K (upd H L.st (.lst (cs.map V.int))) p L { s with cells := cs } := by
  have ne := R.ne
  obtain ⟨⟨dx, sm, h1, h2⟩, h3, ⟨mv, h4, h5⟩, h6, h7, n1, n2, n3, n4, n5, n6, cl, pl, hl⟩ := R
  have tk : TupKeep H (upd H L.st (.lst (cs.map V.int))) := tup_upd h3 (by intro xs z; cases z)
  exact ⟨⟨dx, sm, by rw [upd_ne ne.1]; exact h1, h2.keep tk⟩, upd_same, ⟨mv, by rw [upd_ne n1.symm]; exact h4, Paired.mono h5 fun _ _ q => q.keep tk⟩, by rw [upd_ne n2.symm]; exact h6, by rw [upd_ne n3.symm]; exact h7, n1, n2, n3, n4, n5, n6, hcs, pl, hl⟩
theorem StAt.setHd (R : StAt K H p L s) (cs : List Int) (hcs : cs.length = 4) : StAt K (upd H L.hd (.lst (cs.map V.int))) p L { s with held := cs } := by
  have ne := R.ne
  obtain ⟨⟨dx, sm, h1, h2⟩, h3, ⟨mv, h4, h5⟩, h6, h7, n1, n2, n3, n4, n5, n6, cl, pl, hl⟩ := R
  have tk : TupKeep H (upd H L.hd (.lst (cs.map V.int))) := tup_upd h6 (by intro xs z; cases z)
  exact ⟨⟨dx, sm, by rw [upd_ne ne.2.2.1]; exact h1, h2.keep tk⟩, by rw [upd_ne n2]; exact h3, ⟨mv, by rw [upd_ne n4]; exact h4, Paired.mono h5 fun _ _ q => q.keep tk⟩, upd_same, by rw [upd_ne n6.symm]; exact h7, n1, n2, n3, n4, n5, n6, cl, pl, hcs⟩
theorem StAt.setTd (R : StAt K H p L s) (cs : List Int) : StAt K (upd H L.td (.lst (cs.map V.int))) p L { s with said := cs } := by
  have ne := R.ne
  obtain ⟨⟨dx, sm, h1, h2⟩, h3, ⟨mv, h4, h5⟩, h6, h7, n1, n2, n3, n4, n5, n6, cl, pl, hl⟩ := R
  have tk : TupKeep H (upd H L.td (.lst (cs.map V.int))) := tup_upd h7 (by intro xs z; cases z)
  exact ⟨⟨dx, sm, by rw [upd_ne ne.2.2.2]; exact h1, h2.keep tk⟩, by rw [upd_ne n3]; exact h3, ⟨mv, by rw [upd_ne n5]; exact h4, Paired.mono h5 fun _ _ q => q.keep tk⟩, by rw [upd_ne n6]; exact h6, upd_same, n1, n2, n3, n4, n5, n6, cl, pl, hl⟩
theorem Paired.set {α β : Type} {F : α → β → Prop} {a : α} {b : β} (r : F a b) : ∀ {xs : List α} {us : List β} (i : Nat), Paired F xs us → Paired F (xs.set i a) (us.set i b)
  | _, _, _, .nil => .nil
  | _, _, 0, .cons _ t => .cons r t
  | _, _, i + 1, .cons q t => .cons q (Paired.set r i t)
theorem StAt.setMp {mv : List V} {pg : Option (Int × Bool)} {v : V} (R : StAt K H p L s) (hm : H L.mp = some (.lst mv)) (hp : Paired (PgV H) s.pages mv) (j : Nat) (hv : PgV H pg v) : StAt K (upd H L.mp (.lst (mv.set j v))) p L { s with pages := s.pages.set j pg } := by
  have ne := R.ne
  obtain ⟨⟨dx, sm, h1, h2⟩, h3, _, h6, h7, n1, n2, n3, n4, n5, n6, cl, pl, hl⟩ := R
  have tk : TupKeep H (upd H L.mp (.lst (mv.set j v))) := tup_upd hm (by intro xs z; cases z)
  exact ⟨⟨dx, sm, by rw [upd_ne ne.2.1]; exact h1, h2.keep tk⟩, by rw [upd_ne n1]; exact h3, ⟨_, upd_same, Paired.mono (Paired.set hv j hp) fun _ _ q => q.keep tk⟩, by rw [upd_ne n4.symm]; exact h6, by rw [upd_ne n5.symm]; exact h7, n1, n2, n3, n4, n5, n6, cl, by show (s.pages.set j pg).length = 4; rw [List.length_set]; exact pl, hl⟩
end
/-! ### operations of the state, the heap behind them named -/
section
variable {K : PySem.W.Frag} {H : Hp} {Q : VK} {N : Hp → Prop} {p : Addr} {L : Lay} {s : S} {i j : Int} {σ : St'}
theorem g_store (R : StAt K H p L s) (q : Q (.ref L.st) H) : kF (cS K) "store" Q (.ref p) H := let ⟨_, _, ho, _⟩ := R.ob; w_kF ho rfl q
theorem g_map (R : StAt K H p L s) (q : Q (.ref L.mp) H) : kF (cS K) "map" Q (.ref p) H := let ⟨_, _, ho, _⟩ := R.ob; w_kF ho rfl q
theorem g_held (R : StAt K H p L s) (q : Q (.ref L.hd) H) : kF (cS K) "held" Q (.ref p) H := let ⟨_, _, ho, _⟩ := R.ob; w_kF ho rfl q
theorem g_told (R : StAt K H p L s) (q : Q (.ref L.td) H) : kF (cS K) "told" Q (.ref p) H := let ⟨_, _, ho, _⟩ := R.ob; w_kF ho rfl q
theorem g_place (R : StAt K H p L s) (q : Q (.int s.place) H) : kF (cS K) "next_place" Q (.ref p) H := let ⟨_, _, ho, _⟩ := R.ob; w_kF ho rfl q
theorem g_post (R : StAt K H p L s) (q : Q (optV s.post) H) : kF (cS K) "post" Q (.ref p) H := let ⟨_, _, ho, _⟩ := R.ob; w_kF ho rfl q
theorem g_end (R : StAt K H p L s) (q : Q (.str s.why) H) : kF (cS K) "end" Q (.ref p) H := let ⟨_, _, ho, _⟩ := R.ob; w_kF ho rfl q
theorem g_many (R : StAt K H p L s) (q : Q (.int s.many) H) : kF (cS K) "many" Q (.ref p) H := let ⟨_, _, ho, _⟩ := R.ob; w_kF ho rfl q
theorem g_sum (R : StAt K H p L s) (q : ∀ v, SumV H s.sum v → Q v H) : kF (cS K) "sum" Q (.ref p) H := let ⟨_, _, ho, hs⟩ := R.ob; w_kF ho rfl (q _ hs)
theorem g_kM {m : Str} {RR : V → Hp → Prop} (R : StAt K H p L s) (hm : ∀ sm, (sF L sm s.place (optV s.post) s.why s.many).lookup m = none) (q : RR (.ref p) H) : kM (cS K) m RR (.ref p) H := let ⟨_, sm, ho, _⟩ := R.ob; w_kM ho (hm sm) q
theorem g_ixHd {K2 : PySem.W.Frag} (R : StAt K H p L s) (h0 : 0 ≤ i) (h1 : i < 4) (q : Q (.int (gi s.held i)) H) : rIxL K2 (.ref L.hd) (.int i) H Q := w_ixLI R.hd h0 (by rw [R.hl]; exact h1) q
theorem g_ixSt {K2 : PySem.W.Frag} (R : StAt K H p L s) (h0 : 0 ≤ i) (h1 : i < 128) (q : Q (.int (gi s.cells i)) H) : rIxL K2 (.ref L.st) (.int i) H Q := w_ixLI R.st h0 (by rw [R.cl]; exact h1) q
theorem g_ixMp {K2 : PySem.W.Frag} (R : StAt K H p L s) (h0 : 0 ≤ i) (h1 : i < 4) (q : ∀ v, PgV H (pgOf s.pages i) v → Q v H) : rIxL K2 (.ref L.mp) (.int i) H Q := by
  obtain ⟨mv, hm, hp⟩ := R.mp
  obtain ⟨v, hv, hpv⟩ := pg_at hp h0 (by rw [R.pl]; exact h1)
  exact w_ixL (SqL.of' hm) hv (q v hpv)
theorem p_held (R : StAt K H p L s) (h0 : 0 ≤ i) (h1 : i < 4) (q : ∀ H', StAt K H' p L { s with held := s.held.set i.toNat j } → FrS L p H H' → N H') : rSetL (.ref L.hd) (.int i) (.int j) H N :=
  w_setLI R.hd h0 (by rw [R.hl]; exact h1) (q _ (R.setHd _ (by rw [List.length_set]; exact R.hl)) (FrS.put (.inr (.inr (.inr (.inl rfl))))))
theorem p_store (R : StAt K H p L s) (h0 : 0 ≤ i) (h1 : i < 128) (q : ∀ H', StAt K H' p L { s with cells := s.cells.set i.toNat j } → FrS L p H H' → N H') : rSetL (.ref L.st) (.int i) (.int j) H N :=
  w_setLI R.st h0 (by rw [R.cl]; exact h1) (q _ (R.setSt _ (by rw [List.length_set]; exact R.cl)) (FrS.put (.inr (.inl rfl))))
theorem p_map {v : V} {pg : Option (Int × Bool)} (R : StAt K H p L s) (hv : PgV H pg v) (h0 : 0 ≤ i) (h1 : i < 4) (q : ∀ H', StAt K H' p L { s with pages := s.pages.set i.toNat pg } → FrS L p H H' → N H') : rSetL (.ref L.mp) (.int i) v H N := by
  obtain ⟨mv, hm, hp⟩ := R.mp
  have hl : mv.length = 4 := by rw [← Paired.length hp]; exact R.pl
  exact w_setL hm h0 (by rw [hl]; exact h1) (q _ (R.setMp hm hp i.toNat hv) (FrS.put (.inr (.inr (.inl rfl)))))
theorem p_place (R : StAt K H p L s) (q : ∀ H', StAt K H' p L { s with place := i } → FrS L p H H' → N H') : kSF (cS K) "next_place" (.int i) N (.ref p) H := by
  obtain ⟨dx, sm, ho, hs⟩ := R.ob
  exact w_kSF ho (by show 9 < 1000; decide) (q _ (R.setOb (s' := { s with place := i }) ho hs rfl rfl rfl rfl) (FrS.put (.inl rfl)))
theorem p_post {o : Option Int} {y : V} (R : StAt K H p L s) (e : y = optV o) (q : ∀ H', StAt K H' p L { s with post := o } → FrS L p H H' → N H') : kSF (cS K) "post" y N (.ref p) H := by
  subst e
  obtain ⟨dx, sm, ho, hs⟩ := R.ob
  exact w_kSF ho (by show 9 < 1000; decide) (q _ (R.setOb (s' := { s with post := o }) ho hs rfl rfl rfl rfl) (FrS.put (.inl rfl)))
theorem p_end {y : Str} (R : StAt K H p L s) (q : ∀ H', StAt K H' p L { s with why := y } → FrS L p H H' → N H') : kSF (cS K) "end" (.str y) N (.ref p) H := by
  obtain ⟨dx, sm, ho, hs⟩ := R.ob
  exact w_kSF ho (by show 9 < 1000; decide) (q _ (R.setOb (s' := { s with why := y }) ho hs rfl rfl rfl rfl) (FrS.put (.inl rfl)))
theorem p_sum {y : V} {o : Option (Str × Int × Int)} (R : StAt K H p L s) (e : SumV H o y) (q : ∀ H', StAt K H' p L { s with sum := o } → FrS L p H H' → N H') : kSF (cS K) "sum" y N (.ref p) H := by
  obtain ⟨dx, sm, ho, hs⟩ := R.ob
  exact w_kSF ho (by show 9 < 1000; decide) (q _ (R.setOb (s' := { s with sum := o }) ho e rfl rfl rfl rfl) (FrS.put (.inl rfl)))
theorem p_many (R : StAt K H p L s) (q : ∀ H', StAt K H' p L { s with many := s.many + 1 } → FrS L p H H' → N H') : kAug (cS K) "many" (tC (.int 1)) rAdd σ N (.ref p) H := by
  obtain ⟨dx, sm, ho, hs⟩ := R.ob
  exact w_kAug ho rfl (by show 9 < 1000; decide) (fun _ q => q) (q _ (R.setOb (s' := { s with many := s.many + 1 }) ho hs rfl rfl rfl rfl) (FrS.put (.inl rfl)))
end
section
variable {K : PySem.W.Frag} {H : Hp} {Q : VK} {σ σ' : St'} {N : St' → Hp → Prop} {v u : V} {t : TG} {ts : TGs} {a : Addr} {xs r : List V} {n : Nat} {w : World}
theorem w_gTup (h : SqT K H a xs) (l : xs.length = n) (q : ts xs σ H N) : gTup K n ts (.ref a) σ H N := ⟨a, xs, rfl, h, l, q⟩
theorem w_gCons (q : t v σ H fun σ' H' => ts r σ' H' N) : gCons t ts (v :: r) σ H N := ⟨v, r, rfl, q⟩
theorem w_gNil (q : N σ H) : gNil [] σ H N := ⟨rfl, q⟩
theorem w_ixD {z : Str} (h : KDct K w a z v) (q : Q v H) : rIxD K w (.ref a) (.str z) H Q := ⟨a, z, v, rfl, rfl, h, q⟩
def kPar (i j : Nat) (n : St' → Hp → Prop) (σ : St') : List V → Hp → Prop := fun vs H1 => ∃ v w, vs = [v, w] ∧ n ((σ.set i (some v)).set j (some w)) H1
theorem w_par {i j : Nat} {tA : TA} {n b d : St' → Hp → Prop} {rt : VK} (q : tA σ H (kPar i j n σ)) : tPar i j tA ⟨n, rt, b, d⟩ σ H := q
theorem w_kPar {i j : Nat} {n : St' → Hp → Prop} (e : (σ.set i (some v)).set j (some u) = σ') (q : n σ' H) : kPar i j n σ [v, u] H := by subst e; exact ⟨v, u, rfl, q⟩
end
theorem w_oNT {H : Hp} {Q : VK} (q : Q (.bl true) H) : rIsN (optV none) .non H Q := ⟨rfl, q⟩
theorem w_oNF {H : Hp} {Q : VK} {g : Int} (q : Q (.bl false) H) : rIsN (optV (some g)) .non H Q := ⟨rfl, q⟩
theorem w_onF {H : Hp} {Q : VK} (q : Q (.bl false) H) : rNotN (optV none) .non H Q := ⟨rfl, q⟩
theorem w_onT {H : Hp} {Q : VK} {g : Int} (q : Q (.bl true) H) : rNotN (optV (some g)) .non H Q := ⟨rfl, q⟩
theorem Same.snocN {x : Addr} {H H1 : Hp} {o : HO} (hx : H1 x = none) (a : Same H H1) : Same H (L2.upd H1 x o) := a.trans (Ext.new hx)
theorem Same.snoc {H H1 H2 : Hp} (F : Same H1 H2) (a : Same H H1) : Same H H2 := a.trans F
section
variable {K : PySem.W.Frag} {H : Hp} {Q : VK} {x : V} {p : Addr} {xs : List V} {i j : Str}
theorem w_inT_T (h : SqT K H p xs) (hx : flatV x = true) (ha : xs.all flatV = true) (e : inV x xs = true) (q : Q (.bl true) H) : rIn K false x (.ref p) H Q := w_inT h hx ha e q
theorem w_inT_F (h : SqT K H p xs) (hx : flatV x = true) (ha : xs.all flatV = true) (e : inV x xs = false) (q : Q (.bl false) H) : rIn K false x (.ref p) H Q := w_inT h hx ha e q
theorem w_niT_T (h : SqT K H p xs) (hx : flatV x = true) (ha : xs.all flatV = true) (e : inV x xs = false) (q : Q (.bl true) H) : rIn K true x (.ref p) H Q := w_niT h hx ha (by rw [e]; rfl) q
theorem w_niT_F (h : SqT K H p xs) (hx : flatV x = true) (ha : xs.all flatV = true) (e : inV x xs = true) (q : Q (.bl false) H) : rIn K true x (.ref p) H Q := w_niT h hx ha (by rw [e]; rfl) q
theorem w_eqS_T (e : i = j) (q : Q (.bl true) H) : rEq (.str i) (.str j) H Q := w_eqS (by rw [decide_eq_true e]; exact q)
theorem w_eqS_F (e : ¬ i = j) (q : Q (.bl false) H) : rEq (.str i) (.str j) H Q := w_eqS (by rw [decide_eq_false e]; exact q)
theorem w_neS_T (e : ¬ i = j) (q : Q (.bl true) H) : rNe (.str i) (.str j) H Q := w_neS (by rw [decide_eq_true e]; exact q)
theorem w_neS_F (e : i = j) (q : Q (.bl false) H) : rNe (.str i) (.str j) H Q := w_neS (by rw [decide_eq_false (fun z => z e)]; exact q)
end
theorem Row.Ok.x4 {r : Row} (h : r.Ok) : r.x < 4 := Int.lt_of_lt_of_le h.x1 (W20.b1_le _)
theorem Row.Ok.y8 {r : Row} (h : r.Ok) : r.y < 8 := Int.lt_of_lt_of_le h.y1 (W20.b2_le _)
section
variable {K : PySem.W.Frag} {H : Hp} {Q : VK} {N : Hp → Prop} {p t : Addr} {L : Lay} {s : S} {i j : Int} {σ σ' : St'}
theorem p_sum3 {wd : Str} {a b : Int} (R : StAt K H p L s) (h : H t = some (.tup [.str wd, .int a, .int b])) (q : ∀ H', StAt K H' p L { s with sum := some (wd, a, b) } → FrS L p H H' → N H') : kSF (cS K) "sum" (.ref t) N (.ref p) H := p_sum R (o := some (wd, a, b)) ⟨t, rfl, h⟩ q
theorem p_mapT {f : Int} {o : Bool} (R : StAt K H p L s) (h : H t = some (.tup [.int f, .bl o])) (h0 : 0 ≤ i) (h1 : i < 4) (q : ∀ H', StAt K H' p L { s with pages := s.pages.set i.toNat (some (f, o)) } → FrS L p H H' → N H') : rSetL (.ref L.mp) (.int i) (.ref t) H N := p_map R (pg := some (f, o)) ⟨t, rfl, h⟩ h0 h1 q
theorem p_mapN (R : StAt K H p L s) (h0 : 0 ≤ i) (h1 : i < 4) (q : ∀ H', StAt K H' p L { s with pages := s.pages.set i.toNat none } → FrS L p H H' → N H') : rSetL (.ref L.mp) (.int i) .non H N := p_map R (pg := none) rfl h0 h1 q
theorem p_postI {g : Int} (R : StAt K H p L s) (q : ∀ H', StAt K H' p L { s with post := some g } → FrS L p H H' → N H') : kSF (cS K) "post" (.int g) N (.ref p) H := p_post R (o := some g) rfl q
theorem p_postN (R : StAt K H p L s) (q : ∀ H', StAt K H' p L { s with post := none } → FrS L p H H' → N H') : kSF (cS K) "post" .non N (.ref p) H := p_post R (o := none) rfl q
theorem w_gStar {σ'' : Addr → St'} {i j : Nat} {a : Addr} {x : V} {xs : List V} {N : St' → Hp → Prop} (h : SqT K H a (x :: xs)) (hl : xs.length ≤ 1000) (e : ∀ l, (σ.set i (some x)).set j (some (.ref l)) = σ'' l) (q : ∀ l, H l = none → N (σ'' l) (upd H l (.lst xs))) : gStar K i j (.ref a) σ H N :=
  ⟨a, x, xs, rfl, h, hl, fun l hn => by rw [e l]; exact q l hn⟩
/-- xs.append(e) on the told list -/
theorem p_told (R : StAt K H p L s) (hl : s.said.length ≤ 1000) (q : ∀ H', StAt K H' p L { s with said := s.said ++ [i] } → FrS L p H H' → Q .non H') : rAppend (.ref L.td) [.int i] H Q := by
  refine ⟨L.td, _, .int i, rfl, rfl, R.td, by rw [List.length_map]; exact Nat.lt_of_le_of_lt hl (by decide), ?_⟩
  have e : s.said.map V.int ++ [V.int i] = (s.said ++ [i]).map V.int := by simp
  rw [e]
  exact q _ (R.setTd _) (FrS.put (.inr (.inr (.inr (.inr rfl)))))
end
section
variable {K : PySem.W.Frag} {σ : St'} {H : Hp} {Q : VK} {T : String} {r : V → List V → Hp → VK → Prop} {to : TE} {tA : TA} {p : Addr} {xs : List V}
def kBM (K : PySem.W.Frag) (T : String) (r : V → List V → Hp → VK → Prop) (tA : TA) (σ : St') (Q : VK) : VK := fun x H1 => tyV K T x H1 ∧ tA σ H1 fun vs H2 => r x vs H2 Q
theorem w_BM (q : to σ H (kBM K T r tA σ Q)) : tBM K T r to tA σ H Q := q
theorem w_kBM (h : SqL K H p xs) (q : tA σ H fun vs H2 => r (.ref p) vs H2 Q) : kBM K "list" r tA σ Q (.ref p) H := ⟨.inl ⟨rfl, _, h⟩, q⟩
end
theorem spotOf_out {pg : List (Option (Int × Bool))} {i : Int} (h : ¬ (0 ≤ i ∧ i < 64)) : spotOf pg i = none := by unfold spotOf; rw [if_neg h]
theorem spotOf_no {pg : List (Option (Int × Bool))} {i : Int} (h : 0 ≤ i ∧ i < 64) (e : pgOf pg (i / 16) = none) : spotOf pg i = none := by unfold spotOf; rw [if_pos h, e]
theorem spotOf_at {pg : List (Option (Int × Bool))} {i f : Int} {o : Bool} (h : 0 ≤ i ∧ i < 64) (e : pgOf pg (i / 16) = some (f, o)) : spotOf pg i = some (f * 16 + i % 16) := by unfold spotOf; rw [if_pos h, e]

/-! ### promises of the state -/
def rSpot (K : PySem.W.Frag) (a b : V) (H : Hp) (Q : VK) : Prop := ∃ (p : Addr) (L : Lay) (s : S) (i : Int), a = .ref p ∧ b = .int i ∧ StAt K H p L s ∧ s.Ok ∧ Q (optV (spotOf s.pages i)) H
theorem w_rSpot {K : PySem.W.Frag} {H : Hp} {Q : VK} {p : Addr} {L : Lay} {s : S} {i : Int} (R : StAt K H p L s) (ok : s.Ok) (q : Q (optV (spotOf s.pages i)) H) : rSpot K (.ref p) (.int i) H Q := ⟨p, L, s, i, rfl, rfl, R, ok, q⟩
def rIsZero (K : PySem.W.Frag) (a : V) (H : Hp) (Q : VK) : Prop := ∃ (p : Addr) (L : Lay) (s : S), a = .ref p ∧ StAt K H p L s ∧ s.Ok ∧ Q (.bl (zeroOf s.sum)) H
theorem w_rIsZero {K : PySem.W.Frag} {H : Hp} {Q : VK} {p : Addr} {L : Lay} {s : S} (R : StAt K H p L s) (ok : s.Ok) (q : Q (.bl (zeroOf s.sum)) H) : rIsZero K (.ref p) H Q := ⟨p, L, s, rfl, R, ok, q⟩
def rIsCarry (K : PySem.W.Frag) (a : V) (H : Hp) (Q : VK) : Prop := ∃ (p : Addr) (L : Lay) (s : S), a = .ref p ∧ StAt K H p L s ∧ s.Ok ∧ Q (.bl (carryOf s.sum)) H
theorem w_rIsCarry {K : PySem.W.Frag} {H : Hp} {Q : VK} {p : Addr} {L : Lay} {s : S} (R : StAt K H p L s) (ok : s.Ok) (q : Q (.bl (carryOf s.sum)) H) : rIsCarry K (.ref p) H Q := ⟨p, L, s, rfl, R, ok, q⟩
def rFault (K : PySem.W.Frag) (a b c : V) (H : Hp) (Q : VK) : Prop := ∃ (p : Addr) (L : Lay) (s : S) (k : Str) (i : Int), a = .ref p ∧ b = .str k ∧ c = .int i ∧ StAt K H p L s ∧ (k = "lacks" ∨ k = "kept" ∨ k = "row") ∧ ∀ H', StAt K H' p L (faultS s k i) → FrS L p H H' → Q .non H'
theorem w_rFault {K : PySem.W.Frag} {H : Hp} {Q : VK} {p : Addr} {L : Lay} {s : S} {k : Str} {i : Int} (R : StAt K H p L s) (hk : k = "lacks" ∨ k = "kept" ∨ k = "row") (q : ∀ H', StAt K H' p L (faultS s k i) → FrS L p H H' → Q .non H') : rFault K (.ref p) (.str k) (.int i) H Q := ⟨p, L, s, k, i, rfl, rfl, rfl, R, hk, q⟩
def rSize (a : V) (H : Hp) (Q : VK) : Prop := ∃ (q : Addr) (x : W20) (zs : List V), a = .ref q ∧ H q = some (.tup (.str x.str :: zs)) ∧ Q (.int (if x.long = true then 2 else 1)) H
theorem w_rSize {H : Hp} {Q : VK} {q : Addr} {x : W20} {zs : List V} (h : H q = some (.tup (.str x.str :: zs))) (k : Q (.int (if x.long = true then 2 else 1)) H) : rSize (.ref q) H Q := ⟨q, x, zs, rfl, h, k⟩
theorem w_yes {σ : St'} {H : Hp} {Q : Bool → Hp → Prop} (q : Q true H) : tYes σ H Q := q
section
variable {K : PySem.W.Frag} {H H' : Hp} {p m C dx : Addr} {L : Lay} {s : S} {fs : List (Str × V)}
theorem StAt.notOb (h : H m = some (.ins C dx fs)) (hf : fs.lookup ("store" : Str) = none) (R : StAt K H p L s) : ¬ L.In p m := by
  obtain ⟨⟨dx', sm', h1, h2⟩, h3, ⟨mv, h4, h5⟩, h6, h7, _⟩ := R
  rintro (e | e | e | e | e) <;> subst e
  · rw [h] at h1
    injection h1 with h1
    injection h1 with _ _ h1
    rw [h1] at hf
    cases hf
  · rw [h] at h3; cases h3
  · rw [h] at h4; cases h4
  · rw [h] at h6; cases h6
  · rw [h] at h7; cases h7
theorem StAt.kp (k : KeepP m H H') (h : H m = some (.ins C dx fs)) (hf : fs.lookup ("store" : Str) = none) (R : StAt K H p L s) : StAt K H' p L s := by
  have n := R.notOb h hf
  obtain ⟨⟨dx', sm', h1, h2⟩, h3, ⟨mv, h4, h5⟩, h6, h7, n1, n2, n3, n4, n5, n6, cl, pl, hl⟩ := R
  have tk : TupKeep H H' := fun b xs hb => k b _ hb (by rintro rfl; rw [h] at hb; cases hb)
  exact ⟨⟨dx', sm', k _ _ h1 fun e => n (.inl e.symm), h2.keep tk⟩, k _ _ h3 fun e => n (.inr (.inl e.symm)), ⟨mv, k _ _ h4 fun e => n (.inr (.inr (.inl e.symm))), Paired.mono h5 fun _ _ q => q.keep tk⟩, k _ _ h6 fun e => n (.inr (.inr (.inr (.inl e.symm)))),
    k _ _ h7 fun e => n (.inr (.inr (.inr (.inr e.symm)))), n1, n2, n3, n4, n5, n6, cl, pl, hl⟩
theorem fresh_same (e : Same H H') (h : H' m = none) : H m = none := by
  cases e1 : H m with
  | none => rfl
  | some u => rw [e _ _ e1] at h; cases h
end

local macro_rules | `(tactic| fail "hf") => `(tactic| first | assumption | exact upd_same | ((with_reducible refine' look_new ?h1 ?h2); (case h1 => assumption); (case h2 => fail "hf")) | ((with_reducible refine' look_same ?h1 ?h2); (case h1 => with_reducible assumption); (case h2 => fail "hf")) | ((with_reducible refine' look_fr ?h1 ?h2 ?h3); (case h1 => with_reducible assumption); (case h2 => fail "ni"); (case h3 => fail "hf")) | ((with_reducible refine' look_kp ?h1 ?h2 ?h3 ?h4); (case h1 => with_reducible assumption); (case h3 => fail "hf"); (case h2 => fail "hf"); (case h4 => (intro z; cases z))) | fail)
local macro_rules | `(tactic| fail "ni") => `(tactic| first | assumption | ((refine' StAt.notIn ?a ?b); (case a => assumption); (case b => fail "st")) | ((refine' StAt.notTup ?a ?b); (case a => assumption); (case b => fail "st")) | fail)
local macro_rules | `(tactic| fail "st") => `(tactic| first | with_reducible assumption | ((with_reducible refine' StAt.new ?h1 ?h2); (case h1 => assumption); (case h2 => fail "st")) | ((with_reducible refine' StAt.same ?h1 ?h2); (case h1 => with_reducible assumption); (case h2 => fail "st")) | fail)
local macro_rules | `(tactic| fail "sq") => `(tactic| first | exact SqT.of' (by fail "hf") | exact SqL.of' (by fail "hf") | fail)
local macro_rules | `(tactic| fail "fr") => `(tactic| first | with_reducible assumption | with_reducible exact FrS.refl | ((with_reducible refine' FrS.snoc ?h1 ?h2); (case h1 => with_reducible assumption); (case h2 => fail "fr")) | ((with_reducible refine' FrS.snocN ?h1 ?h2); (case h1 => assumption); (case h2 => fail "fr")) | ((with_reducible refine' FrS.snocS ?h1 ?h2); (case h1 => with_reducible assumption); (case h2 => fail "fr")) | fail)
local macro_rules | `(tactic| fail "sm") => `(tactic| first | with_reducible assumption | with_reducible exact Same.refl _ | ((with_reducible refine' Same.snocN ?h1 ?h2); (case h1 => assumption); (case h2 => fail "sm")) | ((with_reducible refine' Same.snoc ?h1 ?h2); (case h1 => with_reducible assumption); (case h2 => fail "sm")) | fail)
local macro_rules | `(tactic| fail "sqt") => `(tactic| first | with_reducible assumption | exact SqT.of' (by fail "hf") | ((with_reducible refine' SqT.new ?h1 ?h2); (case h1 => assumption); (case h2 => fail "sqt")) | ((with_reducible refine' SqT.same ?h1 ?h2); (case h1 => with_reducible assumption); (case h2 => fail "sqt")) | fail)
local macro_rules | `(tactic| fail "sql") => `(tactic| first | with_reducible assumption | exact SqL.of' (by fail "hf") | ((with_reducible refine' SqL.new ?h1 ?h2); (case h1 => assumption); (case h2 => fail "sql")) | ((with_reducible refine' SqL.same ?h1 ?h2); (case h1 => with_reducible assumption); (case h2 => fail "sql")) | fail)
local macro_rules | `(tactic| fail "kp") => `(tactic| first | with_reducible assumption | with_reducible exact KeepP.refl | ((with_reducible refine' KeepP.snoc ?h1 ?h2); (case h1 => with_reducible assumption); (case h2 => fail "kp")) | ((with_reducible refine' KeepP.snocN ?h1 ?h2); (case h1 => assumption); (case h2 => fail "kp")) | ((with_reducible refine' KeepP.snocS ?h1 ?h2); (case h1 => with_reducible assumption); (case h2 => fail "kp")) | fail)
local macro_rules | `(tactic| fail "sz") => `(tactic| first | exact sz0 | exact sz1 | exact sz2 | exact sz3 | exact sz4 | exact sz5 | exact sz6 | exact sz9 | exact sz10 | exact sz12 | fail)
local macro_rules | `(tactic| fail "pr") => `(tactic| first | assumption | omega | decide +kernel | fail)
local macro_rules | `(tactic| fail "sc") => `(tactic| first | exact ⟨by decide, by decide⟩ | (show (0 : Int) < _; decide) | exact .inr ⟨by decide, by decide⟩ | omega | fail)
local macro_rules | `(tactic| fail "q0") => `(tactic| first | (with_reducible refine w_C ?_) | ((with_reducible refine' w_var ?h ?_); (case h => rfl)) | (with_reducible refine w_op ?_) | (with_reducible refine w_cons ?_) | (with_reducible refine w_kB ?_) | (with_reducible refine w_seq ?_) | (with_reducible refine w_nil ?_) | (with_reducible refine w_test ?_) | fail)
local macro_rules | `(tactic| fail "q1") => `(tactic| first | (with_reducible refine kI_F ?_) | (with_reducible refine kI_T ?_) | (with_reducible refine w_tup ?_) | ((with_reducible refine w_kT ?h (fun _ _ => ?_)); (case h => fail "sz")) | ((with_reducible refine' w_gName ?h ?_); (case h => rfl)) | (with_reducible refine w_asg ?_) | (with_reducible refine w_next ?_) | (with_reducible refine w_ret ?_) | fail)
local macro_rules | `(tactic| fail "q2") => `(tactic| first | (with_reducible refine w_ifS ?_) | ((with_reducible refine' w_ixT ?h ?l ?_); (case h => exact SqT.of' (by fail "hf")); (case l => first | assumption | rfl)) | ((with_reducible refine w_eqS_T ?h ?_); (case h => first | with_reducible rfl | assumption)) | ((with_reducible refine w_eqS_F ?h ?_); (case h => first | assumption | decide +kernel)) | (with_reducible refine w_I0 ?_) | (with_reducible refine w_if ?_) | ((with_reducible refine' w_inT_T ?h ?l ?m ?n ?_); (case h => fail "sq"); (case l => rfl); (case m => rfl); (case n => decide +kernel)) | ((with_reducible refine' w_inT_F ?h ?l ?m ?n ?_); (case h => fail "sq"); (case l => rfl); (case m => rfl); (case n => decide +kernel)) | fail)
local macro_rules | `(tactic| fail "sa_0") => `(tactic| first | (with_reducible refine w_F ?_) | ((with_reducible refine' g_place ?h ?_); (case h => fail "st")) | ((with_reducible refine' g_held ?h ?_); (case h => fail "st")) | ((with_reducible refine' g_store ?h ?_); (case h => fail "st")) | ((with_reducible refine' g_map ?h ?_); (case h => fail "st")) | ((with_reducible refine' g_post ?h ?_); (case h => fail "st")) | ((with_reducible refine' g_told ?h ?_); (case h => fail "st")) | ((with_reducible refine' g_end ?h ?_); (case h => fail "st")) | ((with_reducible refine' g_many ?h ?_); (case h => fail "st")) | ((with_reducible refine' g_kM ?h ?l ?_); (case h => fail "st"); (case l => (intro _; rfl))) | fail)
local macro_rules | `(tactic| fail "sa_1") => `(tactic| first | ((with_reducible refine' g_ixHd ?h ?l ?m ?_); (case h => fail "st"); (case l => fail "pr"); (case m => fail "pr")) | ((with_reducible refine' g_ixSt ?h ?l ?m ?_); (case h => fail "st"); (case l => fail "pr"); (case m => fail "pr")) | ((with_reducible refine' w_gTup ?h ?l ?_); (case h => fail "sq"); (case l => rfl)) | (with_reducible refine w_gCons ?_) | (with_reducible refine w_gNil ?_) | (with_reducible refine w_par ?_) | ((with_reducible refine' w_kPar ?h ?_); (case h => rfl)) | ((with_reducible refine' w_niT_T ?h ?l ?m ?n ?_); (case h => fail "sq"); (case l => rfl); (case m => rfl); (case n => decide +kernel)) | ((with_reducible refine' w_niT_F ?h ?l ?m ?n ?_); (case h => fail "sq"); (case l => rfl); (case m => rfl); (case n => decide +kernel)) | ((with_reducible refine' p_held ?h ?l ?m (fun _ _ _ => ?_)); (case h => fail "st"); (case l => fail "pr"); (case m => fail "pr")) | fail)
local macro_rules | `(tactic| fail "sa_2") => `(tactic| first | ((with_reducible refine' p_store ?h ?l ?m (fun _ _ _ => ?_)); (case h => fail "st"); (case l => fail "pr"); (case m => fail "pr")) | ((with_reducible refine' p_place ?h (fun _ _ _ => ?_)); (case h => fail "st")) | ((with_reducible refine' p_sum3 ?h ?a (fun _ _ _ => ?_)); (case h => fail "st"); (case a => fail "hf")) | ((with_reducible refine' p_mapT ?h ?a ?l ?m (fun _ _ _ => ?_)); (case h => fail "st"); (case a => fail "hf"); (case l => fail "pr"); (case m => fail "pr")) | ((with_reducible refine' p_mapN ?h ?l ?m (fun _ _ _ => ?_)); (case h => fail "st"); (case l => fail "pr"); (case m => fail "pr")) | ((with_reducible refine' p_postI ?h (fun _ _ _ => ?_)); (case h => fail "st")) | ((with_reducible refine' p_postN ?h (fun _ _ _ => ?_)); (case h => fail "st")) | ((with_reducible refine' p_end ?h (fun _ _ _ => ?_)); (case h => fail "st")) | ((with_reducible refine' p_many ?h (fun _ _ _ => ?_)); (case h => fail "st")) | ((with_reducible refine' p_told ?h ?l (fun _ _ _ => ?_)); (case h => fail "st"); (case l => fail "pr")) | fail)
local macro_rules | `(tactic| fail "sa_3") => `(tactic| first | ((with_reducible refine' w_gStar ?h ?l ?e (fun _ _ => ?_)); (case h => fail "sq"); (case l => first | exact Nat.le_of_ble_eq_true rfl | (simp; done)); (case e => (intro _; rfl))) | (with_reducible refine w_BM ?_) | ((with_reducible refine' w_kBM ?h ?_); (case h => first | fail "sq" | exact SqL.of' (StAt.td (by fail "st")))) | (with_reducible refine w_wget ?_) | (with_reducible refine w_kWG2 ?_) | (with_reducible refine w_sl ?_) | (with_reducible refine w_noPart ?_) | (with_reducible refine w_part ?_) | (with_reducible refine w_kPt ?_) | (with_reducible refine w_lc ?_) | fail)
local macro_rules | `(tactic| fail "sa_4") => `(tactic| first | (with_reducible refine w_iZip ?_) | (with_reducible refine w_int1I ?_) | (with_reducible refine w_int1T ?_) | (with_reducible refine w_int1F ?_) | ((with_reducible refine' w_lenT ?h ?_); (case h => fail "sqt")) | ((with_reducible refine' w_lenL ?h ?_); (case h => fail "sql")) | ((with_reducible refine' w_listL ?h (fun _ _ => ?_)); (case h => fail "sql")) | ((with_reducible refine' w_listT ?h (fun _ _ => ?_)); (case h => fail "sqt")) | ((with_reducible refine' w_kTgt ?h ?_); (case h => rfl)) | (with_reducible refine kTurn_T ?_) | fail)
local macro_rules | `(tactic| fail "sa_5") => `(tactic| first | ((with_reducible refine kTurn_y ?h ?_); (case h => fail "pr")) | ((with_reducible refine kTurn_n ?h ?_); (case h => fail "pr")) | ((with_reducible refine' w_rSize ?h ?_); (case h => fail "hf")) | (with_reducible refine w_for ?_) | (with_reducible refine w_iList ?_) | (with_reducible refine w_iRng1 ?_) | (with_reducible refine w_iEnum ?_) | (with_reducible refine w_iVals ?_) | (with_reducible refine w_iItems ?_) | ((with_reducible refine' w_kIL ?h ?_); (case h => fail "sql")) | fail)
local macro_rules | `(tactic| fail "sa_6") => `(tactic| first | ((with_reducible refine w_kR1 ?h ?l ?_); (case h => fail "pr"); (case l => fail "pr")) | ((with_reducible refine' w_kEn ?h ?_); (case h => fail "sql")) | (with_reducible refine kW_T ?_) | (with_reducible refine kW_F ?_) | ((with_reducible refine kW_y ?h ?_); (case h => fail "pr")) | ((with_reducible refine kW_n ?h ?_); (case h => fail "pr")) | (with_reducible refine w_yes ?_) | (with_reducible refine w_tryFin ?_) | (with_reducible refine w_brk ?_) | (with_reducible refine w_make ?_) | fail)
local macro_rules | `(tactic| fail "sa_7") => `(tactic| first | (with_reducible refine w_sAug ?_) | (with_reducible refine w_oNT ?_) | (with_reducible refine w_oNF ?_) | (with_reducible refine w_onF ?_) | (with_reducible refine w_onT ?_) | ((with_reducible refine' w_kF ?h ?l ?_); (case h => fail "hf"); (case l => rfl)) | ((with_reducible refine w_I ?h ?_); (case h => fail "sc")) | (with_reducible refine w_retN ?_) | (with_reducible refine w_drop ?_) | (with_reducible refine w_tB ?_) | fail)
local macro_rules | `(tactic| fail "sa_8") => `(tactic| first | (with_reducible refine w_and ?_) | (with_reducible refine w_or ?_) | (with_reducible refine w_not ?_) | (with_reducible refine w_chain ?_) | (with_reducible refine kN_T ?_) | (with_reducible refine kN_F ?_) | (with_reducible refine kN_d ?_) | (with_reducible refine w_eqI ?_) | (with_reducible refine w_eqS ?_) | (with_reducible refine w_eqB ?_) | fail)
local macro_rules | `(tactic| fail "sa_9") => `(tactic| first | (with_reducible refine w_neI ?_) | ((with_reducible refine w_neS_F ?h ?_); (case h => first | with_reducible rfl | assumption)) | ((with_reducible refine w_neS_T ?h ?_); (case h => first | assumption | decide +kernel)) | (with_reducible refine w_neS ?_) | (with_reducible refine w_isNT ?_) | (with_reducible refine w_isNF ?_) | (with_reducible refine w_isNFI ?_) | (with_reducible refine w_noNF ?_) | (with_reducible refine w_noNT ?_) | (with_reducible refine w_noNTI ?_) | fail)
local macro_rules | `(tactic| fail "sa_10") => `(tactic| first | (with_reducible refine w_andV ?_) | (with_reducible refine w_orV ?_) | (with_reducible refine w_notV ?_) | (with_reducible refine w_lst ?_) | (with_reducible refine w_CB ?_) | (with_reducible refine w_call ?_) | (with_reducible refine w_meth ?_) | ((with_reducible refine' w_kM ?h ?l ?_); (case h => fail "hf"); (case l => rfl)) | ((with_reducible refine' w_ixLI ?h ?l ?m ?_); (case h => fail "hf"); (case l => fail "pr"); (case m => fail "pr")) | ((with_reducible refine' w_ixL ?h ?l ?_); (case h => exact SqL.of' (by fail "hf")); (case l => first | assumption | rfl)) | fail)
local macro_rules | `(tactic| fail "sa_11") => `(tactic| first | ((with_reducible refine kI_y ?h ?_); (case h => fail "pr")) | ((with_reducible refine kI_n ?h ?_); (case h => fail "pr")) | (with_reducible refine kC_T ?_) | (with_reducible refine kC_F ?_) | ((with_reducible refine kC_y ?h ?_); (case h => fail "pr")) | ((with_reducible refine kC_n ?h ?_); (case h => fail "pr")) | ((with_reducible refine w_kL ?h (fun _ _ => ?_)); (case h => fail "sz")) | (with_reducible refine w_un ?_) | (with_reducible refine w_neg ?_) | (with_reducible refine w_gSub ?_) | fail)
local macro_rules | `(tactic| fail "sa_12") => `(tactic| first | (with_reducible refine w_sF ?_) | (with_reducible refine w_gF ?_) | ((with_reducible refine' w_kSFg ?h ?l (fun _ _ _ => ?_)); (case h => fail "hf"); (case l => first | exact Nat.le_of_ble_eq_true rfl | (simp; done))) | (with_reducible refine w_spF1 ?_) | (with_reducible refine w_spF2 ?_) | (with_reducible refine w_spF3 ?_) | (with_reducible refine w_spM1 ?_) | (with_reducible refine w_spM2 ?_) | (with_reducible refine w_spM3 ?_) | (with_reducible refine w_spM4 ?_) | fail)
local macro_rules | `(tactic| fail "sa_13") => `(tactic| first | ((with_reducible refine' w_rSpot ?h ?l ?_); (case h => fail "st"); (case l => assumption)) | ((with_reducible refine' w_rIsZero ?h ?l ?_); (case h => fail "st"); (case l => assumption)) | ((with_reducible refine' w_rIsCarry ?h ?l ?_); (case h => fail "st"); (case l => assumption)) | fail)
local macro_rules | `(tactic| fail "s") => `(tactic| first | fail "q0" | fail "q1" | fail "q2" | fail "sa_0" | fail "sa_1" | fail "sa_2" | fail "sa_3" | fail "sa_4" | fail "sa_5" | fail "sa_6" | fail "sa_7" | fail "sa_8" | fail "sa_9" | fail "sa_10" | fail "sa_11" | fail "sa_12" | fail "sa_13" | fail)
local macro_rules | `(tactic| fail "S") => `(tactic| repeat fail "s")
/-! part P06state -/
/-! ### State: its methods -/
section
variable {P : Program} {w : World} {K : PySem.W.Frag} {mg : Str → Option Value} {base : Heap}
theorem ok_State_spot (T : Txt w K mg) : MDef P w K mg base (cS K) "spot" 1 [] (sp2 (rSpot K)) := by
  obtain ⟨f, fd, F, M⟩ := T.d_State_spot
  refine ⟨f, fd, _, _, F.ok sc_State_spot (fun vs H Q E h => ?_) (fun cdv A outer s0 H vs Q E hr h => ?_), M, F.bindsN fun _ _ _ _ _ _ us hl => match us, hl with | [_, _], _ => rfl, .nil⟩
  · obtain ⟨_, _, rfl, _⟩ := h
    rfl
  · obtain ⟨_, _, rfl, p, L, s, i, rfl, rfl, R, ok, k⟩ := h
    obtain ⟨⟨dx, sm, ho, _⟩, _, ⟨mv, hm, hp⟩, _⟩ := id R
    have hpl := R.pl
    refine ⟨_, (pss_cons (ps_if (PW.pt (pw_or (pt_not (pt_chain op_le op_lt pe_int (pv 1) (pe_gv T.v_PLACES))) (pw_or1 (pt_cmpR op_isN1 (pe_ix ix_list (pe_f (pv 0) T.cl_State T.n_State_map) (pe_op op_fdiv (pv 1) (pe_gv T.v_FRAME)) (fun _ _ => rfl)) pe_non (nomark _)))))
 (pss_one (ps_ret pe_non))
 pss_nil)
 (pss_one (ps_ret (pe_op op_add (pe_op op_mul (pe_ix ix_tup (pe_ix ix_list (pe_f (pv 0) T.cl_State T.n_State_map) (pe_op op_fdiv (pv 1) (pe_gv T.v_FRAME)) (fun _ _ => rfl)) pe_int (fun _ _ => rfl)) (pe_gv T.v_FRAME)) (pe_op op_mod (pv 1) (pe_gv T.v_FRAME)))))), ?_⟩
    rw [show start N_State_spot [V.ref p, V.int i] = [some (V.ref p), some (V.int i)] from rfl]; try simp only [cxK, cxW]
    by_cases hi : 0 ≤ i ∧ i < 64
    · obtain ⟨v, hv, hpv⟩ := pg_at hp (i := i / 16) (by omega) (by omega)
      have hi1 := hi.1
      have hi2 := hi.2
      cases e : pgOf s.pages (i / 16) with
      | none =>
        rw [e] at hpv
        obtain rfl : v = .non := hpv
        fail "S"
        rw [spotOf_no hi e] at k
        exact k
      | some fo =>
        obtain ⟨fr, o⟩ := fo
        rw [e] at hpv
        obtain ⟨a, rfl, ha⟩ := hpv
        fail "S"
        rw [spotOf_at hi e] at k
        exact k
    · rw [spotOf_out hi] at k
      by_cases h0 : 0 ≤ i
      · fail "S"
        exact k
      · fail "S"
        exact k
theorem ne10000 : (9999 + 1 : Int) = 10000 := rfl
theorem ok_State_is_zero (T : Txt w K mg) : MDef P w K mg base (cS K) "is_zero" 1 [] (sp1 (rIsZero K)) := by
  obtain ⟨f, fd, F, M⟩ := T.d_State_is_zero
  refine ⟨f, fd, _, _, F.ok sc_State_is_zero (fun vs H Q E h => ?_) (fun cdv A outer s0 H vs Q E hr h => ?_), M, F.bindsN fun _ _ _ _ _ _ us hl => match us, hl with | [_], _ => rfl, .nil⟩
  · obtain ⟨_, rfl, _⟩ := h
    rfl
  · obtain ⟨_, rfl, p, L, s, rfl, R, ok, k⟩ := h
    refine ⟨_, (pss_cons (ps_if (pt_cmpR op_isN1 (pe_f (pv 0) T.cl_State T.n_State_sum) pe_non (nomark _))
 (pss_one (ps_ret pe_bl))
 pss_nil)
 (pss_cons (ps_asg (pe_f (pv 0) T.cl_State T.n_State_sum) (pg_tup rfl (pgs_cons (pg_name (i := 1) sc_State_is_zero.nd rfl (by first | exact .inl rfl | exact .inr rfl)) (pgs_cons (pg_name (i := 2) sc_State_is_zero.nd rfl (by first | exact .inl rfl | exact .inr rfl)) (pgs_cons (pg_name (i := 3) sc_State_is_zero.nd rfl (by first | exact .inl rfl | exact .inr rfl)) pgs_nil)))))
 (pss_one (ps_ret (pe_ifExp (pt_cmpR op_eq (pv 1) pe_str (nomark _)) (pe_cmpR op_eq (pe_op op_mod (pe_op op_add (pv 2) (pv 3)) (pe_op op_add (pe_gv T.v_MOST) pe_int)) pe_int (nomark _)) (pe_cmpR op_eq (pv 2) (pv 3) (nomark _))))))), ?_⟩
    rw [show start N_State_is_zero [V.ref p] = [some (V.ref p), none, none, none] from rfl]; try simp only [cxK, cxW]
    fail "S"
    refine g_sum R fun v hv => ?_
    cases e : s.sum with
    | none =>
      rw [e] at hv k
      obtain rfl : v = .non := hv
      fail "S"
      exact k
    | some z =>
      obtain ⟨wd, x, y⟩ := z
      rw [e] at hv k
      obtain ⟨a, rfl, ha⟩ := hv
      fail "S"
      refine g_sum R fun v hv => ?_
      rw [e] at hv
      obtain ⟨a, rfl, ha⟩ := hv
      fail "S"
      by_cases hw : wd = "add"
      · fail "S"
        have e2 : zeroOf (some (wd, x, y)) = decide ((x + y) % 10000 = 0) := by
          show (if wd = "add" then _ else _) = _
          rw [if_pos hw]
        rw [e2] at k
        exact k
      · fail "S"
        have e2 : zeroOf (some (wd, x, y)) = decide (x = y) := by
          show (if wd = "add" then _ else _) = _
          rw [if_neg hw]
        rw [e2] at k
        exact k
theorem ok_State_is_carry (T : Txt w K mg) : MDef P w K mg base (cS K) "is_carry" 1 [] (sp1 (rIsCarry K)) := by
  obtain ⟨f, fd, F, M⟩ := T.d_State_is_carry
  refine ⟨f, fd, _, _, F.ok sc_State_is_carry (fun vs H Q E h => ?_) (fun cdv A outer s0 H vs Q E hr h => ?_), M, F.bindsN fun _ _ _ _ _ _ us hl => match us, hl with | [_], _ => rfl, .nil⟩
  · obtain ⟨_, rfl, _⟩ := h
    rfl
  · obtain ⟨_, rfl, p, L, s, rfl, R, ok, k⟩ := h
    refine ⟨_, (pss_cons (ps_if (pt_cmpR op_isN1 (pe_f (pv 0) T.cl_State T.n_State_sum) pe_non (nomark _))
 (pss_one (ps_ret pe_bl))
 pss_nil)
 (pss_cons (ps_asg (pe_f (pv 0) T.cl_State T.n_State_sum) (pg_tup rfl (pgs_cons (pg_name (i := 1) sc_State_is_carry.nd rfl (by first | exact .inl rfl | exact .inr rfl)) (pgs_cons (pg_name (i := 2) sc_State_is_carry.nd rfl (by first | exact .inl rfl | exact .inr rfl)) (pgs_cons (pg_name (i := 3) sc_State_is_carry.nd rfl (by first | exact .inl rfl | exact .inr rfl)) pgs_nil)))))
 (pss_one (ps_ret (pe_ifExp (pt_cmpR op_eq (pv 1) pe_str (nomark _)) (pe_cmpR op_gt (pe_op op_add (pv 2) (pv 3)) (pe_gv T.v_MOST) (nomark _)) (pe_cmpR op_lt (pv 2) (pv 3) (nomark _))))))), ?_⟩
    rw [show start N_State_is_carry [V.ref p] = [some (V.ref p), none, none, none] from rfl]; try simp only [cxK, cxW]
    fail "S"
    refine g_sum R fun v hv => ?_
    cases e : s.sum with
    | none =>
      rw [e] at hv k
      obtain rfl : v = .non := hv
      fail "S"
      exact k
    | some z =>
      obtain ⟨wd, x, y⟩ := z
      rw [e] at hv k
      obtain ⟨a, rfl, ha⟩ := hv
      fail "S"
      refine g_sum R fun v hv => ?_
      rw [e] at hv
      obtain ⟨a, rfl, ha⟩ := hv
      fail "S"
      by_cases hw : wd = "add"
      · fail "S"
        have e2 : carryOf (some (wd, x, y)) = decide (x + y > 9999) := by
          show (if wd = "add" then _ else _) = _
          rw [if_pos hw]
        rw [e2] at k
        exact k
      · fail "S"
        have e2 : carryOf (some (wd, x, y)) = decide (x < y) := by
          show (if wd = "add" then _ else _) = _
          rw [if_neg hw]
        rw [e2] at k
        exact k
theorem kindN_of {K : PySem.W.Frag} (T : Txt w K mg) {k : Str} (h : k = "lacks" ∨ k = "kept" ∨ k = "row") : KDct K w (gA K "KINDS") k (.int (kindN k)) := by
  obtain ⟨h1, h2, h3⟩ := T.t_KINDS
  rcases h with rfl | rfl | rfl
  · exact h1
  · exact h2
  · exact h3
theorem ok_State_fault (T : Txt w K mg) : MDef P w K mg base (cS K) "fault" 1 [] (sp3 (rFault K)) := by
  obtain ⟨f, fd, F, M⟩ := T.d_State_fault
  refine ⟨f, fd, _, _, F.ok sc_State_fault (fun vs H Q E h => ?_) (fun cdv A outer s0 H vs Q E hr h => ?_), M, F.bindsN fun _ _ _ _ _ _ us hl => match us, hl with | [_, _, _], _ => rfl, .nil⟩
  · obtain ⟨_, _, _, rfl, _⟩ := h
    rfl
  · obtain ⟨_, _, _, rfl, p, L, s, kd, i, rfl, rfl, rfl, R, hk, k⟩ := h
    refine ⟨_, (pss_cons (ps_f (pv 0) (pv 2) T.cl_State T.n_State_next_place)
 (pss_cons (ps_if (pt_cmpR op_isN1 (pe_f (pv 0) T.cl_State T.n_State_post) pe_non (nomark _))
 (pss_cons (ps_f (pv 0) (pv 1) T.cl_State T.n_State_end)
 (pss_one ps_retN))
 pss_nil)
 (pss_cons (ps_asg (pe_tup (pa_cons (pe_ix ix_kdict (pe_gv T.v_KINDS) (pv 1) (fun _ _ => rfl)) (pa_cons (pv 2) pa_nil))) (pg_tup rfl (pgs_cons (pg_sub (pe_f (pv 0) T.cl_State T.n_State_held) pe_int set_list) (pgs_cons (pg_sub (pe_f (pv 0) T.cl_State T.n_State_held) pe_int set_list) pgs_nil))))
 (pss_cons (ps_asg (pe_tup (pa_cons (pe_f (pv 0) T.cl_State T.n_State_post) (pa_cons pe_non pa_nil))) (pg_tup rfl (pgs_cons (pg_f (pv 0) T.cl_State T.n_State_next_place) (pgs_cons (pg_f (pv 0) T.cl_State T.n_State_post) pgs_nil))))
 (pss_one (ps_fa (pv 0) pe_int in_add T.cl_State T.n_State_many)))))), ?_⟩
    rw [show start N_State_fault [V.ref p, V.str kd, V.int i] = [some (V.ref p), some (V.str kd), some (V.int i)] from rfl]; try simp only [cxK, cxW]
    fail "S"
    dsimp only
    cases e : s.post with
    | none =>
      fail "S"
      have e2 : faultS s kd i = { s with place := i, why := kd } := by
        unfold faultS
        rw [e]
      rw [e2] at k
      exact k _ (by with_reducible assumption) (by fail "fr")
    | some g =>
      fail "S"
      refine w_ixD (kindN_of T hk) ?_
      fail "S"
      have eg : optV s.post = .int g := by rw [e]; rfl
      dsimp only
      rw [eg]
      fail "S"
      have e2 : faultS s kd i = { s with held := (s.held.set 0 (kindN kd)).set 1 i, place := g, post := none, many := s.many + 1 } := by
        unfold faultS
        rw [e]
      rw [e2] at k
      exact k _ (by assumption) (by fail "fr")
end

/-! part P07goal -/
def rGoal (K : PySem.W.Frag) (a b c : V) (H : Hp) (Q : VK) : Prop := ∃ (p : Addr) (L : Lay) (s : S) (q : Addr) (r : Row) (i : Int), a = .ref p ∧ b = .ref q ∧ c = .int i ∧ StAt K H p L s ∧ s.Ok ∧ H q = some (.tup r.vs) ∧ r.Ok ∧ ∀ H', Same H H' → Q (.int (goalOf s r i)) H'
theorem w_rGoal {K : PySem.W.Frag} {H : Hp} {Q : VK} {p q : Addr} {L : Lay} {s : S} {r : Row} {i : Int} (R : StAt K H p L s) (ok : s.Ok) (hq : H q = some (.tup r.vs)) (ro : r.Ok) (k : ∀ H', Same H H' → Q (.int (goalOf s r i)) H') : rGoal K (.ref p) (.ref q) (.int i) H Q :=
  ⟨p, L, s, q, r, i, rfl, rfl, rfl, R, ok, hq, ro, k⟩
section
variable {P : Program} {w : World} {K : PySem.W.Frag} {mg : Str → Option Value} {base : Heap}
theorem ok_State_goal (T : Txt w K mg) : MDef P w K mg base (cS K) "goal" 2 [] (sp3 (rGoal K)) := by
  obtain ⟨f, fd, F, M⟩ := T.d_State_goal
  refine ⟨f, fd, _, _, F.ok sc_State_goal (fun vs H Q E h => ?_) (fun cdv A outer s0 H vs Q E hr h => ?_), M, F.bindsN fun _ _ _ _ _ _ us hl => match us, hl with | [_, _, _], _ => rfl, .nil⟩
  · obtain ⟨_, _, _, rfl, _⟩ := h
    rfl
  · obtain ⟨_, _, _, rfl, p, L, s, q, r, i, rfl, rfl, rfl, R, ok, hq, ro, k⟩ := h
    refine ⟨_, (pss_cons (ps_set (i := 3) sc_State_goal.nd rfl (by first | exact .inl rfl | exact .inr rfl) (pe_ix ix_tup (pv 1) pe_int (fun _ _ => rfl)))
 (pss_cons (ps_if (pt_cmpR op_in_seq (pv 3) (pe_tup (pa_cons pe_str (pa_cons pe_str pa_nil))) (by with_unfolding_all rfl))
 (pss_one (ps_ret (pe_ix ix_tup (pv 1) pe_int (fun _ _ => rfl))))
 pss_nil)
 (pss_cons (ps_if (pt_cmpR op_eq (pv 3) pe_str (nomark _))
 (pss_one (ps_ret (pe_ix ix_list (pe_f (pv 0) T.cl_State T.n_State_held) (pe_ix ix_tup (pv 1) pe_int (fun _ _ => rfl)) (fun _ _ => rfl))))
 pss_nil)
 (pss_cons (ps_if (pt_cmpR op_in_seq (pv 3) (pe_tup (pa_cons pe_str (pa_cons pe_str pa_nil))) (by with_unfolding_all rfl))
 (pss_one (ps_ret (pe_ifExp (pt_cmpR op_eq (e_meth0 (pv 0) T.cl_State (ok_State_is_zero T) hr) (pe_cmpR op_eq (pv 3) pe_str (nomark _)) (nomark _)) (pe_ix ix_tup (pv 1) pe_int (fun _ _ => rfl)) (pv 2))))
 pss_nil)
 (pss_cons (ps_if (pt_cmpR op_eq (pv 3) pe_str (nomark _))
 (pss_one (ps_ret (pe_ifExp (pt_val (e_meth0 (pv 0) T.cl_State (ok_State_is_carry T) hr)) (pe_ix ix_tup (pv 1) pe_int (fun _ _ => rfl)) (pv 2))))
 pss_nil)
 (pss_one (ps_ret (pv 2)))))))), ?_⟩
    rw [show start N_State_goal [V.ref p, V.ref q, V.int i] = [some (V.ref p), some (V.ref q), some (V.int i), none] from rfl]; try simp only [cxK, cxW]
    have hx0 := ro.x0
    have hx4 := ro.x4
    obtain ⟨wd, x, y, n⟩ := r
    cases wd
    all_goals dsimp only [Row.vs, Row.args, Row.tail, W20.str, W20.digits, W20.long] at hq hx0 hx4
    all_goals fail "S"
    all_goals try exact k _ (by fail "sm")
    · refine kI_d (fun hz => ?_) (fun hz => ?_)
      · fail "S"
        rw [show goalOf s ⟨.zero, x, y, n⟩ i = n from if_pos hz] at k
        exact k _ (by fail "sm")
      · fail "S"
        rw [show goalOf s ⟨.zero, x, y, n⟩ i = i from if_neg hz] at k
        exact k _ (by fail "sm")
    · refine kI_d (fun hz => ?_) (fun hz => ?_)
      · fail "S"
        rw [show goalOf s ⟨.other, x, y, n⟩ i = n from if_neg (by rw [hz]; decide)] at k
        exact k _ (by fail "sm")
      · fail "S"
        rw [show goalOf s ⟨.other, x, y, n⟩ i = i from if_pos (by cases hzz : zeroOf s.sum with | true => rfl | false => exact absurd hzz hz)] at k
        exact k _ (by fail "sm")
    · refine kI_b (fun hz => ?_) (fun hz => ?_)
      · fail "S"
        rw [show goalOf s ⟨.carry, x, y, n⟩ i = n from if_pos hz] at k
        exact k _ (by fail "sm")
      · fail "S"
        rw [show goalOf s ⟨.carry, x, y, n⟩ i = i from if_neg (by rw [hz]; decide)] at k
        exact k _ (by fail "sm")
/-! reached -/
def ReachV (H : Hp) : Reach → V → Prop
  | .none, v => v = .non
  | .lacks, v => ∃ a, v = .ref a ∧ H a = some (.tup [])
  | .at_ c wr pg, v => ∃ a, v = .ref a ∧ H a = some (.tup [.int c, .bl wr, .int pg])
def rReached (K : PySem.W.Frag) (a b : V) (H : Hp) (Q : VK) : Prop := ∃ (p : Addr) (L : Lay) (s : S) (q : Addr) (r : Row), a = .ref p ∧ b = .ref q ∧ StAt K H p L s ∧ s.Ok ∧ H q = some (.tup r.vs) ∧ r.Ok ∧ ∀ H' v, Same H H' → ReachV H' (reachOf s r) v → Q v H'
theorem w_rReached {K : PySem.W.Frag} {H : Hp} {Q : VK} {p q : Addr} {L : Lay} {s : S} {r : Row} (R : StAt K H p L s) (ok : s.Ok) (hq : H q = some (.tup r.vs)) (ro : r.Ok) (k : ∀ H' v, Same H H' → ReachV H' (reachOf s r) v → Q v H') : rReached K (.ref p) (.ref q) H Q :=
  ⟨p, L, s, q, r, rfl, rfl, R, ok, hq, ro, k⟩
theorem reach_lacks {s : S} {r : Row} {g : Int} (h : goalPl s r = some g) (e : spotOf s.pages g = none) : reachOf s r = .lacks := by unfold reachOf; rw [h]; dsimp only; rw [e]
theorem reach_at {s : S} {r : Row} {g c : Int} (h : goalPl s r = some g) (e : spotOf s.pages g = some c) : reachOf s r = .at_ c r.w.writes (g / 16) := by unfold reachOf; rw [h]; dsimp only; rw [e]
theorem ok_State_reached (T : Txt w K mg) : MDef P w K mg base (cS K) "reached" 2 [] (sp2 (rReached K)) := by
  obtain ⟨f, fd, F, M⟩ := T.d_State_reached
  refine ⟨f, fd, _, _, F.ok sc_State_reached (fun vs H Q E h => ?_) (fun cdv A outer s0 H vs Q E hr h => ?_), M, F.bindsN fun _ _ _ _ _ _ us hl => match us, hl with | [_, _], _ => rfl, .nil⟩
  · obtain ⟨_, _, rfl, _⟩ := h
    rfl
  · obtain ⟨_, _, rfl, p, L, s, q, r, rfl, rfl, R, ok, hq, ro, k⟩ := h
    refine ⟨_, (pss_cons (ps_set (i := 2) sc_State_reached.nd rfl (by first | exact .inl rfl | exact .inr rfl) (pe_ix ix_tup (pv 1) pe_int (fun _ _ => rfl)))
 (pss_cons (ps_if (pt_cmpR op_notIn_seq (pv 2) (pe_tup (pa_cons pe_str (pa_cons pe_str (pa_cons pe_str (pa_cons pe_str pa_nil))))) (by with_unfolding_all rfl))
 (pss_one (ps_ret pe_non))
 pss_nil)
 (pss_cons (ps_set (i := 3) sc_State_reached.nd rfl (by first | exact .inl rfl | exact .inr rfl) (pe_ifExp (pt_cmpR op_in_seq (pv 2) (pe_tup (pa_cons pe_str (pa_cons pe_str pa_nil))) (by with_unfolding_all rfl)) (pe_ix ix_tup (pv 1) pe_int (fun _ _ => rfl)) (pe_ix ix_list (pe_f (pv 0) T.cl_State T.n_State_held) (pe_ix ix_tup (pv 1) pe_int (fun _ _ => rfl)) (fun _ _ => rfl))))
 (pss_cons (ps_set (i := 4) sc_State_reached.nd rfl (by first | exact .inl rfl | exact .inr rfl) (e_meth (pv 0) T.cl_State (ok_State_spot T) hr (pa_cons (pv 3) pa_nil)))
 (pss_one (ps_ret (pe_ifExp (pt_cmpR op_isN1 (pv 4) pe_non (nomark _)) (pe_tup pa_nil) (pe_tup (pa_cons (pv 4) (pa_cons (pe_cmpR op_in_seq (pv 2) (pe_tup (pa_cons pe_str (pa_cons pe_str pa_nil))) (by with_unfolding_all rfl)) (pa_cons (pe_op op_fdiv (pv 3) (pe_gv T.v_FRAME)) pa_nil))))))))))), ?_⟩
    rw [show start N_State_reached [V.ref p, V.ref q] = [some (V.ref p), some (V.ref q), none, none, none] from rfl]; try simp only [cxK, cxW]
    have hx0 := ro.x0
    have hx4 := ro.x4
    have hy0 := ro.y0
    have hy1 := ro.y1
    obtain ⟨wd, x, y, n⟩ := r
    cases wd
    all_goals dsimp only [Row.vs, Row.args, Row.tail, W20.str, W20.digits, W20.long, W20.b2] at hq hx0 hx4 hy0 hy1
    all_goals fail "S"
    all_goals try exact k _ _ (by fail "sm") rfl
    · cases e : spotOf s.pages n with
      | none => fail "S"; rw [reach_lacks rfl e] at k; exact k _ _ (by fail "sm") ⟨_, rfl, by fail "hf"⟩
      | some c => fail "S"; rw [reach_at rfl e] at k; exact k _ _ (by fail "sm") ⟨_, rfl, by fail "hf"⟩
    · cases e : spotOf s.pages n with
      | none => fail "S"; rw [reach_lacks rfl e] at k; exact k _ _ (by fail "sm") ⟨_, rfl, by fail "hf"⟩
      | some c => fail "S"; rw [reach_at rfl e] at k; exact k _ _ (by fail "sm") ⟨_, rfl, by fail "hf"⟩
    · cases e : spotOf s.pages (gi s.held y) with
      | none => fail "S"; rw [reach_lacks rfl e] at k; exact k _ _ (by fail "sm") ⟨_, rfl, by fail "hf"⟩
      | some c => fail "S"; rw [reach_at rfl e] at k; exact k _ _ (by fail "sm") ⟨_, rfl, by fail "hf"⟩
    · cases e : spotOf s.pages (gi s.held y) with
      | none => fail "S"; rw [reach_lacks rfl e] at k; exact k _ _ (by fail "sm") ⟨_, rfl, by fail "hf"⟩
      | some c => fail "S"; rw [reach_at rfl e] at k; exact k _ _ (by fail "sm") ⟨_, rfl, by fail "hf"⟩
end

/-! part P08change -/
def rChange (K : PySem.W.Frag) (a b c : V) (H : Hp) (Q : VK) : Prop := ∃ (p : Addr) (L : Lay) (s : S) (q : Addr) (r : Row) (i : Int), a = .ref p ∧ b = .ref q ∧ c = .int i ∧ StAt K H p L s ∧ s.Ok ∧ s.said.length ≤ 1000 ∧ H q = some (.tup r.vs) ∧ r.Ok ∧ goalPl s r = none ∧
  ∀ H', StAt K H' p L (changeS s r i) → FrS L p H H' → Q .non H'
theorem w_rChange {K : PySem.W.Frag} {H : Hp} {Q : VK} {p q : Addr} {L : Lay} {s : S} {r : Row} {i : Int} (R : StAt K H p L s) (ok : s.Ok) (hs : s.said.length ≤ 1000) (hq : H q = some (.tup r.vs)) (ro : r.Ok) (hg : goalPl s r = none) (k : ∀ H', StAt K H' p L (changeS s r i) → FrS L p H H' → Q .non H') : rChange K (.ref p) (.ref q) (.int i) H Q :=
  ⟨p, L, s, q, r, i, rfl, rfl, rfl, R, ok, hs, hq, ro, hg, k⟩
section
variable {P : Program} {w : World} {K : PySem.W.Frag} {mg : Str → Option Value} {base : Heap}
theorem ok_State_change (T : Txt w K mg) : MDef P w K mg base (cS K) "change" 1 [] (sp3 (rChange K)) := by
  obtain ⟨f, fd, F, M⟩ := T.d_State_change
  refine ⟨f, fd, _, _, F.ok sc_State_change (fun vs H Q E h => ?_) (fun cdv A outer s0 H vs Q E hr h => ?_), M, F.bindsN fun _ _ _ _ _ _ us hl => match us, hl with | [_, _, _], _ => rfl, .nil⟩
  · obtain ⟨_, _, _, rfl, _⟩ := h
    rfl
  · obtain ⟨_, _, _, rfl, p, L, s, q, r, i, rfl, rfl, rfl, R, ok, hsd, hq, ro, hg, k⟩ := h
    refine ⟨_, (pss_cons (ps_asg (pv 1) (pg_star (i := 3) (j := 4) sc_State_change.nd rfl rfl (by first | exact .inl rfl | exact .inr rfl) (by first | exact .inl rfl | exact .inr rfl)))
 (pss_one (ps_if (pt_cmpR op_in_seq (pv 3) (pe_tup (pa_cons pe_str (pa_cons pe_str pa_nil))) (by with_unfolding_all rfl))
 (pss_cons (ps_par (i := 5) (j := 6) rfl sc_State_change.nd rfl rfl (by decide) rfl rfl (pa_cons (pe_ix ix_list (pe_f (pv 0) T.cl_State T.n_State_held) (pe_ix ix_list (pv 4) pe_int (fun _ _ => rfl)) (fun _ _ => rfl)) (pa_cons (pe_ix ix_list (pe_f (pv 0) T.cl_State T.n_State_held) (pe_ix ix_list (pv 4) pe_int (fun _ _ => rfl)) (fun _ _ => rfl)) pa_nil)) (by rfl))
 (pss_cons (ps_f (pv 0) (pe_tup (pa_cons (pv 3) (pa_cons (pv 5) (pa_cons (pv 6) pa_nil)))) T.cl_State T.n_State_sum)
 (pss_one (ps_asg (pe_op op_mod (pe_ifExp (pt_cmpR op_eq (pv 3) pe_str (nomark _)) (pe_op op_add (pv 5) (pv 6)) (pe_op op_sub (pv 5) (pv 6))) (pe_op op_add (pe_gv T.v_MOST) pe_int)) (pg_sub (pe_f (pv 0) T.cl_State T.n_State_held) (pe_ix ix_list (pv 4) pe_int (fun _ _ => rfl)) set_list)))))
 (pss_one (ps_if (pt_cmpR op_in_seq (pv 3) (pe_tup (pa_cons pe_str (pa_cons pe_str pa_nil))) (by with_unfolding_all rfl))
 (pss_one (ps_asg (pe_ifExp (pt_cmpR op_eq (pv 3) pe_str (nomark _)) (pe_ix ix_list (pe_f (pv 0) T.cl_State T.n_State_held) (pe_ix ix_list (pv 4) pe_int (fun _ _ => rfl)) (fun _ _ => rfl)) (pe_ix ix_list (pv 4) pe_int (fun _ _ => rfl))) (pg_sub (pe_f (pv 0) T.cl_State T.n_State_held) (pe_ix ix_list (pv 4) pe_int (fun _ _ => rfl)) set_list)))
 (pss_one (ps_if (pt_cmpR op_in_seq (pv 3) (pe_tup (pa_cons pe_str (pa_cons pe_str (pa_cons pe_str pa_nil)))) (by with_unfolding_all rfl))
 (pss_one (ps_asg (pe_ifExp (pt_cmpR op_ne (pv 3) pe_str (nomark _)) (pe_tup (pa_cons (pe_ix ix_list (pv 4) pe_int (fun _ _ => rfl)) (pa_cons (pe_cmpR op_eq (pv 3) pe_str (nomark _)) pa_nil))) pe_non) (pg_sub (pe_f (pv 0) T.cl_State T.n_State_map) (pe_ix ix_list (pv 4) pe_int (fun _ _ => rfl)) set_list)))
 (pss_one (ps_if (pt_cmpR op_eq (pv 3) pe_str (nomark _))
 (pss_one (ps_asg (pv 2) (pg_sub (pe_f (pv 0) T.cl_State T.n_State_held) (pe_op op_sub (pe_gv T.v_REGISTERS) pe_int) set_list)))
 (pss_one (ps_if (pt_cmpR op_eq (pv 3) pe_str (nomark _))
 (pss_one (ps_expr (pe_bm PySem.F.plainAttrs_list PySem.F.slot_list_append PySem.F.type_list_append mt_append (pe_f (pv 0) T.cl_State T.n_State_told) (pa_cons (pe_ix ix_list (pe_f (pv 0) T.cl_State T.n_State_held) (pe_ix ix_list (pv 4) pe_int (fun _ _ => rfl)) (fun _ _ => rfl)) pa_nil))))
 (pss_one (ps_if (pt_cmpR op_eq (pv 3) pe_str (nomark _))
 (pss_one (ps_f (pv 0) (pe_ix ix_list (pv 4) pe_int (fun _ _ => rfl)) T.cl_State T.n_State_post))
 (pss_one (ps_if (pt_cmpR op_eq (pv 3) pe_str (nomark _))
 (pss_one (ps_f (pv 0) pe_str T.cl_State T.n_State_end))
 pss_nil))))))))))))))), ?_⟩
    rw [show start N_State_change [V.ref p, V.ref q, V.int i] = [some (V.ref p), some (V.ref q), some (V.int i), none, none, none, none] from rfl]; try simp only [cxK, cxW]
    have hx0 := ro.x0
    have hx4 := ro.x4
    have hy0 := ro.y0
    have hy1 := ro.y1
    obtain ⟨wd, x, y, n⟩ := r
    cases wd
    case load => cases hg
    case store => cases hg
    case fetch => cases hg
    case send => cases hg
    all_goals dsimp only [Row.vs, Row.args, Row.tail, W20.str, W20.digits, W20.long, W20.b2, List.map, List.append, List.cons_append, List.nil_append] at hq hx0 hx4 hy0 hy1
    all_goals fail "S"
    all_goals first | exact k _ (by assumption) (by fail "fr") | exact k _ (by (show StAt K _ p L s); fail "st") (by fail "fr") | skip
end

/-! part P09do -/
theorem w_eqD {K : PySem.W.Frag} {H : Hp} {Q : VK} {x y : V} {d e : PyData} {k : Bool} (hx : Dp K H x d) (hy : Dp K H y e) (sd : SeqAt.shaped d = true) (se : SeqAt.shaped e = true) (hk : PyData.eqv d e = k) (q : Q (.bl k) H) : rEqD K x y H Q :=
  ⟨d, e, hx, hy, sd, se, by rw [hk]; exact q⟩
theorem row0 (r : Row) : atI r.vs 0 = some (.str r.w.str) := atI_nat (j := 0) rfl
theorem row1 {r : Row} (h : r.w.byN = true ∨ r.w.byR = true) : atI r.vs 1 = some (.int r.x) := by
  obtain ⟨wd, x, y, n⟩ := r
  cases wd
  all_goals first | exact atI_nat (j := 1) rfl | (exfalso; rcases h with h | h <;> cases h)
theorem str_stop {w : W20} (h : w.str = "stop") : w = .stop := by
  cases w
  · rfl
  all_goals exact absurd h (by decide +kernel)
theorem changeS_many (s : S) (r : Row) (b : Int) : (changeS s r b).many = s.many := by
  obtain ⟨wd, x, y, n⟩ := r
  cases wd <;> rfl
theorem reach_none {s : S} {r : Row} (h : reachOf s r = .none) : goalPl s r = none := by
  unfold reachOf at h
  cases e : goalPl s r with
  | none => rfl
  | some p =>
    rw [e] at h
    dsimp only at h
    cases e2 : spotOf s.pages p with
    | none => rw [e2] at h; cases h
    | some c => rw [e2] at h; cases h
theorem reach_some {s : S} {r : Row} {c pg : Int} {wr : Bool} (h : reachOf s r = .at_ c wr pg) : (r.w.byN = true ∨ r.w.byR = true) ∧ ∃ g, goalPl s r = some g ∧ spotOf s.pages g = some c ∧ wr = r.w.writes ∧ pg = g / 16 := by
  unfold reachOf at h
  cases e : goalPl s r with
  | none => rw [e] at h; cases h
  | some p =>
    rw [e] at h
    dsimp only at h
    cases e2 : spotOf s.pages p with
    | none => rw [e2] at h; cases h
    | some c' =>
      rw [e2] at h
      injection h with h1 h2 h3
      subst h1 h2 h3
      refine ⟨?_, p, rfl, e2, rfl, rfl⟩
      unfold goalPl at e
      by_cases h1 : r.w.byN = true
      · exact .inl h1
      · rw [if_neg h1] at e
        by_cases h2 : r.w.byR = true
        · exact .inr h2
        · rw [if_neg h2] at e; cases e
theorem spotOf_pg {pg : List (Option (Int × Bool))} {p c : Int} (e : spotOf pg p = some c) : ∃ f o, pgOf pg (p / 16) = some (f, o) := by
  unfold spotOf at e
  split at e
  · cases q : pgOf pg (p / 16) with
    | none => rw [q] at e; cases e
    | some fo => exact ⟨fo.1, fo.2, rfl⟩
  · cases e
def rDo (K : PySem.W.Frag) (a b c d : V) (H : Hp) (Q : VK) : Prop := ∃ (p : Addr) (L : Lay) (s : S) (q : Addr) (r : Row) (i j : Int), a = .ref p ∧ b = .ref q ∧ c = .int i ∧ d = .int j ∧ StAt K H p L s ∧ s.Ok ∧ s.said.length ≤ 1000 ∧ H q = some (.tup r.vs) ∧ r.Ok ∧
  ∀ H', StAt K H' p L (doS s r i j) → FrS L p H H' → Q (wroteV s r) H'
theorem w_rDo {K : PySem.W.Frag} {H : Hp} {Q : VK} {p q : Addr} {L : Lay} {s : S} {r : Row} {i j : Int} (R : StAt K H p L s) (ok : s.Ok) (hs : s.said.length ≤ 1000) (hq : H q = some (.tup r.vs)) (ro : r.Ok) (k : ∀ H', StAt K H' p L (doS s r i j) → FrS L p H H' → Q (wroteV s r) H') : rDo K (.ref p) (.ref q) (.int i) (.int j) H Q :=
  ⟨p, L, s, q, r, i, j, rfl, rfl, rfl, rfl, R, ok, hs, hq, ro, k⟩
section
variable {P : Program} {w : World} {K : PySem.W.Frag} {mg : Str → Option Value} {base : Heap}
theorem ok_State_do (T : Txt w K mg) : MDef P w K mg base (cS K) "do" 3 [] (sp4 (rDo K)) := by
  obtain ⟨f, fd, F, M⟩ := T.d_State_do
  refine ⟨f, fd, _, _, F.ok sc_State_do (fun vs H Q E h => ?_) (fun cdv A outer s0 H vs Q E hr h => ?_), M, F.bindsN fun _ _ _ _ _ _ us hl => match us, hl with | [_, _, _, _], _ => rfl, .nil⟩
  · obtain ⟨_, _, _, _, rfl, _⟩ := h
    rfl
  · obtain ⟨_, _, _, _, rfl, p, L, s, q, r, i, j, rfl, rfl, rfl, rfl, R, ok, hsd, hq, ro, k⟩ := h
    refine ⟨_, (pss_cons (ps_set (i := 4) sc_State_do.nd rfl (by first | exact .inl rfl | exact .inr rfl) (e_meth (pv 0) T.cl_State (ok_State_reached T) hr (pa_cons (pv 1) pa_nil)))
 (pss_cons (ps_if (pt_cmpR (op_eqD hr.units) (pv 4) (pe_tup pa_nil) (nomark _))
 (pss_cons (ps_expr (e_meth (pv 0) T.cl_State (ok_State_fault T) hr (pa_cons (pe_gv T.v_LACKS) (pa_cons (pv 2) pa_nil))))
 (pss_one (ps_ret pe_non)))
 pss_nil)
 (pss_cons (ps_if (PW.pt (pw_and (pt_cmpR op_notN1 (pv 4) pe_non (nomark _)) (pw_and (pt_val (pe_ix ix_tup (pv 4) pe_int (fun _ _ => rfl))) (pw_and1 (pt_not (pt_val (pe_ix ix_tup (pe_ix ix_list (pe_f (pv 0) T.cl_State T.n_State_map) (pe_ix ix_tup (pv 4) pe_int (fun _ _ => rfl)) (fun _ _ => rfl)) pe_int (fun _ _ => rfl))))))))
 (pss_cons (ps_expr (e_meth (pv 0) T.cl_State (ok_State_fault T) hr (pa_cons (pe_gv T.v_KEPT) (pa_cons (pv 2) pa_nil))))
 (pss_one (ps_ret pe_non)))
 pss_nil)
 (pss_cons (ps_set (i := 5) sc_State_do.nd rfl (by first | exact .inl rfl | exact .inr rfl) (e_meth (pv 0) T.cl_State (ok_State_goal T) hr (pa_cons (pv 1) (pa_cons (pv 3) pa_nil))))
 (pss_cons (ps_set (i := 6) sc_State_do.nd rfl (by first | exact .inl rfl | exact .inr rfl) (pe_un un_neg pe_int))
 (pss_cons (ps_if (PW.pt (pw_and (pt_cmpR op_notN1 (pv 4) pe_non (nomark _)) (pw_and1 (pt_val (pe_ix ix_tup (pv 4) pe_int (fun _ _ => rfl))))))
 (pss_cons (ps_set (i := 6) sc_State_do.nd rfl (by first | exact .inl rfl | exact .inr rfl) (pe_ix ix_tup (pv 4) pe_int (fun _ _ => rfl)))
 (pss_one (ps_asg (pe_ix ix_list (pe_f (pv 0) T.cl_State T.n_State_held) (pe_ix ix_tup (pv 1) pe_int (fun _ _ => rfl)) (fun _ _ => rfl)) (pg_sub (pe_f (pv 0) T.cl_State T.n_State_store) (pv 6) set_list))))
 (pss_one (ps_if (pt_cmpR op_notN1 (pv 4) pe_non (nomark _))
 (pss_one (ps_asg (pe_ix ix_list (pe_f (pv 0) T.cl_State T.n_State_store) (pe_ix ix_tup (pv 4) pe_int (fun _ _ => rfl)) (fun _ _ => rfl)) (pg_sub (pe_f (pv 0) T.cl_State T.n_State_held) (pe_ix ix_tup (pv 1) pe_int (fun _ _ => rfl)) set_list)))
 (pss_one (ps_expr (e_meth (pv 0) T.cl_State (ok_State_change T) hr (pa_cons (pv 1) (pa_cons (pv 3) pa_nil))))))))
 (pss_cons (ps_f (pv 0) (pe_ifExp (pt_cmpR op_ne (pe_ix ix_tup (pv 1) pe_int (fun _ _ => rfl)) pe_str (nomark _)) (pv 5) (pv 2)) T.cl_State T.n_State_next_place)
 (pss_cons (ps_fa (pv 0) pe_int in_add T.cl_State T.n_State_many)
 (pss_one (ps_ret (pv 6))))))))))), ?_⟩
    rw [show start N_State_do [V.ref p, V.ref q, V.int i, V.int j] = [some (V.ref p), some (V.ref q), some (V.int i), some (V.int j), none, none, none] from rfl]; try simp only [cxK, cxW]
    have hr0 := row0 r
    fail "S"
    refine w_rReached R ok hq ro fun H1 v S1 hv => ?_
    fail "S"
    cases e : reachOf s r with
    | none =>
      rw [e] at hv
      obtain rfl : v = .non := hv
      have ed : doFault s r = none := by unfold doFault; rw [e]
      refine w_eqD .non (.tup (by fail "sq") .nil) rfl rfl (k := false) rfl ?_
      fail "S"
      refine w_rGoal (by fail "st") ok (by fail "hf") ro fun H2 S2 => ?_
      fail "S"
      refine w_rChange (by fail "st") ok hsd (by fail "hf") ro (reach_none e) fun H3 R3 F3 => ?_
      have e1 : doS s r i j = { changeS s r j with place := if r.w = .stop then i else goalOf s r j, many := (changeS s r j).many + 1 } := by
        unfold doS doneS effS
        rw [ed, e, changeS_many]
      have e2 : wroteV s r = .int (-1) := by unfold wroteV; rw [ed]; dsimp only; rw [e]
      rw [e1, e2] at k
      by_cases hw : r.w = .stop
      · have hs : r.w.str = "stop" := by rw [hw]; rfl
        rw [if_pos hw] at k
        fail "S"
        exact k _ (by assumption) (by fail "fr")
      · have hs : ¬ r.w.str = "stop" := fun z => hw (str_stop z)
        rw [if_neg hw] at k
        fail "S"
        exact k _ (by assumption) (by fail "fr")
    | lacks =>
      rw [e] at hv
      obtain ⟨a, rfl, ha⟩ := hv
      have ed : doFault s r = some ("lacks" : Str) := by unfold doFault; rw [e]
      refine w_eqD (.tup (.inl (.inl (by fail "hf"))) .nil) (.tup (by fail "sq") .nil) rfl rfl (k := true) rfl ?_
      fail "S"
      refine w_rFault (by fail "st") (.inl rfl) fun H3 R3 F3 => ?_
      fail "S"
      have e1 : doS s r i j = faultS s "lacks" i := by unfold doS; rw [ed]
      have e2 : wroteV s r = .non := by unfold wroteV; rw [ed]
      rw [e1, e2] at k
      exact k _ R3 (by fail "fr")
    | at_ c wr pg =>
      rw [e] at hv
      obtain ⟨a, rfl, ha⟩ := hv
      refine w_eqD (.tup (.inl (.inl (by fail "hf"))) (.cons (.int c) (.cons (.bl wr) (.cons (.int pg) .nil)))) (.tup (by fail "sq") .nil) rfl rfl (k := false) rfl ?_
      obtain ⟨hb, g, hg, hsp, hwr, hpg⟩ := reach_some e
      obtain ⟨f, o, hfo⟩ := spotOf_pg hsp
      obtain ⟨c0, c1, g0, g1⟩ := spotOf_ok ok.pr hsp
      have hr1 := row1 hb
      have hx0 := ro.x0
      have hx4 := ro.x4
      have hnst : ¬ r.w.str = "stop" := fun z => by
        rw [str_stop z] at hb
        rcases hb with h | h <;> cases h
      have hns : ¬ r.w = .stop := fun z => hnst (by rw [z]; rfl)
      rw [← hpg] at hfo
      cases wr with
      | true =>
        fail "S"
        refine g_ixMp (by fail "st") (by omega) (by omega) fun v hv => ?_
        rw [hfo] at hv
        obtain ⟨t, rfl, ht⟩ := hv
        cases o with
        | true =>
          have ed : doFault s r = none := by
            unfold doFault openPg
            rw [e]
            dsimp only
            rw [hfo]
            rfl
          have e1 : doS s r i j = { s with cells := s.cells.set c.toNat (gi s.held r.x), place := goalOf s r j, many := s.many + 1 } := by
            unfold doS doneS effS
            rw [ed, e, if_neg hns]
          have e2 : wroteV s r = .int c := by unfold wroteV; rw [ed]; dsimp only; rw [e]
          rw [e1, e2] at k
          fail "S"
          refine w_rGoal (by fail "st") ok (by fail "hf") ro fun H2 S2 => ?_
          fail "S"
          exact k _ (by assumption) (by fail "fr")
        | false =>
          have ed : doFault s r = some ("kept" : Str) := by
            unfold doFault openPg
            rw [e]
            dsimp only
            rw [hfo]
            rfl
          have e1 : doS s r i j = faultS s "kept" i := by unfold doS; rw [ed]
          have e2 : wroteV s r = .non := by unfold wroteV; rw [ed]
          rw [e1, e2] at k
          fail "S"
          refine w_rFault (by fail "st") (.inr (.inl rfl)) fun H3 R3 F3 => ?_
          fail "S"
          exact k _ R3 (by fail "fr")
      | false =>
        have ed : doFault s r = none := by unfold doFault; rw [e]
        have e1 : doS s r i j = { s with held := s.held.set r.x.toNat (gi s.cells c), place := goalOf s r j, many := s.many + 1 } := by
          unfold doS doneS effS
          rw [ed, e, if_neg hns]
        have e2 : wroteV s r = .int (-1) := by unfold wroteV; rw [ed]; dsimp only; rw [e]
        rw [e1, e2] at k
        fail "S"
        refine w_rGoal (by fail "st") ok (by fail "hf") ro fun H2 S2 => ?_
        fail "S"
        exact k _ (by assumption) (by fail "fr")
end

/-! part P10rows -/
namespace W20
/-- the shape that the table tells, none being () -/
def shape : W20 → List Int
  | copy | add | less | fetch | send => [4, 4]
  | lay | keep => [4, 8]
  | take | load | store | back | say | leave => [4]
  | _ => []
end W20
theorem shape_is (w : W20) : (w.shape = [] ∧ w.b1 = 1 ∧ w.b2 = 1 ∧ ∀ x y, w.digits x y = []) ∨ (w.shape = [4] ∧ w.b1 = 4 ∧ w.b2 = 1 ∧ ∀ x y, w.digits x y = [x]) ∨
    (w.shape = [4, 4] ∧ w.b1 = 4 ∧ w.b2 = 4 ∧ ∀ x y, w.digits x y = [x, y]) ∨ (w.shape = [4, 8] ∧ w.b1 = 4 ∧ w.b2 = 8 ∧ ∀ x y, w.digits x y = [x, y]) := by
  cases w
  all_goals first | exact .inl ⟨rfl, rfl, rfl, fun _ _ => rfl⟩ | exact .inr (.inl ⟨rfl, rfl, rfl, fun _ _ => rfl⟩) | exact .inr (.inr (.inl ⟨rfl, rfl, rfl, fun _ _ => rfl⟩)) | exact .inr (.inr (.inr ⟨rfl, rfl, rfl, fun _ _ => rfl⟩))
theorem shape_tab {w : World} {K : PySem.W.Frag} {mg : Str → Option Value} (T : Txt w K mg) (x : W20) : (∃ b, PySem.W.nsIn K (gA K "SHAPES") x.str = some (some (.ref b)) ∧ ∀ H, SqT K H b (x.shape.map V.int)) ∨ (PySem.W.nsIn K (gA K "SHAPES") x.str = some none ∧ x.shape.map V.int = []) := by
  cases x
  all_goals first
    | exact .inr ⟨T.m_SHAPES _ (by decide +kernel), rfl⟩
    | exact .inl (T.t_SHAPES (_, _) (by decide +kernel))
theorem word_at {c : Int} (h0 : 0 ≤ c) (h1 : c < 20) : atI tv_ALL_WORDS c = some (.str (W20.all.getD c.toNat .stop).str) := by
  obtain ⟨n, rfl⟩ : ∃ n : Nat, c = (n : Int) := ⟨c.toNat, by omega⟩
  refine atI_nat ?_
  have hn : n < 20 := by omega
  have h : ∀ n, n < 20 → tv_ALL_WORDS[n]? = some (.str (W20.all.getD n .stop).str) := by decide +kernel
  exact h n hn
def HeadV (H : Hp) : Option Head → V → Prop
  | none, v => v = .non
  | some h, v => ∃ a, v = .ref a ∧ H a = some (.tup h.vs)
def rHead (a : V) (H : Hp) (Q : VK) : Prop := ∃ (c : Int), a = .int c ∧ 0 ≤ c ∧ ∀ H' v, Same H H' → HeadV H' (headOf c) v → Q v H'
theorem w_rHead {H : Hp} {Q : VK} {c : Int} (h : 0 ≤ c) (k : ∀ H' v, Same H H' → HeadV H' (headOf c) v → Q v H') : rHead (.int c) H Q := ⟨c, rfl, h, k⟩
theorem Same.mutD {H H2 : Hp} {D : Addr} {o : HO} (hD : H D = none) (S : Same H H2) : Same H (L2.upd H2 D o) := fun c u h => by
  rw [upd_ne (ne_of_none h hD)]
  exact S _ _ h
theorem w_neD {K : PySem.W.Frag} {H : Hp} {Q : VK} {x y : V} {d e : PyData} {k : Bool} (hx : Dp K H x d) (hy : Dp K H y e) (sd : SeqAt.shaped d = true) (se : SeqAt.shaped e = true) (hk : (!PyData.eqv d e) = k) (q : Q (.bl k) H) : rNeD K x y H Q :=
  ⟨d, e, hx, hy, sd, se, by rw [hk]; exact q⟩
/-- shape + (1,) * (2 - len(shape)) -/
theorem w_bnd {K : PySem.W.Frag} {σ : St'} {H : Hp} {Q : VK} {b : Addr} {x : W20} (hs : σ[4]? = some (some (.ref b))) (hb : SqT K H b (x.shape.map V.int))
    (q : ∀ bb H1, Same H H1 → SqT K H1 bb [.int x.b1, .int x.b2] → Q (.ref bb) H1) :
    tOp (rCatA K) (tVar 4) (tOp (rRep2 K) (tTup (tCons (tC (V.int 1)) tNil)) (tOp (rI0 fun i j => V.int (i - j)) (tC (V.int 2)) (tCB (rLen1 K) (tCons (tVar 4) tNil)))) σ H Q := by
  refine w_op (w_var hs (w_op (w_tup (w_cons (w_C (w_nil (w_kT sz1 fun t ht => ?_)))))))
  refine w_op (w_C (w_CB (w_cons (w_var hs (w_nil (w_lenT (SqT.new ht hb) (w_I0 ?_)))))))
  rcases shape_is x with ⟨e, e1, e2, _⟩ | ⟨e, e1, e2, _⟩ | ⟨e, e1, e2, _⟩ | ⟨e, e1, e2, _⟩
  · rw [e] at hb ⊢
    rw [e1, e2] at q
    refine (w_rep2 (z := .int 1) (SqT.of' upd_same) fun p hp => ?_ : rRep2 K (.ref t) (.int 2) _ _)
    exact w_cat0 (SqT.new hp (SqT.new ht hb)) (SqT.of' upd_same) sz2 (q _ _ (Same.snocN hp (Same.snocN ht (Same.refl _))) (SqT.of' upd_same))
  · rw [e] at hb ⊢
    rw [e1, e2] at q
    refine (w_rep1 (z := .int 1) (SqT.of' upd_same) ?_ : rRep2 K (.ref t) (.int 1) _ _)
    exact w_cat (SqT.new ht hb) (SqT.of' upd_same) sz2 fun p H' s h => q p H' (Same.snoc s (Same.snocN ht (Same.refl _))) (h.elim SqT.of' id)
  · rw [e] at hb ⊢
    rw [e1, e2] at q
    refine (w_rep0 (z := .int 1) (SqT.of' upd_same) fun p hp => ?_ : rRep2 K (.ref t) (.int 0) _ _)
    exact w_cat (SqT.new hp (SqT.new ht hb)) (SqT.of' upd_same) sz2 fun p2 H' s h => q p2 H' (Same.snoc s (Same.snocN hp (Same.snocN ht (Same.refl _)))) (h.elim SqT.of' id)
  · rw [e] at hb ⊢
    rw [e1, e2] at q
    refine (w_rep0 (z := .int 1) (SqT.of' upd_same) fun p hp => ?_ : rRep2 K (.ref t) (.int 0) _ _)
    exact w_cat (SqT.new hp (SqT.new ht hb)) (SqT.of' upd_same) sz2 fun p2 H' s h => q p2 H' (Same.snoc s (Same.snocN hp (Same.snocN ht (Same.refl _)))) (h.elim SqT.of' id)
/-- (word,) + digits[:len(shape)] -/
theorem w_hd {K : PySem.W.Frag} {σ : St'} {H : Hp} {Q : VK} {b d : Addr} {x : W20} {i j : Int} {wd : Str} (h3 : σ[3]? = some (some (.str wd))) (h2 : σ[2]? = some (some (.ref d))) (hs : σ[4]? = some (some (.ref b))) (hb : SqT K H b (x.shape.map V.int)) (hd : SqT K H d [.int i, .int j])
    (q : ∀ p H1, Same H H1 → H1 p = some (.tup (.str wd :: (x.digits i j).map V.int)) → Q (.ref p) H1) :
    tOp (rCatA K) (tTup (tCons (tVar 3) tNil)) (tSl (rSlA K) (tVar 2) tNoPart (tPart (tCB (rLen1 K) (tCons (tVar 4) tNil)))) σ H Q := by
  refine w_op (w_tup (w_cons (w_var h3 (w_nil (w_kT sz1 fun t ht => ?_)))))
  refine w_sl (w_var h2 (w_noPart (w_part (w_CB (w_cons (w_var hs (w_nil (w_lenT (SqT.new ht hb) (w_kPt ?_)))))))))
  have hd1 : SqT K (upd H t (.tup [.str wd])) d [.int i, .int j] := SqT.new ht hd
  rcases shape_is x with ⟨e, _, _, e3⟩ | ⟨e, _, _, e3⟩ | ⟨e, _, _, e3⟩ | ⟨e, _, _, e3⟩
  · rw [e]
    rw [e3] at q
    refine w_slA hd1 (show ¬ ((0 : Nat) = 0 ∧ (0 : Nat) = 2) by decide) fun p hp => ?_
    exact w_catN (look_new hp upd_same) (SqT.of' upd_same) sz1 fun p2 H' s h => q p2 H' (Same.snoc s (Same.snocN hp (Same.snocN ht (Same.refl _)))) h
  · rw [e]
    rw [e3] at q
    refine w_slA hd1 (show ¬ ((0 : Nat) = 0 ∧ (1 : Nat) = 2) by decide) fun p hp => ?_
    exact w_catN (look_new hp upd_same) (SqT.of' upd_same) sz2 fun p2 H' s h => q p2 H' (Same.snoc s (Same.snocN hp (Same.snocN ht (Same.refl _)))) h
  · rw [e]
    rw [e3] at q
    refine w_slW hd1 (show (0 : Nat) = 0 ∧ (2 : Nat) = 2 by decide) ?_
    exact w_catN upd_same hd1 sz3 fun p2 H' s h => q p2 H' (Same.snoc s (Same.snocN ht (Same.refl _))) h
  · rw [e]
    rw [e3] at q
    refine w_slW hd1 (show (0 : Nat) = 0 ∧ (2 : Nat) = 2 by decide) ?_
    exact w_catN upd_same hd1 sz3 fun p2 H' s h => q p2 H' (Same.snoc s (Same.snocN ht (Same.refl _))) h
section
variable {P : Program} {w : World} {K : PySem.W.Frag} {mg : Str → Option Value} {base : Heap}
theorem ok_head_of (T : Txt w K mg) : GDef P w K mg base "head_of" 1 [] (sp1 rHead) := by
  obtain ⟨f, fd, F, M⟩ := T.d_head_of
  refine ⟨f, fd, _, _, F.ok sc_head_of (fun vs H Q E h => ?_) (fun cdv A outer s0 H vs Q E hr h => ?_), M, F.kp, F.bindsN fun _ _ _ _ _ _ us hl => match us, hl with | [_], _ => rfl, .nil⟩
  · obtain ⟨_, rfl, _⟩ := h
    rfl
  · obtain ⟨_, rfl, c, rfl, hc, k⟩ := h
    refine ⟨_, (pss_cons (ps_par (i := 1) (j := 2) rfl sc_head_of.nd rfl rfl (by decide) rfl rfl (pa_cons (pe_op op_fdiv (pv 0) pe_int) (pa_cons (pe_tup (pa_cons (pe_op op_mod (pe_op op_fdiv (pv 0) pe_int) pe_int) (pa_cons (pe_op op_mod (pv 0) pe_int) pa_nil))) pa_nil)) (by rfl))
 (pss_cons (ps_if (pt_cmpR op_ge (pv 1) (pe_callB len_seq (by rfl) T.f_len PySem.boot_len (pa_cons (pe_gv T.v_ALL_WORDS) pa_nil)) (nomark _))
 (pss_one (ps_ret pe_non))
 pss_nil)
 (pss_cons (ps_set (i := 3) sc_head_of.nd rfl (by first | exact .inl rfl | exact .inr rfl) (pe_ix ix_tup (pe_gv T.v_ALL_WORDS) (pv 1) (fun _ _ => rfl)))
 (pss_cons (ps_set (i := 4) sc_head_of.nd rfl (by first | exact .inl rfl | exact .inr rfl) (e_wget (pe_gv T.v_SHAPES) (pv 3) (pe_tup pa_nil)))
 (pss_cons (ps_set (i := 5) sc_head_of.nd rfl (by first | exact .inl rfl | exact .inr rfl) (pe_op op_catA (pv 4) (pe_op op_repT1 (pe_tup (pa_cons pe_int pa_nil)) (pe_op op_sub pe_int (pe_callB len_seq (by rfl) T.f_len PySem.boot_len (pa_cons (pv 4) pa_nil))))))
 (pss_cons (ps_if (pt_cmpR (op_neD hr.units) (pe_lc (own := [("digit", 6), ("bound", 7)]) (g := gTup K 2 (gCons (gName 6) (gCons (gName 7) gNil))) rfl sc_head_of.nd (RZ.pi_zipA (by rfl) T.f_zip (pa_cons (pv 2) (pa_cons (pv 5) pa_nil))) (blkOk_by (N := N_head_of) (sc := defScope s_head_of) (by decide +kernel)) (fun _ _ _ _ _ => (pg_tup rfl (pgs_cons (pg_name (i := 6) sc_head_of.nd rfl (by first | exact .inl rfl | exact .inr rfl)) (pgs_cons (pg_name (i := 7) sc_head_of.nd rfl (by first | exact .inl rfl | exact .inr rfl)) pgs_nil)))) (fun _ _ _ _ _ => (pts_one (pt_cmpR op_ge (pv 6) (pv 7) (nomark _)))) (fun _ _ _ _ _ => (pv 6))) (pe_lst pa_nil) (nomark _))
 (pss_one (ps_ret pe_non))
 pss_nil)
 (pss_one (ps_ret (pe_op op_catA (pe_tup (pa_cons (pv 3) pa_nil)) (pe_slice sl_tupA (pv 2) po_none (po_some (pe_callB len_seq (by rfl) T.f_len PySem.boot_len (pa_cons (pv 4) pa_nil))))))))))))), ?_⟩
    rw [show start N_head_of [V.int c] = [some (V.int c), none, none, none, none, none, none, none] from rfl]; try simp only [cxK, cxW]
    fail "S"
    refine w_lenT (T.t_ALL_WORDS _) ?_
    have hl : ((tv_ALL_WORDS.length : Nat) : Int) = 20 := rfl
    rw [hl]
    by_cases h20 : c / 100 < 20
    · have he : headOf c = if c / 10 % 10 < (W20.all.getD (c / 100).toNat .stop).b1 ∧ c % 10 < (W20.all.getD (c / 100).toNat .stop).b2 then some ⟨W20.all.getD (c / 100).toNat .stop, c / 10 % 10, c % 10⟩ else none := by
        unfold headOf
        rw [if_pos h20]
      fail "S"
      refine w_ixTK (T.t_ALL_WORDS _) (word_at (by omega) h20) ?_
      generalize W20.all.getD (c / 100).toNat .stop = x at he ⊢
      fail "S"
      refine w_kWGet T.k_SHAPES ?_
      fail "S"
      refine w_kWG3 (shape_tab T x) (by fail "sqt") fun b hb => ?_
      refine w_gName rfl ?_
      refine w_seq (w_asg (w_bnd rfl hb fun bb H1 S1 hbb => ?_))
      fail "S"
      refine w_zipT (xs := [.int (c / 10 % 10), .int (c % 10)]) (ys := [.int x.b1, .int x.b2]) (by fail "sqt") (by fail "sqt") rfl (fun i => match i with
        | 0 => []
        | 1 => if x.b1 ≤ c / 10 % 10 then [V.int (c / 10 % 10)] else []
        | _ + 2 => (if x.b1 ≤ c / 10 % 10 then [V.int (c / 10 % 10)] else []) ++ (if x.b2 ≤ c % 10 then [V.int (c % 10)] else [])) rfl ?_ ?_
      · intro i D t H2 u v hi eu ev hD hF S2 ht
        have hi2 : i = 0 ∨ i = 1 := by
          have : i < 2 := hi
          omega
        rcases hi2 with rfl | rfl
        · obtain rfl : V.int (c / 10 % 10) = u := Option.some.inj eu
          obtain rfl : V.int x.b1 = v := Option.some.inj ev
          by_cases hb1 : x.b1 ≤ c / 10 % 10
          · fail "S"
            exact w_kKeep (look_new ht hF) (show (0 : Nat) < sizeLine by decide) ⟨by rw [upd_same, if_pos hb1]; rfl, Same.mutD hD (Same.snocN ht S2)⟩
          · fail "S"
            exact ⟨by rw [look_new ht hF, if_neg hb1], Same.snocN ht S2⟩
        · obtain rfl : V.int (c % 10) = u := Option.some.inj eu
          obtain rfl : V.int x.b2 = v := Option.some.inj ev
          by_cases hb2 : x.b2 ≤ c % 10
          · fail "S"
            refine w_kKeep (look_new ht hF) ?_ ⟨by rw [upd_same, if_pos hb2], Same.mutD hD (Same.snocN ht S2)⟩
            by_cases hb1 : x.b1 ≤ c / 10 % 10
            · rw [if_pos hb1]; exact (by decide : 1 < sizeLine)
            · rw [if_neg hb1]; exact (by decide : 0 < sizeLine)
          · fail "S"
            exact ⟨by rw [look_new ht hF, if_neg hb2, List.append_nil], Same.snocN ht S2⟩
      · intro D H2 hD hF S2
        have hF : H2 D = some (.lst ((if x.b1 ≤ c / 10 % 10 then [V.int (c / 10 % 10)] else []) ++ (if x.b2 ≤ c % 10 then [V.int (c % 10)] else []))) := hF
        by_cases hb1 : x.b1 ≤ c / 10 % 10
        · have en : headOf c = none := by rw [he, if_neg (fun z => Int.not_le.mpr z.1 hb1)]
          rw [en] at k
          rw [if_pos hb1] at hF
          by_cases hb2 : x.b2 ≤ c % 10
          · rw [if_pos hb2] at hF
            fail "S"
            refine w_neD (.lst (by fail "sql") (.cons (.int _) (.cons (.int _) .nil))) (.lst (by fail "sql") .nil) rfl rfl (k := true) rfl ?_
            fail "S"
            exact k _ _ (by fail "sm") rfl
          · rw [if_neg hb2] at hF
            fail "S"
            refine w_neD (.lst (by fail "sql") (.cons (.int _) .nil)) (.lst (by fail "sql") .nil) rfl rfl (k := true) rfl ?_
            fail "S"
            exact k _ _ (by fail "sm") rfl
        · rw [if_neg hb1] at hF
          by_cases hb2 : x.b2 ≤ c % 10
          · have en : headOf c = none := by rw [he, if_neg (fun z => Int.not_le.mpr z.2 hb2)]
            rw [en] at k
            rw [if_pos hb2] at hF
            fail "S"
            refine w_neD (.lst (by fail "sql") (.cons (.int _) .nil)) (.lst (by fail "sql") .nil) rfl rfl (k := true) rfl ?_
            fail "S"
            exact k _ _ (by fail "sm") rfl
          · have en : headOf c = some ⟨x, c / 10 % 10, c % 10⟩ := by rw [he, if_pos ⟨by omega, by omega⟩]
            rw [en] at k
            rw [if_neg hb2] at hF
            fail "S"
            refine w_neD (.lst (by fail "sql") .nil) (.lst (by fail "sql") .nil) rfl rfl (k := false) rfl ?_
            fail "s"
            fail "s"
            fail "s"
            fail "s"
            refine w_hd rfl rfl rfl (by fail "sqt") (by fail "sqt") fun p H3 S3 h3 => ?_
            exact k _ _ (Same.snoc S3 (by fail "sm")) ⟨p, rfl, h3⟩
    · fail "S"
      have e : headOf c = none := by unfold headOf; rw [if_neg h20]
      rw [e] at k
      exact k _ _ (by fail "sm") rfl
/-! size_of -/
theorem in_longer (x : W20) : inV (.str x.str) tv_LONGER = x.long := by cases x <;> decide +kernel
theorem ok_size_of (T : Txt w K mg) : GDef P w K mg base "size_of" 1 [] (sp1 rSize) := by
  obtain ⟨f, fd, F, M⟩ := T.d_size_of
  refine ⟨f, fd, _, _, F.ok sc_size_of (fun vs H Q E h => ?_) (fun cdv A outer s0 H vs Q E hr h => ?_), M, F.kp, F.bindsN fun _ _ _ _ _ _ us hl => match us, hl with | [_], _ => rfl, .nil⟩
  · obtain ⟨_, rfl, _⟩ := h
    rfl
  · obtain ⟨_, rfl, q, x, zs, rfl, hq, k⟩ := h
    refine ⟨_, (pss_one (ps_ret (pe_ifExp (pt_cmpR op_in_seq (pe_ix ix_tup (pv 0) pe_int (fun _ _ => rfl)) (pe_gv T.v_LONGER) (by with_unfolding_all rfl)) pe_int pe_int))), ?_⟩
    rw [show start N_size_of [V.ref q] = [some (V.ref q)] from rfl]; try simp only [cxK, cxW]
    have h0 : atI (V.str x.str :: zs) 0 = some (.str x.str) := atI_nat (j := 0) rfl
    fail "S"
    refine w_inT (T.t_LONGER _) rfl rfl (in_longer x) ?_
    fail "S"
    refine kI_b (fun hz => ?_) (fun hz => ?_)
    · fail "S"
      rw [if_pos hz] at k
      exact k
    · fail "S"
      rw [if_neg (by rw [hz]; decide)] at k
      exact k
end

/-! part P11read -/
theorem head_cons (h : Head) : h.vs = .str h.w.str :: h.args.map V.int := rfl
theorem args_len (h : Head) : h.args.length ≤ 2 := by
  obtain ⟨w, x, y⟩ := h
  cases w <;> exact Nat.le_of_ble_eq_true rfl
theorem row_long {h : Head} {n : Int} (e : h.w.long = true) : h.vs ++ [V.int n] = (⟨h.w, h.x, h.y, n⟩ : Row).vs := by
  unfold Head.vs Row.vs Head.args Row.args Row.tail
  dsimp only
  rw [if_pos e]
  simp
theorem row_short {h : Head} (e : h.w.long = false) : h.vs = (⟨h.w, h.x, h.y, 0⟩ : Row).vs := by
  unfold Head.vs Row.vs Head.args Row.args Row.tail
  dsimp only
  rw [if_neg (by rw [e]; decide)]
  simp
def ToldV (H : Hp) : Told → V → Prop
  | .bad k, v => ∃ a, v = .ref a ∧ H a = some (.tup [.non, .str k])
  | .row r b, v => ∃ a q, v = .ref a ∧ H a = some (.tup [.ref q, .int b]) ∧ H q = some (.tup r.vs)
def rRead (K : PySem.W.Frag) (a : V) (H : Hp) (Q : VK) : Prop := ∃ (p : Addr) (L : Lay) (s : S), a = .ref p ∧ StAt K H p L s ∧ s.Ok ∧ ∀ H' v, Same H H' → ToldV H' (readRow s.cells s.pages s.place) v → Q v H'
theorem w_rRead {K : PySem.W.Frag} {H : Hp} {Q : VK} {p : Addr} {L : Lay} {s : S} (R : StAt K H p L s) (ok : s.Ok) (k : ∀ H' v, Same H H' → ToldV H' (readRow s.cells s.pages s.place) v → Q v H') : rRead K (.ref p) H Q := ⟨p, L, s, rfl, R, ok, k⟩
section
variable {P : Program} {w : World} {K : PySem.W.Frag} {mg : Str → Option Value} {base : Heap}
theorem ok_read_row (T : Txt w K mg) : GDef P w K mg base "read_row" 2 [] (sp1 (rRead K)) := by
  obtain ⟨f, fd, F, M⟩ := T.d_read_row
  refine ⟨f, fd, _, _, F.ok sc_read_row (fun vs H Q E h => ?_) (fun cdv A outer s0 H vs Q E hr h => ?_), M, F.kp, F.bindsN fun _ _ _ _ _ _ us hl => match us, hl with | [_], _ => rfl, .nil⟩
  · obtain ⟨_, rfl, _⟩ := h
    rfl
  · obtain ⟨_, rfl, p, L, s, rfl, R, ok, k⟩ := h
    refine ⟨_, (pss_cons (ps_set (i := 1) sc_read_row.nd rfl (by first | exact .inl rfl | exact .inr rfl) (pe_f (pv 0) T.cl_State T.n_State_next_place))
 (pss_cons (ps_set (i := 2) sc_read_row.nd rfl (by first | exact .inl rfl | exact .inr rfl) (e_meth (pv 0) T.cl_State (ok_State_spot T) hr (pa_cons (pv 1) pa_nil)))
 (pss_cons (ps_if (pt_cmpR op_isN1 (pv 2) pe_non (nomark _))
 (pss_one (ps_ret (pe_tup (pa_cons pe_non (pa_cons (pe_gv T.v_LACKS) pa_nil)))))
 pss_nil)
 (pss_cons (ps_set (i := 3) sc_read_row.nd rfl (by first | exact .inl rfl | exact .inr rfl) (e_call (ok_head_of T) hr (pa_cons (pe_ix ix_list (pe_f (pv 0) T.cl_State T.n_State_store) (pv 2) (fun _ _ => rfl)) pa_nil)))
 (pss_cons (ps_if (pt_cmpR op_isN1 (pv 3) pe_non (nomark _))
 (pss_one (ps_ret (pe_tup (pa_cons pe_non (pa_cons (pe_gv T.v_ROW) pa_nil)))))
 pss_nil)
 (pss_cons (ps_if (pt_cmpR op_eq (e_call (ok_size_of T) hr (pa_cons (pv 3) pa_nil)) pe_int (nomark _))
 (pss_one (ps_ret (pe_tup (pa_cons (pv 3) (pa_cons (pe_op op_add (pv 1) pe_int) pa_nil)))))
 pss_nil)
 (pss_cons (ps_set (i := 4) sc_read_row.nd rfl (by first | exact .inl rfl | exact .inr rfl) (e_meth (pv 0) T.cl_State (ok_State_spot T) hr (pa_cons (pe_op op_add (pv 1) pe_int) pa_nil)))
 (pss_one (ps_ret (pe_ifExp (pt_cmpR op_isN1 (pv 4) pe_non (nomark _)) (pe_tup (pa_cons pe_non (pa_cons (pe_gv T.v_LACKS) pa_nil))) (pe_tup (pa_cons (pe_op op_catA (pv 3) (pe_tup (pa_cons (pe_ix ix_list (pe_f (pv 0) T.cl_State T.n_State_store) (pv 4) (fun _ _ => rfl)) pa_nil))) (pa_cons (pe_op op_add (pv 1) pe_int) pa_nil))))))))))))), ?_⟩
    rw [show start N_read_row [V.ref p] = [some (V.ref p), none, none, none, none] from rfl]; try simp only [cxK, cxW]
    fail "S"
    cases e : spotOf s.pages s.place with
    | none =>
      fail "S"
      have en : readRow s.cells s.pages s.place = .bad "lacks" := by unfold readRow; rw [e]
      rw [en] at k
      exact k _ _ (by fail "sm") ⟨_, rfl, by fail "hf"⟩
    | some c =>
      obtain ⟨c0, c1, g0, g1⟩ := spotOf_ok ok.pr e
      dsimp only [optV]
      have hcell := ok.cr _ (gi_mem (ns := s.cells) (i := c) c0 (by rw [ok.cl]; omega))
      fail "S"
      refine w_rHead hcell.1 fun H1 v S1 hv => ?_
      fail "S"
      cases eh : headOf (gi s.cells c) with
      | none =>
        rw [eh] at hv
        obtain rfl : v = .non := hv
        fail "S"
        have en : readRow s.cells s.pages s.place = .bad "row" := by unfold readRow; rw [e]; dsimp only; rw [eh]
        rw [en] at k
        exact k _ _ (by fail "sm") ⟨_, rfl, by fail "hf"⟩
      | some hd =>
        rw [eh] at hv
        obtain ⟨a, rfl, ha⟩ := hv
        rw [head_cons] at ha
        fail "S"
        cases el : hd.w.long with
        | false =>
          fail "S"
          have en : readRow s.cells s.pages s.place = .row ⟨hd.w, hd.x, hd.y, 0⟩ (s.place + 1) := by unfold readRow; rw [e]; dsimp only; rw [eh]; dsimp only; rw [el]; rfl
          rw [en] at k
          rw [← head_cons, row_short el] at ha
          fail "S"
          exact k _ _ (by fail "sm") ⟨_, _, rfl, by fail "hf", by fail "hf"⟩
        | true =>
          fail "S"
          cases ef : spotOf s.pages (s.place + 1) with
          | none =>
            fail "S"
            have en : readRow s.cells s.pages s.place = .bad "lacks" := by unfold readRow; rw [e]; dsimp only; rw [eh]; dsimp only; rw [el, ef]; rfl
            rw [en] at k
            exact k _ _ (by fail "sm") ⟨_, rfl, by fail "hf"⟩
          | some f =>
            obtain ⟨f0, f1, _, _⟩ := spotOf_ok ok.pr ef
            dsimp only [optV]
            have en : readRow s.cells s.pages s.place = .row ⟨hd.w, hd.x, hd.y, gi s.cells f⟩ (s.place + 2) := by unfold readRow; rw [e]; dsimp only; rw [eh]; dsimp only; rw [el, ef]; rfl
            rw [en] at k
            fail "S"
            refine w_catN (by fail "hf") (by fail "sqt") (by have := args_len hd; rw [sizeLine_eq]; simp; omega) fun t H2 S2 h2 => ?_
            have h3 : H2 t = some (.tup (⟨hd.w, hd.x, hd.y, gi s.cells f⟩ : Row).vs) := by rw [h2, ← row_long el]; rfl
            fail "S"
            exact k _ _ (by fail "sm") ⟨_, _, rfl, by fail "hf", by fail "hf"⟩
/-! done_alone -/
def AloneV (H : Hp) (s : S) (v : V) : Prop := match readRow s.cells s.pages s.place with
  | .bad _ => ∃ a, v = .ref a ∧ H a = some (.tup [.non, .non])
  | .row r _ => ∃ a q, v = .ref a ∧ H a = some (.tup [wroteV s r, .ref q]) ∧ H q = some (.tup r.vs)
def rAlone (K : PySem.W.Frag) (a : V) (H : Hp) (Q : VK) : Prop := ∃ (p : Addr) (L : Lay) (s : S), a = .ref p ∧ StAt K H p L s ∧ s.Ok ∧ s.said.length ≤ 1000 ∧ ∀ H' v, StAt K H' p L (stepS s) → FrS L p H H' → AloneV H' s v → Q v H'
theorem w_rAlone {K : PySem.W.Frag} {H : Hp} {Q : VK} {p : Addr} {L : Lay} {s : S} (R : StAt K H p L s) (ok : s.Ok) (hs : s.said.length ≤ 1000) (k : ∀ H' v, StAt K H' p L (stepS s) → FrS L p H H' → AloneV H' s v → Q v H') : rAlone K (.ref p) H Q := ⟨p, L, s, rfl, R, ok, hs, k⟩
theorem bad_word {c : List Int} {g : List (Option (Int × Bool))} {p : Int} {k : Str} (e : readRow c g p = .bad k) : k = "lacks" ∨ k = "kept" ∨ k = "row" := by
  unfold readRow at e
  split at e
  · injection e with e; exact .inl e.symm
  · split at e
    · injection e with e; exact .inr (.inr e.symm)
    · split at e
      · split at e
        · injection e with e; exact .inl e.symm
        · cases e
      · cases e
theorem ok_done_alone (T : Txt w K mg) : GDef P w K mg base "done_alone" 4 [] (sp1 (rAlone K)) := by
  obtain ⟨f, fd, F, M⟩ := T.d_done_alone
  refine ⟨f, fd, _, _, F.ok sc_done_alone (fun vs H Q E h => ?_) (fun cdv A outer s0 H vs Q E hr h => ?_), M, F.kp, F.bindsN fun _ _ _ _ _ _ us hl => match us, hl with | [_], _ => rfl, .nil⟩
  · obtain ⟨_, rfl, _⟩ := h
    rfl
  · obtain ⟨_, rfl, p, L, s, rfl, R, ok, hsd, k⟩ := h
    refine ⟨_, (pss_cons (ps_asg (e_call (ok_read_row T) hr (pa_cons (pv 0) pa_nil)) (pg_tup rfl (pgs_cons (pg_name (i := 1) sc_done_alone.nd rfl (by first | exact .inl rfl | exact .inr rfl)) (pgs_cons (pg_name (i := 2) sc_done_alone.nd rfl (by first | exact .inl rfl | exact .inr rfl)) pgs_nil))))
 (pss_cons (ps_if (pt_cmpR op_isN1 (pv 1) pe_non (nomark _))
 (pss_cons (ps_expr (e_meth (pv 0) T.cl_State (ok_State_fault T) hr (pa_cons (pv 2) (pa_cons (pe_f (pv 0) T.cl_State T.n_State_next_place) pa_nil))))
 (pss_one (ps_ret (pe_tup (pa_cons pe_non (pa_cons pe_non pa_nil))))))
 pss_nil)
 (pss_one (ps_ret (pe_tup (pa_cons (e_meth (pv 0) T.cl_State (ok_State_do T) hr (pa_cons (pv 1) (pa_cons (pe_f (pv 0) T.cl_State T.n_State_next_place) (pa_cons (pv 2) pa_nil)))) (pa_cons (pv 1) pa_nil))))))), ?_⟩
    rw [show start N_done_alone [V.ref p] = [some (V.ref p), none, none] from rfl]; try simp only [cxK, cxW]
    fail "S"
    refine w_rRead R ok fun H1 v S1 hv => ?_
    cases e : readRow s.cells s.pages s.place with
    | bad kd =>
      have e1 : stepS s = faultS s kd s.place := by unfold stepS; rw [e]
      rw [e] at hv
      obtain ⟨a, rfl, ha⟩ := hv
      fail "S"
      refine w_rFault (by fail "st") (bad_word e) fun H2 R2 F2 => ?_
      fail "S"
      refine k _ _ (by rw [e1]; fail "st") (by fail "fr") ?_
      unfold AloneV
      rw [e]
      exact ⟨_, rfl, by fail "hf"⟩
    | row r b =>
      have e1 : stepS s = doS s r s.place b := by unfold stepS; rw [e]
      have ro := (readRow_ok ok e).1
      rw [e] at hv
      obtain ⟨a, q, rfl, ha, hq⟩ := hv
      fail "S"
      refine w_rDo (by fail "st") ok hsd (by fail "hf") ro fun H2 R2 F2 => ?_
      fail "S"
      refine k _ _ (by rw [e1]; fail "st") (by fail "fr") ?_
      unfold AloneV
      rw [e]
      exact ⟨_, _, rfl, by fail "hf", by fail "hf"⟩
end

/-! part P12init -/
theorem Paired.snoc {α β : Type} {F : α → β → Prop} {a : α} {b : β} (r : F a b) : ∀ {xs : List α} {us : List β}, Paired F xs us → Paired F (xs ++ [a]) (us ++ [b])
  | _, _, .nil => .cons r .nil
  | _, _, .cons q t => .cons q (Paired.snoc r t)
def initS (cs : List Int) (b : Int) : S := { cells := cs ++ List.replicate (128 - cs.length) 0, pages := [some (0, true), some (1, true), some (2, true), some (3, true)], held := [0, 0, 0, 0], sum := none, place := b, post := none, said := [], why := "", many := 0 }
theorem rep_ints (n : Nat) : (List.replicate n [V.int 0]).flatten = (List.replicate n (0 : Int)).map V.int := by
  induction n with
  | zero => rfl
  | succ n ih => rw [List.replicate_succ, List.replicate_succ, List.flatten_cons, ih]; rfl
def pgs (i : Nat) : List (Option (Int × Bool)) := (List.range i).map fun (k : Nat) => some ((k : Int), true)
theorem pgs_succ (i : Nat) : pgs (i + 1) = pgs i ++ [some ((i : Int), true)] := by
  unfold pgs
  rw [List.range_succ, List.map_append]
  rfl
/-- the places of a new state were free -/
theorem fresh_kp {p a : Addr} {H H1 : Hp} {o : HO} (k : KeepP p H H1) (hp : H1 p = some o) (h : H1 a = none) : H a = none := by
  cases e : H a with
  | none => rfl
  | some u =>
    have : H1 a = some u := k _ _ e (by rintro rfl; rw [hp] at h; cases h)
    rw [h] at this
    cases this
structure LayNew (H : Hp) (L : Lay) : Prop where
  st : H L.st = none
  mp : H L.mp = none
  hd : H L.hd = none
  td : H L.td = none
def rSInit (K : PySem.W.Frag) (a b c : V) (H : Hp) (Q : VK) : Prop := ∃ (p dx l : Addr) (cs : List Int) (i : Int), a = .ref p ∧ b = .ref l ∧ c = .int i ∧ H p = some (.ins (cS K) dx []) ∧ SqL K H l (cs.map V.int) ∧ cs.length ≤ 128 ∧
  ∀ H' L, StAt K H' p L (initS cs i) → LayNew H L → (∀ b o, H b = some o → b ≠ p → H' b = some o) → Q .non H'
section
variable {P : Program} {w : World} {K : PySem.W.Frag} {mg : Str → Option Value} {base : Heap}
theorem mk_State (T : Txt w K mg) : CDef P w K mg base "State" (cS K) 1 [] (sp3 (rSInit K)) := by
  obtain ⟨f, fd, F, M, g⟩ := T.d_State_init
  refine ⟨f, fd, _, _, F.ok sc_State_init (fun vs H Q E h => ?_) (fun cdv A outer s0 H vs Q E hr h => ?_), M, g, F.bindsN fun _ _ _ _ _ _ us hl => match us, hl with | [_, _, _], _ => rfl, .nil⟩
  · obtain ⟨_, _, _, rfl, _⟩ := h
    rfl
  · obtain ⟨_, _, _, rfl, p, dx, l, cs, i, rfl, rfl, rfl, hp, hl, hlen, k⟩ := h
    refine ⟨_, (pss_cons (ps_f (pv 0) (pe_op op_cat (pe_callTy list_of (by rfl) T.f_list (by decide +kernel) (pa_cons (pv 1) pa_nil)) (pe_op op_rep (pe_lst (pa_cons pe_int pa_nil)) (pe_op op_sub (pe_gv T.v_CELLS) (pe_callB len_seq (by rfl) T.f_len PySem.boot_len (pa_cons (pv 1) pa_nil))))) T.cl_State T.n_State_store)
 (pss_cons (ps_f (pv 0) (pe_lc (own := [("page", 3)]) (g := gName 3) (tt := tYes) rfl sc_State_init.nd (pi_range1 (by rfl) T.f_range (pa_cons (pe_gv T.v_PAGES) pa_nil)) (blkOk_by (N := N_State_init) (sc := defScope s_State_init) (by decide +kernel)) (fun _ _ _ _ _ => (pg_name (i := 3) sc_State_init.nd rfl (by first | exact .inl rfl | exact .inr rfl))) (fun _ _ _ _ _ => pts_nil) (fun _ _ _ _ _ => (pe_tup (pa_cons (pv 3) (pa_cons pe_bl pa_nil))))) T.cl_State T.n_State_map)
 (pss_cons (ps_f (pv 0) (pe_op op_rep (pe_lst (pa_cons pe_int pa_nil)) (pe_gv T.v_REGISTERS)) T.cl_State T.n_State_held)
 (pss_cons (ps_f (pv 0) pe_non T.cl_State T.n_State_sum)
 (pss_cons (ps_f (pv 0) (pv 2) T.cl_State T.n_State_next_place)
 (pss_cons (ps_f (pv 0) pe_non T.cl_State T.n_State_post)
 (pss_cons (ps_f (pv 0) (pe_lst pa_nil) T.cl_State T.n_State_told)
 (pss_cons (ps_f (pv 0) pe_str T.cl_State T.n_State_end)
 (pss_one (ps_f (pv 0) pe_int T.cl_State T.n_State_many)))))))))), ?_⟩
    rw [show start N_State_init [V.ref p, V.ref l, V.int i] = [some (V.ref p), some (V.ref l), some (V.int i), none] from rfl]; try simp only [cxK, cxW]
    fail "S"
    rw [List.length_map]
    refine w_repL (by fail "hf") (by omega) (by omega) (by rw [sizeLine_eq]; simp; omega) fun p2 hp2 => ?_
    rw [rep_ints]
    refine w_cnt (by fail "hf") (by fail "hf") (by rw [sizeLine_eq]; simp; omega) fun p3 hp3 => ?_
    rw [← List.map_append]
    fail "S"
    refine w_lcJ walk_range (fun D i H' => ∃ mv, H' D = some (.lst mv) ∧ Paired (PgV H') (pgs i) mv ∧ mv.length = i ∧ Same _ H') (fun D hD => ⟨[], upd_same, .nil, rfl, Ext.new hD⟩) (fun _ _ _ _ _ _ => True.intro) ?_ ?_
    · rintro D i x H1 H' hD hi ⟨mv, h1, h2, h3, h4⟩ ⟨rfl, rfl⟩
      fail "S"
      rename_i t ht
      refine w_kKeep (by fail "hf") (by rw [h3, sizeLine_eq]; omega) ⟨mv ++ [.ref t], upd_same, ?_, by rw [List.length_append, h3]; rfl, Same.mutD hD (Same.snocN ht h4)⟩
      rw [pgs_succ]
      have k1 : TupKeep H' (upd (upd H' t (.tup [.int (0 + (i : Int)), .bl true])) D (.lst (mv ++ [.ref t]))) := fun b xs h => tup_upd (look_new ht h1) (by intro xs z; cases z) b xs (look_new ht h)
      refine Paired.snoc ⟨t, rfl, ?_⟩ (Paired.mono h2 fun _ _ q => q.keep k1)
      have k2 : upd H' t (.tup [.int (0 + (i : Int)), .bl true]) t = some (.tup [.int (i : Int), .bl true]) := by rw [upd_same, Int.zero_add]
      exact tup_upd (look_new ht h1) (by intro xs z; cases z) t _ k2
    · rintro D H' hD ⟨mv, h1, h2, h3, h4⟩
      fail "S"
      refine w_repL (by fail "hf") (by decide) (by decide) (by decide) fun p4 hp4 => ?_
      fail "S"
      rename_i td htd Ha a1 a2 Hb b1 b2 Hc c1 c2
      have q3 : Hc p3 = some (.lst ((cs ++ List.replicate (128 - (cs.length : Int)).toNat 0).map V.int)) := by fail "hf"
      have qD : Hc D = some (.lst mv) := by fail "hf"
      have q4 : Hc p4 = some (.lst (List.replicate (Int.toNat 4) [V.int 0]).flatten) := by fail "hf"
      have qt : Hc td = some (.lst []) := by fail "hf"
      obtain ⟨kk, kD⟩ : KeepP p H Hc ∧ KeepP p H' Hc := ⟨by fail "kp", by fail "kp"⟩
      have pD : ∃ fs, H' p = some (.ins (cS K) dx fs) := ⟨_, by fail "hf"⟩
      have tk : TupKeep H' Hc := fun b xs h => kD b _ h (by rintro rfl; obtain ⟨fs, e⟩ := pD; rw [e] at h; cases h)
      have n1 : p3 ≠ D := ne_of_none (by fail "hf") hD
      have n2 : p3 ≠ p4 := ne_of_none (by fail "hf") hp4
      have n3 : p3 ≠ td := ne_of_none (by fail "hf") htd
      have n4 : D ≠ p4 := ne_of_none (by fail "hf") hp4
      have n5 : D ≠ td := ne_of_none (by fail "hf") htd
      have n6 : p4 ≠ td := ne_of_none (by fail "hf") htd
      have en : (128 - (cs.length : Int)).toNat = 128 - cs.length := by omega
      rw [en] at q3
      refine k Hc ⟨p3, D, p4, td⟩ ⟨⟨dx, .non, c1, rfl⟩, q3, ⟨mv, qD, Paired.mono h2 fun _ _ q => q.keep tk⟩, q4, qt, n1, n2, n3, n4, n5, n6, ?_, rfl, rfl⟩ ⟨?_, ?_, ?_, ?_⟩ kk
      · show (cs ++ List.replicate (128 - cs.length) (0 : Int)).length = 128
        simp
        omega
      · exact fresh_new (fresh_new (fresh_new hp3))
      · exact fresh_kp (H1 := _) (by fail "kp") (by fail "hf") hD
      · exact fresh_kp (H1 := _) (by fail "kp") (by fail "hf") hp4
      · exact fresh_kp (H1 := _) (by fail "kp") (by fail "hf") htd
end

/-! part P13mach -/
/-! ### what both machines have -/
def mNames : List Str := ["rows_done", "place", "why", "registers", "flags", "cells", "said", "pages", "guard", "go", "advance"]
structure ObV (H : Hp) (C m sp : Addr) : Prop where
  ex : ∃ dx fs k, H m = some (.ins C dx fs) ∧ fs.lookup ("state" : Str) = some (.ref sp) ∧ fs.lookup ("asked" : Str) = some (.int k) ∧ fs.length ≤ 100 ∧ ∀ x ∈ mNames, fs.lookup x = none
structure MC0 (K : PySem.W.Frag) (C : Addr) : Prop where
  or : C = cP K ∨ C = cT K
  cl : Cls K C
  n_state : NoAttr K C "state"
  n_asked : NoAttr K C "asked"
section
variable {K : PySem.W.Frag} {H : Hp} {Q : VK} {C m sp : Addr}
theorem g_mstate (O : ObV H C m sp) (q : Q (.ref sp) H) : kF C "state" Q (.ref m) H := let ⟨_, _, _, ho, hl, _⟩ := O.ex; w_kF ho hl q
theorem g_mM {x : Str} {R : V → Hp → Prop} (O : ObV H C m sp) (hx : x ∈ mNames) (q : R (.ref m) H) : kM C x R (.ref m) H := let ⟨_, _, _, ho, _, _, _, hn⟩ := O.ex; w_kM ho (hn x hx) q
theorem ObV.same {H' : Hp} (e : Same H H') (O : ObV H C m sp) : ObV H' C m sp := let ⟨dx, fs, k, ho, q⟩ := O.ex; ⟨dx, fs, k, e _ _ ho, q⟩
theorem ObV.new {a : Addr} {o : HO} (h : H a = none) (O : ObV H C m sp) : ObV (upd H a o) C m sp := O.same (Ext.new h)
/-- the places of the state's lists hold what the state tells -/
def rMRows (K : PySem.W.Frag) (C : Addr) (a : V) (H : Hp) (Q : VK) : Prop := ∃ m sp L s, a = .ref m ∧ ObV H C m sp ∧ StAt K H sp L s ∧ Q (.int s.many) H
def rMPlace (K : PySem.W.Frag) (C : Addr) (a : V) (H : Hp) (Q : VK) : Prop := ∃ m sp L s, a = .ref m ∧ ObV H C m sp ∧ StAt K H sp L s ∧ Q (.int s.place) H
def rMWhy (K : PySem.W.Frag) (C : Addr) (a : V) (H : Hp) (Q : VK) : Prop := ∃ m sp L s, a = .ref m ∧ ObV H C m sp ∧ StAt K H sp L s ∧ Q (.str s.why) H
def rMGuard (K : PySem.W.Frag) (C : Addr) (a : V) (H : Hp) (Q : VK) : Prop := ∃ m sp L s, a = .ref m ∧ ObV H C m sp ∧ StAt K H sp L s ∧ Q (optV s.post) H
def rMRegs (K : PySem.W.Frag) (C : Addr) (a : V) (H : Hp) (Q : VK) : Prop := ∃ m sp L s, a = .ref m ∧ ObV H C m sp ∧ StAt K H sp L s ∧ ∀ l, H l = none → Q (.ref l) (upd H l (.lst (s.held.map V.int)))
def rMCells (K : PySem.W.Frag) (C : Addr) (a : V) (H : Hp) (Q : VK) : Prop := ∃ m sp L s, a = .ref m ∧ ObV H C m sp ∧ StAt K H sp L s ∧ ∀ l, H l = none → Q (.ref l) (upd H l (.lst (s.cells.map V.int)))
def rMSaid (K : PySem.W.Frag) (C : Addr) (a : V) (H : Hp) (Q : VK) : Prop := ∃ m sp L s, a = .ref m ∧ ObV H C m sp ∧ StAt K H sp L s ∧ ∀ l, H l = none → Q (.ref l) (upd H l (.lst (s.said.map V.int)))
def rMPages (K : PySem.W.Frag) (C : Addr) (a : V) (H : Hp) (Q : VK) : Prop := ∃ m sp L s, a = .ref m ∧ ObV H C m sp ∧ StAt K H sp L s ∧ ∀ l mv, H l = none → Paired (PgV H) s.pages mv → Q (.ref l) (upd H l (.lst mv))
def rMFlags (K : PySem.W.Frag) (C : Addr) (a : V) (H : Hp) (Q : VK) : Prop := ∃ m sp L s, a = .ref m ∧ ObV H C m sp ∧ StAt K H sp L s ∧ s.Ok ∧ ∀ t, H t = none → Q (.ref t) (upd H t (.tup [.bl (zeroOf s.sum), .bl (carryOf s.sum)]))
variable {L : Lay} {s : S}
theorem w_mRows (O : ObV H C m sp) (R : StAt K H sp L s) (q : Q (.int s.many) H) : rMRows K C (.ref m) H Q := ⟨m, sp, L, s, rfl, O, R, q⟩
theorem w_mPlace (O : ObV H C m sp) (R : StAt K H sp L s) (q : Q (.int s.place) H) : rMPlace K C (.ref m) H Q := ⟨m, sp, L, s, rfl, O, R, q⟩
theorem w_mWhy (O : ObV H C m sp) (R : StAt K H sp L s) (q : Q (.str s.why) H) : rMWhy K C (.ref m) H Q := ⟨m, sp, L, s, rfl, O, R, q⟩
theorem w_mGuard (O : ObV H C m sp) (R : StAt K H sp L s) (q : Q (optV s.post) H) : rMGuard K C (.ref m) H Q := ⟨m, sp, L, s, rfl, O, R, q⟩
theorem w_mRegs (O : ObV H C m sp) (R : StAt K H sp L s) (q : ∀ l, H l = none → Q (.ref l) (upd H l (.lst (s.held.map V.int)))) : rMRegs K C (.ref m) H Q := ⟨m, sp, L, s, rfl, O, R, q⟩
theorem w_mCells (O : ObV H C m sp) (R : StAt K H sp L s) (q : ∀ l, H l = none → Q (.ref l) (upd H l (.lst (s.cells.map V.int)))) : rMCells K C (.ref m) H Q := ⟨m, sp, L, s, rfl, O, R, q⟩
theorem w_mSaid (O : ObV H C m sp) (R : StAt K H sp L s) (q : ∀ l, H l = none → Q (.ref l) (upd H l (.lst (s.said.map V.int)))) : rMSaid K C (.ref m) H Q := ⟨m, sp, L, s, rfl, O, R, q⟩
theorem w_mPages (O : ObV H C m sp) (R : StAt K H sp L s) (q : ∀ l mv, H l = none → Paired (PgV H) s.pages mv → Q (.ref l) (upd H l (.lst mv))) : rMPages K C (.ref m) H Q := ⟨m, sp, L, s, rfl, O, R, q⟩
theorem w_mFlags (O : ObV H C m sp) (R : StAt K H sp L s) (ok : s.Ok) (q : ∀ t, H t = none → Q (.ref t) (upd H t (.tup [.bl (zeroOf s.sum), .bl (carryOf s.sum)]))) : rMFlags K C (.ref m) H Q := ⟨m, sp, L, s, rfl, O, R, ok, q⟩
end
section
variable {P : Program} {w : World} {K : PySem.W.Frag} {mg : Str → Option Value} {base : Heap}
theorem ok_Plain_rows_done (T : Txt w K mg) {C : Addr} (hC : MC0 K C) : MDef P w K mg base C "rows_done" 1 [] (sp1 (rMRows K C)) := by
  obtain ⟨f, fd, F, M1, M2⟩ := T.d_Plain_rows_done
  have M : Meth K C "rows_done" f := by rcases hC.or with e | e <;> rw [e] <;> assumption
  refine ⟨f, fd, _, _, F.ok sc_Plain_rows_done (fun vs H Q E h => ?_) (fun cdv A outer s0 H vs Q E hr h => ?_), M, F.bindsN fun _ _ _ _ _ _ us hl => match us, hl with | [_], _ => rfl, .nil⟩
  · obtain ⟨_, rfl, _⟩ := h
    rfl
  · obtain ⟨_, rfl, m, sp, L, s, rfl, O, R, k⟩ := h
    refine ⟨_, (pss_one (ps_ret (pe_f (pe_f (pv 0) hC.cl hC.n_state) T.cl_State T.n_State_many))), ?_⟩
    rw [show start N_Plain_rows_done [V.ref m] = [some (V.ref m)] from rfl]; try simp only [cxK, cxW]
    fail "S"
    refine g_mstate O ?_
    fail "S"
    exact k
theorem ok_Plain_place (T : Txt w K mg) {C : Addr} (hC : MC0 K C) : MDef P w K mg base C "place" 1 [] (sp1 (rMPlace K C)) := by
  obtain ⟨f, fd, F, M1, M2⟩ := T.d_Plain_place
  have M : Meth K C "place" f := by rcases hC.or with e | e <;> rw [e] <;> assumption
  refine ⟨f, fd, _, _, F.ok sc_Plain_place (fun vs H Q E h => ?_) (fun cdv A outer s0 H vs Q E hr h => ?_), M, F.bindsN fun _ _ _ _ _ _ us hl => match us, hl with | [_], _ => rfl, .nil⟩
  · obtain ⟨_, rfl, _⟩ := h
    rfl
  · obtain ⟨_, rfl, m, sp, L, s, rfl, O, R, k⟩ := h
    refine ⟨_, (pss_one (ps_ret (pe_f (pe_f (pv 0) hC.cl hC.n_state) T.cl_State T.n_State_next_place))), ?_⟩
    rw [show start N_Plain_place [V.ref m] = [some (V.ref m)] from rfl]; try simp only [cxK, cxW]
    fail "S"
    refine g_mstate O ?_
    fail "S"
    exact k
theorem ok_Plain_why (T : Txt w K mg) {C : Addr} (hC : MC0 K C) : MDef P w K mg base C "why" 1 [] (sp1 (rMWhy K C)) := by
  obtain ⟨f, fd, F, M1, M2⟩ := T.d_Plain_why
  have M : Meth K C "why" f := by rcases hC.or with e | e <;> rw [e] <;> assumption
  refine ⟨f, fd, _, _, F.ok sc_Plain_why (fun vs H Q E h => ?_) (fun cdv A outer s0 H vs Q E hr h => ?_), M, F.bindsN fun _ _ _ _ _ _ us hl => match us, hl with | [_], _ => rfl, .nil⟩
  · obtain ⟨_, rfl, _⟩ := h
    rfl
  · obtain ⟨_, rfl, m, sp, L, s, rfl, O, R, k⟩ := h
    refine ⟨_, (pss_one (ps_ret (pe_f (pe_f (pv 0) hC.cl hC.n_state) T.cl_State T.n_State_end))), ?_⟩
    rw [show start N_Plain_why [V.ref m] = [some (V.ref m)] from rfl]; try simp only [cxK, cxW]
    fail "S"
    refine g_mstate O ?_
    fail "S"
    exact k
theorem ok_Plain_guard (T : Txt w K mg) {C : Addr} (hC : MC0 K C) : MDef P w K mg base C "guard" 1 [] (sp1 (rMGuard K C)) := by
  obtain ⟨f, fd, F, M1, M2⟩ := T.d_Plain_guard
  have M : Meth K C "guard" f := by rcases hC.or with e | e <;> rw [e] <;> assumption
  refine ⟨f, fd, _, _, F.ok sc_Plain_guard (fun vs H Q E h => ?_) (fun cdv A outer s0 H vs Q E hr h => ?_), M, F.bindsN fun _ _ _ _ _ _ us hl => match us, hl with | [_], _ => rfl, .nil⟩
  · obtain ⟨_, rfl, _⟩ := h
    rfl
  · obtain ⟨_, rfl, m, sp, L, s, rfl, O, R, k⟩ := h
    refine ⟨_, (pss_one (ps_ret (pe_f (pe_f (pv 0) hC.cl hC.n_state) T.cl_State T.n_State_post))), ?_⟩
    rw [show start N_Plain_guard [V.ref m] = [some (V.ref m)] from rfl]; try simp only [cxK, cxW]
    fail "S"
    refine g_mstate O ?_
    fail "S"
    exact k
theorem ok_Plain_registers (T : Txt w K mg) {C : Addr} (hC : MC0 K C) : MDef P w K mg base C "registers" 1 [] (sp1 (rMRegs K C)) := by
  obtain ⟨f, fd, F, M1, M2⟩ := T.d_Plain_registers
  have M : Meth K C "registers" f := by rcases hC.or with e | e <;> rw [e] <;> assumption
  refine ⟨f, fd, _, _, F.ok sc_Plain_registers (fun vs H Q E h => ?_) (fun cdv A outer s0 H vs Q E hr h => ?_), M, F.bindsN fun _ _ _ _ _ _ us hl => match us, hl with | [_], _ => rfl, .nil⟩
  · obtain ⟨_, rfl, _⟩ := h
    rfl
  · obtain ⟨_, rfl, m, sp, L, s, rfl, O, R, k⟩ := h
    refine ⟨_, (pss_one (ps_ret (pe_callTy list_of (by rfl) T.f_list (by decide +kernel) (pa_cons (pe_f (pe_f (pv 0) hC.cl hC.n_state) T.cl_State T.n_State_held) pa_nil)))), ?_⟩
    rw [show start N_Plain_registers [V.ref m] = [some (V.ref m)] from rfl]; try simp only [cxK, cxW]
    fail "S"
    refine g_mstate O ?_
    have h1 := R.st
    have h2 := R.hd
    have h3 := R.td
    fail "S"
    exact k _ (by assumption)
theorem ok_Plain_cells (T : Txt w K mg) {C : Addr} (hC : MC0 K C) : MDef P w K mg base C "cells" 1 [] (sp1 (rMCells K C)) := by
  obtain ⟨f, fd, F, M1, M2⟩ := T.d_Plain_cells
  have M : Meth K C "cells" f := by rcases hC.or with e | e <;> rw [e] <;> assumption
  refine ⟨f, fd, _, _, F.ok sc_Plain_cells (fun vs H Q E h => ?_) (fun cdv A outer s0 H vs Q E hr h => ?_), M, F.bindsN fun _ _ _ _ _ _ us hl => match us, hl with | [_], _ => rfl, .nil⟩
  · obtain ⟨_, rfl, _⟩ := h
    rfl
  · obtain ⟨_, rfl, m, sp, L, s, rfl, O, R, k⟩ := h
    refine ⟨_, (pss_one (ps_ret (pe_callTy list_of (by rfl) T.f_list (by decide +kernel) (pa_cons (pe_f (pe_f (pv 0) hC.cl hC.n_state) T.cl_State T.n_State_store) pa_nil)))), ?_⟩
    rw [show start N_Plain_cells [V.ref m] = [some (V.ref m)] from rfl]; try simp only [cxK, cxW]
    fail "S"
    refine g_mstate O ?_
    have h1 := R.st
    have h2 := R.hd
    have h3 := R.td
    fail "S"
    exact k _ (by assumption)
theorem ok_Plain_said (T : Txt w K mg) {C : Addr} (hC : MC0 K C) : MDef P w K mg base C "said" 1 [] (sp1 (rMSaid K C)) := by
  obtain ⟨f, fd, F, M1, M2⟩ := T.d_Plain_said
  have M : Meth K C "said" f := by rcases hC.or with e | e <;> rw [e] <;> assumption
  refine ⟨f, fd, _, _, F.ok sc_Plain_said (fun vs H Q E h => ?_) (fun cdv A outer s0 H vs Q E hr h => ?_), M, F.bindsN fun _ _ _ _ _ _ us hl => match us, hl with | [_], _ => rfl, .nil⟩
  · obtain ⟨_, rfl, _⟩ := h
    rfl
  · obtain ⟨_, rfl, m, sp, L, s, rfl, O, R, k⟩ := h
    refine ⟨_, (pss_one (ps_ret (pe_callTy list_of (by rfl) T.f_list (by decide +kernel) (pa_cons (pe_f (pe_f (pv 0) hC.cl hC.n_state) T.cl_State T.n_State_told) pa_nil)))), ?_⟩
    rw [show start N_Plain_said [V.ref m] = [some (V.ref m)] from rfl]; try simp only [cxK, cxW]
    fail "S"
    refine g_mstate O ?_
    have h1 := R.st
    have h2 := R.hd
    have h3 := R.td
    fail "S"
    exact k _ (by assumption)
theorem ok_Plain_pages (T : Txt w K mg) {C : Addr} (hC : MC0 K C) : MDef P w K mg base C "pages" 1 [] (sp1 (rMPages K C)) := by
  obtain ⟨f, fd, F, M1, M2⟩ := T.d_Plain_pages
  have M : Meth K C "pages" f := by rcases hC.or with e | e <;> rw [e] <;> assumption
  refine ⟨f, fd, _, _, F.ok sc_Plain_pages (fun vs H Q E h => ?_) (fun cdv A outer s0 H vs Q E hr h => ?_), M, F.bindsN fun _ _ _ _ _ _ us hl => match us, hl with | [_], _ => rfl, .nil⟩
  · obtain ⟨_, rfl, _⟩ := h
    rfl
  · obtain ⟨_, rfl, m, sp, L, s, rfl, O, R, k⟩ := h
    refine ⟨_, (pss_one (ps_ret (pe_callTy list_of (by rfl) T.f_list (by decide +kernel) (pa_cons (pe_f (pe_f (pv 0) hC.cl hC.n_state) T.cl_State T.n_State_map) pa_nil)))), ?_⟩
    rw [show start N_Plain_pages [V.ref m] = [some (V.ref m)] from rfl]; try simp only [cxK, cxW]
    fail "S"
    refine g_mstate O ?_
    obtain ⟨mv, hm, hp⟩ := R.mp
    fail "S"
    exact k _ _ (by assumption) hp
theorem ok_Plain_flags (T : Txt w K mg) {C : Addr} (hC : MC0 K C) : MDef P w K mg base C "flags" 2 [] (sp1 (rMFlags K C)) := by
  obtain ⟨f, fd, F, M1, M2⟩ := T.d_Plain_flags
  have M : Meth K C "flags" f := by rcases hC.or with e | e <;> rw [e] <;> assumption
  refine ⟨f, fd, _, _, F.ok sc_Plain_flags (fun vs H Q E h => ?_) (fun cdv A outer s0 H vs Q E hr h => ?_), M, F.bindsN fun _ _ _ _ _ _ us hl => match us, hl with | [_], _ => rfl, .nil⟩
  · obtain ⟨_, rfl, _⟩ := h
    rfl
  · obtain ⟨_, rfl, m, sp, L, s, rfl, O, R, ok, k⟩ := h
    refine ⟨_, (pss_one (ps_ret (pe_tup (pa_cons (e_meth0 (pe_f (pv 0) hC.cl hC.n_state) T.cl_State (ok_State_is_zero T) hr) (pa_cons (e_meth0 (pe_f (pv 0) hC.cl hC.n_state) T.cl_State (ok_State_is_carry T) hr) pa_nil))))), ?_⟩
    rw [show start N_Plain_flags [V.ref m] = [some (V.ref m)] from rfl]; try simp only [cxK, cxW]
    fail "S"
    refine g_mstate O ?_
    fail "S"
    refine g_mstate O ?_
    fail "S"
    exact k _ (by assumption)
end

/-! part P14plain -/
theorem map_at {cs : List Int} {i : Nat} {y : V} (h : (cs.map V.int)[i]? = some y) : ∃ c, y = .int c ∧ cs[i]? = some c := by
  rw [List.getElem?_map] at h
  cases e : cs[i]? with
  | none => rw [e] at h; cases h
  | some c => rw [e] at h; exact ⟨c, by injection h with h; exact h.symm, rfl⟩
theorem at_mem {α : Type} {cs : List α} {i : Nat} {c : α} (h : cs[i]? = some c) : c ∈ cs := List.mem_of_getElem? h
def rNeed (K : PySem.W.Frag) (a b : V) (H : Hp) (Q : VK) : Prop := ∃ (l : Addr) (cs : List Int) (i : Int), a = .ref l ∧ b = .int i ∧ SqL K H l (cs.map V.int) ∧ cs.length ≤ 128 ∧ (∀ c ∈ cs, 0 ≤ c ∧ c ≤ 9999) ∧ 0 ≤ i ∧ i < 64 ∧ ∀ H', Same H H' → Q .non H'
def rPInit (K : PySem.W.Frag) (C : Addr) (a b c : V) (H : Hp) (Q : VK) : Prop := ∃ (m dx l : Addr) (cs : List Int) (i : Int), a = .ref m ∧ b = .ref l ∧ c = .int i ∧ H m = some (.ins C dx []) ∧ SqL K H l (cs.map V.int) ∧ cs.length ≤ 128 ∧ (∀ c ∈ cs, 0 ≤ c ∧ c ≤ 9999) ∧ 0 ≤ i ∧ i < 64 ∧
  ∀ H' sp L, H' m = some (.ins C dx [("state", .ref sp), ("asked", .int 0)]) → StAt K H' sp L (initS cs i) → H sp = none → LayNew H L → KeepP m H H' → Q .non H'
def rPAdv (K : PySem.W.Frag) (a : V) (H : Hp) (Q : VK) : Prop := ∃ (m sp : Addr) (L : Lay) (s : S), a = .ref m ∧ ObV H (cP K) m sp ∧ StAt K H sp L s ∧ s.Ok ∧ s.said.length ≤ 1000 ∧ ∀ H', StAt K H' sp L (stepS s) → FrS L sp H H' → Q .non H'
section
variable {P : Program} {w : World} {K : PySem.W.Frag} {mg : Str → Option Value} {base : Heap}
theorem ok_need_guest (T : Txt w K mg) : GDef P w K mg base "need_guest" 1 [] (sp2 (rNeed K)) := by
  obtain ⟨f, fd, F, M⟩ := T.d_need_guest
  refine ⟨f, fd, _, _, F.ok sc_need_guest (fun vs H Q E h => ?_) (fun cdv A outer s0 H vs Q E hr h => ?_), M, F.kp, F.bindsN fun _ _ _ _ _ _ us hl => match us, hl with | [_, _], _ => rfl, .nil⟩
  · obtain ⟨_, _, rfl, _⟩ := h
    rfl
  · obtain ⟨_, _, rfl, l, cs, i, rfl, rfl, hl, hlen, hc, i0, i1, k⟩ := h
    refine ⟨_, (pss_cons (ps_for (passes_of rfl) rfl (pi_enum (by rfl) T.f_enumerate (pa_cons (pv 0) pa_nil)) (pg_tup rfl (pgs_cons (pg_name (i := 2) sc_need_guest.nd rfl (by first | exact .inl rfl | exact .inr rfl)) (pgs_cons (pg_name (i := 3) sc_need_guest.nd rfl (by first | exact .inl rfl | exact .inr rfl)) pgs_nil)))
 (pss_one (ps_if (PW.pt (pw_or (pt_cmpR op_ge (pv 2) (pe_gv T.v_CELLS) (nomark _)) (pw_or1 (pt_not (pt_chain op_le op_le pe_int (pv 3) (pe_gv T.v_MOST))))))
 (pss_one ps_never)
 pss_nil)))
 (pss_one (ps_if (pt_not (pt_chain op_le op_lt pe_int (pv 1) (pe_gv T.v_PLACES)))
 (pss_one ps_never)
 pss_nil))), ?_⟩
    rw [show start N_need_guest [V.ref l, V.int i] = [some (V.ref l), some (V.int i), none, none] from rfl]; try simp only [cxK, cxW]
    fail "S"
    refine w_forJ walk_enum (fun _ σ H' => (∃ a b, σ = [some (.ref l), some (.int i), a, b]) ∧ Same H H') ⟨⟨_, _, rfl⟩, Same.refl _⟩ (fun _ _ _ _ q => SqL.same q.2 hl) ?_ ?_
    · rintro j x σ H1 H' hj ⟨⟨a, b, rfl⟩, hs⟩ ⟨t, y, z, rfl, ht, rfl, hy, hz⟩
      injection hy with hy
      subst hy
      obtain ⟨c, rfl, e⟩ := map_at hz
      have hcc := hc _ (at_mem e)
      have hj : j < 128 := by rw [List.length_map] at hj; omega
      fail "S"
      exact ⟨⟨_, _, rfl⟩, by fail "sm"⟩
    · rintro σ H' ⟨⟨a, b, rfl⟩, hs⟩
      fail "S"
      exact k _ hs
theorem fn_Plain_init (T : Txt w K mg) {C : Addr} (hC : MC0 K C) {f : Addr} {fd : FuncData} (F : FunD K "__init__" "Plain.__init__" (defArgs s_Plain_init) (defBody s_Plain_init) (defScope s_Plain_init) [] [("begin", .int 0)] f fd) : FnOk P w K mg base CX0 5 f fd ["self", "cells", "begin"] (sp3 (rPInit K C)) := by
  refine F.ok sc_Plain_init (fun vs H Q E h => ?_) (fun cdv A outer s0 H vs Q E hr h => ?_)
  · obtain ⟨_, _, _, rfl, _⟩ := h
    rfl
  · obtain ⟨_, _, _, rfl, m, dx, l, cs, i, rfl, rfl, rfl, hm, hl, hlen, hc, i0, i1, k⟩ := h
    refine ⟨_, (pss_cons (ps_expr (e_call (ok_need_guest T) hr (pa_cons (pv 1) (pa_cons (pv 2) pa_nil))))
 (pss_cons (ps_f (pv 0) (e_make (mk_State T) hr (pa_cons (pv 1) (pa_cons (pv 2) pa_nil))) hC.cl hC.n_state)
 (pss_one (ps_f (pv 0) pe_int hC.cl hC.n_asked)))), ?_⟩
    rw [show start N_Plain_init [V.ref m, V.ref l, V.int i] = [some (V.ref m), some (V.ref l), some (V.int i)] from rfl]; try simp only [cxK, cxW]
    fail "S"
    refine ⟨l, cs, i, rfl, rfl, hl, hlen, hc, i0, i1, fun H1 S1 => ?_⟩
    fail "S"
    intro p pd hp hpd hne
    have hm1 : H1 m = some (.ins C dx []) := S1 _ _ hm
    refine ⟨_, _, _, rfl, p, pd, l, cs, i, rfl, rfl, rfl, upd_same, SqL.new (by rw [upd_ne hne.symm]; exact hp) (SqL.new hpd (SqL.same S1 hl)), hlen, fun H2 L R2 N2 K2 => ⟨rfl, ?_⟩⟩
    have hp' : upd H1 pd (.own p) p = none := by rw [upd_ne hne.symm]; exact hp
    have hm2 : H2 m = some (.ins C dx []) := K2 _ _ (look_new hp' (look_new hpd hm1)) (ne_of_none hm1 hp)
    fail "S"
    rename_i H3 a1 a2 H4 b1 b2
    refine k H4 p L b1 ((R2.kp a2 hm2 rfl).kp b2 a1 rfl) (fresh_same S1 hp) ⟨?_, ?_, ?_, ?_⟩ fun b o hb hbm => b2 _ _ (a2 _ _ (K2 _ _ (look_new hp' (look_new hpd (S1 _ _ hb))) (ne_of_none (S1 _ _ hb) hp)) hbm) hbm
    · exact fresh_same S1 (fresh_new (fresh_new N2.st))
    · exact fresh_same S1 (fresh_new (fresh_new N2.mp))
    · exact fresh_same S1 (fresh_new (fresh_new N2.hd))
    · exact fresh_same S1 (fresh_new (fresh_new N2.td))
theorem mk_Plain (T : Txt w K mg) : CDef P w K mg base "Plain" (cP K) 5 [.int 0] (sp3 (rPInit K (cP K))) := by
  obtain ⟨f, fd, F, M, g⟩ := T.d_Plain_init
  obtain ⟨ds, hv, hb⟩ := F.binds0 (ps := ["self", "cells", "begin"]) 2 (List.cons_ne_nil _ _) rfl (fun D doc pm an cdv ct us ks hu hk => match us, ks, hu, hk with | [_, _], [_], _, _ => ⟨_, _, _, _, _, _, rfl, rfl, rfl⟩)
  exact ⟨f, fd, _, _, fn_Plain_init T ⟨.inl rfl, T.cl_Plain, T.n_Plain_state, T.n_Plain_asked⟩ F, M, g, hb, hv⟩
theorem ok_Plain_advance (T : Txt w K mg) : MDef P w K mg base (cP K) "advance" 8 [] (sp1 (rPAdv K)) := by
  obtain ⟨f, fd, F, M⟩ := T.d_Plain_advance
  refine ⟨f, fd, _, _, F.ok sc_Plain_advance (fun vs H Q E h => ?_) (fun cdv A outer s0 H vs Q E hr h => ?_), M, F.bindsN fun _ _ _ _ _ _ us hl => match us, hl with | [_], _ => rfl, .nil⟩
  · obtain ⟨_, rfl, _⟩ := h
    rfl
  · obtain ⟨_, rfl, m, sp, L, s, rfl, O, R, ok, hs, k⟩ := h
    refine ⟨_, (pss_one (ps_expr (e_call (ok_done_alone T) hr (pa_cons (pe_f (pv 0) T.cl_Plain T.n_Plain_state) pa_nil)))), ?_⟩
    rw [show start N_Plain_advance [V.ref m] = [some (V.ref m)] from rfl]; try simp only [cxK, cxW]
    fail "S"
    refine g_mstate O ?_
    fail "S"
    refine w_rAlone R ok hs fun H1 v R1 F1 hv => ?_
    fail "S"
    exact k _ R1 F1
end

/-! part P15go -/
/-- what is not owned stays, and stays not owned -/
def FrM (F : Addr → Prop) (H H' : Hp) (F' : Addr → Prop) : Prop := ∀ b o, H b = some o → ¬ F b → H' b = some o ∧ ¬ F' b
theorem FrM.trans {F F1 F2 : Addr → Prop} {H H1 H2 : Hp} (a : FrM F H H1 F1) (b : FrM F1 H1 H2 F2) : FrM F H H2 F2 := fun x o h n => let ⟨h1, n1⟩ := a x o h n; b x o h1 n1
theorem FrM.same {F : Addr → Prop} {H H1 : Hp} (a : Same H H1) : FrM F H H1 F := fun x o h n => ⟨a x o h, n⟩
theorem noM {fs : List (Str × V)} (h : (mNames.all fun x => (fs.lookup x).isNone) = true) : ∀ x ∈ mNames, fs.lookup x = none := fun x hx => by
  have := List.all_eq_true.mp h x hx
  cases e : fs.lookup x with
  | none => rfl
  | some v => rw [e] at this; cases this
def goS (s : S) : S := if s.why = "" then stepS s else s
def rMAdv (I : Hp → Addr → S → (Addr → Prop) → Nat → Prop) (a : V) (H : Hp) (Q : VK) : Prop := ∃ m s F n, a = .ref m ∧ I H m s F n ∧ n + 1 ≤ 1000 ∧ ∀ H' F', I H' m (stepS s) F' (n + 1) → FrM F H H' F' → Q .non H'
def rMGo (I : Hp → Addr → S → (Addr → Prop) → Nat → Prop) (a b : V) (H : Hp) (Q : VK) : Prop := ∃ m s F n i, a = .ref m ∧ b = .int i ∧ I H m s F n ∧ n + 1 ≤ 1000 ∧ 0 ≤ i ∧ i ≤ 999 ∧ (i = 1 ∨ s.why ≠ "") ∧ ∀ H' F', I H' m (goS s) F' (n + 1) → FrM F H H' F' → Q (.int ((goS s).many - s.many)) H'
structure MI (P : Program) (w : World) (K : PySem.W.Frag) (mg : Str → Option Value) (base : Heap) (C : Addr) (I : Hp → Addr → S → (Addr → Prop) → Nat → Prop) : Prop where
  view : ∀ {H m s F n}, I H m s F n → ∃ sp L, ObV H C m sp ∧ StAt K H sp L s
  ok : ∀ {H m s F n}, I H m s F n → s.Ok ∧ s.said.length ≤ n
  own : ∀ {H m s F n}, I H m s F n → F m
  le : ∀ {H m s F n n'}, I H m s F n → n ≤ n' → I H m s F n'
  asked : ∀ {H m s F n dx fs k}, I H m s F n → H m = some (.ins C dx fs) → I (upd H m (.ins C dx (putF "asked" (.int k) fs))) m s F n
  same : ∀ {H H' m s F n}, Same H H' → I H m s F n → I H' m s F n
  adv : MDef P w K mg base C "advance" 8 [] (sp1 (rMAdv I))
section
variable {P : Program} {w : World} {K : PySem.W.Frag} {mg : Str → Option Value} {base : Heap} {C : Addr} {I : Hp → Addr → S → (Addr → Prop) → Nat → Prop}
theorem w_kAsk (M : MI P w K mg base C I) {H : Hp} {m : Addr} {s : S} {F : Addr → Prop} {n : Nat} {σ : St'} {N : Hp → Prop} (h : I H m s F n) (q : ∀ H', I H' m s F n → FrM F H H' F → N H') : kAug C "asked" (tC (.int 1)) rAdd σ N (.ref m) H := by
  obtain ⟨sp, L, O, R⟩ := M.view h
  obtain ⟨dx, fs, k, ho, h1, h2, h3, h4⟩ := O.ex
  exact w_kAug ho h2 (Nat.lt_of_le_of_lt h3 (by decide)) (fun _ q => q) (q _ (M.asked h ho) fun b o hb hn => ⟨by rw [upd_ne (fun e => hn (by rw [e]; exact M.own h))]; exact hb, hn⟩)
theorem ok_go (T : Txt w K mg) (hC : MC0 K C) (M : MI P w K mg base C I) {f : Addr} {fd : FuncData} (F : FunD K "go" "Plain.go" (defArgs s_Plain_go) (defBody s_Plain_go) (defScope s_Plain_go) [.int 1] [] f fd) : FnOk P w K mg base CX0 9 f fd ["self", "count"] (sp2 (rMGo I)) := by
  refine F.ok sc_Plain_go (fun vs H Q E h => ?_) (fun cdv A outer s0 H vs Q E hr h => ?_)
  · obtain ⟨_, _, rfl, _⟩ := h
    rfl
  · obtain ⟨_, _, rfl, m, s, F, n, i, rfl, rfl, hI, hn, i0, i1, hi, k⟩ := h
    have adv := M.adv
    refine ⟨_, (pss_cons (ps_tryFin (pss_one (ps_if (pt_not (pt_chain op_le op_le pe_int (pv 1) (pe_gv T.v_MOST_COUNT)))
 (pss_one ps_never)
 pss_nil)) (pss_one (ps_fa (pv 0) pe_int in_add hC.cl hC.n_asked)))
 (pss_cons (ps_set (i := 2) sc_Plain_go.nd rfl (by first | exact .inl rfl | exact .inr rfl) (pe_f (pe_f (pv 0) hC.cl hC.n_state) T.cl_State T.n_State_many))
 (pss_cons (ps_while (passes_of rfl) (PW.pt (pw_and (pt_cmpR op_lt (pe_f (pe_f (pv 0) hC.cl hC.n_state) T.cl_State T.n_State_many) (pe_op op_add (pv 2) (pv 1)) (nomark _)) (pw_and1 (pt_cmpR op_eq (pe_f (pe_f (pv 0) hC.cl hC.n_state) T.cl_State T.n_State_end) pe_str (nomark _)))))
 (pss_one (ps_expr (e_meth0 (pv 0) hC.cl adv hr))))
 (pss_one (ps_ret (pe_op op_sub (pe_f (pe_f (pv 0) hC.cl hC.n_state) T.cl_State T.n_State_many) (pv 2))))))), ?_⟩
    rw [show start N_Plain_go [V.ref m, V.int i] = [some (V.ref m), some (V.int i), none] from rfl]; try simp only [cxK, cxW]
    fail "S"
    refine w_kAsk M hI fun H1 hI1 F1 => ?_
    obtain ⟨sp, L, O1, R1⟩ := M.view hI1
    fail "S"
    refine g_mstate O1 ?_
    fail "S"
    refine w_wh (fun j σ H' => σ = [some (.ref m), some (.int i), some (.int s.many)] ∧ ((j = 1 ∧ I H' m s F n ∧ FrM F H H' F) ∨ (j = 0 ∧ s.why = "" ∧ i = 1 ∧ ∃ F', I H' m (stepS s) F' (n + 1) ∧ FrM F H H' F'))) 1 ⟨rfl, .inl ⟨rfl, hI1, F1⟩⟩ ?_
    rintro j σ H2 ⟨rfl, ⟨rfl, hI2, F2⟩ | ⟨rfl, hw, rfl, F', hI2, F2⟩⟩
    · obtain ⟨sp2, L2, O2, R2⟩ := M.view hI2
      fail "S"
      refine g_mstate O2 ?_
      fail "S"
      have fin : s.why ≠ "" → Q (.int (s.many - s.many)) H2 := fun hw => by
        have e : goS s = s := by unfold goS; rw [if_neg hw]
        have := k H2 F (by rw [e]; exact M.le hI2 (Nat.le_succ _)) F2
        rw [e] at this
        exact this
      by_cases h0 : s.many < s.many + i
      · fail "S"
        refine g_mstate O2 ?_
        fail "S"
        by_cases hw : s.why = ""
        · fail "S"
          have hi1 : i = 1 := by rcases hi with e | e; exact e; exact absurd hw e
          refine g_mM O2 (by unfold mNames; simp) ?_
          fail "S"
          refine ⟨m, s, F, n, rfl, hI2, hn, fun H3 F3 hI3 hF3 => ?_⟩
          exact ⟨0, by decide, rfl, .inr ⟨rfl, hw, hi1, F3, hI3, F2.trans hF3⟩⟩
        · fail "S"
          refine g_mstate O2 ?_
          fail "S"
          exact fin hw
      · fail "S"
        refine g_mstate O2 ?_
        fail "S"
        exact fin (by rcases hi with e | e; exact absurd (by omega) h0; exact e)
    · obtain ⟨sp2, L2, O2, R2⟩ := M.view hI2
      fail "S"
      refine g_mstate O2 ?_
      fail "S"
      have e : goS s = stepS s := by unfold goS; rw [if_pos hw]
      rcases stepS_many s with hm | ⟨hm, _, hy⟩
      · fail "S"
        refine g_mstate O2 ?_
        fail "S"
        have := k H2 F' (by rw [e]; exact hI2) F2
        rw [e] at this
        exact this
      · fail "S"
        refine g_mstate O2 ?_
        fail "S"
        refine g_mstate O2 ?_
        fail "S"
        have := k H2 F' (by rw [e]; exact hI2) F2
        rw [e] at this
        exact this
theorem go0 (T : Txt w K mg) (hC : MC0 K C) (M : MI P w K mg base C I) : MDef P w K mg base C "go" 9 [] (sp2 (rMGo I)) := by
  obtain ⟨f, fd, F, M1, M2⟩ := T.d_Plain_go
  have Me : Meth K C "go" f := by rcases hC.or with e | e <;> rw [e] <;> assumption
  obtain ⟨ds, hv, hb⟩ := F.binds1 (ps := ["self", "count"]) 2 1 (List.cons_ne_nil _ _) rfl (fun T kV doc pm an cdv ct us its hu hi => match us, its, hu, hi with | [_, _], [_], _, _ => ⟨_, rfl, rfl⟩)
  exact ⟨f, fd, _, _, ok_go T hC M F, Me, hb, hv⟩
theorem go1 (T : Txt w K mg) (hC : MC0 K C) (M : MI P w K mg base C I) : MDef P w K mg base C "go" 9 [.int 1] (sp2 (rMGo I)) := by
  obtain ⟨f, fd, F, M1, M2⟩ := T.d_Plain_go
  have Me : Meth K C "go" f := by rcases hC.or with e | e <;> rw [e] <;> assumption
  obtain ⟨ds, hv, hb⟩ := F.binds1 (ps := ["self", "count"]) 1 0 (List.cons_ne_nil _ _) rfl (fun T kV doc pm an cdv ct us its hu hi => match us, its, hu, hi with | [_], [_], _, _ => ⟨_, rfl, rfl⟩)
  exact ⟨f, fd, _, _, ok_go T hC M F, Me, hb, hv⟩
/-! ### Plain -/
def PlainI (K : PySem.W.Frag) (H : Hp) (m : Addr) (s : S) (F : Addr → Prop) (n : Nat) : Prop :=
  ∃ dx sp L k, H m = some (.ins (cP K) dx [("state", .ref sp), ("asked", .int k)]) ∧ StAt K H sp L s ∧ s.Ok ∧ s.said.length ≤ n ∧ F = fun b => b = m ∨ L.In sp b
theorem plainI_view {H : Hp} {m : Addr} {s : S} {F : Addr → Prop} {n : Nat} (h : PlainI K H m s F n) : ∃ sp L, ObV H (cP K) m sp ∧ StAt K H sp L s := by
  obtain ⟨dx, sp, L, k, ho, R, _⟩ := h
  exact ⟨sp, L, ⟨dx, _, k, ho, rfl, rfl, Nat.le_of_ble_eq_true rfl, noM rfl⟩, R⟩
theorem mi_plain (T : Txt w K mg) : MI P w K mg base (cP K) (PlainI K) where
  view := plainI_view
  ok := fun ⟨_, _, _, _, _, _, ok, hn, _⟩ => ⟨ok, hn⟩
  own := fun ⟨_, _, _, _, _, _, _, _, e⟩ => by rw [e]; exact .inl rfl
  le := fun ⟨dx, sp, L, k, a, b, c, d, e⟩ hl => ⟨dx, sp, L, k, a, b, c, Nat.le_trans d hl, e⟩
  asked := fun {H m s F n dx fs k} ⟨dx', sp, L, k', a, b, c, d, e⟩ ho => by
    rw [a] at ho
    injection ho with ho
    injection ho with _ e1 e2
    subst e1
    subst e2
    exact ⟨dx', sp, L, k, upd_same, b.kp (fun x o hx ne => by rw [upd_ne ne]; exact hx) a rfl, c, d, e⟩
  same := fun hs ⟨dx, sp, L, k, a, b, c, d, e⟩ => ⟨dx, sp, L, k, hs _ _ a, b.same hs, c, d, e⟩
  adv := by
    obtain ⟨f, fd, ps, ds, F, Me, hb, hv⟩ := (ok_Plain_advance (P := P) (base := base) T).ex
    refine ⟨f, fd, ps, ds, F.imp (fun vs H Q E => ?_), Me, hb, hv⟩
    rintro ⟨_, rfl, m, s, F, n, rfl, hI, hn, k⟩
    obtain ⟨dx, sp, L, k', a, b, c, d, e⟩ := id hI
    refine ⟨_, rfl, m, sp, L, s, rfl, ⟨dx, _, k', a, rfl, rfl, Nat.le_of_ble_eq_true rfl, noM rfl⟩, b, c, Nat.le_trans d (Nat.le_of_succ_le hn), fun H' R' F' => k H' F ⟨dx, sp, L, k', F' _ _ a (b.notOb a rfl), R', stepS_ok c, Nat.le_trans (stepS_said c) (Nat.succ_le_succ d), e⟩ fun x o hx hf => ⟨F' _ _ hx (fun z => hf (by rw [e]; exact .inr z)), hf⟩⟩
end

/-! part P16bv -/
/-! ### a block as the code has it -/
structure BlkV (c : List Int) (pg : List (Option (Int × Bool))) (st : Int) (rows : List (Int × Row × Int)) (spots : List Int) : Prop where
  hd : ∃ r b rest, rows = (st, r, b) :: rest
  sp : ∃ c0 rest, spots = c0 :: rest ∧ spotOf pg st = some c0
  rd : ∀ x ∈ rows, readRow c pg x.1 = .row x.2.1 x.2.2
  in_ : ∀ x ∈ rows, ∀ q, x.1 ≤ q → q < x.2.2 → q / 16 = st / 16 ∧ ∃ k ∈ spots, spotOf pg q = some k
  nx : ∀ i x y, rows[i]? = some x → rows[i + 1]? = some y → y.1 = x.2.2 ∧ x.2.1.w.ends = false
  ok : ∀ x ∈ rows, x.2.1.Ok ∧ 0 ≤ x.1 ∧ x.1 < 64 ∧ 0 < x.2.2 ∧ x.2.2 ≤ 65
  le : rows.length ≤ 8
  s0 : ∀ k ∈ spots, 0 ≤ k ∧ k < 128
theorem readRow_keep {c c' : List Int} {pg pg' : List (Option (Int × Bool))} {p b : Int} {r : Row} (e : readRow c pg p = .row r b) (hp : ∀ q, p ≤ q → q < b → spotOf pg' q = spotOf pg q) (hc : ∀ q k, p ≤ q → q < b → spotOf pg q = some k → gi c' k = gi c k) : readRow c' pg' p = .row r b := by
  unfold readRow at e ⊢
  cases e1 : spotOf pg p with
  | none => rw [e1] at e; cases e
  | some k =>
    rw [e1] at e
    dsimp only at e
    cases e2 : headOf (gi c k) with
    | none => rw [e2] at e; cases e
    | some h =>
      rw [e2] at e
      dsimp only at e
      cases e3 : h.w.long with
      | false =>
        rw [e3] at e
        simp only [Bool.false_eq_true, if_false] at e
        injection e with er eb
        rw [hp p (Int.le_refl _) (by omega), e1]
        dsimp only
        rw [hc p k (Int.le_refl _) (by omega) e1, e2]
        dsimp only
        rw [e3]
        simp only [Bool.false_eq_true, if_false]
        rw [er, eb]
      | true =>
        rw [e3] at e
        simp only [if_true] at e
        cases e4 : spotOf pg (p + 1) with
        | none => rw [e4] at e; cases e
        | some f =>
          rw [e4] at e
          dsimp only at e
          injection e with er eb
          rw [hp p (Int.le_refl _) (by omega), e1]
          dsimp only
          rw [hc p k (Int.le_refl _) (by omega) e1, e2]
          dsimp only
          rw [e3]
          simp only [if_true]
          rw [hp (p + 1) (by omega) (by omega), e4]
          dsimp only
          rw [hc (p + 1) f (by omega) (by omega) e4, er, eb]
theorem readRow_lt {c : List Int} {pg : List (Option (Int × Bool))} {p b : Int} {r : Row} (e : readRow c pg p = .row r b) : p < b := by
  unfold readRow at e
  split at e
  · cases e
  · split at e
    · cases e
    · split at e
      · split at e
        · cases e
        · injection e with _ e; omega
      · injection e with _ e; omega
theorem BlkV.keep {c c' : List Int} {pg pg' : List (Option (Int × Bool))} {st : Int} {rows : List (Int × Row × Int)} {spots : List Int} (h : BlkV c pg st rows spots) (hp : ∀ q, q / 16 = st / 16 → spotOf pg' q = spotOf pg q) (hc : ∀ k ∈ spots, gi c' k = gi c k) : BlkV c' pg' st rows spots := by
  obtain ⟨hd, ⟨c0, rest, e0, e1⟩, rd, hin, nx, ok, le, s0⟩ := h
  refine ⟨hd, ⟨c0, rest, e0, by rw [hp st rfl]; exact e1⟩, fun x hx => ?_, fun x hx q h1 h2 => ?_, nx, ok, le, s0⟩
  · refine readRow_keep (rd x hx) (fun q h1 h2 => hp q (hin x hx q h1 h2).1) fun q k h1 h2 e => ?_
    obtain ⟨_, k', hk, e'⟩ := hin x hx q h1 h2
    rw [e] at e'
    injection e' with e'
    rw [e']
    exact hc k' hk
  · obtain ⟨a, k, hk, e⟩ := hin x hx q h1 h2
    exact ⟨a, k, hk, by rw [hp q a]; exact e⟩
theorem spotOf_set {pg : List (Option (Int × Bool))} {x q : Int} {v : Option (Int × Bool)} (x0 : 0 ≤ x) (hx : x ≠ q / 16) : spotOf (pg.set x.toNat v) q = spotOf pg q := by
  unfold spotOf
  by_cases h : 0 ≤ q ∧ q < 64
  · rw [if_pos h, if_pos h]
    have : pgOf (pg.set x.toNat v) (q / 16) = pgOf pg (q / 16) := by
      unfold pgOf
      rw [List.getD_eq_getElem?_getD, List.getD_eq_getElem?_getD, List.getElem?_set_ne (by omega)]
    rw [this]
  · rw [if_neg h, if_neg h]
theorem pgOf_set {pg : List (Option (Int × Bool))} {x : Int} {v : Option (Int × Bool)} (x0 : 0 ≤ x) (hx : x < pg.length) : pgOf (pg.set x.toNat v) x = v := by
  unfold pgOf
  rw [List.getD_eq_getElem?_getD, List.getElem?_set_self (by omega)]
  rfl
theorem spotPg {pg : List (Option (Int × Bool))} {q k : Int} (e : spotOf pg q = some k) : ∃ f o, pgOf pg (q / 16) = some (f, o) ∧ k = f * 16 + q % 16 ∧ 0 ≤ q ∧ q < 64 := by
  unfold spotOf at e
  by_cases h : 0 ≤ q ∧ q < 64
  · rw [if_pos h] at e
    cases e1 : pgOf pg (q / 16) with
    | none => rw [e1] at e; cases e
    | some fo =>
      rw [e1] at e
      injection e with e
      exact ⟨fo.1, fo.2, rfl, e.symm, h⟩
  · rw [if_neg h] at e; cases e
/-- a page laid anew by the frame on which the block's cells lie -/
theorem BlkV.relay {c : List Int} {pg : List (Option (Int × Bool))} {st x : Int} {rows : List (Int × Row × Int)} {spots : List Int} {v : Option (Int × Bool)} (h : BlkV c pg st rows spots) (x0 : 0 ≤ x) (x1 : x < pg.length)
    (hk : st / 16 = x → ∃ f o k rest, v = some (f, o) ∧ spots = k :: rest ∧ k / 16 = f) : BlkV c (pg.set x.toNat v) st rows spots := by
  refine h.keep (fun q hq => ?_) fun _ _ => rfl
  by_cases e : st / 16 = x
  · obtain ⟨f, o, k, rest, rfl, e1, e2⟩ := hk e
    obtain ⟨c0, rest', e3, e4⟩ := h.sp
    rw [e1] at e3
    injection e3 with e3 _
    subst e3
    obtain ⟨f', o', e5, e6, _, _⟩ := spotPg e4
    have hf : f' = f := by omega
    subst hf
    have hq' : q / 16 = x := by omega
    rw [e] at e5
    unfold spotOf
    rw [hq', e5, pgOf_set x0 x1]
  · exact spotOf_set x0 (by omega)
/-- cells and pages behind a row -/
theorem faultS_cp (s : S) (k : Str) (p : Int) : (faultS s k p).cells = s.cells ∧ (faultS s k p).pages = s.pages := by
  unfold faultS
  cases s.post <;> exact ⟨rfl, rfl⟩
theorem doS_cp {s : S} (ok : s.Ok) {r : Row} (p b : Int) :
    (wroteV s r = .non ∧ (doS s r p b).cells = s.cells ∧ (doS s r p b).pages = s.pages) ∨
    (∃ k v, 0 ≤ k ∧ wroteV s r = .int k ∧ r.w.maps = false ∧ (doS s r p b).cells = s.cells.set k.toNat v ∧ (doS s r p b).pages = s.pages) ∨
    (wroteV s r = .int (-1) ∧ (doS s r p b).cells = s.cells ∧ ((r.w.maps = false ∧ (doS s r p b).pages = s.pages) ∨ (r.w.maps = true ∧ ∃ v, (doS s r p b).pages = s.pages.set r.x.toNat v))) := by
  cases e : doFault s r with
  | some k =>
    have e1 : doS s r p b = faultS s k p := by unfold doS; rw [e]
    rw [e1]
    exact .inl ⟨by unfold wroteV; rw [e], faultS_cp s k p⟩
  | none =>
    have e1 : doS s r p b = doneS s r p b := by unfold doS; rw [e]
    rw [e1]
    have ch : effS s r b = changeS s r b → wroteV s r = .int (-1) → (wroteV s r = .int (-1) ∧ (doneS s r p b).cells = s.cells ∧ ((r.w.maps = false ∧ (doneS s r p b).pages = s.pages) ∨ (r.w.maps = true ∧ ∃ v, (doneS s r p b).pages = s.pages.set r.x.toNat v))) := fun e2 e3 => by
      refine ⟨e3, ?_⟩
      show (effS s r b).cells = s.cells ∧ ((r.w.maps = false ∧ (effS s r b).pages = s.pages) ∨ (r.w.maps = true ∧ ∃ v, (effS s r b).pages = s.pages.set r.x.toNat v))
      rw [e2]
      obtain ⟨w, x, y, n⟩ := r
      cases w <;> first | exact ⟨rfl, .inl ⟨rfl, rfl⟩⟩ | exact ⟨rfl, .inr ⟨rfl, _, rfl⟩⟩
    cases er : reachOf s r with
    | none => exact .inr (.inr (ch (by unfold effS; rw [er]) (by unfold wroteV; rw [e]; dsimp only; rw [er])))
    | lacks => exact .inr (.inr (ch (by unfold effS; rw [er]) (by unfold wroteV; rw [e]; dsimp only; rw [er])))
    | at_ k wr pg =>
      have hmap : r.w.maps = false := by
        unfold reachOf goalPl at er
        cases hw : r.w <;> rw [hw] at er <;> first | rfl | (simp [W20.byN, W20.byR] at er)
      cases wr with
      | true => exact .inr (.inl ⟨k, _, (reach_spot ok er).1, by unfold wroteV; rw [e]; dsimp only; rw [er], hmap, by show (effS s r b).cells = _; unfold effS; rw [er], by show (effS s r b).pages = _; unfold effS; rw [er]⟩)
      | false => exact .inr (.inr ⟨by unfold wroteV; rw [e]; dsimp only; rw [er], by show (effS s r b).cells = _; unfold effS; rw [er], .inl ⟨hmap, by show (effS s r b).pages = _; unfold effS; rw [er]⟩⟩)
theorem gi_set_ne {cs : List Int} {i j v : Int} (i0 : 0 ≤ i) (j0 : 0 ≤ j) (h : i ≠ j) : gi (cs.set i.toNat v) j = gi cs j := by
  unfold gi
  rw [List.getD_eq_getElem?_getD, List.getD_eq_getElem?_getD, List.getElem?_set_ne (by omega)]
/-- a row within a block goes on to the next -/
theorem doS_next {s : S} {r : Row} {p b : Int} (he : r.w.ends = false) (hf : doFault s r = none) : (doS s r p b).place = b ∧ (doS s r p b).why = s.why := by
  unfold doS
  rw [hf]
  have hr : (effS s r b).why = s.why := by
    unfold effS
    split <;> try rfl
    obtain ⟨w, x, y, n⟩ := r
    cases w <;> first | rfl | cases he
  refine ⟨?_, hr⟩
  show (if r.w = .stop then p else goalOf s r b) = b
  obtain ⟨w, x, y, n⟩ := r
  cases w <;> first | rfl | cases he
theorem wrote_fault {s : S} {r : Row} : wroteV s r = .non ↔ doFault s r ≠ none := by
  unfold wroteV
  cases e : doFault s r with
  | some k => simp
  | none => 
    dsimp only
    split <;> simp

/-! part P17th -/
/-! ### the turning machine on the heap -/
structure Blk where
  a : Addr
  dx : Addr
  ra : Addr
  sa : Addr
  ca : Addr
  start : Int
  rows : List (Int × Row × Int)
  spots : List Int
  last : Int
  chains : List (Int × Addr)
def bF (b : Blk) (g : Int) : List (Str × V) := [("start", .int b.start), ("rows", .ref b.ra), ("spots", .ref b.sa), ("chains", .ref b.ca), ("begun", .int g), ("last", .int b.last)]
def RowV (H : Hp) (x : Int × Row × Int) (v : V) : Prop := ∃ t q, v = .ref t ∧ H t = some (.tup [.int x.1, .ref q, .int x.2.2]) ∧ H q = some (.tup x.2.1.vs)
def chD (cs : List (Int × Addr)) : List (Key × V) := cs.map fun x => (.inl x.1, .ref x.2)
structure BlkAt (K : PySem.W.Frag) (H : Hp) (b : Blk) : Prop where
  ob : ∃ g, H b.a = some (.ins (cB K) b.dx (bF b g))
  rw : ∃ rv, H b.ra = some (.lst rv) ∧ Paired (RowV H) b.rows rv
  sp : H b.sa = some (.lst (b.spots.map V.int))
  ch : H b.ca = some (.dK (chD b.chains))
structure TD where
  m : Addr
  sp : Addr
  ta : Addr
  L : Lay
  now : Option Addr
  come : Option Addr
  at_ : Int
  bs : List Blk
structure TP where
  s : S
  c : List Int
  pg : List (Option (Int × Bool))
  n : Nat
  T : Nat → Int → Addr → Prop
  W : Addr → Prop
  fz : Option Obj
structure TK where
  asked : Int
  clock : Int
  made : Int
  looked : Int
  chained : Int
  thrown : Int
def optR : Option Addr → V
  | none => .non
  | some a => .ref a
def tFl (d : TD) (k : TK) : List (Str × V) := [("state", .ref d.sp), ("asked", .int k.asked), ("long", .int 8), ("room", .int 6), ("table", .ref d.ta), ("now", optR d.now), ("come", optR d.come), ("at", .int d.at_), ("clock", .int k.clock), ("made", .int k.made), ("looked", .int k.looked), ("chained", .int k.chained), ("thrown", .int k.thrown)]
def tbD (bs : List Blk) : List (Key × V) := bs.map fun b => (.inl b.start, .ref b.a)
def tbO (fz : Option Obj) (kvs : List (Key × V)) : HO := match fz with
  | none => .dK kvs
  | some o => .frz o (.dK kvs)
def Apart (x y : Blk) : Prop := x.start ≠ y.start ∧ x.ca ≠ y.ca ∧ x.a ≠ y.a
structure TH (K : PySem.W.Frag) (H : Hp) (d : TD) (π : TP) : Prop where
  ob : ∃ dx k, H d.m = some (.ins (cT K) dx (tFl d k))
  st : StAt K H d.sp d.L π.s
  tb : H d.ta = some (tbO π.fz (tbD d.bs))
  bl : ∀ b ∈ d.bs, BlkAt K H b
  pw : d.bs.Pairwise Apart
  ct : ∀ b ∈ d.bs, b.ca ≠ d.ta
  no : ∀ b ∈ d.bs, ¬ d.L.In d.sp b.ra ∧ ¬ d.L.In d.sp b.sa
  le : d.bs.length ≤ 6
  nw : ∀ a, d.now = some a → (∃ b ∈ d.bs, b.a = a) ∨ π.W a
  cm : ∀ a, d.come = some a → (∃ b ∈ d.bs, b.a = a) ∨ π.W a
  va : ∀ b ∈ d.bs, BlkV π.c π.pg b.start b.rows b.spots
  cv : ∀ j b k a, d.bs[j]? = some b → (k, a) ∈ b.chains → (∃ g ∈ d.bs, g.a = a ∧ g.start = k) ∨ π.T j k a
  cl : ∀ b ∈ d.bs, b.chains.length ≤ π.n
/-! kinds -/
section
variable {K : PySem.W.Frag} {H H' : Hp} {b b2 : Blk} {y C dx : Addr} {fs : List (Str × V)} {kvs : List (Key × V)} {fz : Option Obj} {d : TD} {π : TP}
theorem tbO_cases (fz : Option Obj) (kvs : List (Key × V)) : tbO fz kvs = .dK kvs ∨ ∃ o, tbO fz kvs = .frz o (.dK kvs) := by
  cases fz with
  | none => exact .inl rfl
  | some o => exact .inr ⟨o, rfl⟩
theorem BlkAt.ne_ins (B : BlkAt K H b) (h : H y = some (.ins C dx fs)) : b.ra ≠ y ∧ b.sa ≠ y ∧ b.ca ≠ y := by
  obtain ⟨⟨g, h1⟩, ⟨rv, h2, _⟩, h3, h4⟩ := B
  exact ⟨fun e => (by rw [e, h] at h2; cases h2), fun e => (by rw [e, h] at h3; cases h3), fun e => (by rw [e, h] at h4; cases h4)⟩
theorem BlkAt.ne_dK (B : BlkAt K H b) (h : H y = some (tbO fz kvs)) : b.a ≠ y ∧ b.ra ≠ y ∧ b.sa ≠ y := by
  obtain ⟨⟨g, h1⟩, ⟨rv, h2, _⟩, h3, h4⟩ := B
  cases fz with
  | none => exact ⟨fun e => (by rw [e, h] at h1; cases h1), fun e => (by rw [e, h] at h2; cases h2), fun e => (by rw [e, h] at h3; cases h3)⟩
  | some o => exact ⟨fun e => (by rw [e, h] at h1; cases h1), fun e => (by rw [e, h] at h2; cases h2), fun e => (by rw [e, h] at h3; cases h3)⟩
theorem BlkAt.ne_ob (B : BlkAt K H b) (h : H y = some (.ins C dx fs)) (hf : fs.lookup ("start" : Str) = none) : b.a ≠ y := by
  obtain ⟨⟨g, h1⟩, _⟩ := B
  rintro e
  rw [e, h] at h1
  injection h1 with h1
  injection h1 with _ _ h1
  rw [h1] at hf
  cases hf
theorem BlkAt.mono (B : BlkAt K H b) (h1 : ∀ o, H b.a = some o → H' b.a = some o) (h2 : ∀ o, H b.ra = some o → H' b.ra = some o) (h3 : ∀ o, H b.sa = some o → H' b.sa = some o) (h4 : ∀ o, H b.ca = some o → H' b.ca = some o) (tk : TupKeep H H') : BlkAt K H' b := by
  obtain ⟨⟨g, q1⟩, ⟨rv, q2, q5⟩, q3, q4⟩ := B
  exact ⟨⟨g, h1 _ q1⟩, ⟨rv, h2 _ q2, Paired.mono q5 fun _ _ ⟨t, q, e, a1, a2⟩ => ⟨t, q, e, tk _ _ a1, tk _ _ a2⟩⟩, h3 _ q3, h4 _ q4⟩
theorem BlkAt.same (B : BlkAt K H b) (e : Same H H') : BlkAt K H' b := B.mono (fun _ h => e _ _ h) (fun _ h => e _ _ h) (fun _ h => e _ _ h) (fun _ h => e _ _ h) fun _ _ h => e _ _ h
theorem BlkAt.kp (B : BlkAt K H b) (k : KeepP y H H') (ht : ∀ xs, H y ≠ some (.tup xs)) (ha : b.a ≠ y) (hr : b.ra ≠ y) (hs : b.sa ≠ y) (hc : b.ca ≠ y) : BlkAt K H' b :=
  B.mono (fun _ h => k _ _ h ha) (fun _ h => k _ _ h hr) (fun _ h => k _ _ h hs) (fun _ h => k _ _ h hc) fun x xs h => k _ _ h (by rintro rfl; exact ht xs h)
theorem pw_ne {R : Blk → Blk → Prop} (sy : ∀ x y, R x y → R y x) : ∀ {l : List Blk}, l.Pairwise R → ∀ x ∈ l, ∀ y ∈ l, x = y ∨ R x y
  | [], _, x, hx, _, _ => by cases hx
  | z :: l, h, x, hx, y, hy => by
    obtain ⟨h1, h2⟩ := List.pairwise_cons.mp h
    rcases List.mem_cons.mp hx with rfl | hx'
    · rcases List.mem_cons.mp hy with rfl | hy'
      · exact .inl rfl
      · exact .inr (h1 _ hy')
    · rcases List.mem_cons.mp hy with rfl | hy'
      · exact .inr (sy _ _ (h1 _ hx'))
      · exact pw_ne sy h2 x hx' y hy'
theorem Apart.symm {x y : Blk} (h : Apart x y) : Apart y x := ⟨h.1.symm, h.2.1.symm, h.2.2.symm⟩
theorem TH.apart (R : TH K H d π) {x y : Blk} (hx : x ∈ d.bs) (hy : y ∈ d.bs) : x = y ∨ Apart x y := pw_ne (fun _ _ h => h.symm) R.pw x hx y hy
theorem TH.eq_a (R : TH K H d π) {x y : Blk} (hx : x ∈ d.bs) (hy : y ∈ d.bs) (e : x.a = y.a) : x = y := by rcases R.apart hx hy with h | h; exact h; exact absurd e h.2.2
theorem TH.eq_st (R : TH K H d π) {x y : Blk} (hx : x ∈ d.bs) (hy : y ∈ d.bs) (e : x.start = y.start) : x = y := by rcases R.apart hx hy with h | h; exact h; exact absurd e h.1
theorem TH.m_ta (R : TH K H d π) : d.m ≠ d.ta := by
  obtain ⟨dx, k, h⟩ := R.ob
  have ht := R.tb
  rintro e
  rw [e, ht] at h
  rcases tbO_cases π.fz (tbD d.bs) with z | ⟨o, z⟩ <;> rw [z] at h <;> cases h
theorem TH.nIn_m (R : TH K H d π) : ¬ d.L.In d.sp d.m := by
  obtain ⟨dx, k, h⟩ := R.ob
  exact R.st.notOb h rfl
theorem TH.nIn_a (R : TH K H d π) {b : Blk} (hb : b ∈ d.bs) : ¬ d.L.In d.sp b.a := by
  obtain ⟨⟨g, h⟩, _⟩ := R.bl b hb
  exact R.st.notOb h rfl
theorem StAt.notDK {p : Addr} {L : Lay} {s : S} (h : H y = some (tbO fz kvs)) (R : StAt K H p L s) : ¬ L.In p y := by
  obtain ⟨⟨dx', sm', h1, h2⟩, h3, ⟨mv, h4, h5⟩, h6, h7, _⟩ := R
  rcases tbO_cases fz kvs with z | ⟨o, z⟩ <;> rw [z] at h <;> rintro (e | e | e | e | e) <;> subst e <;> first
    | (rw [h] at h1; cases h1) | (rw [h] at h3; cases h3) | (rw [h] at h4; cases h4) | (rw [h] at h6; cases h6) | (rw [h] at h7; cases h7)
theorem TH.nIn_ta (R : TH K H d π) : ¬ d.L.In d.sp d.ta := R.st.notDK R.tb
theorem TH.nIn_ca (R : TH K H d π) {b : Blk} (hb : b ∈ d.bs) : ¬ d.L.In d.sp b.ca := R.st.notDK (fz := none) (R.bl b hb).ch
theorem TH.m_ne (R : TH K H d π) {b : Blk} (hb : b ∈ d.bs) : b.a ≠ d.m ∧ b.ra ≠ d.m ∧ b.sa ≠ d.m ∧ b.ca ≠ d.m := by
  obtain ⟨dx, k, h⟩ := R.ob
  exact ⟨(R.bl b hb).ne_ob h rfl, (R.bl b hb).ne_ins h⟩
end
/-! ### what a method owns, what it leaves -/
def Own (d : TD) (x : Addr) : Prop := x = d.m ∨ d.L.In d.sp x ∨ x = d.ta ∨ ∃ b ∈ d.bs, x = b.a ∨ x = b.ca
/-- the block at a changed -/
def upB (a : Addr) (f : Blk → Blk) (x : Blk) : Blk := if x.a = a then f x else x
theorem upB_y {a : Addr} {f : Blk → Blk} {x : Blk} (h : x.a = a) : upB a f x = f x := if_pos h
theorem upB_n {a : Addr} {f : Blk → Blk} {x : Blk} (h : ¬ x.a = a) : upB a f x = x := if_neg h
/-- a block's lists are those that were, or new -/
def LW (H : Hp) (bs bs' : List Blk) : Prop := ∀ b' ∈ bs', (∃ b ∈ bs, b.ra = b'.ra ∧ b.sa = b'.sa) ∨ (H b'.ra = none ∧ H b'.sa = none)
theorem LW.refl {H : Hp} {bs : List Blk} : LW H bs bs := fun b hb => .inl ⟨b, hb, rfl, rfl⟩
theorem LW.up {H : Hp} {bs : List Blk} {a : Addr} {f : Blk → Blk} (hf : ∀ x, (f x).ra = x.ra ∧ (f x).sa = x.sa) : LW H bs (bs.map (upB a f)) := fun b' hb => by
  obtain ⟨x, hx, rfl⟩ := List.mem_map.mp hb
  refine .inl ⟨x, hx, ?_⟩
  by_cases e : x.a = a
  · rw [upB_y e]; exact ⟨(hf x).1.symm, (hf x).2.symm⟩
  · rw [upB_n e]; exact ⟨rfl, rfl⟩
theorem LW.flt {H : Hp} {bs : List Blk} {p : Blk → Bool} : LW H bs (bs.filter p) := fun b hb => .inl ⟨b, (List.mem_filter.mp hb).1, rfl, rfl⟩
structure FrT (K : PySem.W.Frag) (d : TD) (H H' : Hp) (d' : TD) : Prop where
  kp : ∀ x o, H x = some o → ¬ Own d x → H' x = some o
  ow : ∀ x, Own d' x → Own d x ∨ H x = none
  lw : LW H d.bs d'.bs
  ob : ∀ a dx fs v, H a = some (.ins (cB K) dx fs) → fs.lookup ("start" : Str) = some v → ∃ dx' fs', H' a = some (.ins (cB K) dx' fs') ∧ fs'.lookup ("start" : Str) = some v
  dm : ∀ x, H' x = none → H x = none
section
variable {K : PySem.W.Frag} {H H1 H2 : Hp} {d d1 d2 : TD}
theorem FrT.refl : FrT K d H H d := ⟨fun _ _ h _ => h, fun _ h => .inl h, LW.refl, fun _ dx fs _ h e => ⟨dx, fs, h, e⟩, fun _ h => h⟩
theorem FrT.trans (a : FrT K d H H1 d1) (b : FrT K d1 H1 H2 d2) : FrT K d H H2 d2 := by
  have low : ∀ x, Own d1 x → Own d x ∨ H x = none := a.ow
  refine ⟨fun x o h n => b.kp _ _ (a.kp _ _ h n) fun z => ?_, fun x z => ?_, fun b' hb' => ?_, fun y dx fs v h e => ?_, fun x h => a.dm x (b.dm x h)⟩
  · rcases low x z with q | q
    · exact n q
    · rw [h] at q; cases q
  · rcases b.ow x z with q | q
    · exact low x q
    · by_cases n : Own d x
      · exact .inl n
      · cases e : H x with
        | none => exact .inr rfl
        | some o => rw [a.kp _ _ e n] at q; cases q
  · rcases b.lw b' hb' with ⟨x, hx, e1, e2⟩ | ⟨e1, e2⟩
    · rw [← e1, ← e2]; exact a.lw x hx
    · exact .inr ⟨a.dm _ e1, a.dm _ e2⟩
  · obtain ⟨dx1, f1, h1, e1⟩ := a.ob y dx fs v h e
    exact b.ob y dx1 f1 v h1 e1
theorem FrT.snoc (b : FrT K d1 H1 H2 d2) (a : FrT K d H H1 d1) : FrT K d H H2 d2 := a.trans b
theorem FrT.ofSame (s : Same H H1) : FrT K d H H1 d := ⟨fun _ _ h _ => s _ _ h, fun _ h => .inl h, LW.refl, fun _ dx fs _ h e => ⟨dx, fs, s _ _ h, e⟩, fun _ h => fresh_same s h⟩
theorem FrT.snocS (s : Same H1 H2) (a : FrT K d H H1 d1) : FrT K d H H2 d1 := a.trans (.ofSame s)
theorem FrT.snocN {x : Addr} {o : HO} (hx : H1 x = none) (a : FrT K d H H1 d1) : FrT K d H (upd H1 x o) d1 := a.trans (.ofSame (Ext.new hx))
/-- one owned place written, no block's object -/
theorem FrT.put {x : Addr} {o o' : HO} (hx : Own d x) (h0 : H x = some o') (hn : ∀ dx fs, o' = .ins (cB K) dx fs → fs.lookup ("start" : Str) = none) (ow : ∀ x, Own d1 x → Own d x ∨ H x = none) (lw : LW H d.bs d1.bs := by first | exact LW.refl | exact LW.up (fun _ => ⟨rfl, rfl⟩) | exact LW.flt) : FrT K d H (upd H x o) d1 :=
  ⟨fun y u h n => by rw [upd_ne (fun e => n (by rw [e]; exact hx))]; exact h, ow, lw, fun a dx fs v h e => ⟨dx, fs, by rw [upd_ne (by rintro rfl; rw [h0] at h; injection h with h; rw [hn _ _ h] at e; cases e)]; exact h, e⟩, fun _ h => fresh_new h⟩
theorem FrT.putB {x dx dx' : Addr} {fs fs' : List (Str × V)} (hx : Own d x) (h0 : H x = some (.ins (cB K) dx fs)) (e : fs'.lookup ("start" : Str) = fs.lookup ("start" : Str)) (ow : ∀ x, Own d1 x → Own d x ∨ H x = none) (lw : LW H d.bs d1.bs := by first | exact LW.refl | exact LW.up (fun _ => ⟨rfl, rfl⟩) | exact LW.flt) : FrT K d H (upd H x (.ins (cB K) dx' fs')) d1 :=
  ⟨fun y u h n => by rw [upd_ne (fun e => n (by rw [e]; exact hx))]; exact h, ow, lw, fun a dxa fsa v h ev => by
    by_cases ea : a = x
    · subst ea
      rw [h0] at h
      injection h with h
      injection h with _ _ h
      subst h
      exact ⟨_, _, upd_same, e.trans ev⟩
    · exact ⟨dxa, fsa, by rw [upd_ne ea]; exact h, ev⟩, fun _ h => fresh_new h⟩
theorem FrT.ofFrS {K : PySem.W.Frag} {s s' : S} (R : StAt K H d.sp d.L s) (R' : StAt K H1 d.sp d.L s') (F : FrS d.L d.sp H H1) : FrT K d H H1 d := by
  refine ⟨fun x o h n => F _ _ h fun z => n (.inr (.inl z)), fun _ h => .inl h, LW.refl, fun a dx fs v h e => ⟨dx, fs, F _ _ h ?_, e⟩, fun x h => ?_⟩
  rotate_left
  · by_cases n : d.L.In d.sp x
    · exact absurd n (R'.notIn h)
    · cases e : H x with
      | none => rfl
      | some o => rw [F _ _ e n] at h; cases h
  obtain ⟨⟨dx', sm', h1, h2⟩, h3, ⟨mv, h4, h5⟩, h6, h7, _⟩ := R
  rintro (z | z | z | z | z) <;> subst z
  · rw [h] at h1
    injection h1 with h1
    injection h1 with _ _ h1
    rw [h1] at e
    cases e
  · rw [h] at h3; cases h3
  · rw [h] at h4; cases h4
  · rw [h] at h6; cases h6
  · rw [h] at h7; cases h7
end

/-! part P18ops -/
section
variable {K : PySem.W.Frag} {H H' : Hp} {d d' : TD} {π : TP} {b nb : Blk} {y C dx : Addr} {fs : List (Str × V)}
theorem notup_ins {y C dx : Addr} {fs : List (Str × V)} {H : Hp} (h : H y = some (.ins C dx fs)) : ∀ xs, H y ≠ some (.tup xs) := fun xs e => by rw [h] at e; cases e
theorem notup_tb {y : Addr} {fz : Option Obj} {kvs : List (Key × V)} {H : Hp} (h : H y = some (tbO fz kvs)) : ∀ xs, H y ≠ some (.tup xs) := fun xs e => by
  rw [h] at e
  rcases tbO_cases fz kvs with z | ⟨o, z⟩ <;> rw [z] at e <;> cases e
theorem keep_upd {y : Addr} {o : HO} {H : Hp} : KeepP y H (upd H y o) := fun x u h ne => by rw [upd_ne ne]; exact h
theorem TH.same (e : Same H H') (R : TH K H d π) : TH K H' d π := by
  obtain ⟨⟨dx, k, ho⟩, st, tb, bl, pw, ct, no, le, nw, cm, va, cv, cl⟩ := R
  exact ⟨⟨dx, k, e _ _ ho⟩, st.same e, e _ _ tb, fun b hb => (bl b hb).same e, pw, ct, no, le, nw, cm, va, cv, cl⟩
theorem TH.new {x : Addr} {o : HO} (hx : H x = none) (R : TH K H d π) : TH K (upd H x o) d π := R.same (Ext.new hx)
theorem TH.obOf (R : TH K H d π) (ho : H d.m = some (.ins C dx fs)) : C = cT K ∧ ∃ k, fs = tFl d k := by
  obtain ⟨dx', k, h⟩ := R.ob
  rw [ho] at h
  injection h with h
  injection h with h1 _ h2
  exact ⟨h1, k, h2⟩
theorem TH.setM (R : TH K H d π) (nw cm : Option Addr) (i : Int) (k : TK) (ho : H d.m = some (.ins (cT K) dx fs)) (hn : ∀ a, nw = some a → (∃ b ∈ d.bs, b.a = a) ∨ π.W a) (hc : ∀ a, cm = some a → (∃ b ∈ d.bs, b.a = a) ∨ π.W a) :
    TH K (upd H d.m (.ins (cT K) dx (tFl { d with now := nw, come := cm, at_ := i } k))) { d with now := nw, come := cm, at_ := i } π := by
  obtain ⟨_, k0, rfl⟩ := R.obOf ho
  have hk : KeepP d.m H (upd H d.m (.ins (cT K) dx (tFl { d with now := nw, come := cm, at_ := i } k))) := keep_upd
  exact ⟨⟨dx, k, upd_same⟩, R.st.kp hk ho rfl, hk _ _ R.tb R.m_ta.symm, fun b hb => (R.bl b hb).kp hk (notup_ins ho) (R.m_ne hb).1 (R.m_ne hb).2.1 (R.m_ne hb).2.2.1 (R.m_ne hb).2.2.2, R.pw, R.ct, R.no, R.le, hn, hc, R.va, R.cv, R.cl⟩
theorem TH.stS {s' : S} (R : TH K H d π) (h : StAt K H' d.sp d.L s') (F : FrS d.L d.sp H H') : TH K H' d { π with s := s' } := by
  obtain ⟨dx, k, ho⟩ := R.ob
  refine ⟨⟨dx, k, F _ _ ho R.nIn_m⟩, h, F _ _ R.tb R.nIn_ta, fun b hb => ?_, R.pw, R.ct, R.no, R.le, R.nw, R.cm, R.va, R.cv, R.cl⟩
  exact (R.bl b hb).mono (fun _ q => F _ _ q (R.nIn_a hb)) (fun _ q => F _ _ q (R.no b hb).1) (fun _ q => F _ _ q (R.no b hb).2) (fun _ q => F _ _ q (R.nIn_ca hb)) fun x xs q => F _ _ q (R.st.notTup q)
theorem tbD_map {bs : List Blk} {g : Blk → Blk} (hg : ∀ b ∈ bs, (g b).a = b.a ∧ (g b).start = b.start) : tbD (bs.map g) = tbD bs := by
  unfold tbD
  rw [List.map_map]
  refine List.map_congr_left fun b hb => ?_
  show ((Sum.inl (g b).start : Key), V.ref (g b).a) = _
  rw [(hg b hb).1, (hg b hb).2]
structure GOk (g : Blk → Blk) (b : Blk) : Prop where
  a : (g b).a = b.a
  st : (g b).start = b.start
  ro : (g b).rows = b.rows
  sp : (g b).spots = b.spots
  ra : (g b).ra = b.ra
  sa : (g b).sa = b.sa
theorem TH.chB (R : TH K H d π) (g : Blk → Blk) (T' : Nat → Int → Addr → Prop) (hg : ∀ b ∈ d.bs, GOk g b) (hm : ∀ o, H d.m = some o → H' d.m = some o) (hst : StAt K H' d.sp d.L π.s) (htb : ∀ o, H d.ta = some o → H' d.ta = some o)
    (hB : ∀ b ∈ d.bs, BlkAt K H' (g b)) (hpw : ∀ x ∈ d.bs, ∀ y ∈ d.bs, Apart x y → (g x).ca ≠ (g y).ca) (hct : ∀ b ∈ d.bs, (g b).ca ≠ d.ta)
    (hcv : ∀ j b k a, d.bs[j]? = some b → (k, a) ∈ (g b).chains → (∃ x ∈ d.bs, x.a = a ∧ x.start = k) ∨ T' j k a) (hcl : ∀ b ∈ d.bs, (g b).chains.length ≤ π.n) : TH K H' { d with bs := d.bs.map g } { π with T := T' } := by
  obtain ⟨dx, k, ho⟩ := R.ob
  have up : ∀ {a : Addr}, (∃ b ∈ d.bs, b.a = a) → ∃ b ∈ d.bs.map g, b.a = a := fun ⟨b, hb, e⟩ => ⟨g b, List.mem_map_of_mem hb, (hg b hb).a.trans e⟩
  have dn : ∀ {x : Blk}, x ∈ d.bs.map g → ∃ b ∈ d.bs, g b = x := fun h => List.mem_map.mp h
  refine ⟨⟨dx, k, hm _ ho⟩, hst, ?_, fun x hx => ?_, ?_, fun x hx => ?_, fun x hx => ?_, by show (d.bs.map g).length ≤ 6; rw [List.length_map]; exact R.le, fun a h => ?_, fun a h => ?_, fun x hx => ?_, fun j x k' a hj hx => ?_, fun x hx => ?_⟩
  · show H' d.ta = some (tbO π.fz (tbD (d.bs.map g)))
    rw [tbD_map fun b hb => ⟨(hg b hb).a, (hg b hb).st⟩]
    exact htb _ R.tb
  · obtain ⟨b, hb, rfl⟩ := dn hx
    exact hB b hb
  · refine List.pairwise_map.mpr (List.Pairwise.imp_of_mem (fun {x y} hx hy h => ?_) R.pw)
    exact ⟨by rw [(hg x hx).st, (hg y hy).st]; exact h.1, hpw x hx y hy h, by rw [(hg x hx).a, (hg y hy).a]; exact h.2.2⟩
  · obtain ⟨b, hb, rfl⟩ := dn hx
    exact hct b hb
  · obtain ⟨b, hb, rfl⟩ := dn hx
    show ¬ d.L.In d.sp (g b).ra ∧ ¬ d.L.In d.sp (g b).sa
    rw [(hg b hb).ra, (hg b hb).sa]
    exact R.no b hb
  · rcases R.nw a h with z | z
    · exact .inl (up z)
    · exact .inr z
  · rcases R.cm a h with z | z
    · exact .inl (up z)
    · exact .inr z
  · obtain ⟨b, hb, rfl⟩ := dn hx
    show BlkV π.c π.pg (g b).start (g b).rows (g b).spots
    rw [(hg b hb).st, (hg b hb).ro, (hg b hb).sp]
    exact R.va b hb
  · have hj : (d.bs.map g)[j]? = some x := hj
    rw [List.getElem?_map] at hj
    cases e : d.bs[j]? with
    | none => rw [e] at hj; cases hj
    | some b =>
      rw [e] at hj
      injection hj with hj
      subst hj
      rcases hcv j b k' a e hx with ⟨x, hx, e1, e2⟩ | z
      · exact .inl ⟨g x, List.mem_map_of_mem hx, (hg x hx).a.trans e1, (hg x hx).st.trans e2⟩
      · exact .inr z
  · obtain ⟨b, hb, rfl⟩ := dn hx
    exact hcl b hb
theorem upB_ok {a : Addr} {f : Blk → Blk} (hf : ∀ x, GOk f x) (x : Blk) : GOk (upB a f) x := by
  by_cases h : x.a = a
  · obtain ⟨h1, h2, h3, h4, h5, h6⟩ := hf x
    exact ⟨by rw [upB_y h]; exact h1, by rw [upB_y h]; exact h2, by rw [upB_y h]; exact h3, by rw [upB_y h]; exact h4, by rw [upB_y h]; exact h5, by rw [upB_y h]; exact h6⟩
  · exact ⟨by rw [upB_n h], by rw [upB_n h], by rw [upB_n h], by rw [upB_n h], by rw [upB_n h], by rw [upB_n h]⟩
theorem TH.setB (R : TH K H d π) (hb : b ∈ d.bs) (f : Blk → Blk) (T' : Nat → Int → Addr → Prop) (hf : ∀ x, GOk f x) (g : Int) (hch : H (f b).ca = some (.dK (chD (f b).chains))) (hca : ∀ x ∈ d.bs, x.a ≠ b.a → x.ca ≠ (f b).ca) (hct : (f b).ca ≠ d.ta)
    (hcv : ∀ j k a, d.bs[j]? = some b → (k, a) ∈ (f b).chains → (∃ x ∈ d.bs, x.a = a ∧ x.start = k) ∨ T' j k a) (hT : ∀ j x k a, d.bs[j]? = some x → x.a ≠ b.a → π.T j k a → T' j k a) (hcl : (f b).chains.length ≤ π.n) :
    TH K (upd H b.a (.ins (cB K) (f b).dx (bF (f b) g))) { d with bs := d.bs.map (upB b.a f) } { π with T := T' } := by
  obtain ⟨g0, ho⟩ := (R.bl b hb).ob
  have hk : KeepP b.a H (upd H b.a (.ins (cB K) (f b).dx (bF (f b) g))) := keep_upd
  have eqb : ∀ {x : Blk}, x ∈ d.bs → x.a = b.a → x = b := fun hx e => R.eq_a hx hb e
  refine R.chB (upB b.a f) T' (fun x _ => upB_ok hf x) (fun o h => hk _ _ h (R.m_ne hb).1.symm) (R.st.kp hk ho rfl) (fun o h => hk _ _ h ((R.bl b hb).ne_dK R.tb).1.symm) (fun x hx => ?_) (fun x hx y hy h => ?_) (fun x hx => ?_) (fun j x k a hj h => ?_) (fun x hx => ?_)
  · by_cases e : x.a = b.a
    · obtain rfl := eqb hx e
      rw [upB_y e]
      obtain ⟨rv, h1, h2⟩ := (R.bl x hx).rw
      have tk : TupKeep H (upd H x.a (.ins (cB K) (f x).dx (bF (f x) g))) := fun z xs hz => hk _ _ hz (by rintro rfl; rw [ho] at hz; cases hz)
      obtain ⟨n1, n2, n3⟩ := (R.bl x hx).ne_ins ho
      refine ⟨⟨g, by rw [(hf x).a]; exact upd_same⟩, ⟨rv, by rw [(hf x).ra]; exact hk _ _ h1 n1, ?_⟩, by rw [(hf x).sa, (hf x).sp]; exact hk _ _ (R.bl x hx).sp n2, hk _ _ hch (by rintro z; rw [z, ho] at hch; cases hch)⟩
      rw [(hf x).ro]
      exact Paired.mono h2 fun _ _ ⟨t, q, e, a1, a2⟩ => ⟨t, q, e, tk _ _ a1, tk _ _ a2⟩
    · rw [upB_n e]
      obtain ⟨n1, n2, n3⟩ := (R.bl x hx).ne_ins ho
      exact (R.bl x hx).kp hk (notup_ins ho) e n1 n2 n3
  · by_cases e : x.a = b.a
    · obtain rfl := eqb hx e
      rw [upB_y e, upB_n (fun z => h.2.2 z.symm)]
      exact (hca y hy (fun z => h.2.2 z.symm)).symm
    · by_cases e2 : y.a = b.a
      · obtain rfl := eqb hy e2
        rw [upB_n e, upB_y rfl]
        exact hca x hx e
      · rw [upB_n e, upB_n e2]
        exact h.2.1
  · by_cases e : x.a = b.a
    · obtain rfl := eqb hx e
      rw [upB_y e]; exact hct
    · rw [upB_n e]; exact R.ct x hx
  · by_cases e : x.a = b.a
    · obtain rfl := eqb (at_mem hj) e
      rw [upB_y e] at h
      exact hcv j k a hj h
    · rw [upB_n e] at h
      rcases R.cv j x k a hj h with z | z
      · exact .inl z
      · exact .inr (hT j x k a hj e z)
  · by_cases e : x.a = b.a
    · obtain rfl := eqb hx e
      rw [upB_y e]; exact hcl
    · rw [upB_n e]; exact R.cl x hx
/-- a block's own chains written -/
theorem TH.setCh (R : TH K H d π) (hb : b ∈ d.bs) (cs : List (Int × Addr)) (hcv : ∀ k a, (k, a) ∈ cs → ∃ x ∈ d.bs, x.a = a ∧ x.start = k) (hcl : cs.length ≤ π.n) :
    TH K (upd H b.ca (.dK (chD cs))) { d with bs := d.bs.map (upB b.a fun x => { x with chains := cs }) } π := by
  have hch := (R.bl b hb).ch
  have hk : KeepP b.ca H (upd H b.ca (.dK (chD cs))) := keep_upd
  have nt : ∀ xs, H b.ca ≠ some (.tup xs) := notup_tb (fz := none) hch
  have eqb : ∀ {x : Blk}, x ∈ d.bs → x.a = b.a → x = b := fun hx e => R.eq_a hx hb e
  have hst : StAt K (upd H b.ca (.dK (chD cs))) d.sp d.L π.s := by
    have n := R.nIn_ca hb
    obtain ⟨⟨dx', sm', h1, h2⟩, h3, ⟨mv, h4, h5⟩, h6, h7, n1, n2, n3, n4, n5, n6, cl, pl, hl⟩ := R.st
    have tk : TupKeep H (upd H b.ca (.dK (chD cs))) := fun z xs hz => hk _ _ hz (by rintro rfl; exact nt xs hz)
    exact ⟨⟨dx', sm', hk _ _ h1 fun e => n (.inl e.symm), h2.keep tk⟩, hk _ _ h3 fun e => n (.inr (.inl e.symm)), ⟨mv, hk _ _ h4 fun e => n (.inr (.inr (.inl e.symm))), Paired.mono h5 fun _ _ q => q.keep tk⟩, hk _ _ h6 fun e => n (.inr (.inr (.inr (.inl e.symm)))),
      hk _ _ h7 fun e => n (.inr (.inr (.inr (.inr e.symm)))), n1, n2, n3, n4, n5, n6, cl, pl, hl⟩
  refine R.chB (upB b.a fun x => { x with chains := cs }) π.T (fun x _ => upB_ok (f := fun x => { x with chains := cs }) (fun _ => ⟨rfl, rfl, rfl, rfl, rfl, rfl⟩) x) (fun o h => hk _ _ h (R.m_ne hb).2.2.2.symm) hst (fun o h => hk _ _ h (R.ct b hb).symm) (fun x hx => ?_) (fun x hx y hy h => ?_) (fun x hx => ?_) (fun j x k a hj h => ?_) (fun x hx => ?_)
  · obtain ⟨m1, m2, m3⟩ := (R.bl x hx).ne_dK (fz := none) hch
    by_cases e : x.a = b.a
    · obtain rfl := eqb hx e
      rw [upB_y e]
      obtain ⟨⟨g, q1⟩, ⟨rv, q2, q5⟩, q3, q4⟩ := R.bl x hx
      exact ⟨⟨g, hk _ _ q1 m1⟩, ⟨rv, hk _ _ q2 m2, Paired.mono q5 fun _ _ ⟨t, q, e, a1, a2⟩ => ⟨t, q, e, hk _ _ a1 (by rintro rfl; exact nt _ a1), hk _ _ a2 (by rintro rfl; exact nt _ a2)⟩⟩, hk _ _ q3 m3, upd_same⟩
    · rw [upB_n e]
      rcases R.apart hx hb with z | z
      · exact absurd (by rw [z]) e
      · exact (R.bl x hx).kp hk nt m1 m2 m3 z.2.1
  · have eca : ∀ z, (upB b.a (fun x => { x with chains := cs }) z).ca = z.ca := fun z => by
      by_cases e : z.a = b.a
      · rw [upB_y e]
      · rw [upB_n e]
    rw [eca, eca]
    exact h.2.1
  · by_cases e : x.a = b.a
    · rw [upB_y e]; exact R.ct x hx
    · rw [upB_n e]; exact R.ct x hx
  · by_cases e : x.a = b.a
    · rw [upB_y e] at h
      exact .inl (hcv k a h)
    · rw [upB_n e] at h
      exact R.cv j x k a hj h
  · by_cases e : x.a = b.a
    · rw [upB_y e]; exact hcl
    · rw [upB_n e]; exact R.cl x hx
/-- the table's own thing written: what it tells, which blocks -/
theorem TH.setTb (R : TH K H d π) (bs : List Blk) (π' : TP) (fs' : π'.s = π.s ∧ π'.c = π.c ∧ π'.pg = π.pg ∧ π'.n = π.n) (o : HO) (ho : o = tbO π'.fz (tbD bs)) (hnew : ∀ x ∈ bs, x ∈ d.bs ∨ (BlkAt K H x ∧ x.ca ≠ d.ta ∧ (¬ d.L.In d.sp x.ra ∧ ¬ d.L.In d.sp x.sa) ∧ BlkV π.c π.pg x.start x.rows x.spots ∧ x.chains.length ≤ π.n)) (hpw : bs.Pairwise Apart) (hle : bs.length ≤ 6)
    (hnw : ∀ a, d.now = some a → (∃ b ∈ bs, b.a = a) ∨ π'.W a) (hcm : ∀ a, d.come = some a → (∃ b ∈ bs, b.a = a) ∨ π'.W a) (hcv : ∀ j b k a, bs[j]? = some b → (k, a) ∈ b.chains → (∃ g ∈ bs, g.a = a ∧ g.start = k) ∨ π'.T j k a) :
    TH K (upd H d.ta o) { d with bs := bs } π' := by
  subst ho
  obtain ⟨dx, k, hm⟩ := R.ob
  have hk : KeepP d.ta H (upd H d.ta (tbO π'.fz (tbD bs))) := keep_upd
  have nt := notup_tb R.tb
  have hst : StAt K (upd H d.ta (tbO π'.fz (tbD bs))) d.sp d.L π.s := by
    have n := R.nIn_ta
    obtain ⟨⟨dx', sm', h1, h2⟩, h3, ⟨mv, h4, h5⟩, h6, h7, n1, n2, n3, n4, n5, n6, cl, pl, hl⟩ := R.st
    have tk : TupKeep H (upd H d.ta (tbO π'.fz (tbD bs))) := fun z xs hz => hk _ _ hz (by rintro rfl; exact nt xs hz)
    exact ⟨⟨dx', sm', hk _ _ h1 fun e => n (.inl e.symm), h2.keep tk⟩, hk _ _ h3 fun e => n (.inr (.inl e.symm)), ⟨mv, hk _ _ h4 fun e => n (.inr (.inr (.inl e.symm))), Paired.mono h5 fun _ _ q => q.keep tk⟩, hk _ _ h6 fun e => n (.inr (.inr (.inr (.inl e.symm)))),
      hk _ _ h7 fun e => n (.inr (.inr (.inr (.inr e.symm)))), n1, n2, n3, n4, n5, n6, cl, pl, hl⟩
  obtain ⟨e1, e2, e3, e4⟩ := fs'
  have all : ∀ x ∈ bs, BlkAt K H x ∧ x.ca ≠ d.ta ∧ (¬ d.L.In d.sp x.ra ∧ ¬ d.L.In d.sp x.sa) ∧ BlkV π.c π.pg x.start x.rows x.spots ∧ x.chains.length ≤ π.n := fun x hx => by
    rcases hnew x hx with z | z
    · exact ⟨R.bl x z, R.ct x z, R.no x z, R.va x z, R.cl x z⟩
    · exact z
  refine ⟨⟨dx, k, hk _ _ hm R.m_ta⟩, by rw [e1]; exact hst, upd_same, fun x hx => ?_, hpw, fun x hx => (all x hx).2.1, fun x hx => (all x hx).2.2.1, hle, hnw, hcm, fun x hx => by rw [e2, e3]; exact (all x hx).2.2.2.1, hcv, fun x hx => by rw [e4]; exact (all x hx).2.2.2.2⟩
  obtain ⟨m1, m2, m3⟩ := (all x hx).1.ne_dK R.tb
  exact (all x hx).1.kp hk nt m1 m2 m3 (all x hx).2.1
theorem TH.lock (R : TH K H d π) (fz : Option Obj) {o : HO} (ho : o = tbO fz (tbD d.bs)) : TH K (upd H d.ta o) d { π with fz := fz } :=
  R.setTb d.bs { π with fz := fz } ⟨rfl, rfl, rfl, rfl⟩ o ho (fun _ h => .inl h) R.pw R.le R.nw R.cm R.cv
theorem TH.wT (R : TH K H d π) (T' : Nat → Int → Addr → Prop) (W' : Addr → Prop) (hT : ∀ j b k a, d.bs[j]? = some b → (k, a) ∈ b.chains → π.T j k a → T' j k a) (hn : ∀ a, d.now = some a → π.W a → W' a) (hc : ∀ a, d.come = some a → π.W a → W' a) : TH K H d { π with T := T', W := W' } := by
  obtain ⟨h1, h2, h3, h4, h5, h6, h7, h8, h9, h10, h11, h12, h13⟩ := R
  refine ⟨h1, h2, h3, h4, h5, h6, h7, h8, fun a h => ?_, fun a h => ?_, h11, fun j b k a hj hx => ?_, h13⟩
  · rcases h9 a h with z | z
    · exact .inl z
    · exact .inr (hn a h z)
  · rcases h10 a h with z | z
    · exact .inl z
    · exact .inr (hc a h z)
  · rcases h12 j b k a hj hx with z | z
    · exact .inl z
    · exact .inr (hT j b k a hj hx z)
theorem drop_tbD {bs : List Blk} {k : Int} : dropK (tbD bs) (.inl k : Key) = tbD (bs.filter fun x => decide (x.start ≠ k)) := by
  unfold dropK tbD
  rw [List.filter_map]
  congr 1
  refine List.filter_congr fun x _ => ?_
  show decide ((Sum.inl x.start : Key) ≠ Sum.inl k) = decide (x.start ≠ k)
  exact decide_eq_decide.mpr ⟨fun h z => h (by rw [z]), fun h z => h (by injection z)⟩
theorem val_tbD (k : Int) : ∀ bs : List Blk, valV (tbD bs) (.inl k : Key) = (bs.find? fun x => decide (x.start = k)).map fun x => V.ref x.a
  | [] => rfl
  | b :: bs => by
    show valV ((Sum.inl b.start, V.ref b.a) :: tbD bs) _ = _
    by_cases e : b.start = k
    · rw [valV_pos (by rw [← e]), List.find?_cons_of_pos (by simpa using e)]
      rfl
    · rw [valV_neg (by intro z; injection z with z; exact e z), List.find?_cons_of_neg (by simpa using e)]
      exact val_tbD k bs
theorem val_chD (k : Int) : ∀ cs : List (Int × Addr), valV (chD cs) (.inl k : Key) = (cs.find? fun x => decide (x.1 = k)).map fun x => V.ref x.2
  | [] => rfl
  | b :: bs => by
    show valV ((Sum.inl b.1, V.ref b.2) :: chD bs) _ = _
    by_cases e : b.1 = k
    · rw [valV_pos (by rw [← e]), List.find?_cons_of_pos (by simpa using e)]
      rfl
    · rw [valV_neg (by intro z; injection z with z; exact e z), List.find?_cons_of_neg (by simpa using e)]
      exact val_chD k bs
def putC (cs : List (Int × Addr)) (k : Int) (a : Addr) : List (Int × Addr) := if (cs.any fun x => decide (x.1 = k)) = true then cs.map (fun x => if x.1 = k then (x.1, a) else x) else cs ++ [(k, a)]
theorem put_chD {cs : List (Int × Addr)} {k : Int} {a : Addr} : putK (chD cs) (.inl k : Key) (.ref a) = chD (putC cs k a) := by
  unfold putK putC
  have h : (chD cs).any (fun kv => decide (kv.1 = (Sum.inl k : Key))) = cs.any fun x => decide (x.1 = k) := by
    unfold chD
    rw [List.any_map]
    congr 1
    funext x
    show decide ((Sum.inl x.1 : Key) = Sum.inl k) = decide (x.1 = k)
    by_cases e : x.1 = k
    · rw [decide_eq_true (by rw [e]), decide_eq_true e]
    · rw [decide_eq_false (fun z => e (by injection z)), decide_eq_false e]
  rw [h]
  split
  · unfold chD
    rw [List.map_map, List.map_map]
    refine List.map_congr_left fun x _ => ?_
    show (if (Sum.inl x.1 : Key) = Sum.inl k then ((Sum.inl x.1 : Key), V.ref a) else (Sum.inl x.1, V.ref x.2)) = ((Sum.inl (if x.1 = k then (x.1, a) else x).1 : Key), V.ref (if x.1 = k then (x.1, a) else x).2)
    by_cases e : x.1 = k
    · rw [if_pos e, if_pos (by rw [e])]
    · rw [if_neg e, if_neg (fun z => e (by injection z))]
  · unfold chD
    rw [List.map_append]
    rfl
theorem putC_mem {cs : List (Int × Addr)} {k k' : Int} {a a' : Addr} (h : (k', a') ∈ putC cs k a) : (k', a') ∈ cs ∨ (k' = k ∧ a' = a) := by
  unfold putC at h
  split at h
  · obtain ⟨x, hx, e⟩ := List.mem_map.mp h
    split at e
    · rename_i q
      injection e with e1 e2
      exact .inr ⟨e1.symm.trans q, e2.symm⟩
    · rw [← e]; exact .inl hx
  · rcases List.mem_append.mp h with z | z
    · exact .inl z
    · have := List.mem_singleton.mp z
      injection this with e1 e2
      exact .inr ⟨e1, e2⟩
theorem putC_len (cs : List (Int × Addr)) (k : Int) (a : Addr) : (putC cs k a).length ≤ cs.length + 1 := by
  unfold putC
  split
  · rw [List.length_map]; exact Nat.le_succ _
  · rw [List.length_append]; exact Nat.le_refl _
end

/-! part P19walk -/
section
variable {K : PySem.W.Frag} {H : Hp} {d : TD} {π : TP} {b : Blk} {f m : Str} {v : V} {Q : VK} {N : Hp → Prop} {RR : V → Hp → Prop} {o : Option Addr} {i j : Int} {σ : St'}
theorem g_tF {mm : Addr} (R : TH K H d π) (hm : d.m = mm) (hl : ∀ k : TK, (tFl d k).lookup f = some v) (q : Q v H) : kF (cT K) f Q (.ref mm) H := by subst hm; exact let ⟨_, k, ho⟩ := R.ob; w_kF ho (hl k) q
theorem g_tM {mm : Addr} (R : TH K H d π) (hm : d.m = mm) (hl : ∀ k : TK, (tFl d k).lookup m = none) (q : RR (.ref mm) H) : kM (cT K) m RR (.ref mm) H := by subst hm; exact let ⟨_, k, ho⟩ := R.ob; w_kM ho (hl k) q
theorem g_bF {mm : Addr} (R : TH K H d π) (hb : b ∈ d.bs) (hm : b.a = mm) (hl : ∀ g, (bF b g).lookup f = some v) (q : Q v H) : kF (cB K) f Q (.ref mm) H := by subst hm; exact let ⟨g, ho⟩ := (R.bl b hb).ob; w_kF ho (hl g) q
theorem g_bM {mm : Addr} (R : TH K H d π) (hb : b ∈ d.bs) (hm : b.a = mm) (hl : ∀ g, (bF b g).lookup m = none) (q : RR (.ref mm) H) : kM (cB K) m RR (.ref mm) H := by subst hm; exact let ⟨g, ho⟩ := (R.bl b hb).ob; w_kM ho (hl g) q
theorem own_m : Own d d.m := .inl rfl
theorem own_ta : Own d d.ta := .inr (.inr (.inl rfl))
theorem own_a (hb : b ∈ d.bs) : Own d b.a := .inr (.inr (.inr ⟨b, hb, .inl rfl⟩))
theorem own_ca (hb : b ∈ d.bs) : Own d b.ca := .inr (.inr (.inr ⟨b, hb, .inr rfl⟩))
theorem TH.putM (R : TH K H d π) {dx : Addr} {fs : List (Str × V)} {o : HO} (ho : H d.m = some (.ins (cT K) dx fs)) {nw cm : Option Addr} {i : Int} : FrT K d H (upd H d.m o) { d with now := nw, come := cm, at_ := i } := by
  obtain ⟨_, k, rfl⟩ := R.obOf ho
  exact FrT.put own_m ho (fun dx fs e => by injection e with _ _ e; rw [← e]; rfl) fun _ h => .inl h
theorem p_tNow {mm : Addr} (R : TH K H d π) (hn : ∀ a, o = some a → (∃ b ∈ d.bs, b.a = a) ∨ π.W a) (hm : d.m = mm) (q : ∀ H', TH K H' { d with now := o } π → FrT K d H H' { d with now := o } → N H') : kSF (cT K) "now" (optR o) N (.ref mm) H := by
  subst hm
  obtain ⟨dx, k, ho⟩ := R.ob
  exact w_kSF ho (Nat.le_of_ble_eq_true rfl) (q _ (R.setM o d.come d.at_ k ho hn R.cm) (R.putM ho))
theorem p_tCome {mm : Addr} (R : TH K H d π) (hn : ∀ a, o = some a → (∃ b ∈ d.bs, b.a = a) ∨ π.W a) (hm : d.m = mm) (q : ∀ H', TH K H' { d with come := o } π → FrT K d H H' { d with come := o } → N H') : kSF (cT K) "come" (optR o) N (.ref mm) H := by
  subst hm
  obtain ⟨dx, k, ho⟩ := R.ob
  exact w_kSF ho (Nat.le_of_ble_eq_true rfl) (q _ (R.setM d.now o d.at_ k ho R.nw hn) (R.putM ho))
theorem p_tAt {mm : Addr} (R : TH K H d π) (hm : d.m = mm) (q : ∀ H', TH K H' { d with at_ := i } π → FrT K d H H' { d with at_ := i } → N H') : kSF (cT K) "at" (.int i) N (.ref mm) H := by
  subst hm
  obtain ⟨dx, k, ho⟩ := R.ob
  exact w_kSF ho (Nat.le_of_ble_eq_true rfl) (q _ (R.setM d.now d.come i k ho R.nw R.cm) (R.putM ho))
theorem p_tNowN {mm : Addr} (R : TH K H d π) (hm : d.m = mm) (q : ∀ H', TH K H' { d with now := none } π → FrT K d H H' { d with now := none } → N H') : kSF (cT K) "now" .non N (.ref mm) H := by
  subst hm
  exact p_tNow (o := none) R (fun _ z => by cases z) rfl q
theorem p_tComeN {mm : Addr} (R : TH K H d π) (hm : d.m = mm) (q : ∀ H', TH K H' { d with come := none } π → FrT K d H H' { d with come := none } → N H') : kSF (cT K) "come" .non N (.ref mm) H := by
  subst hm
  exact p_tCome (o := none) R (fun _ z => by cases z) rfl q
theorem p_tNowS {mm : Addr} (R : TH K H d π) (hb : b ∈ d.bs) (hm : d.m = mm) (q : ∀ H', TH K H' { d with now := some b.a } π → FrT K d H H' { d with now := some b.a } → N H') : kSF (cT K) "now" (.ref b.a) N (.ref mm) H := by
  subst hm
  exact p_tNow (o := (some b.a)) R (fun _ z => .inl ⟨b, hb, by injection z⟩) rfl q
theorem p_tComeS {mm : Addr} (R : TH K H d π) (hb : b ∈ d.bs) (hm : d.m = mm) (q : ∀ H', TH K H' { d with come := some b.a } π → FrT K d H H' { d with come := some b.a } → N H') : kSF (cT K) "come" (.ref b.a) N (.ref mm) H := by
  subst hm
  exact p_tCome (o := (some b.a)) R (fun _ z => .inl ⟨b, hb, by injection z⟩) rfl q
theorem p_tAtAug {mm : Addr} (R : TH K H d π) (hm : d.m = mm) (q : ∀ H', TH K H' { d with at_ := d.at_ + 1 } π → FrT K d H H' { d with at_ := d.at_ + 1 } → N H') : kAug (cT K) "at" (tC (.int 1)) rAdd σ N (.ref mm) H := by
  subst hm
  obtain ⟨dx, k, ho⟩ := R.ob
  exact w_kAug ho rfl (Nat.le_of_ble_eq_true rfl) (fun _ q => q) (q _ (R.setM d.now d.come (d.at_ + 1) k ho R.nw R.cm) (R.putM ho))
/-- one of its counts raised -/
theorem p_tCnt {mm : Addr} (R : TH K H d π) (up : ∀ k : TK, ∃ i, (tFl d k).lookup f = some (.int i) ∧ ∃ k' : TK, putF f (.int (i + 1)) (tFl d k) = tFl d k') (hm : d.m = mm) (q : ∀ H', TH K H' d π → FrT K d H H' d → N H') : kAug (cT K) f (tC (.int 1)) rAdd σ N (.ref mm) H := by
  subst hm
  obtain ⟨dx, k, ho⟩ := R.ob
  obtain ⟨i, e1, k', e2⟩ := up k
  refine w_kAug ho e1 (Nat.le_of_ble_eq_true rfl) (fun _ q => q) ?_
  rw [e2]
  exact q _ (R.setM d.now d.come d.at_ k' ho R.nw R.cm) (R.putM ho)
theorem up_clock (d : TD) (k : TK) : ∃ i, (tFl d k).lookup ("clock" : Str) = some (.int i) ∧ ∃ k' : TK, putF "clock" (.int (i + 1)) (tFl d k) = tFl d k' := ⟨k.clock, rfl, { k with clock := k.clock + 1 }, rfl⟩
theorem up_made (d : TD) (k : TK) : ∃ i, (tFl d k).lookup ("made" : Str) = some (.int i) ∧ ∃ k' : TK, putF "made" (.int (i + 1)) (tFl d k) = tFl d k' := ⟨k.made, rfl, { k with made := k.made + 1 }, rfl⟩
theorem up_looked (d : TD) (k : TK) : ∃ i, (tFl d k).lookup ("looked" : Str) = some (.int i) ∧ ∃ k' : TK, putF "looked" (.int (i + 1)) (tFl d k) = tFl d k' := ⟨k.looked, rfl, { k with looked := k.looked + 1 }, rfl⟩
theorem up_chained (d : TD) (k : TK) : ∃ i, (tFl d k).lookup ("chained" : Str) = some (.int i) ∧ ∃ k' : TK, putF "chained" (.int (i + 1)) (tFl d k) = tFl d k' := ⟨k.chained, rfl, { k with chained := k.chained + 1 }, rfl⟩
theorem up_thrown (d : TD) (k : TK) : ∃ i, (tFl d k).lookup ("thrown" : Str) = some (.int i) ∧ ∃ k' : TK, putF "thrown" (.int (i + 1)) (tFl d k) = tFl d k' := ⟨k.thrown, rfl, { k with thrown := k.thrown + 1 }, rfl⟩
theorem p_clock {mm : Addr} (R : TH K H d π) (hm : d.m = mm) (q : ∀ H', TH K H' d π → FrT K d H H' d → N H') : kAug (cT K) "clock" (tC (.int 1)) rAdd σ N (.ref mm) H := by subst hm; exact p_tCnt R (up_clock d) rfl q
theorem p_made {mm : Addr} (R : TH K H d π) (hm : d.m = mm) (q : ∀ H', TH K H' d π → FrT K d H H' d → N H') : kAug (cT K) "made" (tC (.int 1)) rAdd σ N (.ref mm) H := by subst hm; exact p_tCnt R (up_made d) rfl q
theorem p_looked {mm : Addr} (R : TH K H d π) (hm : d.m = mm) (q : ∀ H', TH K H' d π → FrT K d H H' d → N H') : kAug (cT K) "looked" (tC (.int 1)) rAdd σ N (.ref mm) H := by subst hm; exact p_tCnt R (up_looked d) rfl q
theorem p_chained {mm : Addr} (R : TH K H d π) (hm : d.m = mm) (q : ∀ H', TH K H' d π → FrT K d H H' d → N H') : kAug (cT K) "chained" (tC (.int 1)) rAdd σ N (.ref mm) H := by subst hm; exact p_tCnt R (up_chained d) rfl q
theorem p_thrown {mm : Addr} (R : TH K H d π) (hm : d.m = mm) (q : ∀ H', TH K H' d π → FrT K d H H' d → N H') : kAug (cT K) "thrown" (tC (.int 1)) rAdd σ N (.ref mm) H := by subst hm; exact p_tCnt R (up_thrown d) rfl q
/-! blocks' fields -/
theorem own_map {g : Blk → Blk} {x : Addr} (hg : ∀ b ∈ d.bs, (g b).a = b.a ∧ ((g b).ca = b.ca ∨ H (g b).ca = none)) (h : Own { d with bs := d.bs.map g } x) : Own d x ∨ H x = none := by
  rcases h with e | e | e | ⟨b, hb, e⟩
  · exact .inl (.inl e)
  · exact .inl (.inr (.inl e))
  · exact .inl (.inr (.inr (.inl e)))
  · obtain ⟨b', hb', rfl⟩ := List.mem_map.mp hb
    obtain ⟨h1, h2⟩ := hg b' hb'
    rcases e with e | e
    · exact .inl (.inr (.inr (.inr ⟨b', hb', .inl (e.trans h1)⟩)))
    · rcases h2 with h2 | h2
      · exact .inl (.inr (.inr (.inr ⟨b', hb', .inr (e.trans h2)⟩)))
      · exact .inr (by rw [e]; exact h2)
theorem map_upB_id {a : Addr} {bs : List Blk} : bs.map (upB a fun x => x) = bs := by
  have : (upB a fun x => x) = id := by
    funext x
    unfold upB
    split <;> rfl
  rw [this, List.map_id]
theorem p_begun {mm : Addr} (R : TH K H d π) (hb : b ∈ d.bs) (hm : b.a = mm) (q : ∀ H', TH K H' d π → FrT K d H H' d → N H') : kAug (cB K) "begun" (tC (.int 1)) rAdd σ N (.ref mm) H := by
  subst hm
  obtain ⟨g, ho⟩ := (R.bl b hb).ob
  refine w_kAug ho rfl (Nat.le_of_ble_eq_true rfl) (fun _ q => q) ?_
  have h := R.setB hb (fun x => x) π.T (fun _ => ⟨rfl, rfl, rfl, rfl, rfl, rfl⟩) (g + 1) (R.bl b hb).ch (fun x hx ne => by rcases R.apart hx hb with z | z; exact absurd (by rw [z]) ne; exact z.2.1) (R.ct b hb) (fun j k a hj hx => R.cv j b k a hj hx) (fun _ _ _ _ _ _ z => z) (R.cl b hb)
  rw [map_upB_id] at h
  exact q _ h (FrT.putB (own_a hb) ho rfl fun _ z => .inl z)
theorem p_last {mm : Addr} (R : TH K H d π) (hb : b ∈ d.bs) (hm : b.a = mm) (q : ∀ H', TH K H' { d with bs := d.bs.map (upB b.a fun x => { x with last := i }) } π → FrT K d H H' { d with bs := d.bs.map (upB b.a fun x => { x with last := i }) } → N H') : kSF (cB K) "last" (.int i) N (.ref mm) H := by
  subst hm
  obtain ⟨g, ho⟩ := (R.bl b hb).ob
  refine w_kSF ho (Nat.le_of_ble_eq_true rfl) ?_
  have h := R.setB hb (fun x => { x with last := i }) π.T (fun _ => ⟨rfl, rfl, rfl, rfl, rfl, rfl⟩) g (R.bl b hb).ch (fun x hx ne => by rcases R.apart hx hb with z | z; exact absurd (by rw [z]) ne; exact z.2.1) (R.ct b hb) (fun j k a hj hx => R.cv j b k a hj hx) (fun _ _ _ _ _ _ z => z) (R.cl b hb)
  refine q _ h (FrT.putB (own_a hb) ho rfl fun _ z => own_map (fun x hx => ?_) z)
  by_cases e : x.a = b.a
  · rw [upB_y e]; exact ⟨rfl, .inl rfl⟩
  · rw [upB_n e]; exact ⟨rfl, .inl rfl⟩
end

/-! part P19loop -/
section
variable {K : PySem.W.Frag} {H H' : Hp} {Q : VK} {σ : St'} {td ty te : TE} {a D : Addr} {kvs : List (Key × V)} {u : HO} {o : Obj} {v : V} {i : Int}
def kPopK (a : Addr) (Q : VK) : VK := fun y H2 => ∃ (kvs : List (Key × V)) (k : Key) (v : V), H2 a = some (.dK kvs) ∧ y = kV k ∧ valV kvs k = some v ∧ Q v (upd H2 a (.dK (dropK kvs k)))
def kPop (ty : TE) (σ : St') (Q : VK) : VK := fun x H1 => ∃ a, x = .ref a ∧ IsD H1 a ∧ ty σ H1 (kPopK a Q)
theorem w_dpop (q : td σ H (kPop ty σ Q)) : tDPop1 td ty σ H Q := q
theorem w_kPop (h : H a = some (.dK kvs)) (q : ty σ H (kPopK a Q)) : kPop ty σ Q (.ref a) H := ⟨a, rfl, .inl ⟨kvs, .inl h⟩, q⟩
theorem w_kPopK (h : H a = some (.dK kvs)) (hv : valV kvs (.inl i) = some v) (q : Q v (upd H a (.dK (dropK kvs (.inl i))))) : kPopK a Q (.int i) H := ⟨kvs, .inl i, v, h, rfl, hv, q⟩
theorem w_lock {t : TS} {n b d : St' → Hp → Prop} {rt : VK} (h : H a = some u) (hu : Mut (some u))
    (q : ∀ od, t ⟨fun σ' H' => H' a = some (.frz od u) ∧ n σ' (upd H' a u), fun v H' => H' a = some (.frz od u) ∧ rt v (upd H' a u), fun σ' H' => H' a = some (.frz od u) ∧ b σ' (upd H' a u), fun σ' H' => H' a = some (.frz od u) ∧ d σ' (upd H' a u)⟩ σ (upd H a (.frz od u))) : tLock t ⟨n, rt, b, d⟩ σ H := ⟨a, u, h, hu, q⟩
theorem w_lockE (h : H a = some u) (hu : Mut (some u)) (q : ∀ od, te σ (upd H a (.frz od u)) fun v H' => H' a = some (.frz od u) ∧ Q v (upd H' a u)) : tLockE te σ H Q := ⟨a, u, h, hu, q⟩
theorem unlock_same (h : H a = some u) {x : HO} (s : Same (upd H a x) H') : Same H (upd H' a u) := fun b o hb => by
  by_cases e : b = a
  · rw [e, upd_same, ← h, ← e]; exact hb
  · rw [upd_ne e]; exact s _ _ (by rw [upd_ne e]; exact hb)
/-! a dict comprehension by a walk -/
def kDc (g : TG) (tt : TT) (tk tv : TE) (vs : List Nat) (σ : St') (Q : VK) : It → Hp → Prop := fun J H1 => ∀ D, H1 D = none → ∃ W : Nat → Nat → Hp → Prop, (∃ m, W 0 m (upd H1 D (.dK []))) ∧ ∀ i m H, W i m H →
  (J.stop i H ∧ Q (.ref D) H) ∨ (J.go i H ∧ ∃ Nx : Hp → Prop, (∀ H', Nx H' → ∃ m', m' < m ∧ W (i + 1) m' H') ∧ ∀ x H', J.yld i H x H' → g x (wipe σ vs) H' fun σ2 H2 => wipe σ2 vs = wipe σ vs ∧ tt σ2 H2 fun b H3 =>
    if b = true then tk σ2 H3 fun y H4 => tv σ2 H4 fun z H5 => ∃ kvs k, y = kV k ∧ H5 D = some (.dK kvs) ∧ kvs.length < sizeLine ∧ Nx (upd H5 D (.dK (putK kvs k z))) else Nx H3)
def kDTurn (tk tv : TE) (D : Addr) (Nx : Hp → Prop) (σ2 : St') : Bool → Hp → Prop := fun b H3 => if b = true then tk σ2 H3 fun y H4 => tv σ2 H4 fun z H5 => ∃ kvs k, y = kV k ∧ H5 D = some (.dK kvs) ∧ kvs.length < sizeLine ∧ Nx (upd H5 D (.dK (putK kvs k z))) else Nx H3
def kDTgt (tt : TT) (tk tv : TE) (D : Addr) (vs : List Nat) (σ : St') (Nx : Hp → Prop) : St' → Hp → Prop := fun σ2 H2 => wipe σ2 vs = wipe σ vs ∧ tt σ2 H2 (kDTurn tk tv D Nx σ2)
theorem w_dc {wi : TI} {g : TG} {tt : TT} {tk tv : TE} {vs : List Nat} (q : wi σ H (kDc g tt tk tv vs σ Q)) : tDc wi g tt tk tv vs σ H Q := q
theorem w_dcJ {J : It} {len : Nat} {G : Hp → Prop} {Y : Nat → Hp → V → Hp → Prop} (w : Walk J len G Y) {g : TG} {tt : TT} {tk tv : TE} {vs : List Nat} (Pv : Addr → Nat → Hp → Prop) (h0 : ∀ D, H D = none → Pv D 0 (upd H D (.dK [])))
    (hG : ∀ D i H', H D = none → i ≤ len → Pv D i H' → G H') (hs : ∀ D i x H1 H', H D = none → i < len → Pv D i H1 → Y i H1 x H' → g x (wipe σ vs) H' (kDTgt tt tk tv D vs σ (Pv D (i + 1)))) (hd : ∀ D H', H D = none → Pv D len H' → Q (.ref D) H') : kDc g tt tk tv vs σ Q J H := fun D hD => by
  refine ⟨fun i m H' => i ≤ len ∧ m = len - i ∧ Pv D i H', ⟨len, Nat.zero_le _, rfl, h0 D hD⟩, ?_⟩
  rintro i m H' ⟨hi, rfl, p⟩
  rcases Nat.lt_or_ge i len with h | h
  · exact .inr ⟨w.goes i H' h (hG D i H' hD hi p), Pv D (i + 1), fun H2 p2 => ⟨len - (i + 1), by omega, h, rfl, p2⟩, fun x H2 y => hs D i x H' H2 hD h p (w.yields i H' x H2 h (hG D i H' hD hi p) y)⟩
  · obtain rfl : i = len := by omega
    exact .inl ⟨w.stops H' (hG D i H' hD hi p), hd D H' hD p⟩
theorem w_kDTgt {tt : TT} {tk tv : TE} {vs : List Nat} {σ2 : St'} {Nx : Hp → Prop} (e : wipe σ2 vs = wipe σ vs) (q : tt σ2 H (kDTurn tk tv D Nx σ2)) : kDTgt tt tk tv D vs σ Nx σ2 H := ⟨e, q⟩
def kDK (tv : TE) (D : Addr) (Nx : Hp → Prop) (σ2 : St') : VK := fun y H4 => tv σ2 H4 fun z H5 => ∃ kvs k, y = kV k ∧ H5 D = some (.dK kvs) ∧ kvs.length < sizeLine ∧ Nx (upd H5 D (.dK (putK kvs k z)))
theorem kDTurn_y {tk tv : TE} {Nx : Hp → Prop} {σ2 : St'} {p : Prop} [Decidable p] (h : p) (q : tk σ2 H (kDK tv D Nx σ2)) : kDTurn tk tv D Nx σ2 (decide p) H := by
  unfold kDTurn
  rw [decide_eq_true h, if_pos rfl]
  exact q
theorem kDTurn_n {tk tv : TE} {Nx : Hp → Prop} {σ2 : St'} {p : Prop} [Decidable p] (h : ¬ p) (q : Nx H) : kDTurn tk tv D Nx σ2 (decide p) H := by
  unfold kDTurn
  rw [decide_eq_false h, if_neg Bool.false_ne_true]
  exact q
def kDV (D : Addr) (Nx : Hp → Prop) (y : V) : VK := fun z H5 => ∃ (kvs : List (Key × V)) (k : Key), y = kV k ∧ H5 D = some (.dK kvs) ∧ kvs.length < sizeLine ∧ Nx (upd H5 D (.dK (putK kvs k z)))
theorem w_kDK {tv : TE} {Nx : Hp → Prop} {σ2 : St'} {y : V} (q : tv σ2 H (kDV D Nx y)) : kDK tv D Nx σ2 y H := q
theorem w_kDV {Nx : Hp → Prop} {z : V} (h : H D = some (.dK kvs)) (hl : kvs.length < sizeLine) (q : Nx (upd H D (.dK (putK kvs (.inl i) z)))) : kDV D Nx (.int i) z H := ⟨kvs, .inl i, rfl, h, hl, q⟩
end
theorem w_newK {σ : St'} {H : Hp} {Q : VK} (q : ∀ p, H p = none → Q (.ref p) (upd H p (.dK []))) : tDNewK σ H Q := q
theorem w_tAug {i : Nat} {te : TE} {ti : TIp} {x : V} {σ : St'} {H : Hp} {n b d : St' → Hp → Prop} {rt : VK} (h : σ[i]? = some (some x)) (q : te σ H fun y H1 => ti x y H1 fun z H2 => n (σ.set i (some z)) H2) : tAug i te ti ⟨n, rt, b, d⟩ σ H := ⟨x, h, q⟩
theorem w_ipI {f : Int → Int → Int} {i j : Int} {H : Hp} {Q : VK} (q : Q (.int (f i j)) H) : ipI f (.int i) (.int j) H Q := ⟨i, j, rfl, rfl, q⟩
theorem u1 {a : Nat} (h : a + 64 < cLine) : a + 1 < cLine := by omega

/-! part P20a -/
/-! ### throw -/
structure Core (x y : Blk) : Prop where
  a : y.a = x.a
  st : y.start = x.start
  ro : y.rows = x.rows
  sp : y.spots = x.spots
  ra : y.ra = x.ra
  sa : y.sa = x.sa
theorem Core.refl (x : Blk) : Core x x := ⟨rfl, rfl, rfl, rfl, rfl, rfl⟩
theorem Core.trans {x y z : Blk} (h : Core x y) (g : Core y z) : Core x z := ⟨g.a.trans h.a, g.st.trans h.st, g.ro.trans h.ro, g.sp.trans h.sp, g.ra.trans h.ra, g.sa.trans h.sa⟩
def IsB (K : PySem.W.Frag) (H : Hp) (a : Addr) (st : Int) : Prop := ∃ dx fs, H a = some (.ins (cB K) dx fs) ∧ fs.lookup ("start" : Str) = some (.int st)
section
variable {K : PySem.W.Frag} {H H' : Hp} {d d' : TD} {π : TP} {b : Blk} {a x : Addr} {st st' : Int} {Q : VK} {o : HO}
theorem IsB.fr (F : FrT K d H H' d') (h : IsB K H a st) : IsB K H' a st := let ⟨dx, fs, h1, h2⟩ := h; F.ob a dx fs _ h1 h2
theorem IsB.same (F : Same H H') (h : IsB K H a st) : IsB K H' a st := let ⟨dx, fs, h1, h2⟩ := h; ⟨dx, fs, F _ _ h1, h2⟩
theorem IsB.new (hx : H x = none) (h : IsB K H a st) : IsB K (upd H x o) a st := IsB.same (Ext.new hx) h
theorem TH.isB (R : TH K H d π) (hb : b ∈ d.bs) : IsB K H b.a b.start := let ⟨_, ho⟩ := (R.bl b hb).ob; ⟨_, _, ho, rfl⟩
theorem g_isB (h : IsB K H a st) (q : Q (.int st) H) : kF (cB K) "start" Q (.ref a) H := let ⟨_, _, h1, h2⟩ := h; w_kF h1 h2 q
theorem w_eqBN (hb : IsB K H a st) (q : Q (.bl false) H) : rEqR K (cB K) .non (.ref a) H Q := let ⟨_, _, h1, _⟩ := hb; w_eqRN h1 q
theorem w_eqBB (ha : IsB K H a st) (hb : IsB K H x st') (q : Q (.bl (decide (a = x))) H) : rEqR K (cB K) (.ref a) (.ref x) H Q := let ⟨_, _, h1, _⟩ := ha; let ⟨_, _, h2, _⟩ := hb; w_eqRR h1 h2 q
/-- a list apart from the state is not owned -/
theorem TH.notOwnL (R : TH K H d π) {l : Addr} {xs : List V} (h : H l = some (.lst xs)) (n : ¬ d.L.In d.sp l) : ¬ Own d l := by
  obtain ⟨dx, k, ho⟩ := R.ob
  rintro (e | e | e | ⟨b, hb, e | e⟩)
  · rw [e, ho] at h; cases h
  · exact n e
  · have ht := R.tb
    rw [e] at h
    rcases tbO_cases π.fz (tbD d.bs) with z | ⟨o, z⟩ <;> rw [z, h] at ht <;> cases ht
  · obtain ⟨g, hg⟩ := (R.bl b hb).ob
    rw [e, hg] at h; cases h
  · rw [e, (R.bl b hb).ch] at h; cases h
/-- the chains' place of a block moved to a new dict -/
theorem FrT.snocCh {d0 : TD} {H0 : Hp} {D : Addr} {cs : List (Int × Addr)} {dx dx' : Addr} {fs fs' : List (Str × V)} (hb : b ∈ d.bs) (ho : H b.a = some (.ins (cB K) dx fs)) (e : fs'.lookup ("start" : Str) = fs.lookup ("start" : Str)) (hD : H0 D = none) (F : FrT K d0 H0 H d) :
    FrT K d0 H0 (upd H b.a (.ins (cB K) dx' fs')) { d with bs := d.bs.map (upB b.a fun x => { x with ca := D, chains := cs }) } := by
  have F2 : FrT K d H (upd H b.a (.ins (cB K) dx' fs')) d := FrT.putB (own_a hb) ho e fun _ h => .inl h
  have h5 : LW H0 d0.bs (d.bs.map (upB b.a fun x => { x with ca := D, chains := cs })) := fun b' hb' => by
    obtain ⟨x, hx, rfl⟩ := List.mem_map.mp hb'
    by_cases e : x.a = b.a
    · rw [upB_y e]; exact F.lw x hx
    · rw [upB_n e]; exact F.lw x hx
  obtain ⟨h1, h2, _, h3, h4⟩ := F.trans F2
  refine ⟨h1, fun y hy => ?_, h5, h3, h4⟩
  rcases hy with z | z | z | ⟨y', hy', z⟩
  · exact h2 y (.inl z)
  · exact h2 y (.inr (.inl z))
  · exact h2 y (.inr (.inr (.inl z)))
  · obtain ⟨w', hw, rfl⟩ := List.mem_map.mp hy'
    by_cases q : w'.a = b.a
    · rw [upB_y q] at z
      rcases z with z | z
      · exact h2 y (.inr (.inr (.inr ⟨w', hw, .inl z⟩)))
      · exact .inr (by rw [z]; exact hD)
    · rw [upB_n q] at z
      exact h2 y (.inr (.inr (.inr ⟨w', hw, z⟩)))
end
/-- what is behind the first i of xs thrown -/
structure Part (d d' : TD) (xs : List Blk) (i : Nat) : Prop where
  m : d'.m = d.m
  sp : d'.sp = d.sp
  ta : d'.ta = d.ta
  L : d'.L = d.L
  at_ : d'.at_ = d.at_
  sub : ∀ b' ∈ d'.bs, ∃ b ∈ d.bs, Core b b' ∧ ∀ x ∈ xs.take i, x.a ≠ b.a
  left : ∀ x ∈ xs.drop i, ∃ b ∈ d'.bs, Core x b
  len : d'.bs.length + i = d.bs.length
  now : d'.now = none ∨ d'.now = d.now
  come : d'.come = none ∨ d'.come = d.come
structure Norm (π : TP) : Prop where
  T : ∀ j k a, ¬ π.T j k a
  W : ∀ a, ¬ π.W a
  fz : π.fz = none
  n : π.n ≤ 1000
section
variable {K : PySem.W.Frag} {H : Hp} {d : TD} {π : TP} {b : Blk} {a mm : Addr} {st : Int} {Q : VK} {σ : St'} {n bk ct : St' → Hp → Prop} {rt : VK}
theorem TH.find_st (R : TH K H d π) (hb : b ∈ d.bs) : d.bs.find? (fun x => decide (x.start = b.start)) = some b := by
  cases e : d.bs.find? (fun x => decide (x.start = b.start)) with
  | none => exact absurd (List.find?_eq_none.mp e b hb) (by simp)
  | some c =>
    have h1 := List.find?_some e
    rw [R.eq_st (List.mem_of_find?_eq_some e) hb (of_decide_eq_true h1)]
theorem t_pop (R : TH K H d π) (nπ : Norm π) (hb : b ∈ d.bs) (hm : d.ta = mm)
    (q : ∀ H', TH K H' { d with bs := d.bs.filter fun x => decide (x.start ≠ b.start) } { π with T := fun _ k a => k = b.start ∧ a = b.a, W := fun a => a = b.a } → FrT K d H H' { d with bs := d.bs.filter fun x => decide (x.start ≠ b.start) } → Q (.ref b.a) H') : kPopK mm Q (.int b.start) H := by
  subst hm
  have ht := R.tb
  rw [nπ.fz] at ht
  refine w_kPopK ht (by rw [val_tbD, R.find_st hb]; rfl) ?_
  rw [drop_tbD]
  have mem : ∀ {x}, x ∈ d.bs.filter (fun x => decide (x.start ≠ b.start)) → x ∈ d.bs ∧ x.start ≠ b.start := fun hx => let ⟨h1, h2⟩ := List.mem_filter.mp hx; ⟨h1, of_decide_eq_true h2⟩
  have out : ∀ {x}, x ∈ d.bs → x ∈ d.bs.filter (fun x => decide (x.start ≠ b.start)) ∨ x = b := fun {x} hx => by
    by_cases e : x.start = b.start
    · exact .inr (R.eq_st hx hb e)
    · exact .inl (List.mem_filter.mpr ⟨hx, decide_eq_true e⟩)
  refine q _ (R.setTb _ { π with T := fun _ k a => k = b.start ∧ a = b.a, W := fun a => a = b.a } ⟨rfl, rfl, rfl, rfl⟩ _ (by rw [show tbO ({ π with T := fun _ k a => k = b.start ∧ a = b.a, W := fun a => a = b.a } : TP).fz = tbO none by rw [← nπ.fz]]; rfl) (fun x hx => .inl (mem hx).1) (R.pw.filter _) (Nat.le_trans (List.length_filter_le _ _) R.le) (fun a h => ?_) (fun a h => ?_) (fun j x k a hj hx => ?_)) (FrT.put own_ta ht (fun _ _ z => by cases z) fun x h => .inl ?_)
  · rcases R.nw a h with ⟨x, hx, e⟩ | z
    · rcases out hx with q | q
      · exact .inl ⟨x, q, e⟩
      · exact .inr (by rw [← e, q])
    · exact absurd z (nπ.W a)
  · rcases R.cm a h with ⟨x, hx, e⟩ | z
    · rcases out hx with q | q
      · exact .inl ⟨x, q, e⟩
      · exact .inr (by rw [← e, q])
    · exact absurd z (nπ.W a)
  · obtain ⟨i, hi⟩ := List.getElem?_of_mem (mem (at_mem hj)).1
    rcases R.cv i x k a hi hx with ⟨g, hg, e1, e2⟩ | z
    · rcases out hg with q | q
      · exact .inl ⟨g, q, e1, e2⟩
      · exact .inr ⟨by rw [← e2, q], by rw [← e1, q]⟩
    · exact absurd z (nπ.T i k a)
  · rcases h with e | e | e | ⟨y, hy, e⟩
    · exact .inl e
    · exact .inr (.inl e)
    · exact .inr (.inr (.inl e))
    · exact .inr (.inr (.inr ⟨y, (mem hy).1, e⟩))
theorem t_ifNow (R : TH K H d π) (hm : d.m = mm) (hI : IsB K H a st) (hW : ∀ x, π.W x → x = a) (h0 : σ[0]? = some (some (.ref mm))) (h2 : σ[2]? = some (some (.ref a)))
    (q : ∀ H' o, TH K H' { d with now := o } π → FrT K d H H' { d with now := o } → (o = none ∨ o = d.now) → o ≠ some a → n σ H') : tIfS (tTest (tOp (rEqR K (cB K)) (tF (cT K) "now" (tVar 0)) (tVar 2))) (sF_ (cT K) "now" (tVar 0) (tC V.non)) tNext ⟨n, rt, bk, ct⟩ σ H := by
  refine w_ifS (w_test (w_op (w_F (w_var h0 (g_tF (v := optR d.now) R hm (fun _ => rfl) (w_var h2 ?_))))))
  cases e : d.now with
  | none =>
    refine w_eqBN hI (w_kB (kI_F (w_next ?_)))
    exact q H none (by rw [← e]; exact R) (by rw [← e]; exact .refl) (.inl rfl) (fun z => by cases z)
  | some x =>
    have hx : ∃ st', IsB K H x st' := by
      rcases R.nw x e with ⟨g, hg, e2⟩ | z
      · exact ⟨_, e2 ▸ R.isB hg⟩
      · exact ⟨st, (hW x z) ▸ hI⟩
    obtain ⟨st', hx⟩ := hx
    refine w_eqBB hx hI (w_kB ?_)
    by_cases exa : x = a
    · rw [decide_eq_true exa]
      refine kI_T (w_sF (w_C (w_var h0 ?_)))
      exact p_tNowN R hm fun H' R' F' => q H' none R' F' (.inl rfl) (fun z => by cases z)
    · rw [decide_eq_false exa]
      refine kI_F (w_next (q H (some x) (by rw [← e]; exact R) (by rw [← e]; exact .refl) (.inr e.symm) (fun z => exa (by injection z))))
theorem t_ifCome (R : TH K H d π) (hm : d.m = mm) (hI : IsB K H a st) (hW : ∀ x, π.W x → x = a) (h0 : σ[0]? = some (some (.ref mm))) (h2 : σ[2]? = some (some (.ref a)))
    (q : ∀ H' o, TH K H' { d with come := o } π → FrT K d H H' { d with come := o } → (o = none ∨ o = d.come) → o ≠ some a → n σ H') : tIfS (tTest (tOp (rEqR K (cB K)) (tF (cT K) "come" (tVar 0)) (tVar 2))) (sF_ (cT K) "come" (tVar 0) (tC V.non)) tNext ⟨n, rt, bk, ct⟩ σ H := by
  refine w_ifS (w_test (w_op (w_F (w_var h0 (g_tF (v := optR d.come) R hm (fun _ => rfl) (w_var h2 ?_))))))
  cases e : d.come with
  | none =>
    refine w_eqBN hI (w_kB (kI_F (w_next ?_)))
    exact q H none (by rw [← e]; exact R) (by rw [← e]; exact .refl) (.inl rfl) (fun z => by cases z)
  | some x =>
    have hx : ∃ st', IsB K H x st' := by
      rcases R.cm x e with ⟨g, hg, e2⟩ | z
      · exact ⟨_, e2 ▸ R.isB hg⟩
      · exact ⟨st, (hW x z) ▸ hI⟩
    obtain ⟨st', hx⟩ := hx
    refine w_eqBB hx hI (w_kB ?_)
    by_cases exa : x = a
    · rw [decide_eq_true exa]
      refine kI_T (w_sF (w_C (w_var h0 ?_)))
      exact p_tComeN R hm fun H' R' F' => q H' none R' F' (.inl rfl) (fun z => by cases z)
    · rw [decide_eq_false exa]
      refine kI_F (w_next (q H (some x) (by rw [← e]; exact R) (by rw [← e]; exact .refl) (.inr e.symm) (fun z => exa (by injection z))))
end

local macro_rules | `(tactic| fail "th") => `(tactic| first | with_reducible assumption | ((with_reducible refine' TH.new ?h1 ?h2); (case h1 => assumption); (case h2 => fail "th")) | ((with_reducible refine' TH.same ?h1 ?h2); (case h1 => with_reducible assumption); (case h2 => fail "th")) | fail)
local macro_rules | `(tactic| fail "ft") => `(tactic| first | with_reducible assumption | with_reducible exact FrT.refl | ((with_reducible refine' FrT.snoc ?h1 ?h2); (case h1 => with_reducible assumption); (case h2 => fail "ft")) | ((with_reducible refine' FrT.snocN ?h1 ?h2); (case h1 => assumption); (case h2 => fail "ft")) | ((with_reducible refine' FrT.snocS ?h1 ?h2); (case h1 => with_reducible assumption); (case h2 => fail "ft")) | fail)
local macro_rules | `(tactic| fail "tb_0") => `(tactic| first | ((with_reducible refine' t_ifNow ?R ?m ?I ?W ?p ?q (fun _ _ _ _ _ _ => ?_)); (case p => rfl); (case q => rfl); (case R => fail "th"); (case m => rfl); (case I => fail "ib"); (case W => exact fun _ z => z)) | ((with_reducible refine' t_ifCome ?R ?m ?I ?W ?p ?q (fun _ _ _ _ _ _ => ?_)); (case p => rfl); (case q => rfl); (case R => fail "th"); (case m => rfl); (case I => fail "ib"); (case W => exact fun _ z => z)) | ((with_reducible refine' g_isB ?h ?_); (case h => fail "ib")) | ((with_reducible refine' w_eqBN ?h ?_); (case h => fail "ib")) | ((with_reducible refine' w_eqBB ?h ?g ?_); (case h => fail "ib"); (case g => fail "ib")) | ((with_reducible refine' g_tF ?h ?e ?l ?_); (case h => fail "th"); (case e => rfl); (case l => (intro _; rfl))) | ((with_reducible refine' g_tM ?h ?e ?l ?_); (case h => fail "th"); (case e => rfl); (case l => (intro _; rfl))) | ((with_reducible refine' g_bF ?h ?m ?e ?l ?_); (case h => fail "th"); (case e => rfl); (case m => assumption); (case l => (intro _; rfl))) | ((with_reducible refine' g_bM ?h ?m ?e ?l ?_); (case h => fail "th"); (case e => rfl); (case m => assumption); (case l => (intro _; rfl))) | ((with_reducible refine' p_clock ?h ?e (fun _ _ _ => ?_)); (case h => fail "th"); (case e => rfl)) | fail)
local macro_rules | `(tactic| fail "tb_1") => `(tactic| first | ((with_reducible refine' p_made ?h ?e (fun _ _ _ => ?_)); (case h => fail "th"); (case e => rfl)) | ((with_reducible refine' p_looked ?h ?e (fun _ _ _ => ?_)); (case h => fail "th"); (case e => rfl)) | ((with_reducible refine' p_chained ?h ?e (fun _ _ _ => ?_)); (case h => fail "th"); (case e => rfl)) | ((with_reducible refine' p_thrown ?h ?e (fun _ _ _ => ?_)); (case h => fail "th"); (case e => rfl)) | ((with_reducible refine' p_begun ?h ?m ?e (fun _ _ _ => ?_)); (case h => fail "th"); (case e => rfl); (case m => assumption)) | ((with_reducible refine' p_last ?h ?m ?e (fun _ _ _ => ?_)); (case h => fail "th"); (case e => rfl); (case m => assumption)) | ((with_reducible refine' p_tNowN ?h ?e (fun _ _ _ => ?_)); (case h => fail "th"); (case e => rfl)) | ((with_reducible refine' p_tComeN ?h ?e (fun _ _ _ => ?_)); (case h => fail "th"); (case e => rfl)) | ((with_reducible refine' p_tNowS ?h ?m ?e (fun _ _ _ => ?_)); (case h => fail "th"); (case e => rfl); (case m => assumption)) | ((with_reducible refine' p_tComeS ?h ?m ?e (fun _ _ _ => ?_)); (case h => fail "th"); (case e => rfl); (case m => assumption)) | fail)
local macro_rules | `(tactic| fail "tb_2") => `(tactic| first | ((with_reducible refine' p_tAt ?h ?e (fun _ _ _ => ?_)); (case h => fail "th"); (case e => rfl)) | ((with_reducible refine' p_tAtAug ?h ?e (fun _ _ _ => ?_)); (case h => fail "th"); (case e => rfl)) | (with_reducible refine w_newK (fun _ _ => ?_)) | ((with_reducible refine' w_tAug ?h ?_); (case h => rfl)) | (with_reducible refine w_ipI ?_) | (with_reducible refine w_dpop ?_) | (with_reducible refine w_dc ?_) | ((with_reducible refine' w_kDTgt ?h ?_); (case h => rfl)) | (with_reducible refine w_kDK ?_) | ((with_reducible refine kDTurn_y ?h ?_); (case h => fail "pr")) | fail)
local macro_rules | `(tactic| fail "tb_3") => `(tactic| first | ((with_reducible refine kDTurn_n ?h ?_); (case h => fail "pr")) | fail "s" | fail)
local macro_rules | `(tactic| fail "t") => `(tactic| first | fail "q0" | fail "q1" | fail "tb_0" | fail "tb_1" | fail "tb_2" | fail "tb_3" | fail)
local macro_rules | `(tactic| fail "TT") => `(tactic| repeat fail "t")
local macro_rules | `(tactic| fail "ib") => `(tactic| first | with_reducible assumption | ((with_reducible refine' IsB.new ?h1 ?h2); (case h1 => assumption); (case h2 => fail "ib")) | ((with_reducible refine' IsB.fr ?h1 ?h2); (case h1 => with_reducible assumption); (case h2 => fail "ib")) | ((with_reducible refine' IsB.same ?h1 ?h2); (case h1 => with_reducible assumption); (case h2 => fail "ib")) | fail)
/-! part P20c -/
section
variable {K : PySem.W.Frag} {H : Hp} {d : TD} {π : TP} {a mm : Addr} {st : Int} {o1 o3 o4 o5 : Option V} {n bk ct : St' → Hp → Prop} {rt : VK}
theorem core_tbD : ∀ {bs bs' : List Blk}, Paired Core bs bs' → tbD bs' = tbD bs
  | _, _, .nil => rfl
  | _, _, .cons h t => by
    show ((.inl _, .ref _) :: tbD _) = ((.inl _, .ref _) :: tbD _)
    rw [h.a, h.st, core_tbD t]
theorem core_refl : ∀ bs : List Blk, Paired Core bs bs
  | [] => .nil
  | b :: bs => .cons (.refl b) (core_refl bs)
theorem core_at {bs bs' : List Blk} (P : Paired Core bs bs') {j : Nat} {b : Blk} (h : bs[j]? = some b) : ∃ b', bs'[j]? = some b' ∧ Core b b' := Paired.at P h
theorem core_map {bs bs' : List Blk} {g : Blk → Blk} (hg : ∀ x, Core x (g x)) : Paired Core bs bs' → Paired Core bs (bs'.map g)
  | .nil => .nil
  | .cons h t => .cons (h.trans (hg _)) (core_map hg t)
theorem core_upB {x : Blk} {a : Addr} {f : Blk → Blk} (hf : ∀ x, Core x (f x)) : Core x (upB a f x) := by
  by_cases e : x.a = a
  · rw [upB_y e]; exact hf x
  · rw [upB_n e]; exact .refl x
theorem inl_chD {cs : List (Int × Addr)} {i : Nat} {x : Key × V} (h : (chD cs)[i]? = some x) : ∃ k a, cs[i]? = some (k, a) ∧ x = (.inl k, .ref a) := by
  unfold chD at h
  rw [List.getElem?_map] at h
  cases e : cs[i]? with
  | none => rw [e] at h; cases h
  | some q => rw [e] at h; injection h with h; exact ⟨q.1, q.2, rfl, h.symm⟩
theorem inl_tbD {bs : List Blk} {i : Nat} {x : Key × V} (h : (tbD bs)[i]? = some x) : ∃ b, bs[i]? = some b ∧ x = (.inl b.start, .ref b.a) := by
  unfold tbD at h
  rw [List.getElem?_map] at h
  cases e : bs[i]? with
  | none => rw [e] at h; cases h
  | some q => rw [e] at h; injection h with h; exact ⟨q, rfl, h.symm⟩
theorem t_sweep (R : TH K H d π) (hT : ∀ j k x, π.T j k x → k = st ∧ x = a) (hfz : π.fz = none) (hnn : π.n ≤ 1000) (hI : IsB K H a st) (hm : d.m = mm)
    (q : ∀ H' bs' o3 o4 o5, TH K H' { d with bs := bs' } { π with T := fun _ _ _ => False } → FrT K d H H' { d with bs := bs' } → Paired Core d.bs bs' → n [some (.ref mm), o1, some (.ref a), o3, o4, o5] H') :
    tLock (tFor (iVals (tF (cT K) "table" (tVar 0))) (gName 3)
      (sF_ (cB K) "chains" (tVar 3)
        (tLockE
          (tDc (iItems (tF (cB K) "chains" (tVar 3))) (gTup K 2 (gCons (gName 4) (gCons (gName 5) gNil)))
            (tTest (tOp rNe (tF (cB K) "start" (tVar 5)) (tF (cB K) "start" (tVar 2))))
            (tVar 4) (tVar 5) (List.map (fun x => x.snd) [(("place" : Str), 4), (("goal" : Str), 5)]))))) ⟨n, rt, bk, ct⟩ [some (.ref mm), o1, some (.ref a), o3, o4, o5] H := by
  subst hm
  have ht := R.tb
  rw [hfz] at ht
  refine w_lock ht trivial fun od => ?_
  have R1 : TH K (upd H d.ta (.frz od (tbO none (tbD d.bs)))) d { π with fz := some od } := R.lock (some od) rfl
  have F1 : FrT K d H (upd H d.ta (.frz od (tbO none (tbD d.bs)))) d := FrT.put own_ta ht (fun _ _ z => by cases z) fun _ h => .inl h
  have I1 := hI.fr F1
  generalize hH1 : upd H d.ta (.frz od (tbO none (tbD d.bs))) = H1 at R1 F1 I1 ⊢
  fail "TT"
  refine w_kDv (kvs := tbD d.bs) R1.tb ?_
  refine w_forJ walk_values (fun j σ H' => (∃ o3 o4 o5, σ = [some (.ref d.m), o1, some (.ref a), o3, o4, o5]) ∧ ∃ bs', TH K H' { d with bs := bs' } { π with fz := some od, T := fun i k x => j ≤ i ∧ k = st ∧ x = a } ∧ FrT K d H H' { d with bs := bs' } ∧ Paired Core d.bs bs' ∧ IsB K H' a st)
    ⟨⟨_, _, _, rfl⟩, d.bs, R1.wT _ _ (fun j b k x _ _ h => ⟨Nat.zero_le _, hT j k x h⟩) (fun _ _ h => h) (fun _ _ h => h), F1, core_refl _, I1⟩
    (fun j σ H' _ ⟨_, bs', R', _, P', _⟩ => by have := R'.tb; rw [show tbD ({ d with bs := bs' } : TD).bs = tbD d.bs from core_tbD P'] at this; exact this) ?_ ?_
  · rintro j x σ H2 H' hj ⟨⟨o3, o4, o5, rfl⟩, bs', R2, F2, P2, I2⟩ ⟨rfl, kk, hk⟩
    obtain ⟨c0, hc0, e0⟩ := inl_tbD hk
    injection e0 with _ e0
    subst e0
    obtain ⟨c, hc, cc⟩ := core_at P2 hc0
    have hcb : c ∈ ({ d with bs := bs' } : TD).bs := at_mem hc
    rw [← cc.a]
    fail "TT"
    have hch := (R2.bl c hcb).ch
    refine w_lockE hch trivial fun oc => ?_
    obtain ⟨g, hob⟩ := (R2.bl c hcb).ob
    have nb : c.a ≠ c.ca := fun e => by rw [e, hch] at hob; cases hob
    have hfr : upd H' c.ca (.frz oc (.dK (chD c.chains))) c.ca = some (.frz oc (.dK (chD c.chains))) := upd_same
    have hobc : upd H' c.ca (.frz oc (.dK (chD c.chains))) c.a = some (.ins (cB K) c.dx (bF c g)) := by rw [upd_ne nb]; exact hob
    have ib : ∀ {x s}, IsB K H' x s → IsB K (upd H' c.ca (.frz oc (.dK (chD c.chains)))) x s := fun {x s} ⟨dx, fs, h1, h2⟩ => ⟨dx, fs, by rw [upd_ne (fun e => by rw [e, hch] at h1; cases h1)]; exact h1, h2⟩
    have low : ∀ x, upd H' c.ca (.frz oc (.dK (chD c.chains))) x = none → H' x = none := fun x h => fresh_new h
    have uns : ∀ {H3}, Same (upd H' c.ca (.frz oc (.dK (chD c.chains)))) H3 → Same H' (upd H3 c.ca (.dK (chD c.chains))) := fun h => unlock_same hch h
    generalize upd H' c.ca (.frz oc (.dK (chD c.chains))) = Hc at hfr hobc ib low uns ⊢
    have Ic := ib I2
    fail "TT"
    refine w_kDi hfr ?_
    refine w_dcJ walk_items (fun D i H3 => ∃ cs', H3 D = some (.dK (chD cs')) ∧ cs'.length ≤ i ∧ (∀ k x, (k, x) ∈ cs' → (k, x) ∈ c.chains ∧ k ≠ st) ∧ Same Hc H3) (fun D hD => ⟨[], upd_same, Nat.le_refl _, (fun _ _ z => by cases z), Ext.new hD⟩) (fun D i H3 hD _ ⟨_, _, _, _, h4⟩ => h4 _ _ hfr) ?_ ?_
    · rintro D i x H3 H4 hD hi ⟨cs', h1, h2, h3, h4⟩ ⟨t, y, z, rfl, htn, rfl, hy, hz⟩
      have hy : (chD c.chains)[i]?.map (fun kv => kV kv.1) = some y := hy
      have hz : (chD c.chains)[i]?.map Prod.snd = some z := hz
      cases ei : (chD c.chains)[i]? with
      | none => rw [ei] at hy; cases hy
      | some q =>
        obtain ⟨k, x, hkx, rfl⟩ := inl_chD ei
        rw [ei] at hy hz
        injection hy with hy
        injection hz with hz
        subst hy
        subst hz
        have hin : (k, x) ∈ c.chains := at_mem hkx
        have Ix : IsB K Hc x k := by
          rcases R2.cv j c k x hc hin with ⟨g, hg, e1, e2⟩ | ⟨_, e1, e2⟩
          · rw [← e1, ← e2]; exact ib (R2.isB hg)
          · rw [e1, e2]; exact Ic
        have Ix3 := Ix.same h4
        have Ic3 := Ic.same h4
        fail "TT"
        by_cases ek : k = st
        · fail "TT"
          exact ⟨cs', by fail "hf", Nat.le_succ_of_le h2, h3, Same.snocN htn h4⟩
        · fail "TT"
          refine w_kDV (kvs := chD cs') (by fail "hf") (by
            have h5 : (chD cs').length = cs'.length := List.length_map ..
            have h6 : (chD c.chains).length = c.chains.length := List.length_map ..
            have h7 := R2.cl c hcb
            have h8 : c.chains.length ≤ π.n := h7
            rw [sizeLine_eq]
            omega) ?_
          rw [put_chD]
          refine ⟨putC cs' k x, upd_same, Nat.le_trans (putC_len _ _ _) (Nat.succ_le_succ h2), fun k' x' hm => ?_, Same.mutD hD (Same.snocN htn h4)⟩
          rcases putC_mem hm with z | ⟨e1, e2⟩
          · exact h3 k' x' z
          · rw [e1, e2]; exact ⟨hin, ek⟩
    · rintro D H3 hD ⟨cs', h1, h2, h3, h4⟩
      refine ⟨h4 _ _ hfr, ?_⟩
      have S6 := uns h4
      have nD : D ≠ c.ca := fun e => by rw [e, hfr] at hD; cases hD
      have hD6 : upd H3 c.ca (.dK (chD c.chains)) D = some (.dK (chD cs')) := by rw [upd_ne nD]; exact h1
      generalize upd H3 c.ca (.dK (chD c.chains)) = H6 at S6 hD6 ⊢
      have R6 := R2.same S6
      have hob6 := S6 _ _ hob
      have hDn := low D hD
      refine w_var (v := .ref c.a) (by rfl) (w_kSF hob6 (Nat.le_of_ble_eq_true rfl) ?_)
      have hsub : ∀ k x, (k, x) ∈ cs' → ∃ y ∈ bs', y.a = x ∧ y.start = k := fun k x hx => by
        rcases R2.cv j c k x hc (h3 k x hx).1 with z | ⟨_, e1, _⟩
        · exact z
        · exact absurd e1 (h3 k x hx).2
      have R7 := R6.setB hcb (fun x => { x with ca := D, chains := cs' }) (fun i k x => j + 1 ≤ i ∧ k = st ∧ x = a) (fun _ => ⟨rfl, rfl, rfl, rfl, rfl, rfl⟩) g hD6 (fun x hx _ e => by have := (R2.bl x hx).ch; rw [e, hDn] at this; cases this) (fun e => by have := R2.tb; rw [show ({ d with bs := bs' } : TD).ta = d.ta from rfl, ← e, hDn] at this; cases this)
        (fun i k x _ hx => .inl (hsub k x hx)) (fun i x k y hi hne ⟨h5, h6⟩ => ⟨by rcases Nat.lt_or_ge j i with q | q; exact q; exact absurd (by have e : i = j := Nat.le_antisymm q h5; subst e; rw [hc] at hi; injection hi with hi; rw [hi]) hne, h6⟩) (by
          have hle : (chD c.chains).length = c.chains.length := List.length_map ..
          rw [hle] at h2
          exact Nat.le_trans h2 (R2.cl c hcb))
      have F6 : FrT K d H H6 { d with bs := bs' } := FrT.snocS S6 F2
      refine ⟨⟨_, _, _, rfl⟩, _, R7, FrT.snocCh hcb hob6 rfl (F2.dm _ hDn) F6, core_map (fun x => core_upB fun y => ⟨rfl, rfl, rfl, rfl, rfl, rfl⟩) P2, (I2.same S6).fr (FrT.putB (d := { d with bs := bs' }) (d1 := { d with bs := bs' }) (fs' := putF "chains" (.ref D) (bF c g)) (own_a hcb) hob6 rfl fun _ h => .inl h)⟩
  · rintro σ H' ⟨⟨o3, o4, o5, rfl⟩, bs', R2, F2, P2, I2⟩
    have ht2 := R2.tb
    rw [show tbD ({ d with bs := bs' } : TD).bs = tbD d.bs from core_tbD P2] at ht2
    refine ⟨ht2, q _ bs' _ _ _ ?_ (F2.trans (FrT.put own_ta ht2 (fun _ _ z => by cases z) fun _ h => .inl h)) P2⟩
    have R3 := R2.lock none (o := tbO none (tbD d.bs)) (by rw [show tbD ({ d with bs := bs' } : TD).bs = tbD d.bs from core_tbD P2])
    have R4 := R3.wT (fun _ _ _ => False) π.W (fun i b k x hi _ h => by
      have h1 : i < bs'.length := (List.getElem?_eq_some_iff.mp hi).1
      have h2 := Paired.length P2
      have h3 : (tbD d.bs).length = d.bs.length := List.length_map ..
      have h4 := h.1
      omega) (fun _ _ h => h) (fun _ _ h => h)
    rw [show ({ π with T := fun _ _ _ => False } : TP) = { π with T := fun _ _ _ => False, fz := none } by rw [← hfz]]
    exact R4
end
theorem filter_len {b : Blk} : ∀ {bs : List Blk}, bs.Pairwise Apart → b ∈ bs → (bs.filter fun x => decide (x.start ≠ b.start)).length + 1 = bs.length
  | [], _, h => by cases h
  | c :: bs, hp, h => by
    obtain ⟨h1, h2⟩ := List.pairwise_cons.mp hp
    rcases List.mem_cons.mp h with e | h
    · subst e
      have : (bs.filter fun x => decide (x.start ≠ b.start)) = bs := List.filter_eq_self.mpr fun x hx => decide_eq_true (h1 x hx).1.symm
      rw [List.filter_cons_of_neg (by simp), this]
      rfl
    · rw [List.filter_cons_of_pos (by simpa using (h1 b h).1)]
      show (bs.filter fun x => decide (x.start ≠ b.start)).length + 1 + 1 = bs.length + 1
      rw [filter_len h2 h]
theorem paired_mem {α β : Type} {F : α → β → Prop} {y : β} : ∀ {l : List α} {m : List β}, Paired F l m → y ∈ m → ∃ x ∈ l, F x y
  | _, _, .nil, h => by cases h
  | _, _, .cons r t, h => by
    rcases List.mem_cons.mp h with rfl | h
    · exact ⟨_, List.mem_cons_self, r⟩
    · obtain ⟨x, hx, q⟩ := paired_mem t h
      exact ⟨x, List.mem_cons_of_mem _ hx, q⟩
theorem paired_mem' {α β : Type} {F : α → β → Prop} {x : α} : ∀ {l : List α} {m : List β}, Paired F l m → x ∈ l → ∃ y ∈ m, F x y
  | _, _, .nil, h => by cases h
  | _, _, .cons r t, h => by
    rcases List.mem_cons.mp h with rfl | h
    · exact ⟨_, List.mem_cons_self, r⟩
    · obtain ⟨x, hx, q⟩ := paired_mem' t h
      exact ⟨x, List.mem_cons_of_mem _ hx, q⟩

/-! part P20throw -/
def rThrow (K : PySem.W.Frag) (a b : V) (H : Hp) (Q : VK) : Prop := ∃ (d : TD) (π : TP) (l : Addr) (xs : List Blk), a = .ref d.m ∧ b = .ref l ∧ TH K H d π ∧ Norm π ∧ H l = some (.lst (xs.map fun x => .ref x.a)) ∧ ¬ d.L.In d.sp l ∧ (∀ x ∈ xs, x ∈ d.bs) ∧ xs.Pairwise (fun x y => x.a ≠ y.a) ∧
  ∀ H' d', TH K H' d' π → FrT K d H H' d' → Part d d' xs xs.length → Q .non H'
section
variable {P : Program} {w : World} {K : PySem.W.Frag} {mg : Str → Option Value} {base : Heap}
theorem ok_Turner_throw (T : Txt w K mg) : MDef P w K mg base (cT K) "throw" 1 [] (sp2 (rThrow K)) := by
  obtain ⟨f, fd, F, M⟩ := T.d_Turner_throw
  refine ⟨f, fd, _, _, F.ok sc_Turner_throw (fun vs H Q E h => ?_) (fun cdv A outer s0 H vs Q E hr h => ?_), M, F.bindsN fun _ _ _ _ _ _ us hl => match us, hl with | [_, _], _ => rfl, .nil⟩
  · obtain ⟨_, _, rfl, _⟩ := h
    rfl
  · obtain ⟨_, _, rfl, d, π, l, xs, rfl, rfl, R, nπ, hl, nl, hin, hpw, k⟩ := h
    refine ⟨_, (pss_one (ps_for (passes_of rfl) rfl (pi_list (pv 1)) (pg_name (i := 2) sc_Turner_throw.nd rfl (by first | exact .inl rfl | exact .inr rfl))
 (pss_cons (ps_expr (pe_dpop1 (pe_f (pv 0) T.cl_Turner T.n_Turner_table) (pe_f (pv 2) T.cl_Block T.n_Block_start) ⟨by rfl, by rfl, by rfl, by rfl⟩))
 (pss_cons (ps_fa (pv 0) pe_int in_add T.cl_Turner T.n_Turner_thrown)
 (pss_cons (ps_if (pt_cmpR (op_eqR T.o_Block hr.units) (pe_f (pv 0) T.cl_Turner T.n_Turner_now) (pv 2) (nomark _))
 (pss_one (ps_f (pv 0) pe_non T.cl_Turner T.n_Turner_now))
 pss_nil)
 (pss_cons (ps_if (pt_cmpR (op_eqR T.o_Block hr.units) (pe_f (pv 0) T.cl_Turner T.n_Turner_come) (pv 2) (nomark _))
 (pss_one (ps_f (pv 0) pe_non T.cl_Turner T.n_Turner_come))
 pss_nil)
 (pss_one (ps_lock (ps_for (passes_of rfl) rfl (pi_values (pe_f (pv 0) T.cl_Turner T.n_Turner_table)) (pg_name (i := 3) sc_Turner_throw.nd rfl (by first | exact .inl rfl | exact .inr rfl))
 (pss_one (ps_f (pv 3) (pe_lock (pe_dc (own := [("place", 4), ("goal", 5)]) (g := gTup K 2 (gCons (gName 4) (gCons (gName 5) gNil))) (tk := tVar 4) (tv := tVar 5) rfl sc_Turner_throw.nd (pi_items (pe_f (pv 3) T.cl_Block T.n_Block_chains)) (blkOk_by (N := N_Turner_throw) (sc := defScope s_Turner_throw) (by decide +kernel)) (fun _ _ _ _ _ => (pg_tup rfl (pgs_cons (pg_name (i := 4) sc_Turner_throw.nd rfl (by first | exact .inl rfl | exact .inr rfl)) (pgs_cons (pg_name (i := 5) sc_Turner_throw.nd rfl (by first | exact .inl rfl | exact .inr rfl)) pgs_nil)))) (fun _ _ _ _ _ => (pts_one (pt_cmpR op_ne (pe_f (pv 5) T.cl_Block T.n_Block_start) (pe_f (pv 2) T.cl_Block T.n_Block_start) (nomark _)))) (fun _ _ _ _ _ => (pv 4)) (fun _ _ _ _ _ => (pv 5)))) T.cl_Block T.n_Block_chains))))))))))), ?_⟩
    rw [show start N_Turner_throw [V.ref d.m, V.ref l] = [some (V.ref d.m), some (V.ref l), none, none, none, none] from rfl]; try simp only [cxK, cxW]
    fail "TT"
    refine w_forJ walk_list (fun i σ H' => (∃ o1 o2 o3 o4, σ = [some (.ref d.m), some (.ref l), o1, o2, o3, o4]) ∧ ∃ d', TH K H' d' π ∧ FrT K d H H' d' ∧ Part d d' xs i)
      ⟨⟨_, _, _, _, rfl⟩, d, R, .refl, ⟨rfl, rfl, rfl, rfl, rfl, fun b hb => ⟨b, hb, .refl b, fun x hx => by cases hx⟩, fun x hx => ⟨x, hin x hx, .refl x⟩, rfl, .inr rfl, .inr rfl⟩⟩
      (fun i σ H' _ ⟨_, d', R', F', P'⟩ => SqL.of' (F'.kp _ _ hl (R.notOwnL hl nl))) ?_ ?_
    · rintro i x σ H1 H' hi ⟨⟨o1, o2, o3, o4, rfl⟩, d1, R1, F1, P1⟩ ⟨rfl, hx⟩
      rw [List.length_map] at hi
      rw [List.getElem?_map, List.getElem?_eq_getElem hi] at hx
      injection hx with hx
      subst hx
      obtain ⟨b, hb, cb⟩ := P1.left xs[i] (by rw [List.drop_eq_getElem_cons hi]; exact List.mem_cons_self)
      show gName 2 (V.ref xs[i].a) _ H' _
      rw [← cb.a, ← P1.m]
      fail "TT"
      have ht := R1.tb
      rw [nπ.fz] at ht
      refine w_kPop ht ?_
      fail "TT"
      refine t_pop R1 nπ hb rfl fun H2 R2 F2 => ?_
      have I2 : IsB K H2 b.a b.start := (R1.isB hb).fr F2
      fail "TT"
      rename_i H3 R3 F3 H4 nw R4 F4 n1 n2 H5 cm R5 F5 n3 n4
      refine t_sweep R5 (fun _ _ _ z => z) nπ.fz nπ.n (((I2.fr F3).fr F4).fr F5) rfl fun H6 bs6 p3 p4 p5 R6 F6 P6 => ?_
      have R7 := R6.wT π.T π.W (fun _ _ _ _ _ _ z => z.elim) (fun x e z => absurd (by rw [show nw = some x from e, show x = b.a from z]) n2) (fun x e z => absurd (by rw [show cm = some x from e, show x = b.a from z]) n4)
      have mem : ∀ {x}, x ∈ d1.bs.filter (fun x => decide (x.start ≠ b.start)) → x ∈ d1.bs ∧ x.start ≠ b.start := fun hx => let ⟨h1, h2⟩ := List.mem_filter.mp hx; ⟨h1, of_decide_eq_true h2⟩
      refine ⟨⟨_, _, _, _, rfl⟩, _, R7, F1.trans (F2.trans (F3.trans (F4.trans (F5.trans F6)))), ⟨P1.m, P1.sp, P1.ta, P1.L, P1.at_, fun b' hb' => ?_, fun x hx => ?_, ?_, ?_, ?_⟩⟩
      · obtain ⟨c, hc, cc⟩ := paired_mem P6 hb'
        obtain ⟨hc1, hc2⟩ := mem hc
        obtain ⟨b0, hb0, c0, h0⟩ := P1.sub c hc1
        refine ⟨b0, hb0, c0.trans cc, fun x hx => ?_⟩
        rw [List.take_add_one, List.getElem?_eq_getElem hi] at hx
        rcases List.mem_append.mp hx with z | z
        · exact h0 x z
        · have ex : x = xs[i] := by simpa using z
          rw [ex, ← cb.a, ← c0.a]
          intro e
          exact hc2 (by rw [R1.eq_a hc1 hb e.symm])
      · obtain ⟨c, hc, cc⟩ := P1.left x (by rw [List.drop_eq_getElem_cons hi]; exact List.mem_cons_of_mem _ hx)
        have ne : x.a ≠ xs[i].a := by
          obtain ⟨j, hj, e⟩ := List.getElem_of_mem hx
          rw [List.getElem_drop] at e
          have := (List.pairwise_iff_getElem.mp hpw) i (i + 1 + j) hi (by rw [List.length_drop] at hj; omega) (by omega)
          rw [e] at this
          exact this.symm
        have hcf : c ∈ d1.bs.filter (fun x => decide (x.start ≠ b.start)) := List.mem_filter.mpr ⟨hc, decide_eq_true fun e => ne (by rw [← cc.a, R1.eq_st hc hb e, cb.a])⟩
        obtain ⟨c', hc', cc'⟩ := paired_mem' P6 hcf
        exact ⟨c', hc', cc.trans cc'⟩
      · have h1 := filter_len R1.pw hb
        have h2 : (d1.bs.filter fun x => decide (x.start ≠ b.start)).length = bs6.length := Paired.length P6
        have h3 := P1.len
        show bs6.length + (i + 1) = d.bs.length
        omega
      · show nw = none ∨ nw = d.now
        rcases n1 with e | e
        · exact .inl e
        · have e : nw = d1.now := e
          rw [e]; exact P1.now
      · show cm = none ∨ cm = d.come
        rcases n3 with e | e
        · exact .inl e
        · have e : cm = d1.come := e
          rw [e]; exact P1.come
    · rintro σ H' ⟨⟨o1, o2, o3, o4, rfl⟩, d1, R1, F1, P1⟩
      fail "TT"
      rw [List.length_map] at P1
      exact k _ _ R1 F1 P1
end

/-! part P21block -/
theorem paired_snoc_inv {α β : Type} {F : α → β → Prop} {x : α} : ∀ {xs : List α} {us : List β}, Paired F (xs ++ [x]) us → ∃ vs v, us = vs ++ [v] ∧ F x v
  | [], _, .cons r .nil => ⟨[], _, rfl, r⟩
  | y :: xs, _, .cons _ t => by
    obtain ⟨vs, v, e, h⟩ := paired_snoc_inv (xs := xs) t
    exact ⟨_ :: vs, v, by rw [e]; rfl, h⟩
theorem snoc_of {α : Type} {l : List α} (h : l ≠ []) : ∃ xs x, l = xs ++ [x] := ⟨l.dropLast, l.getLast h, (List.dropLast_concat_getLast h).symm⟩
def goalsB : W20 → Bool
  | .jump | .zero | .other | .carry | .call => true
  | _ => false
def nbB : W20 → Bool
  | .stop | .jump | .call | .back | .lay | .keep | .leave | .guard => true
  | _ => false
theorem in_goals (w : W20) : inV (.str w.str) tv_GOALS = goalsB w := by cases w <;> decide +kernel
theorem in_nb (w : W20) : inV (.str w.str) tv_NOT_BEHIND = nbB w := by cases w <;> decide +kernel
theorem in_ends (w : W20) : inV (.str w.str) tv_ENDS = w.ends := by cases w <;> decide +kernel
theorem g_clock {K : PySem.W.Frag} {H : Hp} {d : TD} {π : TP} {mm : Addr} {Q : VK} (R : TH K H d π) (hm : d.m = mm) (q : ∀ i, Q (.int i) H) : kF (cT K) "clock" Q (.ref mm) H := by
  subst hm
  obtain ⟨_, k, ho⟩ := R.ob
  exact w_kF ho rfl (q k.clock)
def rBInit (K : PySem.W.Frag) (a b c e : V) (H : Hp) (Q : VK) : Prop := ∃ (p dx : Addr) (st : Int) (ra sa : Addr), a = .ref p ∧ b = .int st ∧ c = .ref ra ∧ e = .ref sa ∧ H p = some (.ins (cB K) dx []) ∧
  ∀ H' D, H' p = some (.ins (cB K) dx (bF ⟨p, dx, ra, sa, D, st, [], [], 0, []⟩ 0)) → H' D = some (.dK []) → H D = none → KeepP p H H' → Q .non H'
def rExits (K : PySem.W.Frag) (a : V) (H : Hp) (Q : VK) : Prop := ∃ (b : Blk), a = .ref b.a ∧ BlkAt K H b ∧ b.rows ≠ [] ∧ ∀ H' l (ns : List Int), Same H H' → H' l = some (.lst (ns.map V.int)) → Q (.ref l) H'
theorem w_rExits {K : PySem.W.Frag} {H : Hp} {Q : VK} {b : Blk} {mm : Addr} (B : BlkAt K H b) (hm : b.a = mm) (h : b.rows ≠ []) (k : ∀ H' l (ns : List Int), Same H H' → H' l = some (.lst (ns.map V.int)) → Q (.ref l) H') : rExits K (.ref mm) H Q := by
  subst hm
  exact ⟨b, rfl, B, h, k⟩
def rBegin (K : PySem.W.Frag) (a b : V) (H : Hp) (Q : VK) : Prop := ∃ (d : TD) (π : TP) (x : Blk), a = .ref d.m ∧ b = .ref x.a ∧ TH K H d π ∧ x ∈ d.bs ∧ ∀ H' bs', TH K H' { d with bs := bs' } π → FrT K d H H' { d with bs := bs' } → Paired Core d.bs bs' → Q (.ref x.a) H'
theorem row_hd (r : Row) : r.vs = .str r.w.str :: r.args.map V.int := rfl
section
variable {P : Program} {w : World} {K : PySem.W.Frag} {mg : Str → Option Value} {base : Heap}
theorem mk_Block (T : Txt w K mg) : CDef P w K mg base "Block" (cB K) 1 [] (sp4 (rBInit K)) := by
  obtain ⟨f, fd, F, M, g⟩ := T.d_Block_init
  refine ⟨f, fd, _, _, F.ok sc_Block_init (fun vs H Q E h => ?_) (fun cdv A outer s0 H vs Q E hr h => ?_), M, g, F.bindsN fun _ _ _ _ _ _ us hl => match us, hl with | [_, _, _, _], _ => rfl, .nil⟩
  · obtain ⟨_, _, _, _, rfl, _⟩ := h
    rfl
  · obtain ⟨_, _, _, _, rfl, p, dx, st, ra, sa, rfl, rfl, rfl, rfl, hp, k⟩ := h
    refine ⟨_, (pss_cons (ps_f (pv 0) (pv 1) T.cl_Block T.n_Block_start)
 (pss_cons (ps_f (pv 0) (pv 2) T.cl_Block T.n_Block_rows)
 (pss_cons (ps_f (pv 0) (pv 3) T.cl_Block T.n_Block_spots)
 (pss_cons (ps_f (pv 0) pe_dnewK T.cl_Block T.n_Block_chains)
 (pss_cons (ps_f (pv 0) pe_int T.cl_Block T.n_Block_begun)
 (pss_one (ps_f (pv 0) pe_int T.cl_Block T.n_Block_last))))))), ?_⟩
    rw [show start N_Block_init [V.ref p, V.int st, V.ref ra, V.ref sa] = [some (V.ref p), some (V.int st), some (V.ref ra), some (V.ref sa)] from rfl]; try simp only [cxK, cxW]
    fail "TT"
    rename_i H1 a1 a2 H2 b1 b2 H3 c1 c2 D hD H4 d1 d2 H5 e1 e2 H6 f1 f2
    exact k H6 D f1 (by fail "hf") (fresh_kp (H1 := H3) (by fail "kp") c1 hD) (by fail "kp")
theorem ok_Block_exits (T : Txt w K mg) : MDef P w K mg base (cB K) "exits" 1 [] (sp1 (rExits K)) := by
  obtain ⟨f, fd, F, M⟩ := T.d_Block_exits
  refine ⟨f, fd, _, _, F.ok sc_Block_exits (fun vs H Q E h => ?_) (fun cdv A outer s0 H vs Q E hr h => ?_), M, F.bindsN fun _ _ _ _ _ _ us hl => match us, hl with | [_], _ => rfl, .nil⟩
  · obtain ⟨_, rfl, _⟩ := h
    rfl
  · obtain ⟨_, rfl, b, rfl, B, hne, k⟩ := h
    refine ⟨_, (pss_cons (ps_asg (pe_ix ix_list (pe_f (pv 0) T.cl_Block T.n_Block_rows) (pe_un un_neg pe_int) (fun _ _ => rfl)) (pg_tup rfl (pgs_cons (pg_name (i := 1) sc_Block_exits.nd rfl (by first | exact .inl rfl | exact .inr rfl)) (pgs_cons (pg_name (i := 2) sc_Block_exits.nd rfl (by first | exact .inl rfl | exact .inr rfl)) (pgs_cons (pg_name (i := 3) sc_Block_exits.nd rfl (by first | exact .inl rfl | exact .inr rfl)) pgs_nil)))))
 (pss_cons (ps_set (i := 4) sc_Block_exits.nd rfl (by first | exact .inl rfl | exact .inr rfl) (pe_ifExp (pt_cmpR op_in_seq (pe_ix ix_tup (pv 2) pe_int (fun _ _ => rfl)) (pe_gv T.v_GOALS) (by with_unfolding_all rfl)) (pe_lst (pa_cons (pe_ix ix_tup (pv 2) pe_int (fun _ _ => rfl)) pa_nil)) (pe_lst pa_nil)))
 (pss_one (ps_ret (pe_op op_cat (pv 4) (pe_ifExp (pt_cmpR op_notIn_seq (pe_ix ix_tup (pv 2) pe_int (fun _ _ => rfl)) (pe_gv T.v_NOT_BEHIND) (by with_unfolding_all rfl)) (pe_lst (pa_cons (pv 3) pa_nil)) (pe_lst pa_nil))))))), ?_⟩
    rw [show start N_Block_exits [V.ref b.a] = [some (V.ref b.a), none, none, none, none] from rfl]; try simp only [cxK, cxW]
    obtain ⟨g, hob⟩ := B.ob
    obtain ⟨rv, hrv, hP⟩ := B.rw
    obtain ⟨xs, x, ex⟩ := snoc_of hne
    rw [ex] at hP
    obtain ⟨vs, v, rfl, t, q, rfl, ht, hq⟩ := paired_snoc_inv hP
    fail "TT"
    refine w_ixL (SqL.of' hrv) (atI_last _ _) ?_
    obtain ⟨p0, ⟨w, x0, y0, n0⟩, bh⟩ := x
    cases w <;> (
      fail "TT"
      first | refine w_inT_T (T.t_GOALS _) rfl rfl (in_goals _) ?_ | refine w_inT_F (T.t_GOALS _) rfl rfl (in_goals _) ?_
      fail "TT"
      first | refine w_niT_T (T.t_NOT_BEHIND _) rfl rfl (in_nb _) ?_ | refine w_niT_F (T.t_NOT_BEHIND _) rfl rfl (in_nb _) ?_
      fail "TT"
      refine w_cnt (by fail "hf") (by fail "hf") (by rw [sizeLine_eq]; exact Nat.le_of_ble_eq_true rfl) fun r hr => ?_
      fail "TT"
      first | exact k _ _ [] (by fail "sm") upd_same | exact k _ _ [bh] (by fail "sm") upd_same | exact k _ _ [n0] (by fail "sm") upd_same | exact k _ _ [n0, bh] (by fail "sm") upd_same)
theorem ok_Turner_begin (T : Txt w K mg) : MDef P w K mg base (cT K) "begin" 1 [] (sp2 (rBegin K)) := by
  obtain ⟨f, fd, F, M⟩ := T.d_Turner_begin
  refine ⟨f, fd, _, _, F.ok sc_Turner_begin (fun vs H Q E h => ?_) (fun cdv A outer s0 H vs Q E hr h => ?_), M, F.bindsN fun _ _ _ _ _ _ us hl => match us, hl with | [_, _], _ => rfl, .nil⟩
  · obtain ⟨_, _, rfl, _⟩ := h
    rfl
  · obtain ⟨_, _, rfl, d, π, x, rfl, rfl, R, hx, k⟩ := h
    refine ⟨_, (pss_cons (ps_fa (pv 0) pe_int in_add T.cl_Turner T.n_Turner_clock)
 (pss_cons (ps_fa (pv 1) pe_int in_add T.cl_Block T.n_Block_begun)
 (pss_cons (ps_f (pv 1) (pe_f (pv 0) T.cl_Turner T.n_Turner_clock) T.cl_Block T.n_Block_last)
 (pss_one (ps_ret (pv 1)))))), ?_⟩
    rw [show start N_Turner_begin [V.ref d.m, V.ref x.a] = [some (V.ref d.m), some (V.ref x.a)] from rfl]; try simp only [cxK, cxW]
    fail "TT"
    refine g_clock (by fail "th") rfl fun i => ?_
    fail "TT"
    exact k _ (d.bs.map (upB x.a fun y => { y with last := i })) (by assumption) (by fail "ft") (core_map (fun x => core_upB fun y => ⟨rfl, rfl, rfl, rfl, rfl, rfl⟩) (core_refl _))
end

/-! part P22data -/
/-! ### plain values for == -/
structure Small (k : Nat) (d : PyData) : Prop where
  lay : d.canLay0 = true
  dep : d.depth ≤ k
theorem small_all {k : Nat} : ∀ {ds : List PyData}, (∀ d ∈ ds, Small k d) → PyData.canLayAll0 ds = true ∧ PyData.depthAll ds ≤ k
  | [], _ => ⟨by simp [PyData.canLayAll0], by simp [PyData.depthAll]⟩
  | d :: ds, h => by
    obtain ⟨h1, h2⟩ := small_all (ds := ds) fun x hx => h x (List.mem_cons_of_mem _ hx)
    obtain ⟨h3, h4⟩ := h d List.mem_cons_self
    refine ⟨by simp [PyData.canLayAll0, h1, h3], ?_⟩
    simp only [PyData.depthAll]
    omega
theorem Small.list {k : Nat} {ds : List PyData} (h : ∀ d ∈ ds, Small k d) : Small (k + 1) (.list ds) := ⟨by simp only [PyData.canLay0]; exact (small_all h).1, by simp only [PyData.depth]; exact Nat.succ_le_succ (small_all h).2⟩
theorem Small.tuple {k : Nat} {ds : List PyData} (h : ∀ d ∈ ds, Small k d) : Small (k + 1) (.tuple ds) := ⟨by simp only [PyData.canLay0]; exact (small_all h).1, by simp only [PyData.depth]; exact Nat.succ_le_succ (small_all h).2⟩
theorem Small.int {k : Nat} (i : Int) : Small k (.int i) := ⟨by simp [PyData.canLay0], by simp [PyData.depth]⟩
theorem Small.bool {k : Nat} (i : Bool) : Small k (.bool i) := ⟨by simp [PyData.canLay0], by simp [PyData.depth]⟩
theorem Small.none {k : Nat} : Small k .none := ⟨by simp [PyData.canLay0], by simp [PyData.depth]⟩
theorem Small.shaped {k : Nat} {d : PyData} (h : Small k d) (hk : k ≤ 64) : SeqAt.shaped d = true := by
  show (d.canLay0 && decide (d.depth ≤ 64)) = true
  rw [h.lay, decide_eq_true (Nat.le_trans h.dep hk)]
  rfl
theorem small_word {k : Nat} (w : W20) : Small k (.str w.str) := ⟨by cases w <;> simp only [PyData.canLay0] <;> decide +kernel, by simp [PyData.depth]⟩
def rowDt (r : Row) : PyData := .tuple (.str r.w.str :: r.args.map PyData.int)
def rowD (x : Int × Row × Int) : PyData := .tuple [.int x.1, rowDt x.2.1, .int x.2.2]
theorem small_row {k : Nat} (r : Row) : Small (k + 1) (rowDt r) := Small.tuple fun d hd => by
  rcases List.mem_cons.mp hd with e | e
  · rw [e]; exact small_word _
  · obtain ⟨i, _, rfl⟩ := List.mem_map.mp e
    exact .int i
theorem small_rowD (x : Int × Row × Int) : Small 2 (rowD x) := Small.tuple fun d hd => by
  rcases List.mem_cons.mp hd with e | e
  · rw [e]; exact .int _
  · rcases List.mem_cons.mp e with e | e
    · rw [e]; exact small_row _
    · rw [List.mem_singleton.mp e]; exact .int _
section
variable {K : PySem.W.Frag} {H : Hp}
theorem dp_ints : ∀ ns : List Int, DpAll K H (ns.map V.int) (ns.map PyData.int)
  | [] => .nil
  | n :: r => .cons (.int n) (dp_ints r)
theorem dp_rows : ∀ {rows : List (Int × Row × Int)} {rv : List V}, Paired (RowV H) rows rv → DpAll K H rv (rows.map rowD)
  | _, _, .nil => .nil
  | _, _, .cons ⟨t, q, e, h1, h2⟩ r => by
    subst e
    exact .cons (.tup (SqT.of' h1) (.cons (.int _) (.cons (.tup (SqT.of' h2) (.cons (.str _) (dp_ints _))) (.cons (.int _) .nil)))) (dp_rows r)
end
theorem eqv_nil (ds : List PyData) : PyData.eqv (.list ds) (.list []) = ds.isEmpty := by
  cases ds <;> simp [PyData.eqv, PyData.eqvAll]
theorem shaped_rows (rows : List (Int × Row × Int)) : SeqAt.shaped (.list (rows.map rowD)) = true := (Small.list (k := 2) fun d hd => by obtain ⟨x, _, rfl⟩ := List.mem_map.mp hd; exact small_rowD x).shaped (by decide)
theorem shaped_nil : SeqAt.shaped (.list []) = true := (Small.list (k := 0) fun d hd => by cases hd).shaped (by decide)
/-! ### slices of the cells -/
theorem sIx_of {n d : Nat} {i : Int} (h0 : 0 ≤ i) (h1 : i ≤ n) : HT.sIx n d (some i) = i.toNat := by
  unfold HT.sIx
  simp only []
  split <;> omega
theorem cut_none {cs : List Int} {k : Int} (k0 : 0 ≤ k) (k1 : k + 1 ≤ cs.length) : cutV (cs.map V.int) (some (k + 1)) (some (k + 1)) = [] := by
  unfold cutV
  rw [sIx_of (by omega) (by rw [List.length_map]; omega), sIx_of (by omega) (by rw [List.length_map]; omega), Nat.sub_self, List.take_zero]
theorem cut_one {cs : List Int} {k : Int} (k0 : 0 ≤ k) (k1 : k + 2 ≤ cs.length) : cutV (cs.map V.int) (some (k + 1)) (some (k + 2)) = [V.int (gi cs (k + 1))] := by
  unfold cutV
  rw [sIx_of (by omega) (by rw [List.length_map]; omega), sIx_of (by omega) (by rw [List.length_map]; omega)]
  have e : (k + 2).toNat - (k + 1).toNat = 1 := by omega
  have hlt : (k + 1).toNat < cs.length := by omega
  rw [e, List.drop_eq_getElem_cons (by rw [List.length_map]; exact hlt), List.take_succ_cons, List.take_zero]
  unfold gi
  rw [List.getD_eq_getElem?_getD, List.getElem?_eq_getElem hlt]
  simp
theorem rgV_one {k : Int} : rgV k (k + 1) = [V.int k] := by
  unfold rgV
  rw [show (k + 1 - k).toNat = 1 by omega]
  simp
theorem rgV_two {k : Int} : rgV k (k + 2) = [V.int k, V.int (k + 1)] := by
  unfold rgV
  rw [show (k + 2 - k).toNat = 2 by omega]
  simp [List.range_succ]
/-! ### a block grows -/
def sizeR (r : Row) : Int := if r.w.long = true then 2 else 1
def spotsR (r : Row) (k : Int) : List Int := if r.w.long = true then [k, k + 1] else [k]
structure Acc (c : List Int) (pg : List (Option (Int × Bool))) (st : Int) (rows : List (Int × Row × Int)) (spots : List Int) (q : Int) : Prop where
  emp : rows = [] → q = st ∧ spots = []
  bv : rows ≠ [] → BlkV c pg st rows spots
  nx : ∀ xs x, rows = xs ++ [x] → x.2.2 = q
theorem Acc.snoc {s : S} {st q k : Int} {rows : List (Int × Row × Int)} {spots : List Int} {hd : Head} {r : Row} (ok : s.Ok) (A : Acc s.cells s.pages st rows spots q) (hlen : rows.length < 8) (hend : ∀ xs x, rows = xs ++ [x] → x.2.1.w.ends = false) (hp : q / 16 = st / 16)
    (hs : spotOf s.pages q = some k) (hh : headOf (gi s.cells k) = some hd) (hr : r = ⟨hd.w, hd.x, hd.y, if hd.w.long = true then gi s.cells (k + 1) else 0⟩) (hz : (q + sizeR r - 1) / 16 = st / 16) :
    Acc s.cells s.pages st (rows ++ [(q, r, q + sizeR r)]) (spots ++ spotsR r k) (q + sizeR r) ∧ (hd.w.long = true → k + 2 ≤ 128) := by
  obtain ⟨k0, k1, q0, q1⟩ := spotOf_ok ok.pr hs
  obtain ⟨f, o, e1, e2, _, _⟩ := spotPg hs
  have hf := ok.pr f o (pgOf_mem e1)
  have hrw : r.w = hd.w := by rw [hr]
  have hlong : hd.w.long = true → k + 2 ≤ 128 ∧ spotOf s.pages (q + 1) = some (k + 1) ∧ (q + 1) / 16 = q / 16 := fun hl => by
    have hs2 : sizeR r = 2 := by unfold sizeR; rw [hrw, if_pos hl]
    rw [hs2] at hz
    have h3 : (q + 1) / 16 = q / 16 := by omega
    refine ⟨by omega, ?_, h3⟩
    have h4 : 0 ≤ q + 1 ∧ q + 1 < 64 := by omega
    unfold spotOf
    rw [if_pos h4, h3, e1]
    dsimp only
    congr 1
    omega
  have hread : readRow s.cells s.pages q = .row r (q + sizeR r) := by
    unfold readRow
    rw [hs]
    dsimp only
    rw [hh]
    dsimp only
    cases hl : hd.w.long with
    | true =>
      rw [if_pos rfl, (hlong hl).2.1]
      dsimp only
      rw [hr, hl, if_pos rfl]
      unfold sizeR
      dsimp only
      rw [hl, if_pos rfl]
    | false =>
      rw [if_neg Bool.false_ne_true, hr, hl, if_neg Bool.false_ne_true]
      unfold sizeR
      dsimp only
      rw [hl, if_neg Bool.false_ne_true]
  obtain ⟨ro, _, _, b0, b1⟩ := readRow_ok ok hread
  have hin : ∀ p, q ≤ p → p < q + sizeR r → p / 16 = st / 16 ∧ ∃ j ∈ spotsR r k, spotOf s.pages p = some j := fun p h1 h2 => by
    cases hl : hd.w.long with
    | true =>
      have hs2 : sizeR r = 2 := by unfold sizeR; rw [hrw, if_pos hl]
      have hs3 : spotsR r k = [k, k + 1] := by unfold spotsR; rw [hrw, if_pos hl]
      rw [hs2] at h2
      rw [hs3]
      rcases Int.lt_or_le q p with h3 | h3
      · obtain rfl : p = q + 1 := by omega
        exact ⟨by rw [(hlong hl).2.2]; exact hp, k + 1, by simp, (hlong hl).2.1⟩
      · obtain rfl : p = q := by omega
        exact ⟨hp, k, by simp, hs⟩
    | false =>
      have hs2 : sizeR r = 1 := by unfold sizeR; rw [hrw, hl, if_neg Bool.false_ne_true]
      have hs3 : spotsR r k = [k] := by unfold spotsR; rw [hrw, hl, if_neg Bool.false_ne_true]
      rw [hs2] at h2
      rw [hs3]
      obtain rfl : p = q := by omega
      exact ⟨hp, k, by simp, hs⟩
  have hsp : ∀ j ∈ spotsR r k, 0 ≤ j ∧ j < 128 := fun j hj => by
    unfold spotsR at hj
    split at hj
    · rename_i hl
      have := (hlong (by rw [← hrw]; exact hl)).1
      rcases List.mem_cons.mp hj with e | e
      · omega
      · have := List.mem_singleton.mp e; omega
    · have := List.mem_singleton.mp hj; omega
  refine ⟨⟨fun e => by simp at e, fun _ => ?_, fun xs x e => ?_⟩, fun h => (hlong h).1⟩
  · rcases Classical.em (rows = []) with he | hne
    · obtain ⟨e3, e4⟩ := A.emp he
      subst e3
      subst he
      subst e4
      refine ⟨⟨r, _, [], rfl⟩, ?_, fun x hx => ?_, fun x hx p h1 h2 => ?_, fun i x y h1 h2 => ?_, fun x hx => ?_, by simp, fun j hj => hsp j hj⟩
      · unfold spotsR
        split
        · exact ⟨k, _, rfl, hs⟩
        · exact ⟨k, _, rfl, hs⟩
      · rw [List.mem_singleton.mp hx]; exact hread
      · rw [List.mem_singleton.mp hx] at h1 h2; exact hin p h1 h2
      · cases i with
        | zero => simp at h2
        | succ i => simp at h1
      · rw [List.mem_singleton.mp hx]; exact ⟨ro, q0, q1, b0, b1⟩
    · obtain ⟨h1, h2, h3, h4, h5, h6, h7, h8⟩ := A.bv hne
      obtain ⟨xs, x, ex⟩ : ∃ xs x, rows = xs ++ [x] := ⟨rows.dropLast, rows.getLast hne, (List.dropLast_concat_getLast hne).symm⟩
      refine ⟨?_, ?_, fun y hy => ?_, fun y hy p g1 g2 => ?_, fun i a b g1 g2 => ?_, fun y hy => ?_, by rw [List.length_append]; simp; omega, fun j hj => ?_⟩
      · obtain ⟨r0, b0, rest, e⟩ := h1
        exact ⟨r0, b0, rest ++ [(q, r, q + sizeR r)], by rw [e]; rfl⟩
      · obtain ⟨c0, rest, e, e'⟩ := h2
        exact ⟨c0, rest ++ spotsR r k, by rw [e]; rfl, e'⟩
      · rcases List.mem_append.mp hy with z | z
        · exact h3 y z
        · rw [List.mem_singleton.mp z]; exact hread
      · rcases List.mem_append.mp hy with z | z
        · obtain ⟨a, j, hj, e⟩ := h4 y z p g1 g2
          exact ⟨a, j, List.mem_append_left _ hj, e⟩
        · rw [List.mem_singleton.mp z] at g1 g2
          obtain ⟨a, j, hj, e⟩ := hin p g1 g2
          exact ⟨a, j, List.mem_append_right _ hj, e⟩
      · rcases Nat.lt_or_ge (i + 1) rows.length with hi | hi
        · rw [List.getElem?_append_left (by omega)] at g1
          rw [List.getElem?_append_left hi] at g2
          exact h5 i a b g1 g2
        · have hi2 : i + 1 < (rows ++ [(q, r, q + sizeR r)]).length := (List.getElem?_eq_some_iff.mp g2).1
          rw [List.length_append] at hi2
          have hi3 : i + 1 = rows.length := by simp at hi2; omega
          rw [hi3, List.getElem?_append_right (Nat.le_refl _)] at g2
          simp at g2
          rw [List.getElem?_append_left (by omega)] at g1
          have : a = x := by
            rw [ex] at g1 hi3
            rw [List.length_append] at hi3
            have hi4 : i = xs.length := by simp at hi3; omega
            rw [hi4, List.getElem?_append_right (Nat.le_refl _)] at g1
            simp at g1
            exact g1.symm
          rw [← g2, this]
          exact ⟨(A.nx xs x ex).symm, hend xs x ex⟩
      · rcases List.mem_append.mp hy with z | z
        · exact h6 y z
        · rw [List.mem_singleton.mp z]; exact ⟨ro, q0, q1, b0, b1⟩
      · rcases List.mem_append.mp hj with z | z
        · exact h8 j z
        · exact hsp j z
  · have := List.append_inj_right' e rfl
    injection this with this
    rw [← this]

/-! part P23blockat -/
section
variable {ta tb : TE} {σ : St'} {H : Hp} {Q : VK}
def kRng (Q : VK) (x : V) : VK := fun y H2 => ∃ i j, x = .int i ∧ y = .int j ∧ RgOk i j ∧ ∀ q, H2 q = none → Q (.ref q) (upd H2 q (.lst (rgV i j)))
theorem w_lstRg2 (q : ta σ H fun x H1 => tb σ H1 (kRng Q x)) : tLstRg (tRg2 ta tb) σ H Q := by
  have mono : ∀ x H1, (tb σ H1 (kRng Q x)) = tb σ H1 (fun y H2 => ∃ i j, x = .int i ∧ y = .int j ∧ RgOk i j ∧ ∀ q, H2 q = none → Q (.ref q) (upd H2 q (.lst (rgV i j)))) := fun _ _ => rfl
  exact q
theorem w_kRng {i j : Int} (h : RgOk i j) (q : ∀ q, H q = none → Q (.ref q) (upd H q (.lst (rgV i j)))) : kRng Q (.int i) (.int j) H := ⟨i, j, rfl, rfl, h, q⟩
end
theorem w_whQ {c : TT} {tb : TS} {n b d : St' → Hp → Prop} {rt : VK} {σ : St'} {H : Hp} (P : St' → Hp → Prop) (hn : ∀ σ H, P σ H → n σ H) (hl : ∀ n', (∀ σ H, P σ H → n' σ H) → tWhile c tb ⟨n', rt, b, d⟩ σ H) : tWhile c tb ⟨n, rt, b, d⟩ σ H := hl n hn
theorem t_or {K : PySem.W.Frag} {σ : St'} {H : Hp} {ra : Addr} {rows : List (Int × Row × Int)} {rv : List V} {A : Bool → Hp → Prop} (h3 : σ[3]? = some (some (.ref ra))) (hr : H ra = some (.lst rv)) (hP : Paired (RowV H) rows rv) (hT : ∀ H, SqT K H (gA K "ENDS") tv_ENDS)
    (hA : ∀ H2, Same H H2 → (∀ xs x, rows = xs ++ [x] → x.2.1.w.ends = false) → A true H2) (hB : ∀ H2, Same H H2 → A false H2) :
    tOr (tTest (tOp (rEqD K) (tVar 3) (tLst tNil))) (tTest (tOp (rIn K true) (tOp (rIxT K) (tOp (rIxT K) (tOp (rIxL K) (tVar 3) (tUn (rU fun i => V.int (-i)) (tC (V.int 1)))) (tC (V.int 1))) (tC (V.int 0))) (tC (V.ref (gA K "ENDS"))))) σ H A := by
  refine w_or (w_test (w_op (w_var h3 (w_lst (w_nil (w_kL sz0 fun e he => ?_))))))
  have hr1 : upd H e (.lst []) ra = some (.lst rv) := look_new he hr
  have hP1 : Paired (RowV (upd H e (.lst []))) rows rv := Paired.mono hP fun _ _ ⟨t, q, e1, a1, a2⟩ => ⟨t, q, e1, look_new he a1, look_new he a2⟩
  have S1 : Same H (upd H e (.lst [])) := Ext.new he
  refine w_eqD (.lst (SqL.of' hr1) (dp_rows hP1)) (.lst (SqL.of' upd_same) .nil) (shaped_rows rows) shaped_nil (k := rows.isEmpty) (by rw [eqv_nil]; cases rows <;> rfl) (w_kB ?_)
  rcases Classical.em (rows = []) with rfl | hne
  · exact kI_T (hA _ S1 fun xs x e => by simp at e)
  · obtain ⟨xs, x, ex⟩ := snoc_of hne
    have : rows.isEmpty = false := by cases rows with
      | nil => exact absurd rfl hne
      | cons => rfl
    rw [this]
    refine kI_F ?_
    have hP2 := hP1
    rw [ex] at hP2
    obtain ⟨vs, v, rfl, t, q, rfl, ht, hq⟩ := paired_snoc_inv hP2
    refine w_test (w_op (w_op (w_op (w_op (w_var h3 (w_un (w_C (w_neg ?_)))))))) 
    refine w_ixL (SqL.of' hr1) (atI_last _ _) (w_C ?_)
    refine w_ixT (SqT.of' ht) (by rfl) (w_C ?_)
    refine w_ixT (SqT.of' hq) (show atI _ (0 : Int) = _ from atI_nat (j := 0) rfl) (w_C ?_)
    cases he : x.2.1.w.ends with
    | true => exact w_niT_F (hT _) rfl rfl (by rw [in_ends]; exact he) (w_kB (hB _ S1))
    | false => exact w_niT_T (hT _) rfl rfl (by rw [in_ends]; exact he) (w_kB (hA _ S1 fun xs' x' e => by
        rw [ex] at e
        have := List.append_inj_right' e rfl
        injection this with this
        rw [← this]; exact he))
theorem w_app {l : Addr} {xs : List V} {v : V} {H : Hp} {Q : VK} (h : H l = some (.lst xs)) (hl : xs.length < sizeLine) (q : ∀ H', H' l = some (.lst (xs ++ [v])) → KeepP l H H' → Q .non H') : rAppend (.ref l) [v] H Q := ⟨l, xs, v, rfl, rfl, h, hl, q _ upd_same keep_upd⟩
theorem w_ext {l b : Addr} {xs zs : List V} {H : Hp} {Q : VK} (h : H l = some (.lst xs)) (h' : H b = some (.lst zs)) (hl : xs.length + zs.length ≤ sizeLine) (q : ∀ H', H' l = some (.lst (xs ++ zs)) → KeepP l H H' → Q .non H') : rExtend (.ref l) [.ref b] H Q := ⟨l, b, xs, zs, rfl, rfl, h, h', hl, q _ upd_same keep_upd⟩
theorem Same.kpN {l : Addr} {H H1 H2 : Hp} (S : Same H H1) (hl : H l = none) (k : KeepP l H1 H2) : Same H H2 := fun b o h => k b o (S b o h) (ne_of_none h hl)
theorem tup_kp {l : Addr} {H H' : Hp} {xs : List V} (h : H l = some (.lst xs)) (k : KeepP l H H') : TupKeep H H' := fun b ys hb => k b _ hb (by rintro rfl; rw [h] at hb; cases hb)
theorem TupKeep.trans {H H1 H2 : Hp} (a : TupKeep H H1) (b : TupKeep H1 H2) : TupKeep H H2 := fun x xs h => b x xs (a x xs h)
theorem TupKeep.ofSame {H H1 : Hp} (a : Same H H1) : TupKeep H H1 := fun x xs h => a x _ h
theorem cut_row {cs : List Int} {c : Int} {r : Row} (c0 : 0 ≤ c) (hc : cs.length = 128) (h1 : c < 128) (h2 : r.w.long = true → c + 2 ≤ 128) (hn : r.n = if r.w.long = true then gi cs (c + 1) else 0) : cutV (cs.map V.int) (some (c + 1)) (some (c + sizeR r)) = r.tail.map V.int := by
  unfold sizeR Row.tail
  cases e : r.w.long with
  | true =>
    rw [e] at hn
    rw [if_pos rfl, if_pos rfl, cut_one c0 (by have := h2 e; omega), hn, if_pos rfl]
    rfl
  | false => rw [if_neg Bool.false_ne_true, if_neg Bool.false_ne_true, cut_none c0 (by omega)]; rfl
theorem rg_row {c : Int} {r : Row} : rgV c (c + sizeR r) = (spotsR r c).map V.int := by
  unfold sizeR spotsR
  cases e : r.w.long with
  | true => rw [if_pos rfl, if_pos rfl, rgV_two]; rfl
  | false => rw [if_neg Bool.false_ne_true, if_neg Bool.false_ne_true, rgV_one]; rfl
theorem tail_len (r : Row) : r.tail.length ≤ 1 := by
  unfold Row.tail
  split <;> simp
theorem spots_len (r : Row) (c : Int) : (spotsR r c).length ≤ 2 := by
  unfold spotsR
  split <;> simp
theorem row_cat {hd : Head} {n : Int} : (V.str hd.w.str :: hd.args.map V.int) ++ ((⟨hd.w, hd.x, hd.y, n⟩ : Row).tail.map V.int) = (⟨hd.w, hd.x, hd.y, n⟩ : Row).vs := by
  unfold Row.vs Row.args
  rw [List.map_append]
  rfl
def rBlockAt (K : PySem.W.Frag) (a b c : V) (H : Hp) (Q : VK) : Prop := ∃ (p : Addr) (L : Lay) (s : S) (st : Int), a = .ref p ∧ b = .int st ∧ c = .int 8 ∧ StAt K H p L s ∧ s.Ok ∧ (∀ H', Same H H' → Q .non H') ∧
  ∀ H' nb, Same H H' → BlkAt K H' nb → H nb.a = none → H nb.ra = none → H nb.sa = none → H nb.ca = none → nb.start = st → nb.chains = [] → BlkV s.cells s.pages st nb.rows nb.spots → Q (.ref nb.a) H'
section
variable {P : Program} {w : World} {K : PySem.W.Frag} {mg : Str → Option Value} {base : Heap}
theorem ok_block_at (T : Txt w K mg) : GDef P w K mg base "block_at" 3 [] (sp3 (rBlockAt K)) := by
  obtain ⟨f, fd, F, M⟩ := T.d_block_at
  refine ⟨f, fd, _, _, F.ok sc_block_at (fun vs H Q E h => ?_) (fun cdv A outer s0 H vs Q E hr h => ?_), M, F.kp, F.bindsN fun _ _ _ _ _ _ us hl => match us, hl with | [_, _, _], _ => rfl, .nil⟩
  · obtain ⟨_, _, _, rfl, _⟩ := h
    rfl
  · obtain ⟨_, _, _, rfl, p, L, s, st, rfl, rfl, rfl, R, ok, kn, kb⟩ := h
    refine ⟨_, (pss_cons (ps_par (i := 3) (j := 4) rfl sc_block_at.nd rfl rfl (by decide) rfl rfl (pa_cons (pe_lst pa_nil) (pa_cons (pe_lst pa_nil) pa_nil)) (by rfl))
 (pss_cons (ps_set (i := 5) sc_block_at.nd rfl (by first | exact .inl rfl | exact .inr rfl) (pe_op op_fdiv (pv 1) (pe_gv T.v_FRAME)))
 (pss_cons (ps_while (passes_of rfl) (PW.pt (pw_and (pt_cmpR op_lt (pe_callB len_seq (by rfl) T.f_len PySem.boot_len (pa_cons (pv 3) pa_nil)) (pv 2) (nomark _)) (pw_and (pt_cmpR op_eq (pe_op op_fdiv (pv 1) (pe_gv T.v_FRAME)) (pv 5) (nomark _)) (pw_and1 (PW.pt (pw_or (pt_cmpR (op_eqD hr.units) (pv 3) (pe_lst pa_nil) (nomark _)) (pw_or1 (pt_cmpR op_notIn_seq (pe_ix ix_tup (pe_ix ix_tup (pe_ix ix_list (pv 3) (pe_un un_neg pe_int) (fun _ _ => rfl)) pe_int (fun _ _ => rfl)) pe_int (fun _ _ => rfl)) (pe_gv T.v_ENDS) (by with_unfolding_all rfl)))))))))
 (pss_cons (ps_set (i := 6) sc_block_at.nd rfl (by first | exact .inl rfl | exact .inr rfl) (e_meth (pv 0) T.cl_State (ok_State_spot T) hr (pa_cons (pv 1) pa_nil)))
 (pss_cons (ps_set (i := 7) sc_block_at.nd rfl (by first | exact .inl rfl | exact .inr rfl) (pe_ifExp (pt_cmpR op_notN1 (pv 6) pe_non (nomark _)) (e_call (ok_head_of T) hr (pa_cons (pe_ix ix_list (pe_f (pv 0) T.cl_State T.n_State_store) (pv 6) (fun _ _ => rfl)) pa_nil)) pe_non))
 (pss_cons (ps_if (PW.pt (pw_or (pt_cmpR op_isN1 (pv 7) pe_non (nomark _)) (pw_or1 (pt_cmpR op_ne (pe_op op_fdiv (pe_op op_sub (pe_op op_add (pv 1) (e_call (ok_size_of T) hr (pa_cons (pv 7) pa_nil))) pe_int) (pe_gv T.v_FRAME)) (pv 5) (nomark _)))))
 (pss_one ps_break)
 pss_nil)
 (pss_cons (ps_set (i := 8) sc_block_at.nd rfl (by first | exact .inl rfl | exact .inr rfl) (e_call (ok_size_of T) hr (pa_cons (pv 7) pa_nil)))
 (pss_cons (ps_expr (pe_bm PySem.F.plainAttrs_list PySem.F.slot_list_append PySem.F.type_list_append mt_append (pv 3) (pa_cons (pe_tup (pa_cons (pv 1) (pa_cons (pe_op op_catA (pv 7) (pe_callTy tup_of (by rfl) T.f_tuple (by decide +kernel) (pa_cons (pe_slice sl_list (pe_f (pv 0) T.cl_State T.n_State_store) (po_some (pe_op op_add (pv 6) pe_int)) (po_some (pe_op op_add (pv 6) (pv 8)))) pa_nil))) (pa_cons (pe_op op_add (pv 1) (pv 8)) pa_nil)))) pa_nil)))
 (pss_cons (ps_expr (pe_bm PySem.F.plainAttrs_list PySem.F.slot_list_extend PySem.F.type_list_extend mt_extend (pv 4) (pa_cons (pe_listRg rfl (by rfl) T.f_list (prg_2 (by rfl) T.f_range (pv 6) (pe_op op_add (pv 6) (pv 8)))) pa_nil)))
 (pss_one (ps_aug (i := 1) sc_block_at.nd rfl (by first | exact .inl rfl | exact .inr rfl) (pv 8) ip_add)))))))))
 (pss_one (ps_ret (pe_ifExp (pt_cmpR (op_neD hr.units) (pv 3) (pe_lst pa_nil) (nomark _)) (e_make (mk_Block T) hr (pa_cons (pe_ix ix_tup (pe_ix ix_list (pv 3) pe_int (fun _ _ => rfl)) pe_int (fun _ _ => rfl)) (pa_cons (pv 3) (pa_cons (pv 4) pa_nil)))) pe_non)))))), ?_⟩
    rw [show start N_block_at [V.ref p, V.int st, V.int 8] = [some (V.ref p), some (V.int st), some (V.int 8), none, none, none, none, none, none] from rfl]; try simp only [cxK, cxW]
    fail "TT"
    rename_i ra hra sa hsa
    have hra0 : H ra = none := hra
    have hsa0 : H sa = none := fresh_new hsa
    have nrs : ra ≠ sa := ne_of_none (H := upd H ra (.lst [])) upd_same hsa
    refine w_whQ (fun σ H' => ∃ q rows spots rv o6 o7 o8, σ = [some (.ref p), some (.int q), some (.int 8), some (.ref ra), some (.ref sa), some (.int (st / 16)), o6, o7, o8] ∧ H' ra = some (.lst rv) ∧ Paired (RowV H') rows rv ∧ H' sa = some (.lst (spots.map V.int)) ∧ Same H H' ∧ Acc s.cells s.pages st rows spots q) ?_ fun n' out => ?_
    · rintro σ H1 ⟨q, rows, spots, rv, o6, o7, o8, rfl, hr1, hP, hs1, S1, A⟩
      have R1 := R.same S1
      fail "TT"
      rename_i e he
      have S2 : Same H (upd H1 e (.lst [])) := Same.snocN he S1
      have hr2 : upd H1 e (.lst []) ra = some (.lst rv) := look_new he hr1
      have hs2 : upd H1 e (.lst []) sa = some (.lst (spots.map V.int)) := look_new he hs1
      have hP2 : Paired (RowV (upd H1 e (.lst []))) rows rv := Paired.mono hP fun _ _ ⟨t, q, e1, a1, a2⟩ => ⟨t, q, e1, look_new he a1, look_new he a2⟩
      refine w_neD (.lst (SqL.of' hr2) (dp_rows hP2)) (.lst (SqL.of' upd_same) .nil) (shaped_rows rows) shaped_nil (k := !rows.isEmpty) (by rw [eqv_nil]; cases rows <;> rfl) ?_
      rcases Classical.em (rows = []) with rfl | hne
      · fail "TT"
        exact kn _ S2
      · have B := A.bv hne
        obtain ⟨r0, b0, rest, e0⟩ := B.hd
        have : (!rows.isEmpty) = true := by rw [e0]; rfl
        rw [this]
        generalize upd H1 e (.lst []) = H2 at S2 hr2 hs2 hP2 ⊢
        have hP3 := hP2
        rw [e0] at hP3
        cases hP3 with
        | @cons _ v _ vs hv _ =>
          obtain ⟨t, q', rfl, ht, hq⟩ := hv
          fail "TT"
          refine w_ixL (SqL.of' hr2) (atI_nat (j := 0) rfl) ?_
          fail "TT"
          intro x dx hx hdx hne2
          have hx' : upd H2 dx (.own x) x = none := by rw [upd_ne hne2.symm]; exact hx
          refine ⟨_, _, _, _, rfl, x, dx, st, ra, sa, rfl, rfl, rfl, rfl, upd_same, fun H3 D h1 h2 h3 h4 => ⟨rfl, ?_⟩⟩
          have S3 : ∀ b o, H2 b = some o → H3 b = some o := fun b o hb => h4 b o (look_new hx' (look_new hdx hb)) (ne_of_none hb hx)
          refine kb H3 ⟨x, dx, ra, sa, D, st, rows, spots, 0, []⟩ (S2.trans S3) ⟨⟨0, h1⟩, ⟨_, S3 _ _ hr2, Paired.mono hP2 fun _ _ ⟨t, q, e1, a1, a2⟩ => ⟨t, q, e1, S3 _ _ a1, S3 _ _ a2⟩⟩, S3 _ _ hs2, h2⟩ (fresh_same S2 hx) hra0 hsa0 (fresh_same S2 (fresh_new (fresh_new h3))) rfl rfl B
    refine w_wh (fun j σ H' => ∃ q rows spots rv o6 o7 o8, σ = [some (.ref p), some (.int q), some (.int 8), some (.ref ra), some (.ref sa), some (.int (st / 16)), o6, o7, o8] ∧ H' ra = some (.lst rv) ∧ Paired (RowV H') rows rv ∧ H' sa = some (.lst (spots.map V.int)) ∧ Same H H' ∧ Acc s.cells s.pages st rows spots q ∧ j + rows.length = 8 ∧ spots.length ≤ 2 * rows.length)
      8 ⟨st, [], [], [], _, _, _, rfl, by fail "hf", .nil, by fail "hf", by fail "sm", ⟨fun _ => ⟨rfl, rfl⟩, fun h => absurd rfl h, fun xs x e => by simp at e⟩, rfl, Nat.le_refl _⟩ ?_
    rintro j σ H1 ⟨q, rows, spots, rv, o6, o7, o8, rfl, hr1, hP, hs1, S1, A, hj, hsl⟩
    have R1 := R.same S1
    have hlr : rv.length = rows.length := (Paired.length hP).symm
    have out1 := fun o6 o7 o8 H2 (S2 : Same H1 H2) => out [some (.ref p), some (.int q), some (.int 8), some (.ref ra), some (.ref sa), some (.int (st / 16)), o6, o7, o8] H2 ⟨q, rows, spots, rv, o6, o7, o8, rfl, S2 _ _ hr1, Paired.mono hP fun _ _ ⟨t, q, e1, a1, a2⟩ => ⟨t, q, e1, S2 _ _ a1, S2 _ _ a2⟩, S2 _ _ hs1, S1.trans S2, A⟩
    fail "TT"
    rw [hlr]
    by_cases hlen : (rows.length : Int) < 8
    · fail "TT"
      by_cases hp : q / 16 = st / 16
      · refine kI_y hp ?_
        refine t_or (by rfl) hr1 hP T.t_ENDS (fun H2 S2 hend => ?_) (fun H2 S2 => ?_)
        · have R2 := R1.same S2
          fail "TT"
          cases e : spotOf s.pages q with
          | none =>
            fail "TT"
            exact out1 _ _ _ _ (by fail "sm")
          | some c =>
            obtain ⟨c0, c1, g0, g1⟩ := spotOf_ok ok.pr e
            have hcell := ok.cr _ (gi_mem (ns := s.cells) (i := c) c0 (by rw [ok.cl]; omega))
            dsimp only [optV]
            fail "TT"
            refine w_rHead hcell.1 fun H3 v S3 hv => ?_
            have R3 := R2.same S3
            cases eh : headOf (gi s.cells c) with
            | none =>
              rw [eh] at hv
              obtain rfl : v = .non := hv
              fail "TT"
              exact out1 _ _ _ _ (S2.trans S3)
            | some hd =>
              rw [eh] at hv
              obtain ⟨a, rfl, ha⟩ := hv
              rw [head_cons] at ha
              fail "TT"
              have hr : (⟨hd.w, hd.x, hd.y, if hd.w.long = true then gi s.cells (c + 1) else 0⟩ : Row) = ⟨hd.w, hd.x, hd.y, if hd.w.long = true then gi s.cells (c + 1) else 0⟩ := rfl
              generalize hrr : (⟨hd.w, hd.x, hd.y, if hd.w.long = true then gi s.cells (c + 1) else 0⟩ : Row) = r at hr
              have hsz : (if hd.w.long = true then (2 : Int) else 1) = sizeR r := by rw [← hrr]; rfl
              rw [hsz]
              by_cases hz : (q + sizeR r - 1) / 16 = st / 16
              · refine kI_n (fun h => h hz) ?_
                obtain ⟨A2, h128⟩ := A.snoc ok (by omega) hend hp e eh hrr.symm hz
                fail "TT"
                rw [hsz]
                refine w_slL (SqL.of' R3.st) fun b1 hb1 => ?_
                rw [cut_row (r := r) c0 ok.cl c1 (fun hl => h128 (by rw [← hrr] at hl; exact hl)) (by rw [← hrr])]
                fail "TT"
                refine w_tupL (SqL.of' upd_same) fun b2 hb2 => ?_
                refine w_catN (by fail "hf") (SqT.of' upd_same) (by have h1 := args_len hd; have h2 := tail_len r; rw [sizeLine_eq]; simp only [List.length_cons, List.length_map]; omega) fun t H5 S5 ht => ?_
                have ht : H5 t = some (.tup r.vs) := by rw [ht, ← hrr]; exact congrArg (fun z => some (HO.tup z)) row_cat
                fail "TT"
                rename_i tp htp
                refine w_app (xs := rv) (by fail "hf") (by rw [hlr, sizeLine_eq]; omega) fun H6 hr6 k6 => ?_
                have S5' : Same H1 H5 := by fail "sm"
                have S5h : Same H (upd H5 tp (.tup [.int q, .ref t, .int (q + sizeR r)])) := Same.snocN htp (S1.trans S5')
                have hs5 : upd H5 tp (.tup [.int q, .ref t, .int (q + sizeR r)]) sa = some (.lst (spots.map V.int)) := look_new htp (S5' _ _ hs1)
                have hr5 : upd H5 tp (.tup [.int q, .ref t, .int (q + sizeR r)]) ra = some (.lst rv) := look_new htp (S5' _ _ hr1)
                have hs6 : H6 sa = some (.lst (spots.map V.int)) := k6 _ _ hs5 nrs.symm
                have hsr : sizeR r = 1 ∨ sizeR r = 2 := by unfold sizeR; split; exact .inr rfl; exact .inl rfl
                fail "TT"
                refine w_lstRg2 ?_
                fail "TT"
                refine w_kRng (RgOk.of_le c0 (by omega) (by omega) (by omega)) fun b3 hb3 => ?_
                rw [rg_row]
                fail "TT"
                refine w_ext (xs := spots.map V.int) (look_new hb3 hs6) upd_same (by have := spots_len r c; rw [sizeLine_eq, List.length_map, List.length_map]; omega) fun H7 hs7 k7 => ?_
                fail "TT"
                rw [← List.map_append] at hs7
                have tk6 : TupKeep (upd H5 tp (.tup [.int q, .ref t, .int (q + sizeR r)])) H7 := ((tup_kp hr5 k6).trans (.ofSame (Ext.new hb3))).trans (tup_kp (look_new hb3 hs6) k7)
                have tk5 : TupKeep H5 H7 := TupKeep.trans (.ofSame (Ext.new htp)) tk6
                refine ⟨j - 1, by omega, q + sizeR r, rows ++ [(q, r, q + sizeR r)], spots ++ spotsR r c, rv ++ [.ref tp], _, _, _, rfl, k7 _ _ (look_new hb3 hr6) nrs, Paired.snoc ⟨tp, t, rfl, tk6 _ _ upd_same, tk5 _ _ ht⟩ (Paired.mono hP fun _ _ ⟨t', q', e1, a1, a2⟩ => ⟨t', q', e1, tk5 _ _ (S5' _ _ a1), tk5 _ _ (S5' _ _ a2)⟩), hs7, Same.kpN (Same.snocN hb3 (Same.kpN S5h hra0 k6)) hsa0 k7, A2, by rw [List.length_append]; simp only [List.length_cons, List.length_nil]; omega, by have := spots_len r c; rw [List.length_append, List.length_append]; simp only [List.length_cons, List.length_nil]; omega⟩
              · refine kI_y hz ?_
                fail "TT"
                exact out1 _ _ _ _ (by fail "sm")
        · exact kW_F (out1 _ _ _ _ S2)
      · exact kI_n hp (kW_F (out1 _ _ _ _ (Same.refl _)))
    · exact kI_n hlen (kW_F (out1 _ _ _ _ (Same.refl _)))
end

/-! part P24make -/
structure StD (d d' : TD) : Prop where
  m : d'.m = d.m
  sp : d'.sp = d.sp
  ta : d'.ta = d.ta
  L : d'.L = d.L
  at_ : d'.at_ = d.at_
  now : d'.now = none ∨ d'.now = d.now
  come : d'.come = none ∨ d'.come = d.come
def rMake (K : PySem.W.Frag) (a b : V) (H : Hp) (Q : VK) : Prop := ∃ (d : TD) (π : TP) (st : Int), a = .ref d.m ∧ b = .int st ∧ TH K H d π ∧ Norm π ∧ π.c = π.s.cells ∧ π.pg = π.s.pages ∧ π.s.Ok ∧ (∀ x ∈ d.bs, x.start ≠ st) ∧ (∀ H', Same H H' → Q .non H') ∧
  ∀ H' d' nb, TH K H' d' π → FrT K d H H' d' → StD d d' → nb ∈ d'.bs → nb.start = st → Q (.ref nb.a) H'
section
variable {K : PySem.W.Frag} {H H' : Hp} {d d' : TD} {π : TP} {b nb : Blk} {x mm : Addr} {st : Int} {Q : VK} {rt : VK}
theorem TH.ownS (R : TH K H d π) (h : Own d x) : ∃ o, H x = some o := by
  rcases h with e | e | e | ⟨b, hb, e | e⟩
  · obtain ⟨dx, k, ho⟩ := R.ob
    exact ⟨_, e ▸ ho⟩
  · cases q : H x with
    | none => exact absurd e (R.st.notIn q)
    | some o => exact ⟨o, rfl⟩
  · exact ⟨_, e ▸ R.tb⟩
  · obtain ⟨g, ho⟩ := (R.bl b hb).ob
    exact ⟨_, e ▸ ho⟩
  · exact ⟨_, e ▸ (R.bl b hb).ch⟩
theorem TH.notOwnN (R : TH K H d π) (h : H x = none) : ¬ Own d x := fun z => by
  obtain ⟨o, ho⟩ := R.ownS z
  rw [h] at ho; cases ho
theorem TH.notOwnT (R : TH K H d π) {xs : List V} (h : H x = some (.tup xs)) : ¬ Own d x := by
  rintro (e | e | e | ⟨b, hb, e | e⟩)
  · obtain ⟨dx, k, ho⟩ := R.ob
    rw [e, ho] at h; cases h
  · exact R.st.notTup h e
  · exact notup_tb R.tb xs (e ▸ h)
  · obtain ⟨g, hg⟩ := (R.bl b hb).ob
    rw [e, hg] at h; cases h
  · rw [e, (R.bl b hb).ch] at h; cases h
theorem BlkAt.fr (B : BlkAt K H b) (R : TH K H d π) (F : FrT K d H H' d') (h1 : ¬ Own d b.a) (h2 : ¬ Own d b.ra) (h3 : ¬ Own d b.sa) (h4 : ¬ Own d b.ca) : BlkAt K H' b :=
  B.mono (fun _ h => F.kp _ _ h h1) (fun _ h => F.kp _ _ h h2) (fun _ h => F.kp _ _ h h3) (fun _ h => F.kp _ _ h h4) fun _ _ h => F.kp _ _ h (R.notOwnT h)
theorem FrT.nOwn (F : FrT K d H H' d') {o : HO} (h : ¬ Own d x) (hx : H x = some o) : ¬ Own d' x := fun z => by
  rcases F.ow x z with q | q
  · exact h q
  · rw [hx] at q; cases q
structure NewB (K : PySem.W.Frag) (H : Hp) (d : TD) (nb : Blk) : Prop where
  at_ : BlkAt K H nb
  a : ¬ Own d nb.a
  ra : ¬ Own d nb.ra
  sa : ¬ Own d nb.sa
  ca : ¬ Own d nb.ca
theorem NewB.fr (B : NewB K H d nb) (R : TH K H d π) (F : FrT K d H H' d') : NewB K H' d' nb :=
  ⟨B.at_.fr R F B.a B.ra B.sa B.ca, let ⟨_, h⟩ := B.at_.ob; F.nOwn B.a h, let ⟨_, h, _⟩ := B.at_.rw; F.nOwn B.ra h, F.nOwn B.sa B.at_.sp, F.nOwn B.ca B.at_.ch⟩
theorem NewB.same (B : NewB K H d nb) (S : Same H H') : NewB K H' d nb := ⟨B.at_.same S, B.a, B.ra, B.sa, B.ca⟩
/-- the table's new entry, told -/
theorem t_tail {d0 : TD} {H0 : Hp} {σ : St'} {n bk ct : St' → Hp → Prop} (R : TH K H d π) (nπ : Norm π) (B : NewB K H d nb) (F0 : FrT K d0 H0 H d) (f1 : H0 nb.a = none) (f2 : H0 nb.ca = none) (f3 : H0 nb.ra = none) (f4 : H0 nb.sa = none) (hst : ∀ x ∈ d.bs, x.start ≠ nb.start) (hle : d.bs.length < 6) (hV : BlkV π.c π.pg nb.start nb.rows nb.spots) (hch : nb.chains = [])
    (hm : d.m = mm) (h0 : σ[0]? = some (some (.ref mm))) (h1 : σ[1]? = some (some (.int nb.start))) (h2 : σ[2]? = some (some (.ref nb.a)))
    (q : ∀ H', TH K H' { d with bs := d.bs ++ [nb] } π → FrT K d0 H0 H' { d with bs := d.bs ++ [nb] } → rt (.ref nb.a) H') :
    tSeq (sAug (cT K) "made" (tVar 0) (tC (V.int 1)) rAdd) (tSeq (sDPut (tF (cT K) "table" (tVar 0)) (tVar 1) (tVar 2)) (tRet (tVar 2))) ⟨n, rt, bk, ct⟩ σ H := by
  refine w_seq (w_sAug (w_var h0 (p_made R hm fun H1 R1 F1 => w_seq ?_)))
  have B1 := B.fr R F1
  have ht := R1.tb
  rw [nπ.fz] at ht
  have ht : H1 d.ta = some (.dK (tbD d.bs)) := ht
  show tVar 2 σ H1 _
  refine w_var h2 (w_F (w_var h0 (g_tF R1 hm (fun _ => rfl) (w_var h1 ?_))))
  have hval : valV (tbD d.bs) (.inl nb.start : Key) = none := by
    rw [val_tbD, List.find?_eq_none.mpr fun x hx => by simpa using hst x hx]
    rfl
  have hlen : (tbD d.bs).length < sizeLine := by
    have : (tbD d.bs).length = d.bs.length := List.length_map ..
    rw [this, sizeLine_eq]; omega
  refine ⟨d.ta, _, rfl, DPut.k (k := .inl nb.start) ht hlen, w_ret (w_var h2 ?_)⟩
  have ep : putK (tbD d.bs) (.inl nb.start : Key) (.ref nb.a) = tbD (d.bs ++ [nb]) := by
    rw [putK_new _ hval]
    unfold tbD
    rw [List.map_append]
    rfl
  rw [ep]
  have nIn : ∀ {x : Addr}, ¬ Own d x → ¬ d.L.In d.sp x := fun h z => h (.inr (.inl z))
  have R2 := R1.setTb (d.bs ++ [nb]) π ⟨rfl, rfl, rfl, rfl⟩ (.dK (tbD (d.bs ++ [nb]))) (by rw [nπ.fz]; rfl) (fun x hx => by
      rcases List.mem_append.mp hx with z | z
      · exact .inl z
      · rw [List.mem_singleton.mp z]
        exact .inr ⟨B1.at_, fun e => B1.ca (by rw [e]; exact own_ta), ⟨nIn B1.ra, nIn B1.sa⟩, hV, by rw [hch]; exact Nat.zero_le _⟩)
    (List.pairwise_append.mpr ⟨R1.pw, List.pairwise_singleton _ _, fun x hx y hy => by
      rw [List.mem_singleton.mp hy]
      exact ⟨hst x hx, fun e => B1.ca (by rw [← e]; exact own_ca hx), fun e => B1.a (by rw [← e]; exact own_a hx)⟩⟩)
    (by rw [List.length_append]; simp only [List.length_cons, List.length_nil]; omega)
    (fun a h => by rcases R1.nw a h with ⟨y, hy, e⟩ | z; exact .inl ⟨y, List.mem_append_left _ hy, e⟩; exact .inr z) (fun a h => by rcases R1.cm a h with ⟨y, hy, e⟩ | z; exact .inl ⟨y, List.mem_append_left _ hy, e⟩; exact .inr z)
    (fun j y k a hj hx => by
      rcases List.mem_append.mp (at_mem hj) with z | z
      · obtain ⟨i, hi⟩ := List.getElem?_of_mem z
        rcases R1.cv i y k a hi hx with ⟨g, hg, e⟩ | z
        · exact .inl ⟨g, List.mem_append_left _ hg, e⟩
        · exact absurd z (nπ.T i k a)
      · rw [List.mem_singleton.mp z, hch] at hx
        cases hx)
  refine q _ R2 ?_
  have F2 : FrT K d H1 (upd H1 d.ta (.dK (tbD (d.bs ++ [nb])))) d := FrT.put own_ta ht (fun _ _ z => by cases z) fun _ h => .inl h
  obtain ⟨g1, g2, g5, g3, g4⟩ := (F0.trans F1).trans F2
  refine ⟨g1, fun x hx => ?_, fun x hx => ?_, g3, g4⟩
  rotate_left
  · rcases List.mem_append.mp hx with z | z
    · exact g5 x z
    · rw [List.mem_singleton.mp z]; exact .inr ⟨f3, f4⟩
  rcases hx with z | z | z | ⟨y, hy, z⟩
  · exact g2 x (.inl z)
  · exact g2 x (.inr (.inl z))
  · exact g2 x (.inr (.inr (.inl z)))
  · rcases List.mem_append.mp hy with hy | hy
    · exact g2 x (.inr (.inr (.inr ⟨y, hy, z⟩)))
    · rw [List.mem_singleton.mp hy] at z
      rcases z with z | z
      · exact .inr (by rw [z]; exact f1)
      · exact .inr (by rw [z]; exact f2)
/-- [.. for x in self.table.values() if ..] -/
theorem t_scan {σ : St'} {tt : TT} {te : TE} {i : Nat} {vs : List Nat} (R : TH K H d π) (hfz : π.fz = none) (hm : d.m = mm) (h0 : σ[0]? = some (some (.ref mm))) (p : Blk → Bool) (f : Blk → V)
    (turn : ∀ x ∈ d.bs, ∀ od H' D Nx, TH K H' d { π with fz := some od } → Same H (upd H' d.ta (.dK (tbD d.bs))) → (if p x = true then kKeep D Nx (f x) H' else Nx H') → gName i (.ref x.a) (wipe σ vs) H' (kTgt tt te D vs σ Nx))
    (q : ∀ H' D, Same H H' → H D = none → H' D = some (.lst ((d.bs.filter p).map f)) → Q (.ref D) H') : tLockE (tLc (iVals (tF (cT K) "table" (tVar 0))) (gName i) tt te vs) σ H Q := by
  have ht := R.tb
  rw [hfz] at ht
  refine w_lockE ht trivial fun od => ?_
  have R1 : TH K (upd H d.ta (.frz od (tbO none (tbD d.bs)))) d { π with fz := some od } := R.lock (some od) rfl
  have low : ∀ x, upd H d.ta (.frz od (tbO none (tbD d.bs))) x = none → H x = none := fun x h => fresh_new h
  have uns : ∀ {H3}, Same (upd H d.ta (.frz od (tbO none (tbD d.bs)))) H3 → Same H (upd H3 d.ta (tbO none (tbD d.bs))) := fun h => unlock_same ht h
  generalize upd H d.ta (.frz od (tbO none (tbD d.bs))) = H1 at R1 low uns ⊢
  refine w_lc (w_iVals (w_F (w_var h0 (g_tF R1 hm (fun _ => rfl) (w_kDv (kvs := tbD d.bs) R1.tb ?_)))))
  refine w_lcJ walk_values (fun D j H' => H' D = some (.lst (((d.bs.take j).filter p).map f)) ∧ Same H1 H') (fun D hD => ⟨upd_same, Ext.new hD⟩) (fun D j H' hD _ ⟨_, h⟩ => h _ _ R1.tb) ?_ ?_
  · rintro D j x H2 H' hD hj ⟨h1, h2⟩ ⟨rfl, kk, hk⟩
    obtain ⟨c, hc, e0⟩ := inl_tbD hk
    injection e0 with _ e0
    subst e0
    refine turn c (at_mem hc) od H' D _ (R1.same h2) (uns h2) ?_
    have hj2 : j < d.bs.length := (List.getElem?_eq_some_iff.mp hc).1
    have et : d.bs.take (j + 1) = d.bs.take j ++ [c] := by
      rw [List.take_add_one, hc]
      rfl
    have e6 := R1.le
    by_cases hp : p c = true
    · rw [if_pos hp]
      refine w_kKeep h1 (by
        have := List.length_filter_le p (d.bs.take j)
        have h3 : (d.bs.take j).length ≤ d.bs.length := by rw [List.length_take]; omega
        rw [List.length_map, sizeLine_eq]; omega) ⟨?_, Same.mutD hD h2⟩
      rw [upd_same, et, List.filter_append, List.filter_cons_of_pos hp, List.map_append]
      rfl
    · rw [if_neg hp]
      refine ⟨?_, h2⟩
      rw [h1, et, List.filter_append, List.filter_cons_of_neg hp]
      simp
  · rintro D H' hD ⟨h1, h2⟩
    refine ⟨h2 _ _ R1.tb, q _ D (uns h2) (low D hD) ?_⟩
    have nD : D ≠ d.ta := fun e => by rw [e, R1.tb] at hD; cases hD
    rw [upd_ne nD, h1]
    have : (tbD d.bs).length = d.bs.length := List.length_map ..
    rw [this, List.take_length]
end
section
variable {P : Program} {w : World} {K : PySem.W.Frag} {mg : Str → Option Value} {base : Heap}
theorem ok_Turner_make (T : Txt w K mg) : MDef P w K mg base (cT K) "make" 4 [] (sp2 (rMake K)) := by
  obtain ⟨f, fd, F, M⟩ := T.d_Turner_make
  refine ⟨f, fd, _, _, F.ok sc_Turner_make (fun vs H Q E h => ?_) (fun cdv A outer s0 H vs Q E hr h => ?_), M, F.bindsN fun _ _ _ _ _ _ us hl => match us, hl with | [_, _], _ => rfl, .nil⟩
  · obtain ⟨_, _, rfl, _⟩ := h
    rfl
  · obtain ⟨_, _, rfl, d, π, st, rfl, rfl, R, nπ, hc, hpg, ok, hst, k1, k2⟩ := h
    refine ⟨_, (pss_cons (ps_set (i := 2) sc_Turner_make.nd rfl (by first | exact .inl rfl | exact .inr rfl) (e_call (ok_block_at T) hr (pa_cons (pe_f (pv 0) T.cl_Turner T.n_Turner_state) (pa_cons (pv 1) (pa_cons (pe_f (pv 0) T.cl_Turner T.n_Turner_long) pa_nil)))))
 (pss_cons (ps_if (pt_cmpR op_isN1 (pv 2) pe_non (nomark _))
 (pss_one (ps_ret pe_non))
 pss_nil)
 (pss_cons (ps_if (pt_cmpR op_eq (pe_callB call_lenD (by rfl) T.f_len PySem.boot_len (pa_cons (pe_f (pv 0) T.cl_Turner T.n_Turner_table) pa_nil)) (pe_f (pv 0) T.cl_Turner T.n_Turner_room) (nomark _))
 (pss_cons (ps_set (i := 3) sc_Turner_make.nd rfl (by first | exact .inl rfl | exact .inr rfl) (pe_callB (cr_min rfl) (by rfl) T.f_min (by decide +kernel) (pa_cons (pe_lock (pe_lc (own := [("other", 4)]) (g := gName 4) (tt := tYes) rfl sc_Turner_make.nd (pi_values (pe_f (pv 0) T.cl_Turner T.n_Turner_table)) (blkOk_by (N := N_Turner_make) (sc := defScope s_Turner_make) (by decide +kernel)) (fun _ _ _ _ _ => (pg_name (i := 4) sc_Turner_make.nd rfl (by first | exact .inl rfl | exact .inr rfl))) (fun _ _ _ _ _ => pts_nil) (fun _ _ _ _ _ => (pe_f (pv 4) T.cl_Block T.n_Block_last)))) pa_nil)))
 (pss_one (ps_expr (e_meth (pv 0) T.cl_Turner (ok_Turner_throw T) hr (pa_cons (pe_lock (pe_lc (own := [("other", 4)]) (g := gName 4) rfl sc_Turner_make.nd (pi_values (pe_f (pv 0) T.cl_Turner T.n_Turner_table)) (blkOk_by (N := N_Turner_make) (sc := defScope s_Turner_make) (by decide +kernel)) (fun _ _ _ _ _ => (pg_name (i := 4) sc_Turner_make.nd rfl (by first | exact .inl rfl | exact .inr rfl))) (fun _ _ _ _ _ => (pts_one (pt_cmpR op_eq (pe_f (pv 4) T.cl_Block T.n_Block_last) (pv 3) (nomark _)))) (fun _ _ _ _ _ => (pv 4)))) pa_nil)))))
 pss_nil)
 (pss_cons (ps_fa (pv 0) pe_int in_add T.cl_Turner T.n_Turner_made)
 (pss_cons (ps_dput (u1 hr.units) (pe_f (pv 0) T.cl_Turner T.n_Turner_table) (pv 1) (pv 2) rfl)
 (pss_one (ps_ret (pv 2)))))))), ?_⟩
    rw [show start N_Turner_make [V.ref d.m, V.int st] = [some (V.ref d.m), some (V.int st), none, none, none] from rfl]; try simp only [cxK, cxW]
    fail "TT"
    refine ⟨d.sp, d.L, π.s, st, rfl, rfl, rfl, R.st, ok, fun H1 S1 => ?_, fun H1 nb S1 B n1 n2 n3 n4 e1 e2 hV => ?_⟩
    · fail "TT"
      exact k1 _ S1
    · have R1 := R.same S1
      have N1 : NewB K H1 d nb := ⟨B, R.notOwnN n1, R.notOwnN n2, R.notOwnN n3, R.notOwnN n4⟩
      have ht := R1.tb
      rw [nπ.fz] at ht
      fail "TT"
      refine ⟨d.ta, tbD d.bs, rfl, ht, ?_⟩
      subst e1
      have hV' : BlkV π.c π.pg nb.start nb.rows nb.spots := by rw [hc, hpg]; exact hV
      have hl : (tbD d.bs).length = d.bs.length := List.length_map ..
      fail "TT"
      rw [hl]
      by_cases hf : d.bs.length = 6
      · refine kI_y (by omega) (w_seq (w_asg (w_CB (w_cons ?_))))
        refine t_scan R1 nπ.fz rfl (by rfl) (fun _ => true) (fun x => .int x.last) (fun x hx od H' D Nx R' S' k => ?_) (fun H2 D S2 hD h2 => ?_)
        · rw [if_pos rfl] at k
          fail "TT"
          exact k
        · rw [List.filter_eq_self.mpr fun _ _ => rfl] at h2
          have R2 := R1.same S2
          fail "TT"
          refine ⟨D, d.bs.map (·.last), rfl, SqL.of' (by rw [h2, List.map_map]; rfl), by rw [List.length_map]; omega, fun m hm _ => ?_⟩
          obtain ⟨y, hy, ey⟩ := List.mem_map.mp hm
          fail "TT"
          refine t_scan R2 nπ.fz rfl (by rfl) (fun x => decide (x.last = m)) (fun x => .ref x.a) (fun x hx od H' D Nx R' S' k => ?_) (fun H3 D3 S3 hD3 h3 => ?_)
          · fail "TT"
            by_cases e : x.last = m
            · rw [if_pos (decide_eq_true e)] at k
              fail "TT"
              exact k
            · rw [if_neg (by rw [decide_eq_false e]; exact Bool.false_ne_true)] at k
              fail "TT"
              exact k
          · have R3 := R2.same S3
            fail "TT"
            refine ⟨d, π, D3, d.bs.filter (fun x => decide (x.last = m)), rfl, rfl, R3, nπ, h3, R2.st.notIn hD3, fun x hx => (List.mem_filter.mp hx).1, (R3.pw.filter _).imp fun h => h.2.2, fun H5 d5 R5 F5 P5 => ?_⟩
            have hpos : 0 < (d.bs.filter (fun x => decide (x.last = m))).length := List.length_pos_of_mem (List.mem_filter.mpr ⟨hy, decide_eq_true ey⟩)
            have hlen := P5.len
            have S13 : Same H H3 := (S1.trans S2).trans S3
            refine t_tail R5 nπ ((N1.same (S2.trans S3)).fr R3 F5) ((FrT.ofSame S13).trans F5) n1 n4 n2 n3 (fun x hx => ?_) (by omega) hV' e2 P5.m (by rfl) (by rfl) (by rfl) fun H6 R6 F6 => ?_
            · obtain ⟨b, hb, cb, _⟩ := P5.sub x hx
              rw [cb.st]
              exact hst b hb
            · exact k2 H6 _ nb R6 F6 ⟨P5.m, P5.sp, P5.ta, P5.L, P5.at_, P5.now, P5.come⟩ (List.mem_append_right _ List.mem_cons_self) rfl
      · refine kI_n (by omega) (w_next ?_)
        have hle := R1.le
        exact t_tail R1 nπ N1 (FrT.ofSame S1) n1 n4 n2 n3 hst (by omega) hV' e2 rfl (by rfl) (by rfl) (by rfl) fun H6 R6 F6 => k2 H6 _ nb R6 F6 ⟨rfl, rfl, rfl, rfl, rfl, .inr rfl, .inr rfl⟩ (List.mem_append_right _ List.mem_cons_self) rfl
end

/-! part P25found -/
structure FD (d d' : TD) : Prop where
  m : d'.m = d.m
  sp : d'.sp = d.sp
  ta : d'.ta = d.ta
  L : d'.L = d.L
  at_ : d'.at_ = d.at_
  now : d'.now = none ∨ d'.now = d.now
theorem TH.up {K : PySem.W.Frag} {H : Hp} {d : TD} {π : TP} (R : TH K H d π) : TH K H d { π with n := π.n + 1 } :=
  ⟨R.ob, R.st, R.tb, R.bl, R.pw, R.ct, R.no, R.le, R.nw, R.cm, R.va, R.cv, fun b hb => Nat.le_succ_of_le (R.cl b hb)⟩
def rFound (K : PySem.W.Frag) (a : V) (H : Hp) (Q : VK) : Prop := ∃ (d : TD) (π : TP), a = .ref d.m ∧ TH K H d π ∧ Norm π ∧ π.n + 1 ≤ 1000 ∧ π.c = π.s.cells ∧ π.pg = π.s.pages ∧ π.s.Ok ∧
  (∀ H' d', TH K H' d' { π with n := π.n + 1 } → FrT K d H H' d' → FD d d' → Q .non H') ∧
  ∀ H' d' b, TH K H' d' { π with n := π.n + 1 } → FrT K d H H' d' → FD d d' → b ∈ d'.bs → b.start = π.s.place → Q (.ref b.a) H'
theorem FD.trans {a b c : TD} (h : FD a b) (g : FD b c) : FD a c := ⟨g.m.trans h.m, g.sp.trans h.sp, g.ta.trans h.ta, g.L.trans h.L, g.at_.trans h.at_, by
  rcases g.now with e | e
  · exact .inl e
  · rw [e]; exact h.now⟩
theorem FD.refl (a : TD) : FD a a := ⟨rfl, rfl, rfl, rfl, rfl, .inr rfl⟩
theorem Norm.up {π : TP} (h : Norm π) (hn : π.n + 1 ≤ 1000) : Norm { π with n := π.n + 1 } := ⟨h.T, h.W, h.fz, hn⟩
section
variable {P : Program} {w : World} {K : PySem.W.Frag} {mg : Str → Option Value} {base : Heap} {H H0 : Hp} {d d0 : TD} {π : TP} {b : Blk} {mm : Addr} {cm : Option Addr} {pl : Int} {o3 : Option V} {n bk ct : St' → Hp → Prop} {rt : VK}
theorem t_begin (R : TH K H d π) (hm : d.m = mm) (hb : b ∈ d.bs) (F0 : FrT K d0 H0 H d) (q : ∀ H' d' b', TH K H' d' π → FrT K d0 H0 H' d' → FD d d' → b' ∈ d'.bs → b'.start = b.start → b'.a = b.a → rt (.ref b.a) H') : rBegin K (.ref mm) (.ref b.a) H rt := by
  subst hm
  refine ⟨d, π, b, rfl, rfl, R, hb, fun H' bs' R' F' P' => ?_⟩
  obtain ⟨b', hb', cb⟩ := paired_mem' P' hb
  exact q H' _ b' R' (F0.trans F') ⟨rfl, rfl, rfl, rfl, rfl, .inr rfl⟩ hb' cb.st cb.a
theorem t_end (R : TH K H d π) (nπ : Norm π) (hn : π.n + 1 ≤ 1000) (hm : d.m = mm) (hb : b ∈ d.bs) (hpl : b.start = pl) (F0 : FrT K d0 H0 H d) (hcm : ∀ a, cm = some a → ∃ st, IsB K H a st)
    (q : ∀ H' d' b', TH K H' d' { π with n := π.n + 1 } → FrT K d0 H0 H' d' → FD d d' → b' ∈ d'.bs → b'.start = b.start → b'.a = b.a → rt (.ref b.a) H') :
    tSeq (tIfS (tAnd (tTest (tOp rNotN (tVar 2) (tC V.non))) (tTest (tOp (rEqR K (cB K)) (tDGet2 (tF (cT K) "table" (tVar 0)) (tF (cB K) "start" (tVar 2)) (tC V.non)) (tVar 2)))) (sDPut (tF (cB K) "chains" (tVar 2)) (tVar 1) (tVar 3)) tNext)
      (tRet (tMeth (cT K) "begin" (sp2 (rBegin K)) [] E0 (tVar 0) (tCons (tVar 3) tNil))) ⟨n, rt, bk, ct⟩ [some (.ref mm), some (.int pl), some (optR cm), some (.ref b.a)] H := by
  subst hm
  have plain : tRet (tMeth (cT K) "begin" (sp2 (rBegin K)) [] E0 (tVar 0) (tCons (tVar 3) tNil)) ⟨n, rt, bk, ct⟩ [some (.ref d.m), some (.int pl), some (optR cm), some (.ref b.a)] H := by
    fail "TT"
    exact t_begin R.up rfl hb F0 q
  have ht := R.tb
  rw [nπ.fz] at ht
  have ht : H d.ta = some (.dK (tbD d.bs)) := ht
  refine w_seq (w_ifS (w_and (w_test (w_op (w_var rfl (w_C ?_))))))
  cases cm with
  | none => exact w_noNF (w_kB (kI_F (kI_F (w_next plain))))
  | some a =>
    obtain ⟨st, hI⟩ := hcm a rfl
    refine w_noNT (w_kB (kI_T (w_test (w_op ?_))))
    show tF (cT K) "table" (tVar 0) _ H _
    refine w_F (w_var rfl (g_tF R rfl (fun _ => rfl) ⟨d.ta, rfl, .inl ⟨_, .inl ht⟩, w_F (w_var rfl (g_isB hI (w_C ⟨_, DGet.k (k := .inl st) ht, w_var rfl ?_⟩)))⟩))
    rw [val_tbD]
    cases e : d.bs.find? (fun x => decide (x.start = st)) with
    | none => exact w_eqBN hI (w_kB (kI_F (w_next plain)))
    | some c =>
      have hc := List.mem_of_find?_eq_some e
      refine w_eqBB (R.isB hc) hI (w_kB ?_)
      by_cases ec : c.a = a
      · rw [decide_eq_true ec]
        refine kI_T ?_
        subst ec
        have R2 := R.up
        have hch := (R.bl c hc).ch
        have hl : (chD c.chains).length < sizeLine := by
          have h1 : (chD c.chains).length = c.chains.length := List.length_map ..
          have h2 := R.cl c hc
          rw [h1, sizeLine_eq]; omega
        refine w_var rfl (w_F (w_var rfl (g_bF R hc rfl (fun _ => rfl) (w_var rfl ⟨c.ca, _, rfl, DPut.k (k := .inl pl) hch hl, ?_⟩))))
        rw [put_chD]
        obtain ⟨j, hj⟩ := List.getElem?_of_mem hc
        have R3 := R2.setCh hc (putC c.chains pl b.a) (fun k x hx => by
          rcases putC_mem hx with z | ⟨z1, z2⟩
          · rcases R.cv j c k x hj z with y | y
            · exact y
            · exact absurd y (nπ.T j k x)
          · exact ⟨b, hb, z2.symm, hpl.trans z1.symm⟩) (Nat.le_trans (putC_len _ _ _) (Nat.succ_le_succ (R.cl c hc)))
        have F3 : FrT K d H (upd H c.ca (.dK (chD (putC c.chains pl b.a)))) { d with bs := d.bs.map (upB c.a fun x => { x with chains := putC c.chains pl b.a }) } := FrT.put (own_ca hc) hch (fun _ _ z => by cases z) fun x h => own_map (fun y hy => by
          by_cases z : y.a = c.a
          · rw [upB_y z]; exact ⟨rfl, .inl rfl⟩
          · rw [upB_n z]; exact ⟨rfl, .inl rfl⟩) h
        have hb3 : upB c.a (fun x => { x with chains := putC c.chains pl b.a }) b ∈ d.bs.map (upB c.a fun x => { x with chains := putC c.chains pl b.a }) := List.mem_map_of_mem hb
        have cb : Core b (upB c.a (fun x => { x with chains := putC c.chains pl b.a }) b) := core_upB fun _ => ⟨rfl, rfl, rfl, rfl, rfl, rfl⟩
        generalize upd H c.ca (.dK (chD (putC c.chains pl b.a))) = H3 at R3 F3 ⊢
        fail "TT"
        rw [← cb.a]
        exact t_begin R3 rfl hb3 (F0.trans F3) fun H' d' b' R' F' D' hb' e1 e2 => by
          rw [cb.a]
          exact q H' d' b' R' F' ⟨D'.m, D'.sp, D'.ta, D'.L, D'.at_, D'.now⟩ hb' (e1.trans cb.st) (e2.trans cb.a)
      · rw [decide_eq_false ec]
        exact kI_F (w_next plain)
theorem t_look (R : TH K H d π) (nπ : Norm π) (hn : π.n + 1 ≤ 1000) (hc : π.c = π.s.cells) (hpg : π.pg = π.s.pages) (ok : π.s.Ok) (hm : d.m = mm) (F0 : FrT K d0 H0 H d) (hcm : ∀ a, cm = some a → ∃ st, IsB K H a st)
    (k1 : ∀ H' d', TH K H' d' { π with n := π.n + 1 } → FrT K d0 H0 H' d' → FD d d' → rt .non H')
    (k2 : ∀ H' d' b, TH K H' d' { π with n := π.n + 1 } → FrT K d0 H0 H' d' → FD d d' → b ∈ d'.bs → b.start = π.s.place → rt (.ref b.a) H') :
    tSeq (sAug (cT K) "looked" (tVar 0) (tC (V.int 1)) rAdd) (tSeq (tAsg (tDGet2 (tF (cT K) "table" (tVar 0)) (tVar 1) (tC V.non)) (gName 3))
      (tSeq (tIfS (tTest (tOp rIsN (tVar 3) (tC V.non))) (tAsg (tMeth (cT K) "make" (sp2 (rMake K)) [] E0 (tVar 0) (tCons (tVar 1) tNil)) (gName 3)) tNext)
        (tSeq (tIfS (tTest (tOp rIsN (tVar 3) (tC V.non))) (tRet (tC V.non)) tNext)
          (tSeq (tIfS (tAnd (tTest (tOp rNotN (tVar 2) (tC V.non))) (tTest (tOp (rEqR K (cB K)) (tDGet2 (tF (cT K) "table" (tVar 0)) (tF (cB K) "start" (tVar 2)) (tC V.non)) (tVar 2)))) (sDPut (tF (cB K) "chains" (tVar 2)) (tVar 1) (tVar 3)) tNext)
            (tRet (tMeth (cT K) "begin" (sp2 (rBegin K)) [] E0 (tVar 0) (tCons (tVar 3) tNil))))))) ⟨n, rt, bk, ct⟩ [some (.ref mm), some (.int π.s.place), some (optR cm), o3] H := by
  subst hm
  refine w_seq (w_sAug (w_var rfl (p_looked R rfl fun H1 R1 F1 => w_seq (w_asg ?_))))
  have ht := R1.tb
  rw [nπ.fz] at ht
  have ht : H1 d.ta = some (.dK (tbD d.bs)) := ht
  have hcm1 : ∀ a, cm = some a → ∃ st, IsB K H1 a st := fun a e => let ⟨st, h⟩ := hcm a e; ⟨st, h.fr F1⟩
  show tDGet2 _ _ _ _ H1 _
  refine w_F (w_var rfl (g_tF R1 rfl (fun _ => rfl) ⟨d.ta, rfl, .inl ⟨_, .inl ht⟩, w_var rfl (w_C ⟨_, DGet.k (k := .inl π.s.place) ht, ?_⟩)⟩))
  rw [val_tbD]
  cases e : d.bs.find? (fun x => decide (x.start = π.s.place)) with
  | some b =>
    have hb := List.mem_of_find?_eq_some e
    have hst : b.start = π.s.place := by have h1 := List.find?_some e; exact of_decide_eq_true h1
    refine w_gName rfl ?_
    refine w_seq (w_ifS (w_test (w_op (w_var rfl (w_C ?_)))))
    refine w_isNF (w_kB (kI_F (w_next ?_)))
    refine w_seq (w_ifS (w_test (w_op (w_var rfl (w_C ?_)))))
    refine w_isNF (w_kB (kI_F (w_next ?_)))
    exact t_end R1 nπ hn rfl hb hst (F0.trans F1) hcm1 fun H' d' b' R' F' D' hb' e1 e2 => e2 ▸ k2 H' d' b' R' F' D' hb' (e1.trans hst)
  | none =>
    have hst : ∀ x ∈ d.bs, x.start ≠ π.s.place := fun x hx => by simpa using List.find?_eq_none.mp e x hx
    refine w_gName rfl ?_
    refine w_seq (w_ifS (w_test (w_op (w_var rfl (w_C ?_)))))
    refine w_isNT (w_kB (kI_T ?_))
    fail "TT"
    refine ⟨d, π, π.s.place, rfl, rfl, R1, nπ, hc, hpg, ok, hst, fun H2 S2 => ?_, fun H2 d2 nb R2 F2 D2 hnb enb => ?_⟩
    · refine w_gName rfl ?_
      refine w_seq (w_ifS (w_test (w_op (w_var rfl (w_C ?_)))))
      refine w_isNT (w_kB (kI_T (w_ret (w_C ?_))))
      exact k1 H2 d (R1.up.same S2) (FrT.snocS S2 (F0.trans F1)) (.refl _)
    · refine w_gName rfl ?_
      refine w_seq (w_ifS (w_test (w_op (w_var rfl (w_C ?_)))))
      refine w_isNF (w_kB (kI_F (w_next ?_)))
      have D3 : FD d d2 := ⟨D2.m, D2.sp, D2.ta, D2.L, D2.at_, D2.now⟩
      exact t_end R2 nπ hn D2.m hnb enb ((F0.trans F1).trans F2) (fun a e => let ⟨st, h⟩ := hcm1 a e; ⟨st, h.fr F2⟩) fun H' d' b' R' F' D' hb' e1 e2 => e2 ▸ k2 H' d' b' R' F' (D3.trans D') hb' (e1.trans enb)
end
section
variable {P : Program} {w : World} {K : PySem.W.Frag} {mg : Str → Option Value} {base : Heap}
theorem ok_Turner_found (T : Txt w K mg) : MDef P w K mg base (cT K) "found" 5 [] (sp1 (rFound K)) := by
  obtain ⟨f, fd, F, M⟩ := T.d_Turner_found
  refine ⟨f, fd, _, _, F.ok sc_Turner_found (fun vs H Q E h => ?_) (fun cdv A outer s0 H vs Q E hr h => ?_), M, F.bindsN fun _ _ _ _ _ _ us hl => match us, hl with | [_], _ => rfl, .nil⟩
  · obtain ⟨_, rfl, _⟩ := h
    rfl
  · obtain ⟨_, rfl, d, π, rfl, R, nπ, hn, hc, hpg, ok, k1, k2⟩ := h
    refine ⟨_, (pss_cons (ps_set (i := 1) sc_Turner_found.nd rfl (by first | exact .inl rfl | exact .inr rfl) (pe_f (pe_f (pv 0) T.cl_Turner T.n_Turner_state) T.cl_State T.n_State_next_place))
 (pss_cons (ps_asg (pe_tup (pa_cons (pe_f (pv 0) T.cl_Turner T.n_Turner_come) (pa_cons pe_non pa_nil))) (pg_tup rfl (pgs_cons (pg_name (i := 2) sc_Turner_found.nd rfl (by first | exact .inl rfl | exact .inr rfl)) (pgs_cons (pg_f (pv 0) T.cl_Turner T.n_Turner_come) pgs_nil))))
 (pss_cons (ps_if (PW.pt (pw_and (pt_cmpR op_notN1 (pv 2) pe_non (nomark _)) (pw_and1 (pt_cmp (pc_din (u1 hr.units) (pv 1) (pe_f (pv 2) T.cl_Block T.n_Block_chains))))))
 (pss_cons (ps_fa (pv 0) pe_int in_add T.cl_Turner T.n_Turner_chained)
 (pss_one (ps_ret (e_meth (pv 0) T.cl_Turner (ok_Turner_begin T) hr (pa_cons (pe_dget (u1 hr.units) (pe_f (pv 2) T.cl_Block T.n_Block_chains) (pv 1) (fun _ _ => rfl)) pa_nil)))))
 pss_nil)
 (pss_cons (ps_fa (pv 0) pe_int in_add T.cl_Turner T.n_Turner_looked)
 (pss_cons (ps_set (i := 3) sc_Turner_found.nd rfl (by first | exact .inl rfl | exact .inr rfl) (pe_dget2 (u1 hr.units) (pe_f (pv 0) T.cl_Turner T.n_Turner_table) (pv 1) pe_non ⟨by rfl, by rfl, by rfl, by rfl⟩))
 (pss_cons (ps_if (pt_cmpR op_isN1 (pv 3) pe_non (nomark _))
 (pss_one (ps_set (i := 3) sc_Turner_found.nd rfl (by first | exact .inl rfl | exact .inr rfl) (e_meth (pv 0) T.cl_Turner (ok_Turner_make T) hr (pa_cons (pv 1) pa_nil))))
 pss_nil)
 (pss_cons (ps_if (pt_cmpR op_isN1 (pv 3) pe_non (nomark _))
 (pss_one (ps_ret pe_non))
 pss_nil)
 (pss_cons (ps_if (PW.pt (pw_and (pt_cmpR op_notN1 (pv 2) pe_non (nomark _)) (pw_and1 (pt_cmpR (op_eqR T.o_Block hr.units) (pe_dget2 (u1 hr.units) (pe_f (pv 0) T.cl_Turner T.n_Turner_table) (pe_f (pv 2) T.cl_Block T.n_Block_start) pe_non ⟨by rfl, by rfl, by rfl, by rfl⟩) (pv 2) (nomark _)))))
 (pss_one (ps_dput (u1 hr.units) (pe_f (pv 2) T.cl_Block T.n_Block_chains) (pv 1) (pv 3) rfl))
 pss_nil)
 (pss_one (ps_ret (e_meth (pv 0) T.cl_Turner (ok_Turner_begin T) hr (pa_cons (pv 3) pa_nil)))))))))))), ?_⟩
    rw [show start N_Turner_found [V.ref d.m] = [some (V.ref d.m), none, none, none] from rfl]; try simp only [cxK, cxW]
    fail "TT"
    have hR := R.st
    fail "TT"
    rename_i t htn H1 R1 F1
    have F01 : FrT K d H H1 { d with come := none } := (FrT.ofSame (Ext.new htn)).trans F1
    cases e : d.come with
    | none =>
      dsimp only [optR]
      refine w_noNF (w_kB (kI_F (kI_F (w_next ?_))))
      exact t_look (cm := none) R1 nπ hn hc hpg ok rfl F01 (fun _ z => by cases z) (fun H' d' R' F' D' => k1 H' d' R' F' ⟨D'.m, D'.sp, D'.ta, D'.L, D'.at_, D'.now⟩) fun H' d' b R' F' D' => k2 H' d' b R' F' ⟨D'.m, D'.sp, D'.ta, D'.L, D'.at_, D'.now⟩
    | some a =>
      obtain ⟨b, hb, rfl⟩ : ∃ b ∈ d.bs, b.a = a := by
        rcases R.cm a e with z | z
        · exact z
        · exact absurd z (nπ.W a)
      dsimp only [optR]
      refine w_noNT (w_kB (kI_T ?_))
      have hch := (R1.bl b hb).ch
      refine w_tB ?_
      show tVar 1 _ H1 _
      refine w_var rfl (w_F (w_var rfl (g_bF R1 hb rfl (fun _ => rfl) ⟨b.ca, _, rfl, DGet.k (k := .inl π.s.place) hch, ?_⟩)))
      rw [val_chD]
      cases eg : b.chains.find? (fun x => decide (x.1 = π.s.place)) with
      | none =>
        refine w_kB (kI_F (w_next ?_))
        exact t_look (cm := some b.a) R1 nπ hn hc hpg ok rfl F01 (fun a z => by injection z with z; exact ⟨_, z ▸ R1.isB hb⟩) (fun H' d' R' F' D' => k1 H' d' R' F' ⟨D'.m, D'.sp, D'.ta, D'.L, D'.at_, D'.now⟩) fun H' d' b R' F' D' => k2 H' d' b R' F' ⟨D'.m, D'.sp, D'.ta, D'.L, D'.at_, D'.now⟩
      | some g =>
        have hg1 := List.mem_of_find?_eq_some eg
        have hg2 : g.1 = π.s.place := by have h1 := List.find?_some eg; exact of_decide_eq_true h1
        obtain ⟨j, hj⟩ := List.getElem?_of_mem hb
        obtain ⟨x, hx, e1, e2⟩ : ∃ x ∈ d.bs, x.a = g.2 ∧ x.start = g.1 := by
          rcases R1.cv j b g.1 g.2 hj hg1 with z | z
          · exact z
          · exact absurd z (nπ.T _ _ _)
        refine w_kB (kI_T ?_)
        fail "TT"
        rename_i H2 R2 F2
        have hch2 := (R2.bl b hb).ch
        show tF _ _ _ _ H2 _
        refine w_F (w_var rfl (g_bF R2 hb rfl (fun _ => rfl) (w_var rfl ⟨b.ca, .ref g.2, rfl, ?_, ?_⟩)))
        · have := DGet.k (k := .inl π.s.place) hch2
          rw [val_chD, eg] at this
          exact this
        · fail "TT"
          rw [← e1]
          exact t_begin R2.up rfl hx (F01.trans F2) fun H' d' b' R' F' D' hb' q1 q2 => q2 ▸ k2 H' d' b' R' F' ⟨D'.m, D'.sp, D'.ta, D'.L, D'.at_, D'.now⟩ hb' (q1.trans (e2.trans hg2))
end

/-! part P26change -/
section
variable {K : PySem.W.Frag} {H H1 : Hp} {d : TD} {π : TP} {mm : Addr} {Q : VK} {od : Obj} {rt : VK} {n bk ct : St' → Hp → Prop}
theorem t_scanL {σ : St'} {tt : TT} {te : TE} {i : Nat} {vs : List Nat} (R1 : TH K H1 d { π with fz := some od }) (hm : d.m = mm) (h0 : σ[0]? = some (some (.ref mm))) (p : Blk → Bool) (f : Blk → V)
    (turn : ∀ x ∈ d.bs, ∀ H' D Nx, TH K H' d { π with fz := some od } → Same H1 H' → (if p x = true then kKeep D Nx (f x) H' else Nx H') → gName i (.ref x.a) (wipe σ vs) H' (kTgt tt te D vs σ Nx))
    (q : ∀ H' D, Same H1 H' → H1 D = none → H' D = some (.lst ((d.bs.filter p).map f)) → Q (.ref D) H') : tLc (iVals (tF (cT K) "table" (tVar 0))) (gName i) tt te vs σ H1 Q := by
  refine w_lc (w_iVals (w_F (w_var h0 (g_tF R1 hm (fun _ => rfl) (w_kDv (kvs := tbD d.bs) R1.tb ?_)))))
  refine w_lcJ walk_values (fun D j H' => H' D = some (.lst (((d.bs.take j).filter p).map f)) ∧ Same H1 H') (fun D hD => ⟨upd_same, Ext.new hD⟩) (fun D j H' hD _ ⟨_, h⟩ => h _ _ R1.tb) ?_ ?_
  · rintro D j x H2 H' hD hj ⟨h1, h2⟩ ⟨rfl, kk, hk⟩
    obtain ⟨c, hc, e0⟩ := inl_tbD hk
    injection e0 with _ e0
    subst e0
    refine turn c (at_mem hc) H' D _ (R1.same h2) h2 ?_
    have et : d.bs.take (j + 1) = d.bs.take j ++ [c] := by
      rw [List.take_add_one, hc]
      rfl
    have e6 := R1.le
    by_cases hp : p c = true
    · rw [if_pos hp]
      refine w_kKeep h1 (by
        have := List.length_filter_le p (d.bs.take j)
        have h3 : (d.bs.take j).length ≤ d.bs.length := by rw [List.length_take]; omega
        rw [List.length_map, sizeLine_eq]; omega) ⟨?_, Same.mutD hD h2⟩
      rw [upd_same, et, List.filter_append, List.filter_cons_of_pos hp, List.map_append]
      rfl
    · rw [if_neg hp]
      refine ⟨?_, h2⟩
      rw [h1, et, List.filter_append, List.filter_cons_of_neg hp]
      simp
  · rintro D H' hD ⟨h1, h2⟩
    refine q H' D h2 hD ?_
    have : (tbD d.bs).length = d.bs.length := List.length_map ..
    rw [h1, this, List.take_length]
theorem t_scanS {σ : St'} {tt : TT} {te : TE} {i o : Nat} {vs : List Nat} (R : TH K H d π) (hfz : π.fz = none) (hm : d.m = mm) (h0 : σ[0]? = some (some (.ref mm))) (p : Blk → Bool) (f : Blk → V)
    (turn : ∀ od, ∀ x ∈ d.bs, ∀ H' D Nx, TH K H' d { π with fz := some od } → Same (upd H d.ta (.frz od (.dK (tbD d.bs)))) H' → (if p x = true then kKeep D Nx (f x) H' else Nx H') → gName i (.ref x.a) (wipe σ vs) H' (kTgt tt te D vs σ Nx))
    (q : ∀ H' D, Same H H' → H D = none → H' D = some (.lst ((d.bs.filter p).map f)) → n (σ.set o (some (.ref D))) H') : tLock (tAsg (tLc (iVals (tF (cT K) "table" (tVar 0))) (gName i) tt te vs) (gName o)) ⟨n, rt, bk, ct⟩ σ H := by
  have ht := R.tb
  rw [hfz] at ht
  have ht : H d.ta = some (.dK (tbD d.bs)) := ht
  refine w_lock ht trivial fun od => w_asg ?_
  have R1 : TH K (upd H d.ta (.frz od (.dK (tbD d.bs)))) d { π with fz := some od } := R.lock (some od) rfl
  refine t_scanL R1 hm h0 p f (turn od) fun H' D S' hD h => ?_
  have nD : D ≠ d.ta := fun e => by rw [e, upd_same] at hD; cases hD
  refine w_gName rfl ⟨S' _ _ upd_same, q _ D (unlock_same ht S') (fresh_new hD) (by rw [upd_ne nD]; exact h)⟩
end
theorem inV_mem {k : Int} {ns : List Int} (h : k ∈ ns) : inV (.int k) (ns.map V.int) = true := by
  unfold inV
  rw [List.any_map]
  refine List.any_eq_true.mpr ⟨k, h, ?_⟩
  simp [eqV]
theorem flat_ints (ns : List Int) : (ns.map V.int).all flatV = true := by
  rw [List.all_map]
  exact List.all_eq_true.mpr fun _ _ => rfl
theorem in_maps (w : W20) : inV (.str w.str) [.str "lay", .str "keep", .str "leave"] = w.maps := by cases w <;> decide +kernel
theorem kTurn_F {te : TE} {D : Addr} {Nx : Hp → Prop} {σ2 : St'} {H : Hp} (q : Nx H) : kTurn te D Nx σ2 false H := by
  unfold kTurn
  rw [if_neg Bool.false_ne_true]
  exact q
theorem row_at0 (r : Row) : atI r.vs (0 : Int) = some (.str r.w.str) := atI_nat (j := 0) rfl
theorem row_at1 {r : Row} (h : r.w.maps = true) : atI r.vs (1 : Int) = some (.int r.x) := by
  obtain ⟨w, x, y, n⟩ := r
  cases w <;> first | exact atI_nat (j := 1) rfl | cases h
theorem maps_x {r : Row} (ro : r.Ok) (h : r.w.maps = true) : 0 ≤ r.x ∧ r.x < 4 := ⟨ro.x0, Int.lt_of_lt_of_le ro.x1 (W20.b1_le _)⟩
def thr (v : Option (Int × Bool)) (b : Blk) : Bool := match v with
  | none => true
  | some (f, _) => decide (¬ (gi b.spots 0) / 16 = f)
structure CD (d d' : TD) : Prop where
  m : d'.m = d.m
  sp : d'.sp = d.sp
  ta : d'.ta = d.ta
  L : d'.L = d.L
  at_ : d'.at_ = d.at_
  now : d'.now = none ∨ d'.now = d.now
  sub : ∀ b' ∈ d'.bs, ∃ b ∈ d.bs, Core b b'
theorem Part.cd {d d' : TD} {xs : List Blk} {i : Nat} (p : Part d d' xs i) : CD d d' := ⟨p.m, p.sp, p.ta, p.L, p.at_, p.now, fun b hb => let ⟨b0, h0, c0, _⟩ := p.sub b hb; ⟨b0, h0, c0⟩⟩
theorem TH.val {K : PySem.W.Frag} {H : Hp} {d : TD} {π : TP} (R : TH K H d π) {c : List Int} {pg : List (Option (Int × Bool))} (h : ∀ b ∈ d.bs, BlkV c pg b.start b.rows b.spots) : TH K H d { π with c := c, pg := pg } :=
  ⟨R.ob, R.st, R.tb, R.bl, R.pw, R.ct, R.no, R.le, R.nw, R.cm, h, R.cv, R.cl⟩
def rTChange (K : PySem.W.Frag) (a b c : V) (H : Hp) (Q : VK) : Prop := ∃ (d : TD) (π : TP), a = .ref d.m ∧ TH K H d π ∧ Norm π ∧ π.pg.length = 4 ∧
  ((b = .non ∧ π.s.cells = π.c ∧ π.s.pages = π.pg) ∨ ∃ (r : Row) (q : Addr), c = .ref q ∧ H q = some (.tup r.vs) ∧ r.Ok ∧
    ((∃ k v, b = .int k ∧ 0 ≤ k ∧ r.w.maps = false ∧ π.s.cells = π.c.set k.toNat v ∧ π.s.pages = π.pg) ∨
     (b = .int (-1) ∧ π.s.cells = π.c ∧ ((r.w.maps = false ∧ π.s.pages = π.pg) ∨ (r.w.maps = true ∧ ∃ v, π.s.pages = π.pg.set r.x.toNat v))))) ∧
  ∀ H' d', TH K H' d' { π with c := π.s.cells, pg := π.s.pages } → FrT K d H H' d' → CD d d' → Q .non H'
section
variable {P : Program} {w : World} {K : PySem.W.Frag} {mg : Str → Option Value} {base : Heap}
theorem ok_Turner_change_blocks (T : Txt w K mg) : MDef P w K mg base (cT K) "change_blocks" 2 [] (sp3 (rTChange K)) := by
  obtain ⟨f, fd, F, M⟩ := T.d_Turner_change_blocks
  refine ⟨f, fd, _, _, F.ok sc_Turner_change_blocks (fun vs H Q E h => ?_) (fun cdv A outer s0 H vs Q E hr h => ?_), M, F.bindsN fun _ _ _ _ _ _ us hl => match us, hl with | [_, _, _], _ => rfl, .nil⟩
  · obtain ⟨_, _, _, rfl, _⟩ := h
    rfl
  · obtain ⟨_, _, _, rfl, d, π, rfl, R, nπ, hpl, hcase, k⟩ := h
    refine ⟨_, (pss_cons (ps_if (PW.pt (pw_and (pt_cmpR op_notN1 (pv 1) pe_non (nomark _)) (pw_and1 (pt_cmpR op_ge (pv 1) pe_int (nomark _)))))
 (pss_one (ps_expr (e_meth (pv 0) T.cl_Turner (ok_Turner_throw T) hr (pa_cons (pe_lock (pe_lc (own := [("block", 5)]) (g := gName 5) rfl sc_Turner_change_blocks.nd (pi_values (pe_f (pv 0) T.cl_Turner T.n_Turner_table)) (blkOk_by (N := N_Turner_change_blocks) (sc := defScope s_Turner_change_blocks) (by decide +kernel)) (fun _ _ _ _ _ => (pg_name (i := 5) sc_Turner_change_blocks.nd rfl (by first | exact .inl rfl | exact .inr rfl))) (fun _ _ _ _ _ => (pts_one (pt_cmpR (op_in_seq : OpR _ (compareOp .In) (rIn K false)) (pv 1) (pe_f (pv 5) T.cl_Block T.n_Block_spots) (by with_unfolding_all rfl)))) (fun _ _ _ _ _ => (pv 5)))) pa_nil))))
 pss_nil)
 (pss_one (ps_if (PW.pt (pw_and (pt_cmpR op_notN1 (pv 1) pe_non (nomark _)) (pw_and1 (pt_cmpR op_in_seq (pe_ix ix_tup (pv 2) pe_int (fun _ _ => rfl)) (pe_tup (pa_cons pe_str (pa_cons pe_str (pa_cons pe_str pa_nil)))) (by with_unfolding_all rfl)))))
 (pss_cons (ps_set (i := 3) sc_Turner_change_blocks.nd rfl (by first | exact .inl rfl | exact .inr rfl) (pe_ix ix_list (pe_f (pe_f (pv 0) T.cl_Turner T.n_Turner_state) T.cl_State T.n_State_map) (pe_ix ix_tup (pv 2) pe_int (fun _ _ => rfl)) (fun _ _ => rfl)))
 (pss_cons (ps_lock (ps_setLc (i := 4) (own := [("block", 5)]) (g := gName 5) rfl sc_Turner_change_blocks.nd rfl rfl (sw_true rfl rfl rfl (by decide +kernel)) (pi_values (pe_f (pv 0) T.cl_Turner T.n_Turner_table)) (blkOk_by (N := N_Turner_change_blocks) (sc := defScope s_Turner_change_blocks) (by decide +kernel)) (fun _ _ _ _ _ => (pg_name (i := 5) sc_Turner_change_blocks.nd rfl (by first | exact .inl rfl | exact .inr rfl))) (fun _ _ _ _ _ => (pts_one (pt_cmpR op_eq (pe_op op_fdiv (pe_f (pv 5) T.cl_Block T.n_Block_start) (pe_gv T.v_FRAME)) (pe_ix (ix_tup : IxR _ (rIxT K)) (pv 2) pe_int (fun _ _ => rfl)) (nomark _)))) (fun _ _ _ _ _ => (pv 5))))
 (pss_one (ps_expr (e_meth (pv 0) T.cl_Turner (ok_Turner_throw T) hr (pa_cons (pe_lc (own := [("block", 5)]) (g := gName 5) rfl sc_Turner_change_blocks.nd (pi_list (pv 4)) (blkOk_by (N := N_Turner_change_blocks) (sc := defScope s_Turner_change_blocks) (by decide +kernel)) (fun _ _ _ _ _ => (pg_name (i := 5) sc_Turner_change_blocks.nd rfl (by first | exact .inl rfl | exact .inr rfl))) (fun _ _ _ _ _ => (pts_one (PW.pt (pw_or (pt_cmpR op_isN1 (pv 3) pe_non (nomark _)) (pw_or1 (pt_cmpR op_ne (pe_op op_fdiv (pe_ix (ix_list : IxR _ (rIxL K)) (pe_f (pv 5) T.cl_Block T.n_Block_spots) pe_int (fun _ _ => rfl)) (pe_gv T.v_FRAME)) (pe_ix (ix_tup : IxR _ (rIxT K)) (pv 3) pe_int (fun _ _ => rfl)) (nomark _))))))) (fun _ _ _ _ _ => (pv 5))) pa_nil))))))
 pss_nil))), ?_⟩
    rcases hcase with ⟨rfl, e1, e2⟩ | ⟨r, q, rfl, hq, ro, ⟨kk, v, rfl, k0, hm, e1, e2⟩ | ⟨rfl, e1, ⟨hm, e2⟩ | ⟨hm, v, e2⟩⟩⟩
    · rename_i cv
      rw [show start N_Turner_change_blocks [V.ref d.m, V.non, cv] = [some (V.ref d.m), some (V.non), some (cv), none, none, none] from rfl]; try simp only [cxK, cxW]
      fail "TT"
      rw [e1, e2] at k
      exact k H d R .refl ⟨rfl, rfl, rfl, rfl, rfl, .inr rfl, fun b hb => ⟨b, hb, .refl b⟩⟩
    · rw [show start N_Turner_change_blocks [V.ref d.m, V.int kk, V.ref q] = [some (V.ref d.m), some (V.int kk), some (V.ref q), none, none, none] from rfl]; try simp only [cxK, cxW]
      fail "TT"
      refine t_scan R nπ.fz rfl (by rfl) (fun x => inV (.int kk) (x.spots.map V.int)) (fun x => .ref x.a) (fun x hx od H' D Nx R' S' k => ?_) (fun H2 D S2 hD h2 => ?_)
      · fail "TT"
        refine ⟨x.sa, _, rfl, .inl (SqL.of' (R'.bl x hx).sp), rfl, flat_ints _, ?_⟩
        rw [if_neg Bool.false_ne_true]
        refine w_kB ?_
        cases hp : inV (.int kk) (x.spots.map V.int) with
        | true =>
          rw [if_pos hp] at k
          refine kTurn_T ?_
          fail "TT"
          exact k
        | false =>
          rw [if_neg (by rw [hp]; exact Bool.false_ne_true)] at k
          exact kTurn_F k
      · have R2 := R.same S2
        fail "TT"
        refine ⟨d, π, D, d.bs.filter (fun x => inV (.int kk) (x.spots.map V.int)), rfl, rfl, R2, nπ, h2, R.st.notIn hD, fun x hx => (List.mem_filter.mp hx).1, (R.pw.filter _).imp fun h => h.2.2, fun H3 d3 R3 F3 P3 => ?_⟩
        have hq3 : H3 q = some (.tup r.vs) := F3.kp _ _ (S2 _ _ hq) (R2.notOwnT (S2 _ _ hq))
        fail "TT"
        refine w_ixT (SqT.of' hq3) (row_at0 r) ?_
        fail "TT"
        rename_i t htn
        refine w_inT_F (SqT.of' upd_same) rfl rfl (by rw [in_maps]; exact hm) ?_
        fail "TT"
        refine k _ d3 (TH.new htn (R3.val fun b' hb' => ?_)) (FrT.snocN htn ((FrT.ofSame S2).trans F3)) P3.cd
        obtain ⟨b, hb, cb, hne⟩ := P3.sub b' hb'
        rw [e1, e2]
        refine (R3.va b' hb').keep (fun _ _ => rfl) fun j hj => gi_set_ne k0 ((R3.va b' hb').s0 j hj).1 fun e => ?_
        have hin : b ∈ d.bs.filter (fun x => inV (.int kk) (x.spots.map V.int)) := List.mem_filter.mpr ⟨hb, inV_mem (by rw [← cb.sp, e]; exact hj)⟩
        exact hne b (by rw [List.take_length]; exact hin) rfl
    · rw [show start N_Turner_change_blocks [V.ref d.m, V.int (-1), V.ref q] = [some (V.ref d.m), some (V.int (-1)), some (V.ref q), none, none, none] from rfl]; try simp only [cxK, cxW]
      fail "TT"
      refine w_ixT (SqT.of' hq) (row_at0 r) ?_
      fail "TT"
      rename_i t htn
      refine w_inT_F (SqT.of' upd_same) rfl rfl (by rw [in_maps]; exact hm) ?_
      fail "TT"
      rw [e1, e2] at k
      exact k _ d (R.new htn) (FrT.snocN htn .refl) ⟨rfl, rfl, rfl, rfl, rfl, .inr rfl, fun b hb => ⟨b, hb, .refl b⟩⟩
    · rw [show start N_Turner_change_blocks [V.ref d.m, V.int (-1), V.ref q] = [some (V.ref d.m), some (V.int (-1)), some (V.ref q), none, none, none] from rfl]; try simp only [cxK, cxW]
      obtain ⟨x0, x1⟩ := maps_x ro hm
      fail "TT"
      refine w_ixT (SqT.of' hq) (row_at0 r) ?_
      fail "TT"
      rename_i t htn
      refine w_inT_T (SqT.of' upd_same) rfl rfl (by rw [in_maps]; exact hm) ?_
      have R1 := R.new (o := .tup [.str "lay", .str "keep", .str "leave"]) htn
      have hq1 : upd H t (.tup [.str "lay", .str "keep", .str "leave"]) q = some (.tup r.vs) := look_new htn hq
      have S1 : Same H (upd H t (.tup [.str "lay", .str "keep", .str "leave"])) := Ext.new htn
      generalize upd H t (.tup [.str "lay", .str "keep", .str "leave"]) = H1 at R1 hq1 S1 ⊢
      have hSt := R1.st
      fail "TT"
      refine w_ixT (SqT.of' hq1) (row_at1 hm) ?_
      refine g_ixMp hSt x0 x1 fun pv hpv => ?_
      rw [e2, pgOf_set x0 (by rw [hpl]; exact x1)] at hpv
      fail "TT"
      have hta : H1 d.ta = some (.dK (tbD d.bs)) := by have := R1.tb; rw [nπ.fz] at this; exact this
      have nq : q ≠ d.ta := fun e => by rw [e, hta] at hq1; cases hq1
      refine t_scanS R1 nπ.fz rfl (by rfl) (fun x => decide (x.start / 16 = r.x)) (fun x => .ref x.a) (fun od x hx H' D Nx R' S' k => ?_) (fun H2 D S2 hD h2 => ?_)
      · have hq' : H' q = some (.tup r.vs) := S' _ _ (by rw [upd_ne nq]; exact hq1)
        fail "TT"
        refine w_ixT (SqT.of' hq') (row_at1 hm) ?_
        fail "TT"
        by_cases e : x.start / 16 = r.x
        · rw [if_pos (decide_eq_true e)] at k
          fail "TT"
          exact k
        · rw [if_neg (by rw [decide_eq_false e]; exact Bool.false_ne_true)] at k
          fail "TT"
          exact k
      · have R2 := R1.same S2
        have tk2 : TupKeep H1 H2 := .ofSame S2
        have hpv2 := hpv.keep tk2
        fail "TT"
        have hle : (d.bs.filter (fun x => decide (x.start / 16 = r.x))).length ≤ 6 := Nat.le_trans (List.length_filter_le _ _) R.le
        generalize hfs : d.bs.filter (fun x => decide (x.start / 16 = r.x)) = fs at h2 hle
        have hin : ∀ x ∈ fs, x ∈ d.bs ∧ x.start / 16 = r.x := fun x hx => by
          rw [← hfs] at hx
          exact ⟨(List.mem_filter.mp hx).1, of_decide_eq_true (List.mem_filter.mp hx).2⟩
        refine w_lcJ walk_list (fun D2 j H' => H' D2 = some (.lst (((fs.take j).filter (thr v)).map fun x => V.ref x.a)) ∧ Same H2 H') (fun D hD => ⟨upd_same, Ext.new hD⟩) (fun D2 j H' hD _ ⟨_, h⟩ => SqL.of' (h _ _ h2)) ?_ ?_
        · rintro D2 j x H3 H' hD2 hj ⟨h3, S3⟩ ⟨rfl, hx⟩
          rw [List.length_map] at hj
          rw [List.getElem?_map, List.getElem?_eq_getElem hj] at hx
          injection hx with hx
          subst hx
          have hcb := (hin fs[j] (List.getElem_mem hj)).1
          have R3 := R2.same S3
          have hpv3 := hpv2.keep (TupKeep.ofSame S3)
          obtain ⟨k0, rest, ek, _⟩ := (R3.va _ hcb).sp
          have et : fs.take (j + 1) = fs.take j ++ [fs[j]] := by
            rw [List.take_add_one, List.getElem?_eq_getElem hj]
            rfl
          have yes : thr v fs[j] = true → kKeep D2 (fun H' => H' D2 = some (.lst (((fs.take (j + 1)).filter (thr v)).map fun x => V.ref x.a)) ∧ Same H2 H') (.ref fs[j].a) H' := fun hp => by
            refine w_kKeep h3 (by
              have := List.length_filter_le (thr v) (fs.take j)
              have h4 : (fs.take j).length ≤ fs.length := by rw [List.length_take]; omega
              rw [List.length_map, sizeLine_eq]; omega) ⟨?_, Same.mutD hD2 S3⟩
            rw [upd_same, et, List.filter_append, List.filter_cons_of_pos hp, List.map_append]
            rfl
          have no : ¬ thr v fs[j] = true → H' D2 = some (.lst (((fs.take (j + 1)).filter (thr v)).map fun x => V.ref x.a)) ∧ Same H2 H' := fun hp => by
            refine ⟨?_, S3⟩
            rw [h3, et, List.filter_append, List.filter_cons_of_neg hp]
            simp
          show gName 5 (V.ref fs[j].a) _ H' _
          cases v with
          | none =>
            obtain rfl : pv = .non := hpv3
            fail "TT"
            exact yes rfl
          | some fo =>
            obtain ⟨f0, o0⟩ := fo
            obtain ⟨pa, rfl, hpa⟩ := hpv3
            fail "TT"
            refine w_ixLI (R3.bl _ hcb).sp (Int.le_refl 0) (by rw [ek]; simp only [List.length_cons]; omega) ?_
            fail "TT"
            by_cases e : gi fs[j].spots 0 / 16 = f0
            · refine kTurn_n (fun z => z e) (no fun z => ?_)
              have := of_decide_eq_true (show decide (¬ gi fs[j].spots 0 / 16 = f0) = true from z)
              exact this e
            · refine kTurn_y e ?_
              fail "TT"
              exact yes (decide_eq_true e)
        · rintro D2 H3 hD2 ⟨h3, S3⟩
          have R3 := R2.same S3
          rw [List.length_map, List.take_length] at h3
          fail "TT"
          have pwf : fs.Pairwise Apart := by rw [← hfs]; exact R.pw.filter _
          refine ⟨d, π, D2, fs.filter (thr v), rfl, rfl, R3, nπ, h3, R2.st.notIn hD2, fun x hx => (hin x (List.mem_filter.mp hx).1).1, (pwf.filter _).imp fun h => h.2.2, fun H4 d4 R4 F4 P4 => ?_⟩
          refine k H4 d4 (R4.val fun b' hb' => ?_) ((FrT.ofSame ((S1.trans S2).trans S3)).trans F4) P4.cd
          obtain ⟨b, hb, cb, hne⟩ := P4.sub b' hb'
          rw [List.take_length] at hne
          rw [e1, e2]
          refine (R4.va b' hb').relay x0 (by rw [hpl]; exact x1) fun hs => ?_
          have hbf : b ∈ fs := by
            rw [← hfs]
            exact List.mem_filter.mpr ⟨hb, decide_eq_true (by rw [← cb.st]; exact hs)⟩
          have hth : ¬ thr v b = true := fun z => hne b (List.mem_filter.mpr ⟨hbf, z⟩) rfl
          obtain ⟨k0, rest, ek, _⟩ := (R4.va b' hb').sp
          cases v with
          | none => exact absurd rfl hth
          | some fo =>
            obtain ⟨f0, o0⟩ := fo
            refine ⟨f0, o0, k0, rest, rfl, ek, ?_⟩
            have h5 : gi b.spots 0 / 16 = f0 := by
              rcases Classical.em (gi b.spots 0 / 16 = f0) with z | z
              · exact z
              · exact absurd (decide_eq_true z) hth
            rw [← cb.sp, ek] at h5
            exact h5
end

/-! part P27adv -/
def noT : Nat → Int → Addr → Prop := fun _ _ _ => False
def noW : Addr → Prop := fun _ => False
abbrev piOf (s : S) (n : Nat) : TP := ⟨s, s.cells, s.pages, n, noT, noW, none⟩
/-- the row at which it is within its block is the next -/
def Cur (d : TD) (s : S) : Prop := ∀ a, d.now = some a → ∃ b ∈ d.bs, b.a = a ∧ ∃ (j : Nat) (r : Row) (bh : Int), d.at_ = (j : Int) ∧ b.rows[j]? = some (s.place, r, bh)
def Foot (d : TD) (x : Addr) : Prop := Own d x ∨ ∃ b ∈ d.bs, x = b.ra ∨ x = b.sa
theorem FrT.foot {K : PySem.W.Frag} {H H' : Hp} {d d' : TD} (F : FrT K d H H' d') : FrM (Foot d) H H' (Foot d') := fun x o hx hn => ⟨F.kp _ _ hx fun z => hn (.inl z), fun z => by
  rcases z with z | ⟨b, hb, e⟩
  · exact F.nOwn (fun z => hn (.inl z)) hx z
  · rcases F.lw b hb with ⟨c, hc, e1, e2⟩ | ⟨e1, e2⟩
    · exact hn (.inr ⟨c, hc, by rw [e1, e2]; exact e⟩)
    · rcases e with e | e
      · rw [e, e1] at hx; cases hx
      · rw [e, e2] at hx; cases hx⟩
def TurnI (K : PySem.W.Frag) (H : Hp) (m : Addr) (s : S) (F : Addr → Prop) (n : Nat) : Prop :=
  ∃ d, d.m = m ∧ TH K H d (piOf s n) ∧ s.Ok ∧ s.said.length ≤ n ∧ F = Foot d ∧ Cur d s
theorem norm_pi {s : S} {n : Nat} (h : n ≤ 1000) : Norm (piOf s n) := ⟨fun _ _ _ z => z, fun _ z => z, rfl, h⟩
section
variable {P : Program} {w : World} {K : PySem.W.Frag} {mg : Str → Option Value} {base : Heap} {H H0 : Hp} {d d0 : TD} {s : S} {N : Nat} {b : Blk} {r : Row} {q : Addr} {o1 o2 o3 o4 o5 : Option V} {n bk ct : St' → Hp → Prop} {rt : VK}
/-- change_blocks behind a row r of a block: b the block within which it is, if any -/
theorem t_chg {bh pl : Int} {mm : Addr} (hm : d.m = mm) (ok : s.Ok) (ro : r.Ok) (hN : N ≤ 1000) (R : TH K H d { piOf s N with s := doS s r pl bh }) (hq : H q = some (.tup r.vs)) (F0 : FrT K d0 H0 H d)
    (k : ∀ σ H' d', TH K H' d' (piOf (doS s r pl bh) N) → FrT K d0 H0 H' d' → CD d d' → n σ H') :
    tDrop (tMeth (cT K) "change_blocks" (sp3 (rTChange K)) [] E0 (tVar 0) (tCons (tVar 1) (tCons (tVar 2) tNil))) ⟨n, rt, bk, ct⟩ [some (.ref mm), some (wroteV s r), some (.ref q), o3, o4, o5] H := by
  subst hm
  fail "TT"
  refine ⟨d, _, rfl, R, ⟨fun _ _ _ z => z, fun _ z => z, rfl, hN⟩, ok.pl, ?_, fun H' d' R' F' C' => k _ H' d' R' (F0.trans F') C'⟩
  rcases doS_cp ok pl bh with ⟨e0, e1, e2⟩ | ⟨kk, v, k0, e0, hm, e1, e2⟩ | ⟨e0, e1, e2⟩
  · exact .inl ⟨e0, e1, e2⟩
  · exact .inr ⟨r, q, rfl, hq, ro, .inl ⟨kk, v, e0, k0, hm, e1, e2⟩⟩
  · exact .inr ⟨r, q, rfl, hq, ro, .inr ⟨e0, e1, e2⟩⟩
theorem t_step {j : Nat} {bh : Int} (ok : s.Ok) (hsd : s.said.length ≤ 1000) (hN : N ≤ 1000) (R : TH K H d (piOf s N)) (hb : b ∈ d.bs) (hnow : d.now = some b.a) (hat : d.at_ = (j : Int)) (hrow : b.rows[j]? = some (s.place, r, bh)) (F0 : FrT K d0 H0 H d)
    (k : ∀ σ H' d', TH K H' d' (piOf (stepS s) N) → FrT K d0 H0 H' d' → d'.m = d.m → Cur d' (stepS s) → n σ H') :
    tSeq (tAsg (tF (cT K) "now" (tVar 0)) (gName 3))
      (tSeq (tAsg (tOp (rIxL K) (tF (cB K) "rows" (tVar 3)) (tF (cT K) "at" (tVar 0))) (gTup K 3 (gCons (gName 4) (gCons (gName 2) (gCons (gName 5) gNil)))))
        (tSeq (tAsg (tMeth (cS K) "do" (sp4 (rDo K)) [] E0 (tF (cT K) "state" (tVar 0)) (tCons (tVar 2) (tCons (tVar 4) (tCons (tVar 5) tNil)))) (gName 1))
          (tSeq (sAug (cT K) "at" (tVar 0) (tC (V.int 1)) rAdd)
            (tSeq (tIfS (tTest (tOp rIsN (tVar 1) (tC V.non))) (sF_ (cT K) "now" (tVar 0) (tC V.non))
                (tIfS (tTest (tOp rEq (tF (cT K) "at" (tVar 0)) (tCB (rLen1 K) (tCons (tF (cB K) "rows" (tVar 3)) tNil))))
                  (tSeq (sF_ (cT K) "now" (tVar 0) (tC V.non)) (sF_ (cT K) "come" (tVar 0) (tIf (tTest (tOp (rIn K false) (tF (cS K) "next_place" (tF (cT K) "state" (tVar 0))) (tMeth (cB K) "exits" (sp1 (rExits K)) [] E0 (tVar 3) tNil))) (tVar 3) (tC V.non))))
                  tNext))
              (tDrop (tMeth (cT K) "change_blocks" (sp3 (rTChange K)) [] E0 (tVar 0) (tCons (tVar 1) (tCons (tVar 2) tNil)))))))) ⟨n, rt, bk, ct⟩ [some (.ref d.m), o1, o2, o3, o4, o5] H := by
  have hv := R.va b hb
  have hread : readRow s.cells s.pages s.place = .row r bh := hv.rd _ (at_mem hrow)
  have hst : stepS s = doS s r s.place bh := by unfold stepS; rw [hread]
  have ro : r.Ok := (hv.ok _ (at_mem hrow)).1
  obtain ⟨rv, hrv, hP⟩ := (R.bl b hb).rw
  obtain ⟨v, hjv, t, q, rfl, ht, hq⟩ := Paired.at hP hrow
  refine w_seq (w_asg (w_F (w_var rfl (g_tF (v := .ref b.a) R rfl (fun k => by show some (optR d.now) = _; rw [hnow]; rfl) (w_gName rfl ?_)))))
  refine w_seq (w_asg (w_op (w_F (w_var rfl (g_bF R hb rfl (fun _ => rfl) (w_F (w_var rfl (g_tF R rfl (fun _ => rfl) ?_))))))))
  rw [hat]
  refine w_ixL (SqL.of' hrv) (atI_nat hjv) ?_
  have hR := R.st
  fail "TT"
  refine w_rDo hR ok hsd hq ro fun H2 R2 F2 => ?_
  have T2 := R.stS R2 F2
  have G2 : FrT K d H H2 d := FrT.ofFrS hR R2 F2
  have hq2 : H2 q = some (.tup r.vs) := G2.kp _ _ hq (R.notOwnT hq)
  refine w_gName rfl (w_seq (w_sAug (w_var rfl (p_tAtAug T2 rfl fun H3 R3 F3 => ?_))))
  have hq3 : H3 q = some (.tup r.vs) := F3.kp _ _ hq2 (T2.notOwnT hq2)
  have F03 := (F0.trans G2).trans F3
  rw [hst] at k
  refine w_seq (w_ifS (w_test (w_op (w_var rfl (w_C ⟨rfl, w_kB ?_⟩)))))
  by_cases hw : wroteV s r = .non
  · rw [decide_eq_true hw]
    refine kI_T (w_sF (w_C (w_var rfl ?_)))
    refine p_tNowN R3 rfl fun H4 R4 F4 => ?_
    have hq4 : H4 q = some (.tup r.vs) := F4.kp _ _ hq3 (R3.notOwnT hq3)
    exact t_chg (d := { d with at_ := d.at_ + 1, now := none }) rfl ok ro hN R4 hq4 (F03.trans F4) fun σ H' d' R' F' C' => k σ H' d' R' F' C'.m fun a ha => by
      rcases C'.now with e | e
      · rw [e] at ha; cases ha
      · rw [e] at ha; cases ha
  · rw [decide_eq_false hw]
    refine kI_F (w_ifS (w_test (w_op (w_F (w_var rfl (g_tF R3 rfl (fun _ => rfl) ?_))))))
    have hb3 : b ∈ ({ d with at_ := d.at_ + 1 } : TD).bs := hb
    refine w_CB (w_cons (w_F (w_var rfl (g_bF R3 hb3 rfl (fun _ => rfl) (w_nil ?_)))))
    obtain ⟨rv3, hrv3, hP3⟩ := (R3.bl b hb3).rw
    refine w_lenL (SqL.of' hrv3) ?_
    have hl3 : rv3.length = b.rows.length := (Paired.length hP3).symm
    refine w_eqI (w_kB ?_)
    by_cases hl : d.at_ + 1 = (rv3.length : Int)
    · rw [decide_eq_true hl]
      refine kI_T (w_seq (w_sF (w_C (w_var rfl (p_tNowN R3 rfl fun H4 R4 F4 => ?_)))))
      have hq4 : H4 q = some (.tup r.vs) := F4.kp _ _ hq3 (R3.notOwnT hq3)
      have hb4 : b ∈ ({ d with at_ := d.at_ + 1, now := none } : TD).bs := hb
      have hSt4 := R4.st
      obtain ⟨r0, b0, rest0, er0⟩ := hv.hd
      refine w_sF (w_if (w_test (w_op ?_)))
      fail "TT"
      refine w_rExits (R4.bl b hb4) rfl (by rw [er0]; exact List.cons_ne_nil _ _) fun H5 l ns S5 hns => ?_
      have R5 := R4.same S5
      have hq5 := S5 _ _ hq4
      have F05 := FrT.snocS S5 (F03.trans F4)
      have fin : ∀ H6 cm, TH K H6 { d with at_ := d.at_ + 1, now := none, come := cm } { piOf s N with s := doS s r s.place bh } → FrT K d0 H0 H6 { d with at_ := d.at_ + 1, now := none, come := cm } → H6 q = some (.tup r.vs) → ∀ o3 o4 o5, tDrop (tMeth (cT K) "change_blocks" (sp3 (rTChange K)) [] E0 (tVar 0) (tCons (tVar 1) (tCons (tVar 2) tNil))) ⟨n, rt, bk, ct⟩ [some (.ref d.m), some (wroteV s r), some (.ref q), o3, o4, o5] H6 := fun H6 cm R6 F6 hq6 o3 o4 o5 =>
        t_chg (d := { d with at_ := d.at_ + 1, now := none, come := cm }) rfl ok ro hN R6 hq6 F6 fun σ H' d' R' F' C' => k σ H' d' R' F' C'.m fun a ha => by
          rcases C'.now with e | e
          · rw [e] at ha; cases ha
          · rw [e] at ha; cases ha
      refine ⟨l, _, rfl, .inl (SqL.of' hns), rfl, flat_ints ns, ?_⟩
      rw [if_neg Bool.false_ne_true]
      refine w_kB ?_
      cases inV (.int (doS s r s.place bh).place) (ns.map V.int) with
      | true =>
        refine kI_T (w_var rfl (w_var rfl (p_tComeS R5 hb4 rfl fun H6 R6 F6 => ?_)))
        exact fin H6 _ R6 (F05.trans F6) (F6.kp _ _ hq5 (R5.notOwnT hq5)) _ _ _
      | false =>
        refine kI_F (w_C (w_var rfl (p_tComeN R5 rfl fun H6 R6 F6 => ?_)))
        exact fin H6 _ R6 (F05.trans F6) (F6.kp _ _ hq5 (R5.notOwnT hq5)) _ _ _
    · rw [decide_eq_false hl]
      refine kI_F (w_next ?_)
      exact t_chg (d := { d with at_ := d.at_ + 1 }) rfl ok ro hN R3 hq3 F03 fun σ H' d' R' F' C' => k σ H' d' R' F' C'.m fun a ha => by
        obtain ⟨b', hb', ea⟩ : ∃ b' ∈ d'.bs, b'.a = a := by
          rcases R'.nw a ha with z | z
          · exact z
          · exact z.elim
        obtain ⟨b1, hb1, cb⟩ := C'.sub b' hb'
        have hnow' : d.now = some a := by
          rcases C'.now with e | e
          · rw [e] at ha; cases ha
          · rw [e] at ha; exact ha
        have eb : b1 = b := R.eq_a hb1 hb (by rw [hnow] at hnow'; injection hnow' with z; rw [← cb.a, ea, z])
        subst eb
        have hj : j < b1.rows.length := (List.getElem?_eq_some_iff.mp hrow).1
        have hj1 : j + 1 < b1.rows.length := by omega
        have hy := List.getElem?_eq_getElem hj1
        obtain ⟨e1, e2⟩ := hv.nx j _ _ hrow hy
        have hf : doFault s r = none := by
          cases e : doFault s r with
          | none => rfl
          | some z => exact absurd (wrote_fault.mpr (by rw [e]; exact fun y => by cases y)) hw
        refine ⟨b', hb', ea, j + 1, b1.rows[j + 1].2.1, b1.rows[j + 1].2.2, ?_, ?_⟩
        · rw [C'.at_]
          show d.at_ + 1 = ((j + 1 : Nat) : Int)
          omega
        · rw [cb.ro, hy, (doS_next e2 hf).1]
          have e1 : b1.rows[j + 1].1 = bh := e1
          rw [← e1]
/-- a row by itself, no block there -/
theorem t_alone (ok : s.Ok) (hsd : s.said.length ≤ 1000) (hN : N ≤ 1000) (R : TH K H d (piOf s N)) (hnow : d.now = none) (F0 : FrT K d0 H0 H d)
    (k : ∀ H' d', TH K H' d' (piOf (stepS s) N) → FrT K d0 H0 H' d' → d'.m = d.m → Cur d' (stepS s) → rt .non H') :
    tSeq (tAsg (tCall (sp1 (rAlone K)) [] E0 (tCons (tF (cT K) "state" (tVar 0)) tNil)) (gTup K 2 (gCons (gName 1) (gCons (gName 2) gNil))))
      (tSeq (tDrop (tMeth (cT K) "change_blocks" (sp3 (rTChange K)) [] E0 (tVar 0) (tCons (tVar 1) (tCons (tVar 2) tNil)))) tRetN) ⟨n, rt, bk, ct⟩ [some (.ref d.m), o1, o2, o3, o4, o5] H := by
  have hR := R.st
  fail "TT"
  refine w_rAlone hR ok hsd fun H4 v R4 F4 hv => ?_
  have R5 := R.stS R4 F4
  have G5 : FrT K d H H4 d := FrT.ofFrS hR R4 F4
  have cur : ∀ d', CD d d' → Cur d' (stepS s) := fun d' C' a ha => by
    rcases C'.now with e | e
    · rw [e] at ha; cases ha
    · rw [e, hnow] at ha; cases ha
  unfold AloneV at hv
  cases e : readRow s.cells s.pages s.place with
  | bad kd =>
    rw [e] at hv
    obtain ⟨a, rfl, ha⟩ := hv
    have e1 : stepS s = faultS s kd s.place := by unfold stepS; rw [e]
    refine w_gTup (SqT.of' ha) rfl (w_gCons (w_gName rfl (w_gCons (w_gName rfl (w_gNil ?_)))))
    fail "TT"
    refine ⟨d, { piOf s N with s := stepS s }, rfl, R5, ⟨fun _ _ _ z => z, fun _ z => z, rfl, hN⟩, ok.pl, .inl ⟨rfl, by rw [e1]; exact (faultS_cp s kd s.place).1, by rw [e1]; exact (faultS_cp s kd s.place).2⟩, fun H' d' R' F' C' => ?_⟩
    fail "TT"
    exact k H' d' R' ((F0.trans G5).trans F') C'.m (cur d' C')
  | row r bh =>
    rw [e] at hv
    obtain ⟨a, q, rfl, ha, hq⟩ := hv
    have ro := (readRow_ok ok e).1
    have e1 : stepS s = doS s r s.place bh := by unfold stepS; rw [e]
    refine w_gTup (SqT.of' ha) rfl (w_gCons (w_gName rfl (w_gCons (w_gName rfl (w_gNil (w_seq ?_))))))
    rw [e1] at R5 k cur
    refine t_chg rfl ok ro hN R5 hq (F0.trans G5) fun σ H' d' R' F' C' => ?_
    refine w_retN ?_
    exact k H' d' R' F' C'.m (cur d' C')
end
section
variable {P : Program} {w : World} {K : PySem.W.Frag} {mg : Str → Option Value} {base : Heap}
theorem ok_Turner_advance (T : Txt w K mg) : MDef P w K mg base (cT K) "advance" 8 [] (sp1 (rMAdv (TurnI K))) := by
  obtain ⟨f, fd, F, M⟩ := T.d_Turner_advance
  refine ⟨f, fd, _, _, F.ok sc_Turner_advance (fun vs H Q E h => ?_) (fun cdv A outer s0 H vs Q E hr h => ?_), M, F.bindsN fun _ _ _ _ _ _ us hl => match us, hl with | [_], _ => rfl, .nil⟩
  · obtain ⟨_, rfl, _⟩ := h
    rfl
  · obtain ⟨_, rfl, m, s, F, n, rfl, ⟨d, rfl, R, ok, hsd, rfl, hcur⟩, hn, k⟩ := h
    refine ⟨_, (pss_cons (ps_if (pt_cmpR op_isN1 (pe_f (pv 0) T.cl_Turner T.n_Turner_now) pe_non (nomark _))
 (pss_cons (ps_f (pv 0) (e_meth0 (pv 0) T.cl_Turner (ok_Turner_found T) hr) T.cl_Turner T.n_Turner_now)
 (pss_one (ps_f (pv 0) pe_int T.cl_Turner T.n_Turner_at)))
 pss_nil)
 (pss_cons (ps_if (pt_cmpR op_isN1 (pe_f (pv 0) T.cl_Turner T.n_Turner_now) pe_non (nomark _))
 (pss_cons (ps_asg (e_call (ok_done_alone T) hr (pa_cons (pe_f (pv 0) T.cl_Turner T.n_Turner_state) pa_nil)) (pg_tup rfl (pgs_cons (pg_name (i := 1) sc_Turner_advance.nd rfl (by first | exact .inl rfl | exact .inr rfl)) (pgs_cons (pg_name (i := 2) sc_Turner_advance.nd rfl (by first | exact .inl rfl | exact .inr rfl)) pgs_nil))))
 (pss_cons (ps_expr (e_meth (pv 0) T.cl_Turner (ok_Turner_change_blocks T) hr (pa_cons (pv 1) (pa_cons (pv 2) pa_nil))))
 (pss_one ps_retN)))
 pss_nil)
 (pss_cons (ps_set (i := 3) sc_Turner_advance.nd rfl (by first | exact .inl rfl | exact .inr rfl) (pe_f (pv 0) T.cl_Turner T.n_Turner_now))
 (pss_cons (ps_asg (pe_ix ix_list (pe_f (pv 3) T.cl_Block T.n_Block_rows) (pe_f (pv 0) T.cl_Turner T.n_Turner_at) (fun _ _ => rfl)) (pg_tup rfl (pgs_cons (pg_name (i := 4) sc_Turner_advance.nd rfl (by first | exact .inl rfl | exact .inr rfl)) (pgs_cons (pg_name (i := 2) sc_Turner_advance.nd rfl (by first | exact .inl rfl | exact .inr rfl)) (pgs_cons (pg_name (i := 5) sc_Turner_advance.nd rfl (by first | exact .inl rfl | exact .inr rfl)) pgs_nil)))))
 (pss_cons (ps_set (i := 1) sc_Turner_advance.nd rfl (by first | exact .inl rfl | exact .inr rfl) (e_meth (pe_f (pv 0) T.cl_Turner T.n_Turner_state) T.cl_State (ok_State_do T) hr (pa_cons (pv 2) (pa_cons (pv 4) (pa_cons (pv 5) pa_nil)))))
 (pss_cons (ps_fa (pv 0) pe_int in_add T.cl_Turner T.n_Turner_at)
 (pss_cons (ps_if (pt_cmpR op_isN1 (pv 1) pe_non (nomark _))
 (pss_one (ps_f (pv 0) pe_non T.cl_Turner T.n_Turner_now))
 (pss_one (ps_if (pt_cmpR op_eq (pe_f (pv 0) T.cl_Turner T.n_Turner_at) (pe_callB len_seq (by rfl) T.f_len PySem.boot_len (pa_cons (pe_f (pv 3) T.cl_Block T.n_Block_rows) pa_nil)) (nomark _))
 (pss_cons (ps_f (pv 0) pe_non T.cl_Turner T.n_Turner_now)
 (pss_one (ps_f (pv 0) (pe_ifExp (pt_cmpR op_in_seq (pe_f (pe_f (pv 0) T.cl_Turner T.n_Turner_state) T.cl_State T.n_State_next_place) (e_meth0 (pv 3) T.cl_Block (ok_Block_exits T) hr) (by with_unfolding_all rfl)) (pv 3) pe_non) T.cl_Turner T.n_Turner_come)))
 pss_nil)))
 (pss_one (ps_expr (e_meth (pv 0) T.cl_Turner (ok_Turner_change_blocks T) hr (pa_cons (pv 1) (pa_cons (pv 2) pa_nil)))))))))))), ?_⟩
    rw [show start N_Turner_advance [V.ref d.m] = [some (V.ref d.m), none, none, none, none, none] from rfl]; try simp only [cxK, cxW]
    fail "TT"
    have stay : ∀ {s' : S}, s'.said.length ≤ n + 1 → s'.Ok → ∀ H' d', TH K H' d' (piOf s' (n + 1)) → d'.m = d.m → Cur d' s' → TurnI K H' d.m s' (Foot d') (n + 1) := fun h1 h2 H' d' R' e c => ⟨d', e, R', h2, h1, rfl, c⟩
    have frm : ∀ {H' d'}, FrT K d H H' d' → FrM (Foot d) H H' (Foot d') := fun F => F.foot
    cases hnow : d.now with
    | some a =>
      obtain ⟨b, hb, ea, j, r, bh, hat, hrow⟩ := hcur a hnow
      subst ea
      dsimp only [optR]
      refine w_isNF (w_kB (kI_F (w_next ?_)))
      refine w_seq (w_ifS (w_test (w_op (w_F (w_var rfl (g_tF (v := .ref b.a) R rfl (fun k => by show some (optR d.now) = _; rw [hnow]; rfl) (w_C (w_isNF (w_kB (kI_F (w_next ?_)))))))))))
      exact t_step ok (by omega) hn R.up hb hnow hat hrow .refl fun σ H' d' R' F' e c => k H' (Foot d') (stay (Nat.le_trans (stepS_said ok) (Nat.succ_le_succ hsd)) (stepS_ok ok) H' d' R' e c) (frm F')
    | none =>
      dsimp only [optR]
      refine w_isNT (w_kB (kI_T ?_))
      fail "TT"
      refine ⟨d, piOf s n, rfl, R, norm_pi (by omega), hn, rfl, rfl, ok, fun H1 d1 R1 F1 D1 => ?_, fun H1 d1 b R1 F1 D1 hb hbs => ?_⟩
      · rw [← D1.m]
        refine w_var rfl (p_tNowN R1 rfl fun H2 R2 F2 => w_sF (w_C (w_var rfl (p_tAt R2 rfl fun H3 R3 F3 => ?_))))
        refine w_seq (w_ifS (w_test (w_op (w_F (w_var rfl (g_tF (v := .non) R3 rfl (fun _ => rfl) (w_C (w_isNT (w_kB (kI_T ?_))))))))))
        exact t_alone (d := { d1 with now := none, at_ := 0 }) ok (by omega) hn R3 rfl ((F1.trans F2).trans F3) fun H' d' R' F' e c => k H' (Foot d') (stay (Nat.le_trans (stepS_said ok) (Nat.succ_le_succ hsd)) (stepS_ok ok) H' d' R' (e.trans D1.m) c) (frm F')
      · rw [← D1.m]
        refine w_var rfl (p_tNowS R1 hb rfl fun H2 R2 F2 => w_sF (w_C (w_var rfl (p_tAt R2 rfl fun H3 R3 F3 => ?_))))
        refine w_seq (w_ifS (w_test (w_op (w_F (w_var rfl (g_tF (v := .ref b.a) R3 rfl (fun _ => rfl) (w_C (w_isNF (w_kB (kI_F (w_next ?_)))))))))))
        have hbs : b.start = s.place := hbs
        obtain ⟨r0, b0, rest, er⟩ := (R1.va b hb).hd
        exact t_step (d := { d1 with now := some b.a, at_ := 0 }) (b := b) (j := 0) (r := r0) (bh := b0) ok (by omega) hn R3 hb rfl rfl (by rw [er, hbs]; rfl) ((F1.trans F2).trans F3) fun σ H' d' R' F' e c => k H' (Foot d') (stay (Nat.le_trans (stepS_said ok) (Nat.succ_le_succ hsd)) (stepS_ok ok) H' d' R' (e.trans D1.m) c) (frm F')
end

/-! part P28rules -/
/-! ### d.update(d2), both dicts with keys ints and texts -/
section
variable {X : Cx} {pins : List (Addr × Obj)} {σ : St'} {H : Hp} {s : Shared} {a b : Addr} {A : Around} {E : Value → Shared → Prop} {kvs more : List (Key × V)}
theorem d_upd {Q : Value → Shared → Prop} (I : Inv X pins σ H s) (ea : H a = some (.dK kvs)) (eb : H b = some (.dK more)) (hab : a ≠ b) (hl : kvs.length + more.length ≤ sizeLine) (h : ∀ s', Inv X pins σ (upd H a (.dK (mergeK kvs more))) s' → Q .none s') :
    wpAny (model X.prog X.w) A (call (.builtin "dict.update") [.ref a, .ref b]) Q E s := by
  obtain ⟨z, hd, vs, rel, dd⟩ := dk_of I.hok ea
  obtain ⟨z2, hd2, vs2, rel2, dd2⟩ := dk_of I.hok eb
  refine call_meetsIn PySem.F.slot_dict_update dd.typeIs PySem.F.entry_dict_update (PySem.F.args_dict_update_2 _ _) (meets_dict_update (mixKind X.prog X.w) a b hab hd2) ⟨vs, vs2, dd, dd2, by rw [← rel.length, ← rel2.length]; exact hl, fun h' d1 d2 hs => h _ ?_⟩
  have he : ∃ q, h'.get? a = some q := let ⟨q, _, _, hq, _⟩ := d1; ⟨q, hq⟩
  exact d_write (t' := s.toks) I (by rw [ea]; exact True.intro) hs he (dk_new (Nat.le_trans (length_mergeK more kvs) hl) hd (rel2.merge rel) d1)
end
def kUpdD (a : Addr) (Q : VK) : VK := fun y H2 => ∃ b kvs more, y = .ref b ∧ a ≠ b ∧ H2 a = some (.dK kvs) ∧ H2 b = some (.dK more) ∧ kvs.length + more.length ≤ sizeLine ∧ Q .non (upd H2 a (.dK (mergeK kvs more)))
def kUpd (ty : TE) (σ : St') (Q : VK) : VK := fun x H1 => ∃ a, x = .ref a ∧ IsD H1 a ∧ ty σ H1 (kUpdD a Q)
def tDUpd (td ty : TE) : TE := fun σ H Q => td σ H (kUpd ty σ Q)
section
variable {X : Cx} {o e f : Expr} {apos cpos : Pos} {td ty tx : TE}
theorem e_dupd (ho : PE X o td) (he : PE X e ty) (m : M1 X o "update" apos e cpos := by exact ⟨by rfl, by rfl, by rfl, by rfl⟩) : PE X (.Call (.Attribute o "update" apos) [e] [] cpos) (tDUpd td ty) := by
  refine ⟨fun pins s σ H Q I h => ?_⟩
  refine wpAny_Call_method m.base m.few m.line PySem.F.plainAttrs_dict PySem.F.slot_dict_update PySem.F.type_dict_update (thn (ho.run pins s σ H _ I h) fun u s1 ⟨x, H1, I1, rx, a, ex, d, q1⟩ => ?_)
  subst ex
  obtain rfl : u = Value.ref a := rx
  obtain ⟨t1, t2, _⟩ := isD_at I1 d
  refine ⟨t1, t2, ?_⟩
  rw [m.trees]
  refine Calls.callWith_builtin rfl (Calls.evalArgs_plain (Calls.spliced_cons (thn (he.run pins s1 σ H1 _ I1 q1) fun iv s2 ⟨y, H2, I2, ry, b, kvs, more, ey, hab, ea, eb, hl, q2⟩ => Calls.spliced_nil ?_)))
  subst ey
  obtain rfl : iv = Value.ref b := ry
  exact d_upd I2 ea eb hab hl fun s3 I3 => ⟨.non, _, I3, rfl, q2⟩
end
section
variable {td ty : TE} {σ : St'} {H : Hp} {Q : VK} {a b : Addr} {kvs more : List (Key × V)}
theorem w_dupd (q : td σ H (kUpd ty σ Q)) : tDUpd td ty σ H Q := q
theorem w_kUpd (h : H a = some (.dK kvs)) (q : ty σ H (kUpdD a Q)) : kUpd ty σ Q (.ref a) H := ⟨a, rfl, .inl ⟨kvs, .inl h⟩, q⟩
theorem w_kUpdD (ha : H a = some (.dK kvs)) (hb : H b = some (.dK more)) (hab : a ≠ b) (hl : kvs.length + more.length ≤ sizeLine) (q : Q .non (upd H a (.dK (mergeK kvs more)))) : kUpdD a Q (.ref b) H := ⟨b, kvs, more, rfl, hab, ha, hb, hl, q⟩
end
/-! ### t1 = .. = t6 = e -/
theorem asg_six {M : Model} {A : Around} {env : Env} {E : Value → Shared → Prop} {s : Shared} {t1 t2 t3 t4 t5 t6 value : Expr} {pos : Pos} {Q : Flow → Shared → Prop}
    (h : wpAny M A (eval value env) (fun v s₁ => wpAny M A (assign t1 env v) (fun _ s₂ => wpAny M A (assign t2 env v) (fun _ s₃ => wpAny M A (assign t3 env v) (fun _ s₄ => wpAny M A (assign t4 env v) (fun _ s₅ => wpAny M A (assign t5 env v) (fun _ s₆ => wpAny M A (assign t6 env v) (fun _ => Q .next) E s₆) E s₅) E s₄) E s₃) E s₂) E s₁) E s)
    (he : (assignEach [t1, t2, t3, t4, t5, t6] env).map (·.2) = [assign t1 env, assign t2 env, assign t3 env, assign t4 env, assign t5 env, assign t6 env]) (hw : swappedStores [t1, t2, t3, t4, t5, t6] value env = pure none) :
    wpAny M A (exec (.Assign [t1, t2, t3, t4, t5, t6] value pos) env) Q E s := by
  refine wpAny_Assign_stores (wpAny_mono h (fun v s₁ h₁ => ?_) fun _ _ x => x) rfl hw
  rw [he]
  exact wpAny_bind (wpAny_holding (wpAny_mono h₁ (fun _ s₂ h₂ => wpAny_bind (wpAny_holding (wpAny_mono h₂ (fun _ s₃ h₃ => wpAny_bind (wpAny_holding (wpAny_mono h₃ (fun _ s₄ h₄ => wpAny_bind (wpAny_holding (wpAny_mono h₄ (fun _ s₅ h₅ => wpAny_bind (wpAny_holding h₅)) fun _ _ x => x))) fun _ _ x => x))) fun _ _ x => x))) fun _ _ x => x))
def tAsg6 (te : TE) (g1 g2 g3 g4 g5 g6 : TG) : TS := fun D σ H => te σ H fun x H1 => g1 x σ H1 fun σ1 H2 => g2 x σ1 H2 fun σ2 H3 => g3 x σ2 H3 fun σ3 H4 => g4 x σ3 H4 fun σ4 H5 => g5 x σ4 H5 fun σ5 H6 => g6 x σ5 H6 D.nx
theorem ps_asg6 {X : Cx} {e : Expr} {te : TE} {pos : Pos} {t1 t2 t3 t4 t5 t6 : Expr} {g1 g2 g3 g4 g5 g6 : TG} (he : PE X e te) (h1 : PG X t1 g1) (h2 : PG X t2 g2) (h3 : PG X t3 g3) (h4 : PG X t4 g4) (h5 : PG X t5 g5) (h6 : PG X t6 g6)
    (ha : (assignEach [t1, t2, t3, t4, t5, t6] X.env).map (·.2) = [assign t1 X.env, assign t2 X.env, assign t3 X.env, assign t4 X.env, assign t5 X.env, assign t6 X.env] := by rfl) (hw : swappedStores [t1, t2, t3, t4, t5, t6] e X.env = pure none := by rfl) :
    PS X (.Assign [t1, t2, t3, t4, t5, t6] e pos) (tAsg6 te g1 g2 g3 g4 g5 g6) := by
  refine ⟨fun pins s σ H D I h => ?_⟩
  refine asg_six (thn (he.run pins s σ H _ I h) fun v s1 ⟨x, H1, I1, r1, q1⟩ => ?_) ha hw
  refine thn (h1.run pins s1 σ H1 x v _ I1 r1 q1) fun _ s2 ⟨σ2, H2, I2, q2⟩ => ?_
  refine thn (h2.run pins s2 σ2 H2 x v _ I2 r1 q2) fun _ s3 ⟨σ3, H3, I3, q3⟩ => ?_
  refine thn (h3.run pins s3 σ3 H3 x v _ I3 r1 q3) fun _ s4 ⟨σ4, H4, I4, q4⟩ => ?_
  refine thn (h4.run pins s4 σ4 H4 x v _ I4 r1 q4) fun _ s5 ⟨σ5, H5, I5, q5⟩ => ?_
  refine thn (h5.run pins s5 σ5 H5 x v _ I5 r1 q5) fun _ s6 ⟨σ6, H6, I6, q6⟩ => ?_
  exact thn (h6.run pins s6 σ6 H6 x v _ I6 r1 q6) fun _ s7 q => q
/-- t1 = t2 = e -/
def tAsg2' (te : TE) (g1 g2 : TG) : TS := fun D σ H => te σ H fun x H1 => g1 x σ H1 fun σ1 H2 => g2 x σ1 H2 D.nx
theorem ps_asg2' {X : Cx} {e : Expr} {te : TE} {pos : Pos} {t1 t2 : Expr} {g1 g2 : TG} (he : PE X e te) (h1 : PG X t1 g1) (h2 : PG X t2 g2) (ha : (assignEach [t1, t2] X.env).map (·.2) = [assign t1 X.env, assign t2 X.env] := by rfl) (hw : swappedStores [t1, t2] e X.env = pure none := by rfl) :
    PS X (.Assign [t1, t2] e pos) (tAsg2' te g1 g2) := by
  refine ⟨fun pins s σ H D I h => ?_⟩
  refine wpAny_Assign_two (thn (he.run pins s σ H _ I h) fun v s1 ⟨x, H1, I1, r1, q1⟩ => ?_) ha hw
  refine thn (h1.run pins s1 σ H1 x v _ I1 r1 q1) fun _ s2 ⟨σ2, H2, I2, q2⟩ => ?_
  exact thn (h2.run pins s2 σ2 H2 x v _ I2 r1 q2) fun _ s3 q => q
/-! ### C.m(e, .., k = v), C a class, m a def of it -/
theorem e_clsN {X : Cx} {CX : CXT} {k n : Nat} {f C : Addr} {mc : Value} {fd : FuncData} {ps ks : List Str} {sp : Sp} {E : XK} {m : Str} {pos apos : Pos} {o e : Expr} {es : List Expr} {kws : List Keyword} {t tk : TA} {g : List Value → List Value → List Value} {gV : List V → List V → List V} {pl : Sem Bool}
    (he : PE X o (tC (.ref C))) (r : ClX.CRead X.K C mc) (c : ClX.CVal X.K C mc m (.ref f) (.ref f)) (F : FnOk X.prog X.w X.K X.mg X.base CX k f fd ps sp) (hr : Room k X.A) (hk : PySem.W.keepIn X.K (.ref f) = true) (hb : KBn X.K fd ps n ks g gV) (hx : Passes CX X E)
    (ha : PA X (e :: es) t) (hkw : PK X kws tk) (hall : (backToKw pos (keywordEach kws X.env)).all (·.1.isSome) = true := by rfl) (hks : (backToKw pos (keywordEach kws X.env)).filterMap (·.1) = ks := by rfl)
    (hst : starEach (e :: es) X.env = (false, eval e X.env) :: starEach es X.env := by rfl) (hpl : ((backTo pos (starEach (e :: es) X.env)).any (·.1) || (backToKw pos (keywordEach kws X.env)).any (·.1.isNone)) = false := by rfl)
    (ht : eval (.Call (.Attribute o m apos) (e :: es) kws pos) X.env = (do
      let ov ← eval o X.env
      standAt apos.atName
      let (f, first) ← holding [ov] (getMethod ov m pl)
      callWith pos f first (backTo pos (starEach (e :: es) X.env)) (backToKw pos (keywordEach kws X.env))) := by rfl) :
    PE X (.Call (.Attribute o m apos) (e :: es) kws pos) (tCallN n ks.length sp gV E t tk) := by
  refine ⟨fun pins s σ H Q I h => ?_⟩
  refine PySem.W.methodCall_KW (pl := pl) (thn (he.run pins s σ H (fun x H1 => x = .ref C ∧ tCallN n ks.length sp gV E t tk σ H1 Q) I ⟨rfl, h⟩) fun u s1 ⟨x, H1, I1, rx, ex, q⟩ => ?_) ht
  subst ex
  obtain rfl : u = Value.ref C := rx
  refine PySem.W.method_cls I1.kIn r.ga (ClX.getcval_ok I1 r c fun s2 I2 => ?_)
  refine PySem.W.callWith_KW (h₀ := X.base) I.ok.mod.kin hk hall (thn (ha.run pos pins s2 σ H1 _ I2 q) fun us s3 ⟨vs, H2, I3, r2, q2⟩ => ?_) hpl hst
  refine thn (hkw.run pos pins s3 σ H2 _ I3 q2) fun ws s4 ⟨zs, H3, I4, rz, l1, l2, q4⟩ => ⟨I4.kIn, ?_⟩
  rw [hks]
  exact run_fnN F hr hb hx I4 r2 rz l1 l2 q4
theorem plain_kbn {K : PySem.W.Frag} {f : Addr} {fd : FuncData} (F : FunD K "__init__" "Plain.__init__" (defArgs s_Plain_init) (defBody s_Plain_init) (defScope s_Plain_init) [] [("begin", .int 0)] f fd) : KBn K fd ["self", "cells", "begin"] 2 ["begin"] (fun us ws => us ++ ws) (fun vs zs => vs ++ zs) := by
  obtain ⟨oc, od, dV, kV, doc, pm, an, cdv, ct, osl, rfl, lk, hcd, hD, hK⟩ := F.ex
  rcases hD with ⟨_, rfl⟩ | ⟨e, _⟩
  · refine ⟨fun s us ws X l1 l2 => ?_, fun r1 r2 => r1.append r2⟩
    match us, l1, ws, l2 with
    | [a, b], _, [c], _ => exact BindsTo.of_eq rfl
  · exact absurd rfl e

/-! part P29tinit -/
def rTInit (K : PySem.W.Frag) (a b c e f : V) (H : Hp) (Q : VK) : Prop := ∃ (m dx l : Addr) (cs : List Int), a = .ref m ∧ b = .ref l ∧ c = .int 0 ∧ e = .int 8 ∧ f = .int 6 ∧ H m = some (.ins (cT K) dx []) ∧ SqL K H l (cs.map V.int) ∧ cs.length ≤ 128 ∧ (∀ c ∈ cs, 0 ≤ c ∧ c ≤ 9999) ∧
  ∀ H' F, TurnI K H' m (initS cs 0) F 0 → KeepP m H H' → (∀ x, F x → x = m ∨ H x = none) → Q .non H'
section
variable {σ : St'} {H : Hp} {Q : VK} {n : Nat} {m : Nat} {sp : Sp} {gV : List V → List V → List V} {E : XK} {t tk : TA} {te : TE} {g1 g2 g3 g4 g5 g6 : TG} {nx b d : St' → Hp → Prop} {rt : VK}
theorem w_callN (q : t σ H fun vs H1 => tk σ H1 fun zs H2 => vs.length = n ∧ zs.length = m ∧ sp (gV vs zs) H2 Q E) : tCallN n m sp gV E t tk σ H Q := q
theorem w_asg2 (q : te σ H fun x H1 => g1 x σ H1 fun σ1 H2 => g2 x σ1 H2 nx) : tAsg2' te g1 g2 ⟨nx, rt, b, d⟩ σ H := q
theorem w_asg6 (q : te σ H fun x H1 => g1 x σ H1 fun σ1 H2 => g2 x σ1 H2 fun σ2 H3 => g3 x σ2 H3 fun σ3 H4 => g4 x σ3 H4 fun σ4 H5 => g5 x σ4 H5 fun σ5 H6 => g6 x σ5 H6 nx) : tAsg6 te g1 g2 g3 g4 g5 g6 ⟨nx, rt, b, d⟩ σ H := q
end
theorem initS_ok {cs : List Int} (hl : cs.length ≤ 128) (hc : ∀ c ∈ cs, 0 ≤ c ∧ c ≤ 9999) : (initS cs 0).Ok := by
  refine ⟨?_, fun c h => ?_, rfl, fun f o h => ?_, rfl, fun c h => ?_, ⟨Int.le_refl 0, by show (0 : Int) ≤ 9999; decide⟩, (fun g h => by cases h), (fun _ _ _ h => by cases h), Int.le_refl 0⟩
  · show (cs ++ List.replicate (128 - cs.length) (0 : Int)).length = 128
    simp
    omega
  · rcases List.mem_append.mp h with z | z
    · exact hc c z
    · rw [List.eq_of_mem_replicate z]; decide
  · have h : some (f, o) ∈ [some ((0 : Int), true), some (1, true), some (2, true), some (3, true)] := h
    simp at h
    omega
  · have h : c ∈ [(0 : Int), 0, 0, 0] := h
    simp at h
    omega
section
variable {P : Program} {w : World} {K : PySem.W.Frag} {mg : Str → Option Value} {base : Heap}
theorem mc_T (T : Txt w K mg) : MC0 K (cT K) := ⟨.inr rfl, T.cl_Turner, T.n_Turner_state, T.n_Turner_asked⟩
theorem mc_P (T : Txt w K mg) : MC0 K (cP K) := ⟨.inl rfl, T.cl_Plain, T.n_Plain_state, T.n_Plain_asked⟩
theorem fn_Turner_init (T : Txt w K mg) {C : Addr} (hC : MC0 K C) {f : Addr} {fd : FuncData} (F : FunD K "__init__" "Turner.__init__" (defArgs s_Turner_init) (defBody s_Turner_init) (defScope s_Turner_init) [] [("begin", .int 0), ("long", .int 8), ("room", .int 6)] f fd) : FnOk P w K mg base CX0 6 f fd ["self", "cells", "begin", "long", "room"] (sp5 (rTInit K)) := by
  refine F.ok sc_Turner_init (fun vs H Q E h => ?_) (fun cdv A outer s0 H vs Q E hr h => ?_)
  · obtain ⟨_, _, _, _, _, rfl, _⟩ := h
    rfl
  · obtain ⟨_, _, _, _, _, rfl, m, dx, l, cs, rfl, rfl, rfl, rfl, rfl, hm, hl, hlen, hc, k⟩ := h
    obtain ⟨f1, fd1, F1, rP, cvP⟩ := T.e_Plain
    obtain ⟨_, _, _, _, gP⟩ := T.d_Plain_init
    have fnP := fn_Plain_init (P := P) (base := base) T (mc_T T) F1
    have kP := F1.kp
    have bP := plain_kbn F1
    refine ⟨_, (pss_cons (ps_expr (e_clsN (pe_gv ⟨_, gP, rfl⟩) rP cvP fnP (hr.mono (by decide)) kP bP pass0 (pa_cons (pv 0) (pa_cons (pv 1) pa_nil)) (pk_cons (pv 2) pk_nil)))
 (pss_cons (ps_if (pt_not (pt_chain op_le op_le pe_int (pv 3) (pe_gv T.v_MOST_LONG)))
 (pss_one ps_never)
 pss_nil)
 (pss_cons (ps_if (pt_not (pt_chain op_le op_le pe_int (pv 4) (pe_gv T.v_MOST_ROOM)))
 (pss_one ps_never)
 pss_nil)
 (pss_cons (ps_f (pv 0) (pv 3) T.cl_Turner T.n_Turner_long)
 (pss_cons (ps_f (pv 0) (pv 4) T.cl_Turner T.n_Turner_room)
 (pss_cons (ps_f (pv 0) pe_dnewK T.cl_Turner T.n_Turner_table)
 (pss_cons (ps_asg2' pe_non (pg_f (pv 0) T.cl_Turner T.n_Turner_now) (pg_f (pv 0) T.cl_Turner T.n_Turner_come))
 (pss_one (ps_asg6 pe_int (pg_f (pv 0) T.cl_Turner T.n_Turner_at) (pg_f (pv 0) T.cl_Turner T.n_Turner_clock) (pg_f (pv 0) T.cl_Turner T.n_Turner_made) (pg_f (pv 0) T.cl_Turner T.n_Turner_looked) (pg_f (pv 0) T.cl_Turner T.n_Turner_chained) (pg_f (pv 0) T.cl_Turner T.n_Turner_thrown)))))))))), ?_⟩
    rw [show start N_Turner_init [V.ref m, V.ref l, V.int 0, V.int 8, V.int 6] = [some (V.ref m), some (V.ref l), some (V.int 0), some (V.int 8), some (V.int 6)] from rfl]; try simp only [cxK, cxW]
    fail "TT"
    refine w_callN (w_cons (w_var rfl (w_cons (w_var rfl (w_nil (w_cons (w_var rfl (w_nil ?_))))))))
    refine ⟨rfl, rfl, _, _, _, rfl, m, dx, l, cs, 0, rfl, rfl, rfl, hm, hl, hlen, hc, by decide, by decide, fun H1 sp L h1 R1 s0 N1 K1 => ?_⟩
    fail "TT"
    refine w_asg2 ?_
    fail "TT"
    refine w_asg6 ?_
    fail "TT"
    rename_i Ha a1 a2 Hb b1 b2 ta hta Hc c1 c2 Hd d1 d2 He e1 e2 Hf f1 f2 Hg g1 g2 Hh h1' h2 Hi i1 i2 Hj j1 j2 Hk k1 k2
    have tz : Hk ta = some (.dK []) := by fail "hf"
    have kz : KeepP m H1 Hk := by fail "kp"
    have kH : KeepP m H Hk := by fail "kp"
    have kb : KeepP m H Hb := by fail "kp"
    refine k Hk _ ⟨⟨m, sp, ta, L, none, none, 0, []⟩, rfl, ⟨⟨dx, ⟨0, 0, 0, 0, 0, 0⟩, k1⟩, R1.kp kz h1 rfl, tz, (fun b hb => by cases hb), .nil, (fun b hb => by cases hb), (fun b hb => by cases hb), Nat.zero_le _, (fun _ z => by cases z), (fun _ z => by cases z), (fun b hb => by cases hb), (fun j b k a hj _ => by cases hj), (fun b hb => by cases hb)⟩, initS_ok hlen hc, Nat.le_refl _, rfl, (fun _ z => by cases z)⟩ kH fun x hx => ?_
    rcases hx with (z | (z | z | z | z | z) | z | ⟨_, z, _⟩) | ⟨_, z, _⟩
    · exact .inl z
    · exact .inr (by rw [z]; exact s0)
    · exact .inr (by rw [z]; exact N1.st)
    · exact .inr (by rw [z]; exact N1.mp)
    · exact .inr (by rw [z]; exact N1.hd)
    · exact .inr (by rw [z]; exact N1.td)
    · exact .inr (by rw [z]; exact fresh_kp kb b1 hta)
    · cases z
    · cases z
theorem mk_Turner (T : Txt w K mg) : CDef P w K mg base "Turner" (cT K) 6 [.int 0, .int 8, .int 6] (sp5 (rTInit K)) := by
  obtain ⟨f, fd, F, M, g⟩ := T.d_Turner_init
  obtain ⟨ds, hv, hb⟩ := F.binds0 (ps := ["self", "cells", "begin", "long", "room"]) 2 (List.cons_ne_nil _ _) rfl (fun D doc pm an cdv ct us ks hu hk => match us, ks, hu, hk with | [_, _], [_, _, _], _, _ => ⟨_, _, _, _, _, _, rfl, rfl, _, _, _, _, _, _, rfl, rfl, _, _, _, _, _, _, rfl, rfl, rfl⟩)
  exact ⟨f, fd, _, _, fn_Turner_init T (mc_T T) F, M, g, hb, hv⟩
end

/-! part P30mi -/
theorem TH.upN {K : PySem.W.Frag} {H : Hp} {d : TD} {π : TP} {n : Nat} (h : π.n ≤ n) (R : TH K H d π) : TH K H d { π with n := n } :=
  ⟨R.ob, R.st, R.tb, R.bl, R.pw, R.ct, R.no, R.le, R.nw, R.cm, R.va, R.cv, fun b hb => Nat.le_trans (R.cl b hb) h⟩
section
variable {P : Program} {w : World} {K : PySem.W.Frag} {mg : Str → Option Value} {base : Heap}
theorem mi_turn (T : Txt w K mg) : MI P w K mg base (cT K) (TurnI K) where
  view := fun ⟨d, e, R, _⟩ => by
    subst e
    obtain ⟨dx, k, ho⟩ := R.ob
    exact ⟨d.sp, d.L, ⟨dx, _, k.asked, ho, rfl, rfl, Nat.le_of_ble_eq_true rfl, noM rfl⟩, R.st⟩
  ok := fun ⟨_, _, _, ok, hn, _⟩ => ⟨ok, hn⟩
  own := fun ⟨_, e, _, _, _, eF, _⟩ => by rw [eF]; exact .inl (.inl e.symm)
  le := fun ⟨d, e, R, ok, hn, eF, c⟩ hl => ⟨d, e, R.upN hl, ok, Nat.le_trans hn hl, eF, c⟩
  asked := fun {H m s F n dx fs k} ⟨d, e, R, ok, hn, eF, c⟩ ho => by
    subst e
    obtain ⟨_, k0, rfl⟩ := R.obOf ho
    exact ⟨d, rfl, R.setM d.now d.come d.at_ { k0 with asked := k } ho R.nw R.cm, ok, hn, eF, c⟩
  same := fun hs ⟨d, e, R, ok, hn, eF, c⟩ => ⟨d, e, R.same hs, ok, hn, eF, c⟩
  adv := ok_Turner_advance T
end
/-! ### either machine -/
def MOk (K : PySem.W.Frag) (H : Hp) (m : Addr) (s : S) (F : Addr → Prop) (n : Nat) : Prop := PlainI K H m s F n ∨ TurnI K H m s F n
section
variable {K : PySem.W.Frag} {H H' : Hp} {p m x : Addr} {L : Lay} {s : S} {F : Addr → Prop} {n : Nat}
theorem StAt.inS (R : StAt K H p L s) (h : L.In p x) : ∃ o, H x = some o ∧ ∀ xs, o ≠ .tup xs := by
  obtain ⟨⟨dx, sm, h1, h2⟩, h3, ⟨mv, h4, h5⟩, h6, h7, _⟩ := R
  rcases h with e | e | e | e | e <;> subst e
  · exact ⟨_, h1, fun _ z => by cases z⟩
  · exact ⟨_, h3, fun _ z => by cases z⟩
  · exact ⟨_, h4, fun _ z => by cases z⟩
  · exact ⟨_, h6, fun _ z => by cases z⟩
  · exact ⟨_, h7, fun _ z => by cases z⟩
theorem StAt.keepIn (k : ∀ b o, H b = some o → L.In p b → H' b = some o) (tk : TupKeep H H') (R : StAt K H p L s) : StAt K H' p L s := by
  obtain ⟨⟨dx, sm, h1, h2⟩, h3, ⟨mv, h4, h5⟩, h6, h7, n1, n2, n3, n4, n5, n6, cl, pl, hl⟩ := R
  exact ⟨⟨dx, sm, k _ _ h1 (.inl rfl), h2.keep tk⟩, k _ _ h3 (.inr (.inl rfl)), ⟨mv, k _ _ h4 (.inr (.inr (.inl rfl))), Paired.mono h5 fun _ _ q => q.keep tk⟩, k _ _ h6 (.inr (.inr (.inr (.inl rfl)))), k _ _ h7 (.inr (.inr (.inr (.inr rfl)))), n1, n2, n3, n4, n5, n6, cl, pl, hl⟩
theorem TH.inS {d : TD} {π : TP} (R : TH K H d π) (h : Foot d x) : ∃ o, H x = some o ∧ ∀ xs, o ≠ .tup xs := by
  rcases h with h | ⟨b, hb, e | e⟩
  · rcases h with e | e | e | ⟨b, hb, e | e⟩
    · obtain ⟨dx, k, ho⟩ := R.ob
      exact ⟨_, by rw [e]; exact ho, fun _ z => by cases z⟩
    · exact R.st.inS e
    · refine ⟨_, by rw [e]; exact R.tb, fun _ z => ?_⟩
      rcases tbO_cases π.fz (tbD d.bs) with q | ⟨o, q⟩ <;> rw [q] at z <;> cases z
    · obtain ⟨g, ho⟩ := (R.bl b hb).ob
      exact ⟨_, by rw [e]; exact ho, fun _ z => by cases z⟩
    · exact ⟨_, by rw [e]; exact (R.bl b hb).ch, fun _ z => by cases z⟩
  · obtain ⟨rv, h1, _⟩ := (R.bl b hb).rw
    exact ⟨_, by rw [e]; exact h1, fun _ z => by cases z⟩
  · exact ⟨_, by rw [e]; exact (R.bl b hb).sp, fun _ z => by cases z⟩
theorem TH.keep {d : TD} {π : TP} (k : ∀ b o, H b = some o → Foot d b → H' b = some o) (tk : TupKeep H H') (R : TH K H d π) : TH K H' d π := by
  obtain ⟨⟨dx, kk, ho⟩, st, tb, bl, pw, ct, no, le, nw, cm, va, cv, cl⟩ := R
  refine ⟨⟨dx, kk, k _ _ ho (.inl (.inl rfl))⟩, st.keepIn (fun b o h i => k b o h (.inl (.inr (.inl i)))) tk, k _ _ tb (.inl (.inr (.inr (.inl rfl)))), fun b hb => ?_, pw, ct, no, le, nw, cm, va, cv, cl⟩
  exact (bl b hb).mono (fun o h => k _ _ h (.inl (.inr (.inr (.inr ⟨b, hb, .inl rfl⟩))))) (fun o h => k _ _ h (.inr ⟨b, hb, .inl rfl⟩)) (fun o h => k _ _ h (.inr ⟨b, hb, .inr rfl⟩)) (fun o h => k _ _ h (.inl (.inr (.inr (.inr ⟨b, hb, .inr rfl⟩))))) tk
theorem MOk.inS (M : MOk K H m s F n) (h : F x) : ∃ o, H x = some o ∧ ∀ xs, o ≠ .tup xs := by
  rcases M with ⟨dx, sp, L, k, ho, R, _, _, e⟩ | ⟨d, e, R, _, _, eF, _⟩
  · rw [e] at h
    rcases h with z | z
    · exact ⟨_, by rw [z]; exact ho, fun _ z => by cases z⟩
    · exact R.inS z
  · rw [eF] at h
    exact R.inS h
theorem MOk.nNew (M : MOk K H m s F n) (h : H x = none) : ¬ F x := fun z => by obtain ⟨o, e, _⟩ := M.inS z; rw [h] at e; cases e
theorem MOk.nTup (M : MOk K H m s F n) {xs : List V} (h : H x = some (.tup xs)) : ¬ F x := fun z => by obtain ⟨o, e, q⟩ := M.inS z; rw [h] at e; injection e with e; exact q xs e.symm
theorem MOk.keep (M : MOk K H m s F n) (k : ∀ b o, H b = some o → F b → H' b = some o) (tk : TupKeep H H') : MOk K H' m s F n := by
  rcases M with ⟨dx, sp, L, kk, ho, R, ok, hn, e⟩ | ⟨d, e, R, ok, hn, eF, c⟩
  · subst e
    exact .inl ⟨dx, sp, L, kk, k _ _ ho (.inl rfl), R.keepIn (fun b o h i => k b o h (.inr i)) tk, ok, hn, rfl⟩
  · subst eF
    exact .inr ⟨d, e, R.keep k tk, ok, hn, rfl, c⟩
theorem MOk.same (S : Same H H') (M : MOk K H m s F n) : MOk K H' m s F n := M.keep (fun b o h _ => S b o h) fun b xs h => S b _ h
theorem MOk.ok (M : MOk K H m s F n) : s.Ok := by
  rcases M with ⟨dx, sp, L, kk, ho, R, ok, hn, e⟩ | ⟨d, e, R, ok, hn, eF, c⟩ <;> exact ok
end

/-! part P31law -/
/-! ### the law's dice -/
theorem ints_ne {xs : List Int} {a : Addr} {r : List V} : (HO.lst (xs.map V.int)) ≠ HO.lst (V.ref a :: r) := fun z => by
  injection z with z
  cases xs with
  | nil => cases z
  | cons x xs =>
    injection z with z _
    cases z
theorem SqL.keepAt {K : PySem.W.Frag} {H H' : Hp} {a : Addr} {xs : List V} (k : ∀ o, H a = some o → H' a = some o) (h : SqL K H a xs) : SqL K H' a xs := by
  rcases h with (h | ⟨o, h⟩) | h
  · exact .inl (.inl (k _ h))
  · exact .inl (.inr ⟨o, k _ h⟩)
  · exact .inr h
structure DiceAt (K : PySem.W.Frag) (H : Hp) (d sa : Addr) (ns : List Int) : Prop where
  ex : ∃ i mx r, H d = some (.lst [.ref sa, .int i, .int mx, .int r]) ∧ 0 ≤ i
  sq : SqL K H sa (ns.map V.int)
section
variable {K : PySem.W.Frag} {H H' : Hp} {d sa b x : Addr} {ns : List Int} {o : HO} {Q : VK} {N : Hp → Prop} {i mx r j : Int}
theorem DiceAt.same (S : Same H H') (D : DiceAt K H d sa ns) : DiceAt K H' d sa ns := let ⟨i, mx, r, h, h0⟩ := D.ex; ⟨⟨i, mx, r, S _ _ h, h0⟩, SqL.same S D.sq⟩
theorem DiceAt.new (hx : H x = none) (D : DiceAt K H d sa ns) : DiceAt K (upd H x o) d sa ns := D.same (Ext.new hx)
theorem DiceAt.keepAt (k1 : ∀ o, H d = some o → H' d = some o) (k2 : ∀ o, H sa = some o → H' sa = some o) (D : DiceAt K H d sa ns) : DiceAt K H' d sa ns := let ⟨i, mx, r, h, h0⟩ := D.ex; ⟨⟨i, mx, r, k1 _ h, h0⟩, SqL.keepAt k2 D.sq⟩
theorem SqL.kd (k : KeepP d H H') (h : H d = some (.lst [.ref sa, .int i, .int mx, .int r])) (q : SqL K H sa (ns.map V.int)) : SqL K H' sa (ns.map V.int) := by
  rcases q with (q | ⟨u, q⟩) | q
  · exact .inl (.inl (k _ _ q fun e => by
      rw [e, h] at q
      injection q with q
      exact ints_ne (xs := ns) q.symm))
  · exact .inl (.inr ⟨u, k _ _ q fun e => by rw [e, h] at q; cases q⟩)
  · exact .inr q
theorem DiceAt.put {i' mx' r' : Int} (h : H d = some (.lst [.ref sa, .int i, .int mx, .int r])) (h0 : 0 ≤ i') (D : DiceAt K H d sa ns) : DiceAt K (upd H d (.lst [.ref sa, .int i', .int mx', .int r'])) d sa ns :=
  ⟨⟨i', mx', r', upd_same, h0⟩, SqL.kd keep_upd h D.sq⟩
theorem look_kd (k : KeepP d H H') (D : DiceAt K H d sa ns) (h : H b = some o) (ho : ∀ i mx r, o ≠ .lst [.ref sa, .int i, .int mx, .int r]) : H' b = some o := k _ _ h fun e => by
  subst e
  obtain ⟨i, mx, r, hd, _⟩ := D.ex
  rw [h] at hd
  injection hd with hd
  exact ho i mx r hd
end
/-- a place of the dice read -/
theorem g_dice {H : Hp} {K : PySem.W.Frag} {Q : VK} {d sa : Addr} {i mx r j : Int} {v : V} (h : H d = some (.lst [.ref sa, .int i, .int mx, .int r])) (e : atI [V.ref sa, .int i, .int mx, .int r] j = some v) (q : Q v H) : rIxL K (.ref d) (.int j) H Q := w_ixL (SqL.of' h) e q
/-! ### promises of the law's defs -/
def sp0 (R : Hp → VK → Prop) : Sp := fun vs H Q _ => vs = [] ∧ R H Q
theorem w_spF0 {R : Hp → VK → Prop} {H : Hp} {Q : VK} {E : XK} (q : R H Q) : sp0 R ([] ++ []) H Q E := ⟨rfl, q⟩
def rDice (K : PySem.W.Frag) (a : V) (H : Hp) (Q : VK) : Prop := ∃ sa ns, a = .ref sa ∧ SqL K H sa (ns.map V.int) ∧ ns.length ≤ 63 ∧ ∀ H' d, Same H H' → H d = none → DiceAt K H' d sa ns → Q (.ref d) H'
def rNext (K : PySem.W.Frag) (a b : V) (H : Hp) (Q : VK) : Prop := ∃ d sa ns n, a = .ref d ∧ b = .int n ∧ DiceAt K H d sa ns ∧ 0 < n ∧ n ≤ 10000 ∧ ∀ H' v, DiceAt K H' d sa ns → KeepP d H H' → 0 ≤ v → v < n → Q (.int v) H'
theorem w_rNext {K : PySem.W.Frag} {H : Hp} {Q : VK} {d sa : Addr} {ns : List Int} {n : Int} (D : DiceAt K H d sa ns) (h0 : 0 < n) (h1 : n ≤ 10000) (q : ∀ H' v, DiceAt K H' d sa ns → KeepP d H H' → 0 ≤ v → v < n → Q (.int v) H') : rNext K (.ref d) (.int n) H Q := ⟨d, sa, ns, n, rfl, rfl, D, h0, h1, q⟩
def rTerms (H : Hp) (Q : VK) : Prop := ∀ H' l, Same H H' → H l = none → H' l = some (.lst tv_ALL_WORDS) → Q (.ref l) H'
def rBounds (a : V) (H : Hp) (Q : VK) : Prop := ∃ x : W20, a = .str x.str ∧ ∀ H' p, Same H H' → H' p = some (.tup [.int x.b1, .int x.b2]) → Q (.ref p) H'
def rLong (a : V) (H : Hp) (Q : VK) : Prop := ∃ x : W20, a = .str x.str ∧ ∀ H', Same H H' → Q (.bl x.long) H'
def rCodeOf (a : V) (H : Hp) (Q : VK) : Prop := ∃ q r, a = .ref q ∧ H q = some (.tup (Row.vs r)) ∧ r.Ok ∧ ∀ H' p cs, Same H H' → H p = none → H' p = some (.lst (List.map V.int cs)) → cs.length ≤ 2 → (∀ c ∈ cs, 0 ≤ c ∧ c ≤ 9999) → Q (.ref p) H'
def rRow (K : PySem.W.Frag) (a : V) (H : Hp) (Q : VK) : Prop := ∃ d sa ns, a = .ref d ∧ DiceAt K H d sa ns ∧ ∀ H' q r, DiceAt K H' d sa ns → KeepP d H H' → H' q = some (.tup (Row.vs r)) → r.Ok → Q (.ref q) H'
def rCode (K : PySem.W.Frag) (a : V) (H : Hp) (Q : VK) : Prop := ∃ d sa ns, a = .ref d ∧ DiceAt K H d sa ns ∧ ∀ H' p cs, DiceAt K H' d sa ns → KeepP d H H' → H p = none → H' p = some (.lst (List.map V.int cs)) → cs.length ≤ 128 → (∀ c ∈ cs, 0 ≤ c ∧ c ≤ 9999) → Q (.ref p) H'
theorem w_rTerms {H : Hp} {Q : VK} (q : ∀ H' l, Same H H' → H l = none → H' l = some (.lst tv_ALL_WORDS) → Q (.ref l) H') : rTerms H Q := q
theorem w_rBounds {H : Hp} {Q : VK} {x : W20} (q : ∀ H' p, Same H H' → H' p = some (.tup [.int x.b1, .int x.b2]) → Q (.ref p) H') : rBounds (.str x.str) H Q := ⟨x, rfl, q⟩
theorem w_rLong {H : Hp} {Q : VK} {x : W20} (q : ∀ H', Same H H' → Q (.bl x.long) H') : rLong (.str x.str) H Q := ⟨x, rfl, q⟩
theorem inBl {xs : List V} {x : V} {k : Bool} (h : inV x xs = k) : inV x xs = k := h

local macro_rules | `(tactic| fail "di") => `(tactic| first | with_reducible assumption | ((with_reducible refine' DiceAt.new ?h1 ?h2); (case h1 => assumption); (case h2 => fail "di")) | ((with_reducible refine' DiceAt.same ?h1 ?h2); (case h1 => with_reducible assumption); (case h2 => fail "di")) | fail)
local macro_rules | `(tactic| fail "lhf") => `(tactic| first | assumption | exact upd_same | ((with_reducible refine' look_new ?h1 ?h2); (case h1 => assumption); (case h2 => fail "lhf")) | ((with_reducible refine' look_same ?h1 ?h2); (case h1 => with_reducible assumption); (case h2 => fail "lhf")) | ((with_reducible refine' look_kd ?h1 ?h2 ?h3 ?h4); (case h1 => with_reducible assumption); (case h2 => fail "di"); (case h3 => fail "lhf"); (case h4 => first | (intro _ _ _ z; cases z) | exact fun _ _ _ => ints_ne)) | fail)
local macro_rules | `(tactic| fail "hf") => `(tactic| fail "lhf")
local macro_rules | `(tactic| fail "sc") => `(tactic| exact ⟨by omega, by omega⟩)
local macro_rules | `(tactic| fail "sc") => `(tactic| exact .inl ⟨by decide, by decide⟩)
/-! part P32law -/
theorem in_b1 (x : W20) : inV (.str x.str) [.str "copy", .str "add", .str "less", .str "fetch", .str "send"] = decide (x.b2 = 4) := by cases x <;> decide +kernel
theorem in_b2 (x : W20) : inV (.str x.str) [.str "lay", .str "keep"] = decide (x.b2 = 8) := by cases x <;> decide +kernel
theorem in_b3 (x : W20) : inV (.str x.str) [.str "take", .str "load", .str "store", .str "back", .str "say", .str "leave"] = decide (x.b1 = 4 ∧ x.b2 = 1) := by cases x <;> decide +kernel
section
variable {H : Hp} {N : Hp → Prop} {d sa : Addr} {i mx r j : Int}
theorem p_dice1 (h : H d = some (.lst [.ref sa, .int i, .int mx, .int r])) (q : N (upd H d (.lst [.ref sa, .int j, .int mx, .int r]))) : rSetL (.ref d) (.int 1) (.int j) H N := w_setL h (by decide) (by show (1 : Int) < 4; decide) q
theorem p_dice2 (h : H d = some (.lst [.ref sa, .int i, .int mx, .int r])) (q : N (upd H d (.lst [.ref sa, .int i, .int j, .int r]))) : rSetL (.ref d) (.int 2) (.int j) H N := w_setL h (by decide) (by show (2 : Int) < 4; decide) q
theorem p_dice3 (h : H d = some (.lst [.ref sa, .int i, .int mx, .int r])) (q : N (upd H d (.lst [.ref sa, .int i, .int mx, .int j]))) : rSetL (.ref d) (.int 3) (.int j) H N := w_setL h (by decide) (by show (3 : Int) < 4; decide) q
end
section
variable {P : Program} {w : World} {K : PySem.W.Frag} {mg : Str → Option Value} {base : Heap}
theorem ok_l_dice (T : Txt w K mg) : GDef P w K mg base "_law_dice" 1 [] (sp1 (rDice K)) := by
  obtain ⟨f, fd, F, M⟩ := T.d_l_dice
  refine ⟨f, fd, _, _, F.ok sc_l_dice (fun vs H Q E h => ?_) (fun cdv A outer s0 H vs Q E hr h => ?_), M, F.kp, F.bindsN fun _ _ _ _ _ _ us hl => match us, hl with | [_], _ => rfl, .nil⟩
  · obtain ⟨_, rfl, _⟩ := h
    rfl
  · obtain ⟨_, rfl, sa, ns, rfl, hs, hlen, k⟩ := h
    refine ⟨_, (pss_cons (ps_set (i := 1) sc_l_dice.nd rfl (by first | exact .inl rfl | exact .inr rfl) pe_int)
 (pss_cons (ps_for (passes_of rfl) rfl (pi_list (pv 0)) (pg_name (i := 2) sc_l_dice.nd rfl (by first | exact .inl rfl | exact .inr rfl))
 (pss_one (ps_set (i := 1) sc_l_dice.nd rfl (by first | exact .inl rfl | exact .inr rfl) (pe_op op_mod (pe_op op_add (pe_op op_add (pe_op op_mul (pv 1) pe_int) (pe_op op_mul (pe_op op_mod (pv 2) pe_int) pe_int)) pe_int) pe_int))))
 (pss_one (ps_ret (pe_lst (pa_cons (pv 0) (pa_cons pe_int (pa_cons (pe_op op_mul (pv 1) (pe_callTy int1 (by rfl) T.f_int (by decide +kernel) (pa_cons (pe_cmpR op_gt (pe_callB len_seq (by rfl) T.f_len PySem.boot_len (pa_cons (pv 0) pa_nil)) pe_int (nomark _)) pa_nil))) (pa_cons pe_int pa_nil))))))))), ?_⟩
    rw [show start N_l_dice [V.ref sa] = [some (V.ref sa), none, none] from rfl]; try simp only [cxK, cxW]
    fail "S"
    refine w_forJ walk_list (fun _ σ H' => (∃ mx o, σ = [some (.ref sa), some (.int mx), o]) ∧ Same H H') ⟨⟨_, _, rfl⟩, Same.refl _⟩ (fun _ _ _ _ q => SqL.same q.2 hs) ?_ ?_
    · rintro i x σ H1 H' hi ⟨⟨mx, o, rfl⟩, S1⟩ ⟨rfl, hx⟩
      obtain ⟨c, rfl, _⟩ := map_at hx
      fail "S"
      exact ⟨⟨_, _, rfl⟩, S1⟩
    · rintro σ H1 ⟨⟨mx, o, rfl⟩, S1⟩
      have hs1 := SqL.same S1 hs
      fail "S"
      have fin : ∀ j, tCons (tC (V.int 0)) tNil [some (V.ref sa), some (V.int mx), o] H1 fun xs H2 => kL Q (V.ref sa :: V.int 0 :: V.int j :: xs) H2 := fun j => by
        fail "S"
        rename_i p hp
        exact k _ p (Same.snocN hp S1) (fresh_same S1 hp) ⟨⟨0, j, 0, upd_same, Int.le_refl 0⟩, SqL.new hp hs1⟩
      by_cases h2 : 2 < ((List.map V.int ns).length : Int)
      · rw [decide_eq_true h2]
        refine w_int1T (w_I (.inr ⟨by decide, by decide⟩) (fin _))
      · rw [decide_eq_false h2]
        refine w_int1F (w_I (.inr ⟨by decide, by decide⟩) (fin _))
theorem ok_l_next (T : Txt w K mg) : GDef P w K mg base "_law_next" 1 [] (sp2 (rNext K)) := by
  obtain ⟨f, fd, F, M⟩ := T.d_l_next
  refine ⟨f, fd, _, _, F.ok sc_l_next (fun vs H Q E h => ?_) (fun cdv A outer s0 H vs Q E hr h => ?_), M, F.kp, F.bindsN fun _ _ _ _ _ _ us hl => match us, hl with | [_, _], _ => rfl, .nil⟩
  · obtain ⟨_, _, rfl, _⟩ := h
    rfl
  · obtain ⟨_, _, rfl, d, sa, ns, n, rfl, rfl, D, h0, h1, k⟩ := h
    refine ⟨_, (pss_cons (ps_if (pt_cmpR op_gt (pe_ix ix_list (pv 0) pe_int (fun _ _ => rfl)) pe_int (nomark _))
 (pss_cons (ps_set (i := 2) sc_l_next.nd rfl (by first | exact .inl rfl | exact .inr rfl) (pe_op op_mod (pe_ix ix_list (pv 0) pe_int (fun _ _ => rfl)) (pv 1)))
 (pss_cons (ps_asg (pe_op op_fdiv (pe_ix ix_list (pv 0) pe_int (fun _ _ => rfl)) (pv 1)) (pg_sub (pv 0) pe_int set_list))
 (pss_one (ps_ret (pv 2)))))
 pss_nil)
 (pss_cons (ps_asg (pe_op op_add (pe_ix ix_list (pv 0) pe_int (fun _ _ => rfl)) pe_int) (pg_sub (pv 0) pe_int set_list))
 (pss_cons (ps_if (pt_cmpR op_le (pe_ix ix_list (pv 0) pe_int (fun _ _ => rfl)) (pe_callB len_seq (by rfl) T.f_len PySem.boot_len (pa_cons (pe_ix ix_list (pv 0) pe_int (fun _ _ => rfl)) pa_nil)) (nomark _))
 (pss_cons (ps_set (i := 3) sc_l_next.nd rfl (by first | exact .inl rfl | exact .inr rfl) (pe_ix ix_list (pe_ix ix_list (pv 0) pe_int (fun _ _ => rfl)) (pe_op op_sub (pe_ix ix_list (pv 0) pe_int (fun _ _ => rfl)) pe_int) (fun _ _ => rfl)))
 (pss_cons (ps_asg (pe_ifExp (pt_cmpR op_ge (pv 3) (pe_op op_pow pe_int pe_int) (nomark _)) (pe_op op_fdiv (pv 3) (pv 1)) pe_int) (pg_sub (pv 0) pe_int set_list))
 (pss_one (ps_ret (pe_op op_mod (pv 3) (pv 1))))))
 pss_nil)
 (pss_cons (ps_asg (pe_op op_mod (pe_op op_mul (pe_ix ix_list (pv 0) pe_int (fun _ _ => rfl)) pe_int) pe_int) (pg_sub (pv 0) pe_int set_list))
 (pss_one (ps_ret (pe_op op_mod (pe_op op_fdiv (pe_ix ix_list (pv 0) pe_int (fun _ _ => rfl)) pe_int) (pv 1)))))))), ?_⟩
    rw [show start N_l_next [V.ref d, V.int n] = [some (V.ref d), some (V.int n), none, none] from rfl]; try simp only [cxK, cxW]
    obtain ⟨i, mx, r, hd, hi⟩ := D.ex
    have md : ∀ j : Int, 0 ≤ j % n ∧ j % n < n := fun j => ⟨Int.emod_nonneg _ (by omega), Int.emod_lt_of_pos _ h0⟩
    fail "S"
    refine kI_d (fun hr => ?_) (fun hr => ?_)
    · fail "S"
      refine p_dice3 hd ?_
      fail "S"
      exact k _ _ (D.put hd hi) keep_upd (md _).1 (md _).2
    · fail "S"
      refine p_dice1 hd ?_
      have hd2 : upd H d (.lst [.ref sa, .int (i + 1), .int mx, .int r]) d = some (.lst [.ref sa, .int (i + 1), .int mx, .int r]) := upd_same
      have D2 := D.put (i' := i + 1) (mx' := mx) (r' := r) hd (by omega)
      have K2 : KeepP d H (upd H d (.lst [.ref sa, .int (i + 1), .int mx, .int r])) := keep_upd
      generalize upd H d (.lst [.ref sa, .int (i + 1), .int mx, .int r]) = H2 at hd2 D2 K2 ⊢
      have hs2 := D2.sq
      fail "S"
      rw [List.length_map]
      by_cases hin : i + 1 ≤ (ns.length : Int)
      · fail "S"
        obtain ⟨c, hc⟩ : ∃ c, atI (ns.map V.int) (i + 1 - 1) = some (.int c) := ⟨gi ns (i + 1 - 1), gi_at (by omega) (by omega)⟩
        refine w_ixL hs2 hc ?_
        fail "S"
        refine kI_d (fun _ => ?_) (fun _ => ?_)
        · fail "S"
          refine p_dice3 hd2 ?_
          fail "S"
          exact k _ _ (D2.put hd2 (by omega)) (KeepP.snoc keep_upd K2) (md _).1 (md _).2
        · fail "S"
          refine p_dice3 hd2 ?_
          fail "S"
          exact k _ _ (D2.put hd2 (by omega)) (KeepP.snoc keep_upd K2) (md _).1 (md _).2
      · fail "S"
        refine p_dice2 hd2 ?_
        have hd3 : upd H2 d (.lst [.ref sa, .int (i + 1), .int (mx * 48271 % 2147483647), .int r]) d = some (.lst [.ref sa, .int (i + 1), .int (mx * 48271 % 2147483647), .int r]) := upd_same
        fail "S"
        exact k _ _ (D2.put hd2 (by omega)) (KeepP.snoc keep_upd K2) (md _).1 (md _).2
theorem ok_l_terms (T : Txt w K mg) : GDef P w K mg base "_law_terms" 1 [] (sp0 rTerms) := by
  obtain ⟨f, fd, F, M⟩ := T.d_l_terms
  refine ⟨f, fd, _, _, F.ok sc_l_terms (fun vs H Q E h => ?_) (fun cdv A outer s0 H vs Q E hr h => ?_), M, F.kp, F.bindsN fun _ _ _ _ _ _ us hl => match us, hl with | [], _ => rfl, .nil⟩
  · obtain ⟨rfl, _⟩ := h
    rfl
  · obtain ⟨rfl, k⟩ := h
    refine ⟨_, (pss_cons (ps_set (i := 0) sc_l_terms.nd rfl (by first | exact .inl rfl | exact .inr rfl) (pe_lst (pa_cons pe_str (pa_cons pe_str (pa_cons pe_str (pa_cons pe_str (pa_cons pe_str (pa_cons pe_str (pa_cons pe_str (pa_cons pe_str (pa_cons pe_str (pa_cons pe_str pa_nil))))))))))))
 (pss_one (ps_ret (pe_op op_cat (pv 0) (pe_lst (pa_cons pe_str (pa_cons pe_str (pa_cons pe_str (pa_cons pe_str (pa_cons pe_str (pa_cons pe_str (pa_cons pe_str (pa_cons pe_str (pa_cons pe_str (pa_cons pe_str pa_nil))))))))))))))), ?_⟩
    rw [show start N_l_terms [] = [none] from rfl]; try simp only [cxK, cxW]
    fail "S"
    refine w_cnt (by fail "hf") (by fail "hf") (by rw [sizeLine_eq]; exact Nat.le_of_ble_eq_true rfl) fun l hl => ?_
    exact k _ l (by fail "sm") (fresh_new (fresh_new hl)) upd_same
theorem ok_l_bounds (T : Txt w K mg) : GDef P w K mg base "_law_bounds" 1 [] (sp1 rBounds) := by
  obtain ⟨f, fd, F, M⟩ := T.d_l_bounds
  refine ⟨f, fd, _, _, F.ok sc_l_bounds (fun vs H Q E h => ?_) (fun cdv A outer s0 H vs Q E hr h => ?_), M, F.kp, F.bindsN fun _ _ _ _ _ _ us hl => match us, hl with | [_], _ => rfl, .nil⟩
  · obtain ⟨_, rfl, _⟩ := h
    rfl
  · obtain ⟨_, rfl, x, rfl, k⟩ := h
    refine ⟨_, (pss_cons (ps_if (pt_cmpR op_in_seq (pv 0) (pe_tup (pa_cons pe_str (pa_cons pe_str (pa_cons pe_str (pa_cons pe_str (pa_cons pe_str pa_nil)))))) (by with_unfolding_all rfl))
 (pss_one (ps_ret (pe_tup (pa_cons pe_int (pa_cons pe_int pa_nil)))))
 pss_nil)
 (pss_cons (ps_if (pt_cmpR op_in_seq (pv 0) (pe_tup (pa_cons pe_str (pa_cons pe_str pa_nil))) (by with_unfolding_all rfl))
 (pss_one (ps_ret (pe_tup (pa_cons pe_int (pa_cons pe_int pa_nil)))))
 pss_nil)
 (pss_one (ps_ret (pe_ifExp (pt_cmpR op_in_seq (pv 0) (pe_tup (pa_cons pe_str (pa_cons pe_str (pa_cons pe_str (pa_cons pe_str (pa_cons pe_str (pa_cons pe_str pa_nil))))))) (by with_unfolding_all rfl)) (pe_tup (pa_cons pe_int (pa_cons pe_int pa_nil))) (pe_tup (pa_cons pe_int (pa_cons pe_int pa_nil)))))))), ?_⟩
    rw [show start N_l_bounds [V.str x.str] = [some (V.str x.str)] from rfl]; try simp only [cxK, cxW]
    rcases shape_is x with ⟨_, e1, e2, _⟩ | ⟨_, e1, e2, _⟩ | ⟨_, e1, e2, _⟩ | ⟨_, e1, e2, _⟩ <;> rw [e1, e2] at k
    · fail "S"
      refine w_inT_F (SqT.of' upd_same) rfl rfl (by rw [in_b1, e2]; rfl) ?_
      fail "S"
      refine w_inT_F (SqT.of' upd_same) rfl rfl (by rw [in_b2, e2]; rfl) ?_
      fail "S"
      refine w_inT_F (SqT.of' upd_same) rfl rfl (by rw [in_b3, e1, e2]; rfl) ?_
      fail "S"
      exact k _ _ (by fail "sm") (by fail "hf")
    · fail "S"
      refine w_inT_F (SqT.of' upd_same) rfl rfl (by rw [in_b1, e2]; rfl) ?_
      fail "S"
      refine w_inT_F (SqT.of' upd_same) rfl rfl (by rw [in_b2, e2]; rfl) ?_
      fail "S"
      refine w_inT_T (SqT.of' upd_same) rfl rfl (by rw [in_b3, e1, e2]; rfl) ?_
      fail "S"
      exact k _ _ (by fail "sm") (by fail "hf")
    · fail "S"
      refine w_inT_T (SqT.of' upd_same) rfl rfl (by rw [in_b1, e2]; rfl) ?_
      fail "S"
      exact k _ _ (by fail "sm") (by fail "hf")
    · fail "S"
      refine w_inT_F (SqT.of' upd_same) rfl rfl (by rw [in_b1, e2]; rfl) ?_
      fail "S"
      refine w_inT_T (SqT.of' upd_same) rfl rfl (by rw [in_b2, e2]; rfl) ?_
      fail "S"
      exact k _ _ (by fail "sm") (by fail "hf")
theorem ok_l_is_long (T : Txt w K mg) : GDef P w K mg base "_law_is_long" 1 [] (sp1 rLong) := by
  obtain ⟨f, fd, F, M⟩ := T.d_l_is_long
  refine ⟨f, fd, _, _, F.ok sc_l_is_long (fun vs H Q E h => ?_) (fun cdv A outer s0 H vs Q E hr h => ?_), M, F.kp, F.bindsN fun _ _ _ _ _ _ us hl => match us, hl with | [_], _ => rfl, .nil⟩
  · obtain ⟨_, rfl, _⟩ := h
    rfl
  · obtain ⟨_, rfl, x, rfl, k⟩ := h
    refine ⟨_, (pss_one (ps_ret (pe_cmpR op_in_seq (pv 0) (pe_tup (pa_cons pe_str (pa_cons pe_str (pa_cons pe_str (pa_cons pe_str (pa_cons pe_str (pa_cons pe_str (pa_cons pe_str (pa_cons pe_str (pa_cons pe_str pa_nil)))))))))) (by with_unfolding_all rfl)))), ?_⟩
    rw [show start N_l_is_long [V.str x.str] = [some (V.str x.str)] from rfl]; try simp only [cxK, cxW]
    fail "S"
    exact w_inT (SqT.of' upd_same) rfl rfl (in_longer x) (k _ (by fail "sm"))
end

/-! part P33law -/
section
variable {K : PySem.W.Frag} {σ σ' : St'} {H : Hp} {Q : VK} {tA : TA} {n b d : St' → Hp → Prop} {rt : VK} {i j l : Nat} {u v x : V} {a : Addr} {xs : List V} {ts : TGs} {N : St' → Hp → Prop} {k : Nat}
def kPar3 (i j l : Nat) (n : St' → Hp → Prop) (σ : St') : List V → Hp → Prop := fun vs H1 => ∃ u v w, vs = [u, v, w] ∧ n (((σ.set i (some u)).set j (some v)).set l (some w)) H1
theorem w_par3 (q : tA σ H (kPar3 i j l n σ)) : tPar3 i j l tA ⟨n, rt, b, d⟩ σ H := q
theorem w_kPar3 (e : ((σ.set i (some u)).set j (some v)).set l (some x) = σ') (q : n σ' H) : kPar3 i j l n σ [u, v, x] H := by subst e; exact ⟨u, v, x, rfl, q⟩
theorem w_gUnl (h : SqL K H a xs) (e : xs.length = k) (q : ts xs σ H N) : gUnl K k ts (.ref a) σ H N := ⟨a, xs, rfl, h, e, q⟩
end
theorem idx_at (x : W20) : ∃ j : Nat, j < 20 ∧ tv_ALL_WORDS[j]? = some (.str x.str) ∧ eqV (.str x.str) (.str x.str) = true ∧ ∀ (m : Nat) (z' : V), m < j → tv_ALL_WORDS[m]? = some z' → eqV z' (.str x.str) = false := by
  have h : ∀ (x : W20), ∃ j, j < 20 ∧ (tv_ALL_WORDS[j]? = some (.str x.str) ∧ eqV (.str x.str) (.str x.str) = true ∧ ∀ m, m < j → (match tv_ALL_WORDS[m]? with | some z => eqV z (.str x.str) | none => false) = false) := fun x => by
    cases x
    · exact ⟨0, by decide +kernel⟩
    · exact ⟨1, by decide +kernel⟩
    · exact ⟨2, by decide +kernel⟩
    · exact ⟨3, by decide +kernel⟩
    · exact ⟨4, by decide +kernel⟩
    · exact ⟨5, by decide +kernel⟩
    · exact ⟨6, by decide +kernel⟩
    · exact ⟨7, by decide +kernel⟩
    · exact ⟨8, by decide +kernel⟩
    · exact ⟨9, by decide +kernel⟩
    · exact ⟨10, by decide +kernel⟩
    · exact ⟨11, by decide +kernel⟩
    · exact ⟨12, by decide +kernel⟩
    · exact ⟨13, by decide +kernel⟩
    · exact ⟨14, by decide +kernel⟩
    · exact ⟨15, by decide +kernel⟩
    · exact ⟨16, by decide +kernel⟩
    · exact ⟨17, by decide +kernel⟩
    · exact ⟨18, by decide +kernel⟩
    · exact ⟨19, by decide +kernel⟩
  obtain ⟨j, h1, h2, h3, h4⟩ := h x
  refine ⟨j, h1, h2, h3, fun m z' hm hz => ?_⟩
  have := h4 m hm
  rw [hz] at this
  exact this
theorem w_index {K : PySem.W.Frag} {H : Hp} {Q : VK} {a : Addr} {x : W20} (h : H a = some (.lst tv_ALL_WORDS)) (q : ∀ j : Nat, j < 20 → Q (.int (j : Nat)) H) : rIndex K (.ref a) [.str x.str] H Q := by
  obtain ⟨j, h1, h2, h3, h4⟩ := idx_at x
  exact ⟨a, _, _, j, _, rfl, rfl, SqL.of' h, rfl, by decide +kernel, h2, h3, h4, q j h1⟩
theorem row_kind (x : W20) : ((∀ a b, x.digits a b = []) ∧ x.b1 = 1 ∧ x.b2 = 1 ∧ x.long = false) ∨ ((∀ a b, x.digits a b = []) ∧ x.b1 = 1 ∧ x.b2 = 1 ∧ x.long = true) ∨ ((∀ a b, x.digits a b = [a]) ∧ x.b1 = 4 ∧ x.b2 = 1 ∧ x.long = false) ∨
    ((∀ a b, x.digits a b = [a]) ∧ x.b1 = 4 ∧ x.b2 = 1 ∧ x.long = true) ∨ ((∀ a b, x.digits a b = [a, b]) ∧ x.b1 = 4 ∧ x.b2 = 4 ∧ x.long = false) ∨ ((∀ a b, x.digits a b = [a, b]) ∧ x.b1 = 4 ∧ x.b2 = 8 ∧ x.long = false) := by
  cases x
  all_goals first | exact .inl ⟨fun _ _ => rfl, rfl, rfl, rfl⟩ | exact .inr (.inl ⟨fun _ _ => rfl, rfl, rfl, rfl⟩) | exact .inr (.inr (.inl ⟨fun _ _ => rfl, rfl, rfl, rfl⟩)) | exact .inr (.inr (.inr (.inl ⟨fun _ _ => rfl, rfl, rfl, rfl⟩))) | exact .inr (.inr (.inr (.inr (.inl ⟨fun _ _ => rfl, rfl, rfl, rfl⟩)))) | exact .inr (.inr (.inr (.inr (.inr ⟨fun _ _ => rfl, rfl, rfl, rfl⟩))))
section
variable {P : Program} {w : World} {K : PySem.W.Frag} {mg : Str → Option Value} {base : Heap}
theorem ok_l_head (T : Txt w K mg) : GDef P w K mg base "_law_head" 2 [] (sp1 rHead) := by
  obtain ⟨f, fd, F, M⟩ := T.d_l_head
  refine ⟨f, fd, _, _, F.ok sc_l_head (fun vs H Q E h => ?_) (fun cdv A outer s0 H vs Q E hr h => ?_), M, F.kp, F.bindsN fun _ _ _ _ _ _ us hl => match us, hl with | [_], _ => rfl, .nil⟩
  · obtain ⟨_, rfl, _⟩ := h
    rfl
  · obtain ⟨_, rfl, c, rfl, hc, k⟩ := h
    refine ⟨_, (pss_cons (ps_par3 (i := 1) (j := 2) (l := 3) rfl sc_l_head.nd rfl rfl rfl (by decide) (by decide) (by decide) rfl rfl rfl (pa_cons (pe_op op_fdiv (pv 0) pe_int) (pa_cons (pe_op op_mod (pe_op op_fdiv (pv 0) pe_int) pe_int) (pa_cons (pe_op op_mod (pv 0) pe_int) pa_nil))) (by rfl))
 (pss_cons (ps_if (pt_cmpR op_gt (pv 1) pe_int (nomark _))
 (pss_one (ps_ret pe_non))
 pss_nil)
 (pss_cons (ps_set (i := 4) sc_l_head.nd rfl (by first | exact .inl rfl | exact .inr rfl) (pe_ix ix_list (e_call0 (ok_l_terms T) hr) (pv 1) (fun _ _ => rfl)))
 (pss_cons (ps_set (i := 5) sc_l_head.nd rfl (by first | exact .inl rfl | exact .inr rfl) (e_call (ok_l_bounds T) hr (pa_cons (pv 4) pa_nil)))
 (pss_cons (ps_if (PW.pt (pw_or (pt_cmpR op_ge (pv 2) (pe_ix ix_tup (pv 5) pe_int (fun _ _ => rfl)) (nomark _)) (pw_or1 (pt_cmpR op_ge (pv 3) (pe_ix ix_tup (pv 5) pe_int (fun _ _ => rfl)) (nomark _)))))
 (pss_one (ps_ret pe_non))
 pss_nil)
 (pss_one (ps_ret (pe_op op_catA (pe_op op_catA (pe_tup (pa_cons (pv 4) pa_nil)) (pe_ifExp (pt_cmpR op_gt (pe_ix ix_tup (pv 5) pe_int (fun _ _ => rfl)) pe_int (nomark _)) (pe_tup (pa_cons (pv 2) pa_nil)) (pe_tup pa_nil))) (pe_ifExp (pt_cmpR op_gt (pe_ix ix_tup (pv 5) pe_int (fun _ _ => rfl)) pe_int (nomark _)) (pe_tup (pa_cons (pv 3) pa_nil)) (pe_tup pa_nil)))))))))), ?_⟩
    rw [show start N_l_head [V.int c] = [some (V.int c), none, none, none, none, none] from rfl]; try simp only [cxK, cxW]
    fail "s"
    refine w_par3 ?_
    fail "S"
    refine w_kPar3 rfl ?_
    fail "S"
    by_cases h19 : 19 < c / 100
    · have e : headOf c = none := by unfold headOf; rw [if_neg (by omega)]
      rw [e] at k
      fail "S"
      exact k _ _ (Same.refl _) rfl
    · have he : headOf c = if c / 10 % 10 < (W20.all.getD (c / 100).toNat .stop).b1 ∧ c % 10 < (W20.all.getD (c / 100).toNat .stop).b2 then some ⟨W20.all.getD (c / 100).toNat .stop, c / 10 % 10, c % 10⟩ else none := by
        unfold headOf
        rw [if_pos (by omega)]
      fail "S"
      refine w_spF0 (w_rTerms fun H1 l S1 ln hl => ?_)
      fail "S"
      refine w_ixL (SqL.of' hl) (word_at (by omega) (by omega)) ?_
      generalize W20.all.getD (c / 100).toNat .stop = x at he ⊢
      fail "S"
      refine w_rBounds fun H2 p S2 hp => ?_
      fail "S"
      rcases shape_is x with ⟨_, e1, e2, e3⟩ | ⟨_, e1, e2, e3⟩ | ⟨_, e1, e2, e3⟩ | ⟨_, e1, e2, e3⟩
      · rw [e1, e2] at hp he
        refine kI_d (fun h1 => ?_) (fun h1 => ?_)
        · have en : headOf c = none := by rw [he, if_neg (by omega)]
          rw [en] at k
          fail "S"
          exact k _ _ (by fail "sm") rfl
        · fail "S"
          refine kI_d (fun h2 => ?_) (fun h2 => ?_)
          · have en : headOf c = none := by rw [he, if_neg (by omega)]
            rw [en] at k
            fail "S"
            exact k _ _ (by fail "sm") rfl
          · have en : headOf c = some ⟨x, c / 10 % 10, c % 10⟩ := by rw [he, if_pos ⟨by omega, by omega⟩]
            rw [en] at k
            fail "S"
            refine w_catN (by fail "hf") (by fail "sqt") (by rw [sizeLine_eq]; exact Nat.le_of_ble_eq_true rfl) fun p1 H3 S3 h3 => ?_
            fail "S"
            refine w_catN (by fail "hf") (by fail "sqt") (by rw [sizeLine_eq]; exact Nat.le_of_ble_eq_true rfl) fun p2 H4 S4 h4 => ?_
            refine k _ _ (by fail "sm") ⟨p2, rfl, ?_⟩
            show H4 p2 = some (.tup (.str x.str :: (x.digits (c / 10 % 10) (c % 10)).map V.int))
            rw [h4, e3]
            rfl
      · rw [e1, e2] at hp he
        refine kI_d (fun h1 => ?_) (fun h1 => ?_)
        · have en : headOf c = none := by rw [he, if_neg (by omega)]
          rw [en] at k
          fail "S"
          exact k _ _ (by fail "sm") rfl
        · fail "S"
          refine kI_d (fun h2 => ?_) (fun h2 => ?_)
          · have en : headOf c = none := by rw [he, if_neg (by omega)]
            rw [en] at k
            fail "S"
            exact k _ _ (by fail "sm") rfl
          · have en : headOf c = some ⟨x, c / 10 % 10, c % 10⟩ := by rw [he, if_pos ⟨by omega, by omega⟩]
            rw [en] at k
            fail "S"
            refine w_catN (by fail "hf") (by fail "sqt") (by rw [sizeLine_eq]; exact Nat.le_of_ble_eq_true rfl) fun p1 H3 S3 h3 => ?_
            fail "S"
            refine w_catN (by fail "hf") (by fail "sqt") (by rw [sizeLine_eq]; exact Nat.le_of_ble_eq_true rfl) fun p2 H4 S4 h4 => ?_
            refine k _ _ (by fail "sm") ⟨p2, rfl, ?_⟩
            show H4 p2 = some (.tup (.str x.str :: (x.digits (c / 10 % 10) (c % 10)).map V.int))
            rw [h4, e3]
            rfl
      · rw [e1, e2] at hp he
        refine kI_d (fun h1 => ?_) (fun h1 => ?_)
        · have en : headOf c = none := by rw [he, if_neg (by omega)]
          rw [en] at k
          fail "S"
          exact k _ _ (by fail "sm") rfl
        · fail "S"
          refine kI_d (fun h2 => ?_) (fun h2 => ?_)
          · have en : headOf c = none := by rw [he, if_neg (by omega)]
            rw [en] at k
            fail "S"
            exact k _ _ (by fail "sm") rfl
          · have en : headOf c = some ⟨x, c / 10 % 10, c % 10⟩ := by rw [he, if_pos ⟨by omega, by omega⟩]
            rw [en] at k
            fail "S"
            refine w_catN (by fail "hf") (by fail "sqt") (by rw [sizeLine_eq]; exact Nat.le_of_ble_eq_true rfl) fun p1 H3 S3 h3 => ?_
            fail "S"
            refine w_catN (by fail "hf") (by fail "sqt") (by rw [sizeLine_eq]; exact Nat.le_of_ble_eq_true rfl) fun p2 H4 S4 h4 => ?_
            refine k _ _ (by fail "sm") ⟨p2, rfl, ?_⟩
            show H4 p2 = some (.tup (.str x.str :: (x.digits (c / 10 % 10) (c % 10)).map V.int))
            rw [h4, e3]
            rfl
      · rw [e1, e2] at hp he
        refine kI_d (fun h1 => ?_) (fun h1 => ?_)
        · have en : headOf c = none := by rw [he, if_neg (by omega)]
          rw [en] at k
          fail "S"
          exact k _ _ (by fail "sm") rfl
        · fail "S"
          refine kI_d (fun h2 => ?_) (fun h2 => ?_)
          · have en : headOf c = none := by rw [he, if_neg (by omega)]
            rw [en] at k
            fail "S"
            exact k _ _ (by fail "sm") rfl
          · have en : headOf c = some ⟨x, c / 10 % 10, c % 10⟩ := by rw [he, if_pos ⟨by omega, by omega⟩]
            rw [en] at k
            fail "S"
            refine w_catN (by fail "hf") (by fail "sqt") (by rw [sizeLine_eq]; exact Nat.le_of_ble_eq_true rfl) fun p1 H3 S3 h3 => ?_
            fail "S"
            refine w_catN (by fail "hf") (by fail "sqt") (by rw [sizeLine_eq]; exact Nat.le_of_ble_eq_true rfl) fun p2 H4 S4 h4 => ?_
            refine k _ _ (by fail "sm") ⟨p2, rfl, ?_⟩
            show H4 p2 = some (.tup (.str x.str :: (x.digits (c / 10 % 10) (c % 10)).map V.int))
            rw [h4, e3]
            rfl
theorem ok_l_code_of (T : Txt w K mg) : GDef P w K mg base "_law_code_of" 2 [] (sp1 rCodeOf) := by
  obtain ⟨f, fd, F, M⟩ := T.d_l_code_of
  refine ⟨f, fd, _, _, F.ok sc_l_code_of (fun vs H Q E h => ?_) (fun cdv A outer s0 H vs Q E hr h => ?_), M, F.kp, F.bindsN fun _ _ _ _ _ _ us hl => match us, hl with | [_], _ => rfl, .nil⟩
  · obtain ⟨_, rfl, _⟩ := h
    rfl
  · obtain ⟨_, rfl, q, r, rfl, hq, ro, k⟩ := h
    refine ⟨_, (pss_cons (ps_set (i := 1) sc_l_code_of.nd rfl (by first | exact .inl rfl | exact .inr rfl) (pe_ix ix_tup (pv 0) pe_int (fun _ _ => rfl)))
 (pss_cons (ps_set (i := 2) sc_l_code_of.nd rfl (by first | exact .inl rfl | exact .inr rfl) (pe_op op_cat (pe_callTy list_of (by rfl) T.f_list (by decide +kernel) (pa_cons (pe_slice sl_tupA (pv 0) (po_some pe_int) po_none) pa_nil)) (pe_lst (pa_cons pe_int (pa_cons pe_int pa_nil)))))
 (pss_cons (ps_set (i := 3) sc_l_code_of.nd rfl (by first | exact .inl rfl | exact .inr rfl) (e_call (ok_l_bounds T) hr (pa_cons (pv 1) pa_nil)))
 (pss_cons (ps_set (i := 4) sc_l_code_of.nd rfl (by first | exact .inl rfl | exact .inr rfl) (pe_op op_add (pe_callTy int1 (by rfl) T.f_int (by decide +kernel) (pa_cons (pe_cmpR op_gt (pe_ix ix_tup (pv 3) pe_int (fun _ _ => rfl)) pe_int (nomark _)) pa_nil)) (pe_callTy int1 (by rfl) T.f_int (by decide +kernel) (pa_cons (pe_cmpR op_gt (pe_ix ix_tup (pv 3) pe_int (fun _ _ => rfl)) pe_int (nomark _)) pa_nil))))
 (pss_cons (ps_asg (pe_slice sl_list (pe_op op_cat (pe_slice sl_list (pv 2) po_none (po_some (pv 4))) (pe_lst (pa_cons pe_int (pa_cons pe_int pa_nil)))) po_none (po_some pe_int)) (pg_unl rfl (pgs_cons (pg_name (i := 5) sc_l_code_of.nd rfl (by first | exact .inl rfl | exact .inr rfl)) (pgs_cons (pg_name (i := 6) sc_l_code_of.nd rfl (by first | exact .inl rfl | exact .inr rfl)) pgs_nil))))
 (pss_cons (ps_set (i := 7) sc_l_code_of.nd rfl (by first | exact .inl rfl | exact .inr rfl) (pe_lst (pa_cons (pe_op op_add (pe_op op_add (pe_op op_mul pe_int (pe_bm PySem.F.plainAttrs_list PySem.F.slot_list_index PySem.F.type_list_index mt_index (e_call0 (ok_l_terms T) hr) (pa_cons (pv 1) pa_nil))) (pe_op op_mul pe_int (pv 5))) (pv 6)) pa_nil)))
 (pss_one (ps_ret (pe_op op_cat (pv 7) (pe_op op_rep (pe_lst (pa_cons (pe_ix ix_tup (pv 0) (pe_un un_neg pe_int) (fun _ _ => rfl)) pa_nil)) (pe_callTy int1 (by rfl) T.f_int (by decide +kernel) (pa_cons (e_call (ok_l_is_long T) hr (pa_cons (pv 1) pa_nil)) pa_nil)))))))))))), ?_⟩
    rw [show start N_l_code_of [V.ref q] = [some (V.ref q), none, none, none, none, none, none, none] from rfl]; try simp only [cxK, cxW]
    obtain ⟨rw_, rx, ry, rn⟩ := r
    obtain ⟨x0, x1, y0, y1, n0, n1⟩ := ro
    dsimp only at x0 x1 y0 y1 n0 n1
    have unf : ∀ ds tl, rw_.digits rx ry = ds → (if rw_.long = true then [rn] else []) = tl → H q = some (.tup (.str rw_.str :: (ds ++ tl).map V.int)) := fun ds tl e1 e2 => by
      rw [hq, ← e1, ← e2]
      rfl
    rcases row_kind rw_ with ⟨e3, e1, e2, e4⟩ | ⟨e3, e1, e2, e4⟩ | ⟨e3, e1, e2, e4⟩ | ⟨e3, e1, e2, e4⟩ | ⟨e3, e1, e2, e4⟩ | ⟨e3, e1, e2, e4⟩ <;> rw [e1] at x1 <;> rw [e2] at y1
    · have hv : H q = some (.tup [V.str rw_.str]) := unf [] [] (e3 _ _) (by rw [e4]; rfl)
      fail "S"
      refine w_slA (SqT.of' hv) (fun z => Nat.one_ne_zero z.1) fun p1 hp1 => ?_
      have c1 : cutV [V.str rw_.str] (some 1) none = [] := rfl
      rw [c1]
      fail "S"
      refine w_cnt (by fail "hf") (by fail "hf") (by rw [sizeLine_eq]; exact Nat.le_of_ble_eq_true rfl) fun p2 hp2 => ?_
      fail "S"
      refine w_rBounds fun H2 p3 S2 hp3 => ?_
      rw [e1, e2] at hp3
      fail "S"
      refine w_int1F ?_
      fail "S"
      refine w_int1F ?_
      fail "S"
      refine w_slL (xs := [V.int 0, V.int 0]) (SqL.of' (by fail "hf")) fun p4 hp4 => ?_
      rw [show cutV [V.int 0, V.int 0] none (some (0 + 0)) = [] from rfl]
      fail "S"
      refine w_cnt (by fail "hf") (by fail "hf") (by rw [sizeLine_eq]; exact Nat.le_of_ble_eq_true rfl) fun p5 hp5 => ?_
      fail "S"
      refine w_slL (xs := [] ++ [V.int 0, V.int 0]) (SqL.of' (by fail "hf")) fun p6 hp6 => ?_
      rw [show cutV ([] ++ [V.int 0, V.int 0]) none (some 2) = [V.int 0, V.int 0] from rfl]
      refine w_gUnl (SqL.of' (by fail "hf")) rfl ?_
      fail "S"
      refine w_spF0 (w_rTerms fun H3 l S3 ln hl => ?_)
      fail "S"
      refine w_index hl fun j hj => ?_
      fail "S"
      refine w_rLong fun H4 S4 => ?_
      rw [e4]
      fail "S"
      refine w_repL (by fail "hf") (by decide) (by decide) (by rw [sizeLine_eq]; exact Nat.le_of_ble_eq_true rfl) fun p7 hp7 => ?_
      refine w_cnt (by fail "hf") (by fail "hf") (by rw [sizeLine_eq]; exact Nat.le_of_ble_eq_true rfl) fun p8 hp8 => ?_
      refine k _ p8 [100 * (j : Int) + 10 * 0 + 0] (by fail "sm") (fresh_same (by fail "sm" : Same H H4) (fresh_new hp8)) (by rw [upd_same]; rfl) (by simp) fun c hc => ?_
      simp only [List.mem_cons, List.not_mem_nil, or_false] at hc
      omega
    · have hv : H q = some (.tup [V.str rw_.str, V.int rn]) := unf [] [rn] (e3 _ _) (by rw [e4]; rfl)
      fail "S"
      refine w_slA (SqT.of' hv) (fun z => Nat.one_ne_zero z.1) fun p1 hp1 => ?_
      have c1 : cutV [V.str rw_.str, V.int rn] (some 1) none = [V.int rn] := rfl
      rw [c1]
      fail "S"
      refine w_cnt (by fail "hf") (by fail "hf") (by rw [sizeLine_eq]; exact Nat.le_of_ble_eq_true rfl) fun p2 hp2 => ?_
      fail "S"
      refine w_rBounds fun H2 p3 S2 hp3 => ?_
      rw [e1, e2] at hp3
      fail "S"
      refine w_int1F ?_
      fail "S"
      refine w_int1F ?_
      fail "S"
      refine w_slL (xs := [V.int rn, V.int 0, V.int 0]) (SqL.of' (by fail "hf")) fun p4 hp4 => ?_
      rw [show cutV [V.int rn, V.int 0, V.int 0] none (some (0 + 0)) = [] from rfl]
      fail "S"
      refine w_cnt (by fail "hf") (by fail "hf") (by rw [sizeLine_eq]; exact Nat.le_of_ble_eq_true rfl) fun p5 hp5 => ?_
      fail "S"
      refine w_slL (xs := [] ++ [V.int 0, V.int 0]) (SqL.of' (by fail "hf")) fun p6 hp6 => ?_
      rw [show cutV ([] ++ [V.int 0, V.int 0]) none (some 2) = [V.int 0, V.int 0] from rfl]
      refine w_gUnl (SqL.of' (by fail "hf")) rfl ?_
      fail "S"
      refine w_spF0 (w_rTerms fun H3 l S3 ln hl => ?_)
      fail "S"
      refine w_index hl fun j hj => ?_
      fail "S"
      refine w_rLong fun H4 S4 => ?_
      rw [e4]
      fail "S"
      refine w_repL (by fail "hf") (by decide) (by decide) (by rw [sizeLine_eq]; exact Nat.le_of_ble_eq_true rfl) fun p7 hp7 => ?_
      refine w_cnt (by fail "hf") (by fail "hf") (by rw [sizeLine_eq]; exact Nat.le_of_ble_eq_true rfl) fun p8 hp8 => ?_
      refine k _ p8 [100 * (j : Int) + 10 * 0 + 0, rn] (by fail "sm") (fresh_same (by fail "sm" : Same H H4) (fresh_new hp8)) (by rw [upd_same]; rfl) (by simp) fun c hc => ?_
      simp only [List.mem_cons, List.not_mem_nil, or_false] at hc
      omega
    · have hv : H q = some (.tup [V.str rw_.str, V.int rx]) := unf [rx] [] (e3 _ _) (by rw [e4]; rfl)
      fail "S"
      refine w_slA (SqT.of' hv) (fun z => Nat.one_ne_zero z.1) fun p1 hp1 => ?_
      have c1 : cutV [V.str rw_.str, V.int rx] (some 1) none = [V.int rx] := rfl
      rw [c1]
      fail "S"
      refine w_cnt (by fail "hf") (by fail "hf") (by rw [sizeLine_eq]; exact Nat.le_of_ble_eq_true rfl) fun p2 hp2 => ?_
      fail "S"
      refine w_rBounds fun H2 p3 S2 hp3 => ?_
      rw [e1, e2] at hp3
      fail "S"
      refine w_int1T ?_
      fail "S"
      refine w_int1F ?_
      fail "S"
      refine w_slL (xs := [V.int rx, V.int 0, V.int 0]) (SqL.of' (by fail "hf")) fun p4 hp4 => ?_
      rw [show cutV [V.int rx, V.int 0, V.int 0] none (some (1 + 0)) = [V.int rx] from rfl]
      fail "S"
      refine w_cnt (by fail "hf") (by fail "hf") (by rw [sizeLine_eq]; exact Nat.le_of_ble_eq_true rfl) fun p5 hp5 => ?_
      fail "S"
      refine w_slL (xs := [V.int rx] ++ [V.int 0, V.int 0]) (SqL.of' (by fail "hf")) fun p6 hp6 => ?_
      rw [show cutV ([V.int rx] ++ [V.int 0, V.int 0]) none (some 2) = [V.int rx, V.int 0] from rfl]
      refine w_gUnl (SqL.of' (by fail "hf")) rfl ?_
      fail "S"
      refine w_spF0 (w_rTerms fun H3 l S3 ln hl => ?_)
      fail "S"
      refine w_index hl fun j hj => ?_
      fail "S"
      refine w_rLong fun H4 S4 => ?_
      rw [e4]
      fail "S"
      refine w_repL (by fail "hf") (by decide) (by decide) (by rw [sizeLine_eq]; exact Nat.le_of_ble_eq_true rfl) fun p7 hp7 => ?_
      refine w_cnt (by fail "hf") (by fail "hf") (by rw [sizeLine_eq]; exact Nat.le_of_ble_eq_true rfl) fun p8 hp8 => ?_
      refine k _ p8 [100 * (j : Int) + 10 * rx + 0] (by fail "sm") (fresh_same (by fail "sm" : Same H H4) (fresh_new hp8)) (by rw [upd_same]; rfl) (by simp) fun c hc => ?_
      simp only [List.mem_cons, List.not_mem_nil, or_false] at hc
      omega
    · have hv : H q = some (.tup [V.str rw_.str, V.int rx, V.int rn]) := unf [rx] [rn] (e3 _ _) (by rw [e4]; rfl)
      fail "S"
      refine w_slA (SqT.of' hv) (fun z => Nat.one_ne_zero z.1) fun p1 hp1 => ?_
      have c1 : cutV [V.str rw_.str, V.int rx, V.int rn] (some 1) none = [V.int rx, V.int rn] := rfl
      rw [c1]
      fail "S"
      refine w_cnt (by fail "hf") (by fail "hf") (by rw [sizeLine_eq]; exact Nat.le_of_ble_eq_true rfl) fun p2 hp2 => ?_
      fail "S"
      refine w_rBounds fun H2 p3 S2 hp3 => ?_
      rw [e1, e2] at hp3
      fail "S"
      refine w_int1T ?_
      fail "S"
      refine w_int1F ?_
      fail "S"
      refine w_slL (xs := [V.int rx, V.int rn, V.int 0, V.int 0]) (SqL.of' (by fail "hf")) fun p4 hp4 => ?_
      rw [show cutV [V.int rx, V.int rn, V.int 0, V.int 0] none (some (1 + 0)) = [V.int rx] from rfl]
      fail "S"
      refine w_cnt (by fail "hf") (by fail "hf") (by rw [sizeLine_eq]; exact Nat.le_of_ble_eq_true rfl) fun p5 hp5 => ?_
      fail "S"
      refine w_slL (xs := [V.int rx] ++ [V.int 0, V.int 0]) (SqL.of' (by fail "hf")) fun p6 hp6 => ?_
      rw [show cutV ([V.int rx] ++ [V.int 0, V.int 0]) none (some 2) = [V.int rx, V.int 0] from rfl]
      refine w_gUnl (SqL.of' (by fail "hf")) rfl ?_
      fail "S"
      refine w_spF0 (w_rTerms fun H3 l S3 ln hl => ?_)
      fail "S"
      refine w_index hl fun j hj => ?_
      fail "S"
      refine w_rLong fun H4 S4 => ?_
      rw [e4]
      fail "S"
      refine w_repL (by fail "hf") (by decide) (by decide) (by rw [sizeLine_eq]; exact Nat.le_of_ble_eq_true rfl) fun p7 hp7 => ?_
      refine w_cnt (by fail "hf") (by fail "hf") (by rw [sizeLine_eq]; exact Nat.le_of_ble_eq_true rfl) fun p8 hp8 => ?_
      refine k _ p8 [100 * (j : Int) + 10 * rx + 0, rn] (by fail "sm") (fresh_same (by fail "sm" : Same H H4) (fresh_new hp8)) (by rw [upd_same]; rfl) (by simp) fun c hc => ?_
      simp only [List.mem_cons, List.not_mem_nil, or_false] at hc
      omega
    · have hv : H q = some (.tup [V.str rw_.str, V.int rx, V.int ry]) := unf [rx, ry] [] (e3 _ _) (by rw [e4]; rfl)
      fail "S"
      refine w_slA (SqT.of' hv) (fun z => Nat.one_ne_zero z.1) fun p1 hp1 => ?_
      have c1 : cutV [V.str rw_.str, V.int rx, V.int ry] (some 1) none = [V.int rx, V.int ry] := rfl
      rw [c1]
      fail "S"
      refine w_cnt (by fail "hf") (by fail "hf") (by rw [sizeLine_eq]; exact Nat.le_of_ble_eq_true rfl) fun p2 hp2 => ?_
      fail "S"
      refine w_rBounds fun H2 p3 S2 hp3 => ?_
      rw [e1, e2] at hp3
      fail "S"
      refine w_int1T ?_
      fail "S"
      refine w_int1T ?_
      fail "S"
      refine w_slL (xs := [V.int rx, V.int ry, V.int 0, V.int 0]) (SqL.of' (by fail "hf")) fun p4 hp4 => ?_
      rw [show cutV [V.int rx, V.int ry, V.int 0, V.int 0] none (some (1 + 1)) = [V.int rx, V.int ry] from rfl]
      fail "S"
      refine w_cnt (by fail "hf") (by fail "hf") (by rw [sizeLine_eq]; exact Nat.le_of_ble_eq_true rfl) fun p5 hp5 => ?_
      fail "S"
      refine w_slL (xs := [V.int rx, V.int ry] ++ [V.int 0, V.int 0]) (SqL.of' (by fail "hf")) fun p6 hp6 => ?_
      rw [show cutV ([V.int rx, V.int ry] ++ [V.int 0, V.int 0]) none (some 2) = [V.int rx, V.int ry] from rfl]
      refine w_gUnl (SqL.of' (by fail "hf")) rfl ?_
      fail "S"
      refine w_spF0 (w_rTerms fun H3 l S3 ln hl => ?_)
      fail "S"
      refine w_index hl fun j hj => ?_
      fail "S"
      refine w_rLong fun H4 S4 => ?_
      rw [e4]
      fail "S"
      refine w_repL (by fail "hf") (by decide) (by decide) (by rw [sizeLine_eq]; exact Nat.le_of_ble_eq_true rfl) fun p7 hp7 => ?_
      refine w_cnt (by fail "hf") (by fail "hf") (by rw [sizeLine_eq]; exact Nat.le_of_ble_eq_true rfl) fun p8 hp8 => ?_
      refine k _ p8 [100 * (j : Int) + 10 * rx + ry] (by fail "sm") (fresh_same (by fail "sm" : Same H H4) (fresh_new hp8)) (by rw [upd_same]; rfl) (by simp) fun c hc => ?_
      simp only [List.mem_cons, List.not_mem_nil, or_false] at hc
      omega
    · have hv : H q = some (.tup [V.str rw_.str, V.int rx, V.int ry]) := unf [rx, ry] [] (e3 _ _) (by rw [e4]; rfl)
      fail "S"
      refine w_slA (SqT.of' hv) (fun z => Nat.one_ne_zero z.1) fun p1 hp1 => ?_
      have c1 : cutV [V.str rw_.str, V.int rx, V.int ry] (some 1) none = [V.int rx, V.int ry] := rfl
      rw [c1]
      fail "S"
      refine w_cnt (by fail "hf") (by fail "hf") (by rw [sizeLine_eq]; exact Nat.le_of_ble_eq_true rfl) fun p2 hp2 => ?_
      fail "S"
      refine w_rBounds fun H2 p3 S2 hp3 => ?_
      rw [e1, e2] at hp3
      fail "S"
      refine w_int1T ?_
      fail "S"
      refine w_int1T ?_
      fail "S"
      refine w_slL (xs := [V.int rx, V.int ry, V.int 0, V.int 0]) (SqL.of' (by fail "hf")) fun p4 hp4 => ?_
      rw [show cutV [V.int rx, V.int ry, V.int 0, V.int 0] none (some (1 + 1)) = [V.int rx, V.int ry] from rfl]
      fail "S"
      refine w_cnt (by fail "hf") (by fail "hf") (by rw [sizeLine_eq]; exact Nat.le_of_ble_eq_true rfl) fun p5 hp5 => ?_
      fail "S"
      refine w_slL (xs := [V.int rx, V.int ry] ++ [V.int 0, V.int 0]) (SqL.of' (by fail "hf")) fun p6 hp6 => ?_
      rw [show cutV ([V.int rx, V.int ry] ++ [V.int 0, V.int 0]) none (some 2) = [V.int rx, V.int ry] from rfl]
      refine w_gUnl (SqL.of' (by fail "hf")) rfl ?_
      fail "S"
      refine w_spF0 (w_rTerms fun H3 l S3 ln hl => ?_)
      fail "S"
      refine w_index hl fun j hj => ?_
      fail "S"
      refine w_rLong fun H4 S4 => ?_
      rw [e4]
      fail "S"
      refine w_repL (by fail "hf") (by decide) (by decide) (by rw [sizeLine_eq]; exact Nat.le_of_ble_eq_true rfl) fun p7 hp7 => ?_
      refine w_cnt (by fail "hf") (by fail "hf") (by rw [sizeLine_eq]; exact Nat.le_of_ble_eq_true rfl) fun p8 hp8 => ?_
      refine k _ p8 [100 * (j : Int) + 10 * rx + ry] (by fail "sm") (fresh_same (by fail "sm" : Same H H4) (fresh_new hp8)) (by rw [upd_same]; rfl) (by simp) fun c hc => ?_
      simp only [List.mem_cons, List.not_mem_nil, or_false] at hc
      omega
end

/-! part P34law -/
def L32 : List Int := [0, 1, 2, 3, 4, 5, 6, 7, 8, 9, 10, 11, 12, 13, 14, 15, 16, 17, 18, 19, 2, 3, 4, 2, 6, 15, 3, 11, 10, 6, 3, 8]
theorem l32_at {v : Int} (h0 : 0 ≤ v) (h1 : v < 32) : 0 ≤ gi L32 v ∧ gi L32 v < 20 := by
  obtain ⟨n, rfl⟩ : ∃ n : Nat, v = (n : Int) := ⟨v.toNat, by omega⟩
  have h : ∀ n, n < 32 → 0 ≤ L32.getD n 0 ∧ L32.getD n 0 < 20 := by decide
  exact h n (by omega)
theorem l32_v : rgV 0 20 ++ [V.int 2, V.int 3, V.int 4, V.int 2, V.int 6, V.int 15, V.int 3, V.int 11, V.int 10, V.int 6, V.int 3, V.int 8] = L32.map V.int := rfl
theorem w_lstRg1 {σ : St'} {H : Hp} {Q : VK} {n : Int} (h : RgOk 0 n) (q : ∀ q, H q = none → Q (.ref q) (upd H q (.lst (rgV 0 n)))) : tLstRg (tRg1 (tC (.int n))) σ H Q := ⟨n, rfl, h, q⟩
theorem six_at {v : Int} (h0 : 0 ≤ v) (h1 : v < 6) : 0 ≤ gi [0, 1, 9999, 1500, 64, 5000] v ∧ gi [0, 1, 9999, 1500, 64, 5000] v ≤ 9999 := by
  have h := gi_mem (ns := [0, 1, 9999, 1500, 64, 5000]) (i := v) h0 h1
  simp only [List.mem_cons, List.not_mem_nil, or_false] at h
  omega
theorem three_at {a b c v : Int} (h0 : 0 ≤ v) (h1 : v < 3) (ha : 0 ≤ a ∧ a ≤ 9999) (hb : 0 ≤ b ∧ b ≤ 9999) (hc : 0 ≤ c ∧ c ≤ 9999) : 0 ≤ gi [a, b, c] v ∧ gi [a, b, c] v ≤ 9999 := by
  have h := gi_mem (ns := [a, b, c]) (i := v) h0 h1
  simp only [List.mem_cons, List.not_mem_nil, or_false] at h
  omega
section
variable {P : Program} {w : World} {K : PySem.W.Frag} {mg : Str → Option Value} {base : Heap}
theorem ok_l_row (T : Txt w K mg) : GDef P w K mg base "_law_row" 2 [] (sp1 (rRow K)) := by
  obtain ⟨f, fd, F, M⟩ := T.d_l_row
  refine ⟨f, fd, _, _, F.ok sc_l_row (fun vs H Q E h => ?_) (fun cdv A outer s0 H vs Q E hr h => ?_), M, F.kp, F.bindsN fun _ _ _ _ _ _ us hl => match us, hl with | [_], _ => rfl, .nil⟩
  · obtain ⟨_, rfl, _⟩ := h
    rfl
  · obtain ⟨_, rfl, d, sa, ns, rfl, D, k⟩ := h
    refine ⟨_, (pss_cons (ps_set (i := 1) sc_l_row.nd rfl (by first | exact .inl rfl | exact .inr rfl) (pe_lst (pa_cons pe_int (pa_cons pe_int (pa_cons pe_int (pa_cons pe_int (pa_cons pe_int (pa_cons pe_int (pa_cons pe_int (pa_cons pe_int (pa_cons pe_int (pa_cons pe_int (pa_cons pe_int (pa_cons pe_int pa_nil))))))))))))))
 (pss_cons (ps_set (i := 2) sc_l_row.nd rfl (by first | exact .inl rfl | exact .inr rfl) (pe_ix ix_list (e_call0 (ok_l_terms T) hr) (pe_ix ix_list (pe_op op_cat (pe_listRg rfl (by rfl) T.f_list (prg_1 (by rfl) T.f_range pe_int)) (pv 1)) (e_call (ok_l_next T) hr (pa_cons (pv 0) (pa_cons pe_int pa_nil))) (fun _ _ => rfl)) (fun _ _ => rfl)))
 (pss_cons (ps_set (i := 3) sc_l_row.nd rfl (by first | exact .inl rfl | exact .inr rfl) (e_call (ok_l_bounds T) hr (pa_cons (pv 2) pa_nil)))
 (pss_cons (ps_set (i := 4) sc_l_row.nd rfl (by first | exact .inl rfl | exact .inr rfl) (pe_op op_catA (pe_tup (pa_cons (pv 2) pa_nil)) (pe_ifExp (pt_cmpR op_gt (pe_ix ix_tup (pv 3) pe_int (fun _ _ => rfl)) pe_int (nomark _)) (pe_tup (pa_cons (e_call (ok_l_next T) hr (pa_cons (pv 0) (pa_cons (pe_ix ix_tup (pv 3) pe_int (fun _ _ => rfl)) pa_nil))) pa_nil)) (pe_tup pa_nil))))
 (pss_cons (ps_set (i := 4) sc_l_row.nd rfl (by first | exact .inl rfl | exact .inr rfl) (pe_op op_catA (pv 4) (pe_ifExp (pt_cmpR op_gt (pe_ix ix_tup (pv 3) pe_int (fun _ _ => rfl)) pe_int (nomark _)) (pe_tup (pa_cons (e_call (ok_l_next T) hr (pa_cons (pv 0) (pa_cons (pe_ix ix_tup (pv 3) pe_int (fun _ _ => rfl)) pa_nil))) pa_nil)) (pe_tup pa_nil))))
 (pss_cons (ps_if (pt_not (pt_val (e_call (ok_l_is_long T) hr (pa_cons (pv 2) pa_nil))))
 (pss_one (ps_ret (pv 4)))
 pss_nil)
 (pss_cons (ps_set (i := 5) sc_l_row.nd rfl (by first | exact .inl rfl | exact .inr rfl) (pe_ix ix_list (pe_lst (pa_cons (e_call (ok_l_next T) hr (pa_cons (pv 0) (pa_cons pe_int pa_nil))) (pa_cons (e_call (ok_l_next T) hr (pa_cons (pv 0) (pa_cons pe_int pa_nil))) (pa_cons (pe_ix ix_list (pe_lst (pa_cons pe_int (pa_cons pe_int (pa_cons pe_int (pa_cons pe_int (pa_cons pe_int (pa_cons pe_int pa_nil))))))) (e_call (ok_l_next T) hr (pa_cons (pv 0) (pa_cons pe_int pa_nil))) (fun _ _ => rfl)) pa_nil)))) (pe_op op_fdiv (e_call (ok_l_next T) hr (pa_cons (pv 0) (pa_cons pe_int pa_nil))) pe_int) (fun _ _ => rfl)))
 (pss_cons (ps_if (PW.pt (pw_and (pt_cmpR op_eq (pv 2) pe_str (nomark _)) (pw_and1 (pt_cmpR op_eq (e_call (ok_l_next T) hr (pa_cons (pv 0) (pa_cons pe_int pa_nil))) pe_int (nomark _)))))
 (pss_one (ps_set (i := 5) sc_l_row.nd rfl (by first | exact .inl rfl | exact .inr rfl) (pe_op op_add (pe_op op_add (pe_op op_mul pe_int (e_call (ok_l_next T) hr (pa_cons (pv 0) (pa_cons pe_int pa_nil)))) (pe_op op_mul pe_int (e_call (ok_l_next T) hr (pa_cons (pv 0) (pa_cons pe_int pa_nil))))) (e_call (ok_l_next T) hr (pa_cons (pv 0) (pa_cons pe_int pa_nil))))))
 pss_nil)
 (pss_one (ps_ret (pe_op op_catA (pv 4) (pe_tup (pa_cons (pv 5) pa_nil))))))))))))), ?_⟩
    rw [show start N_l_row [V.ref d] = [some (V.ref d), none, none, none, none, none] from rfl]; try simp only [cxK, cxW]
    fail "S"
    refine w_spF0 (w_rTerms fun H1 l S1 ln hl => ?_)
    fail "S"
    refine w_lstRg1 ⟨by decide, by decide⟩ fun p1 hp1 => ?_
    fail "S"
    refine w_cnt (by fail "hf") (by fail "hf") (by rw [sizeLine_eq]; exact Nat.le_of_ble_eq_true rfl) fun p2 hp2 => ?_
    rw [l32_v]
    fail "S"
    refine w_rNext (by fail "di") (by decide) (by decide) fun H2 v D2 K2 v0 v1 => ?_
    have hL := l32_at v0 v1
    refine w_ixLI (ns := L32) (by fail "hf") v0 v1 ?_
    refine w_ixL (SqL.of' (by fail "hf")) (word_at hL.1 hL.2) ?_
    generalize W20.all.getD (gi L32 v).toNat .stop = x
    fail "S"
    refine w_rBounds fun H3 p3 S3 hp3 => ?_
    rcases row_kind x with ⟨e3, e1, e2, e4⟩ | ⟨e3, e1, e2, e4⟩ | ⟨e3, e1, e2, e4⟩ | ⟨e3, e1, e2, e4⟩ | ⟨e3, e1, e2, e4⟩ | ⟨e3, e1, e2, e4⟩ <;> rw [e1, e2] at hp3
    · fail "S"
      refine w_catN (by fail "hf") (by fail "sqt") (by rw [sizeLine_eq]; exact Nat.le_of_ble_eq_true rfl) fun p4 H5 S5 h5 => ?_
      fail "S"
      refine w_catN (by fail "hf") (by fail "sqt") (by rw [sizeLine_eq]; exact Nat.le_of_ble_eq_true rfl) fun p5 H7 S7 h7 => ?_
      fail "S"
      refine w_rLong fun H8 S8 => ?_
      rw [e4]
      fail "S"
      refine k _ _ ⟨x, 0, 0, 0⟩ (by fail "di") (by fail "kp") ?_ ⟨by dsimp only; omega, by dsimp only; rw [e1]; omega, by dsimp only; omega, by dsimp only; rw [e2]; omega, by dsimp only; omega, by dsimp only; omega⟩
      show _ = some (HO.tup (.str x.str :: (x.digits 0 0 ++ (if x.long = true then [0] else [])).map V.int))
      rw [e3, e4]
      fail "hf"
    · fail "S"
      refine w_catN (by fail "hf") (by fail "sqt") (by rw [sizeLine_eq]; exact Nat.le_of_ble_eq_true rfl) fun p4 H5 S5 h5 => ?_
      fail "S"
      refine w_catN (by fail "hf") (by fail "sqt") (by rw [sizeLine_eq]; exact Nat.le_of_ble_eq_true rfl) fun p5 H7 S7 h7 => ?_
      fail "S"
      refine w_rLong fun H8 S8 => ?_
      rw [e4]
      fail "S"
      refine w_rNext (by fail "di") (by decide) (by decide) fun H9 n1 D9 K9 a0 a1 => ?_
      fail "S"
      refine w_rNext (by fail "di") (by decide) (by decide) fun H10 n2 D10 K10 b0 b1 => ?_
      fail "S"
      refine w_rNext (by fail "di") (by decide) (by decide) fun H11 n3 D11 K11 c0 c1 => ?_
      refine w_ixLI (ns := [0, 1, 9999, 1500, 64, 5000]) (by fail "hf") c0 c1 ?_
      have h6 := six_at c0 c1
      fail "S"
      refine w_rNext (by fail "di") (by decide) (by decide) fun H12 u D12 K12 u0 u1 => ?_
      fail "S"
      refine w_ixLI (ns := [n1, n2, gi [0, 1, 9999, 1500, 64, 5000] n3]) (by fail "hf") (by omega) (by show _ < (3 : Int); omega) ?_
      have h3 := three_at (v := u / 2) (by omega) (by omega) (show 0 ≤ n1 ∧ n1 ≤ 9999 by omega) (show 0 ≤ n2 ∧ n2 ≤ 9999 by omega) h6
      generalize gi [n1, n2, gi [0, 1, 9999, 1500, 64, 5000] n3] (u / 2) = nn at h3 ⊢
      fail "S"
      refine kI_d (fun ht => ?_) (fun ht => ?_)
      · fail "S"
        refine w_rNext (by fail "di") (by decide) (by decide) fun H13 z D13 K13 z0 z1 => ?_
        fail "S"
        refine kI_d (fun hz => ?_) (fun hz => ?_)
        · fail "S"
          refine w_rNext (by fail "di") (by decide) (by decide) fun H14 q1 D14 K14 d0 d1 => ?_
          fail "S"
          refine w_rNext (by fail "di") (by decide) (by decide) fun H15 q2 D15 K15 f0 f1 => ?_
          fail "S"
          refine w_rNext (by fail "di") (by decide) (by decide) fun H16 q3 D16 K16 g0 g1 => ?_
          fail "S"
          refine w_catN (by fail "hf") (by fail "sqt") (by rw [sizeLine_eq]; exact Nat.le_of_ble_eq_true rfl) fun p9 H20 S20 h20 => ?_
          refine k _ _ ⟨x, 0, 0, (100 * q1 + 10 * q2 + q3)⟩ (by fail "di") (by fail "kp") ?_ ⟨by dsimp only; omega, by dsimp only; rw [e1]; omega, by dsimp only; omega, by dsimp only; rw [e2]; omega, by dsimp only; omega, by dsimp only; omega⟩
          show _ = some (HO.tup (.str x.str :: (x.digits 0 0 ++ (if x.long = true then [(100 * q1 + 10 * q2 + q3)] else [])).map V.int))
          rw [e3, e4]
          rw [h20]; rfl
        · fail "S"
          refine w_catN (by fail "hf") (by fail "sqt") (by rw [sizeLine_eq]; exact Nat.le_of_ble_eq_true rfl) fun p9 H20 S20 h20 => ?_
          refine k _ _ ⟨x, 0, 0, nn⟩ (by fail "di") (by fail "kp") ?_ ⟨by dsimp only; omega, by dsimp only; rw [e1]; omega, by dsimp only; omega, by dsimp only; rw [e2]; omega, by dsimp only; omega, by dsimp only; omega⟩
          show _ = some (HO.tup (.str x.str :: (x.digits 0 0 ++ (if x.long = true then [nn] else [])).map V.int))
          rw [e3, e4]
          rw [h20]; rfl
      · fail "S"
        refine w_catN (by fail "hf") (by fail "sqt") (by rw [sizeLine_eq]; exact Nat.le_of_ble_eq_true rfl) fun p9 H20 S20 h20 => ?_
        refine k _ _ ⟨x, 0, 0, nn⟩ (by fail "di") (by fail "kp") ?_ ⟨by dsimp only; omega, by dsimp only; rw [e1]; omega, by dsimp only; omega, by dsimp only; rw [e2]; omega, by dsimp only; omega, by dsimp only; omega⟩
        show _ = some (HO.tup (.str x.str :: (x.digits 0 0 ++ (if x.long = true then [nn] else [])).map V.int))
        rw [e3, e4]
        rw [h20]; rfl
    · fail "S"
      refine w_rNext (by fail "di") (by decide) (by decide) fun H4 vx D4 K4 x0 x1 => ?_
      fail "S"
      refine w_catN (by fail "hf") (by fail "sqt") (by rw [sizeLine_eq]; exact Nat.le_of_ble_eq_true rfl) fun p4 H5 S5 h5 => ?_
      fail "S"
      refine w_catN (by fail "hf") (by fail "sqt") (by rw [sizeLine_eq]; exact Nat.le_of_ble_eq_true rfl) fun p5 H7 S7 h7 => ?_
      fail "S"
      refine w_rLong fun H8 S8 => ?_
      rw [e4]
      fail "S"
      refine k _ _ ⟨x, vx, 0, 0⟩ (by fail "di") (by fail "kp") ?_ ⟨by dsimp only; omega, by dsimp only; rw [e1]; omega, by dsimp only; omega, by dsimp only; rw [e2]; omega, by dsimp only; omega, by dsimp only; omega⟩
      show _ = some (HO.tup (.str x.str :: (x.digits vx 0 ++ (if x.long = true then [0] else [])).map V.int))
      rw [e3, e4]
      fail "hf"
    · fail "S"
      refine w_rNext (by fail "di") (by decide) (by decide) fun H4 vx D4 K4 x0 x1 => ?_
      fail "S"
      refine w_catN (by fail "hf") (by fail "sqt") (by rw [sizeLine_eq]; exact Nat.le_of_ble_eq_true rfl) fun p4 H5 S5 h5 => ?_
      fail "S"
      refine w_catN (by fail "hf") (by fail "sqt") (by rw [sizeLine_eq]; exact Nat.le_of_ble_eq_true rfl) fun p5 H7 S7 h7 => ?_
      fail "S"
      refine w_rLong fun H8 S8 => ?_
      rw [e4]
      fail "S"
      refine w_rNext (by fail "di") (by decide) (by decide) fun H9 n1 D9 K9 a0 a1 => ?_
      fail "S"
      refine w_rNext (by fail "di") (by decide) (by decide) fun H10 n2 D10 K10 b0 b1 => ?_
      fail "S"
      refine w_rNext (by fail "di") (by decide) (by decide) fun H11 n3 D11 K11 c0 c1 => ?_
      refine w_ixLI (ns := [0, 1, 9999, 1500, 64, 5000]) (by fail "hf") c0 c1 ?_
      have h6 := six_at c0 c1
      fail "S"
      refine w_rNext (by fail "di") (by decide) (by decide) fun H12 u D12 K12 u0 u1 => ?_
      fail "S"
      refine w_ixLI (ns := [n1, n2, gi [0, 1, 9999, 1500, 64, 5000] n3]) (by fail "hf") (by omega) (by show _ < (3 : Int); omega) ?_
      have h3 := three_at (v := u / 2) (by omega) (by omega) (show 0 ≤ n1 ∧ n1 ≤ 9999 by omega) (show 0 ≤ n2 ∧ n2 ≤ 9999 by omega) h6
      generalize gi [n1, n2, gi [0, 1, 9999, 1500, 64, 5000] n3] (u / 2) = nn at h3 ⊢
      fail "S"
      refine kI_d (fun ht => ?_) (fun ht => ?_)
      · fail "S"
        refine w_rNext (by fail "di") (by decide) (by decide) fun H13 z D13 K13 z0 z1 => ?_
        fail "S"
        refine kI_d (fun hz => ?_) (fun hz => ?_)
        · fail "S"
          refine w_rNext (by fail "di") (by decide) (by decide) fun H14 q1 D14 K14 d0 d1 => ?_
          fail "S"
          refine w_rNext (by fail "di") (by decide) (by decide) fun H15 q2 D15 K15 f0 f1 => ?_
          fail "S"
          refine w_rNext (by fail "di") (by decide) (by decide) fun H16 q3 D16 K16 g0 g1 => ?_
          fail "S"
          refine w_catN (by fail "hf") (by fail "sqt") (by rw [sizeLine_eq]; exact Nat.le_of_ble_eq_true rfl) fun p9 H20 S20 h20 => ?_
          refine k _ _ ⟨x, vx, 0, (100 * q1 + 10 * q2 + q3)⟩ (by fail "di") (by fail "kp") ?_ ⟨by dsimp only; omega, by dsimp only; rw [e1]; omega, by dsimp only; omega, by dsimp only; rw [e2]; omega, by dsimp only; omega, by dsimp only; omega⟩
          show _ = some (HO.tup (.str x.str :: (x.digits vx 0 ++ (if x.long = true then [(100 * q1 + 10 * q2 + q3)] else [])).map V.int))
          rw [e3, e4]
          rw [h20]; rfl
        · fail "S"
          refine w_catN (by fail "hf") (by fail "sqt") (by rw [sizeLine_eq]; exact Nat.le_of_ble_eq_true rfl) fun p9 H20 S20 h20 => ?_
          refine k _ _ ⟨x, vx, 0, nn⟩ (by fail "di") (by fail "kp") ?_ ⟨by dsimp only; omega, by dsimp only; rw [e1]; omega, by dsimp only; omega, by dsimp only; rw [e2]; omega, by dsimp only; omega, by dsimp only; omega⟩
          show _ = some (HO.tup (.str x.str :: (x.digits vx 0 ++ (if x.long = true then [nn] else [])).map V.int))
          rw [e3, e4]
          rw [h20]; rfl
      · fail "S"
        refine w_catN (by fail "hf") (by fail "sqt") (by rw [sizeLine_eq]; exact Nat.le_of_ble_eq_true rfl) fun p9 H20 S20 h20 => ?_
        refine k _ _ ⟨x, vx, 0, nn⟩ (by fail "di") (by fail "kp") ?_ ⟨by dsimp only; omega, by dsimp only; rw [e1]; omega, by dsimp only; omega, by dsimp only; rw [e2]; omega, by dsimp only; omega, by dsimp only; omega⟩
        show _ = some (HO.tup (.str x.str :: (x.digits vx 0 ++ (if x.long = true then [nn] else [])).map V.int))
        rw [e3, e4]
        rw [h20]; rfl
    · fail "S"
      refine w_rNext (by fail "di") (by decide) (by decide) fun H4 vx D4 K4 x0 x1 => ?_
      fail "S"
      refine w_catN (by fail "hf") (by fail "sqt") (by rw [sizeLine_eq]; exact Nat.le_of_ble_eq_true rfl) fun p4 H5 S5 h5 => ?_
      fail "S"
      refine w_rNext (by fail "di") (by decide) (by decide) fun H6 vy D6 K6 y0 y1 => ?_
      fail "S"
      refine w_catN (by fail "hf") (by fail "sqt") (by rw [sizeLine_eq]; exact Nat.le_of_ble_eq_true rfl) fun p5 H7 S7 h7 => ?_
      fail "S"
      refine w_rLong fun H8 S8 => ?_
      rw [e4]
      fail "S"
      refine k _ _ ⟨x, vx, vy, 0⟩ (by fail "di") (by fail "kp") ?_ ⟨by dsimp only; omega, by dsimp only; rw [e1]; omega, by dsimp only; omega, by dsimp only; rw [e2]; omega, by dsimp only; omega, by dsimp only; omega⟩
      show _ = some (HO.tup (.str x.str :: (x.digits vx vy ++ (if x.long = true then [0] else [])).map V.int))
      rw [e3, e4]
      fail "hf"
    · fail "S"
      refine w_rNext (by fail "di") (by decide) (by decide) fun H4 vx D4 K4 x0 x1 => ?_
      fail "S"
      refine w_catN (by fail "hf") (by fail "sqt") (by rw [sizeLine_eq]; exact Nat.le_of_ble_eq_true rfl) fun p4 H5 S5 h5 => ?_
      fail "S"
      refine w_rNext (by fail "di") (by decide) (by decide) fun H6 vy D6 K6 y0 y1 => ?_
      fail "S"
      refine w_catN (by fail "hf") (by fail "sqt") (by rw [sizeLine_eq]; exact Nat.le_of_ble_eq_true rfl) fun p5 H7 S7 h7 => ?_
      fail "S"
      refine w_rLong fun H8 S8 => ?_
      rw [e4]
      fail "S"
      refine k _ _ ⟨x, vx, vy, 0⟩ (by fail "di") (by fail "kp") ?_ ⟨by dsimp only; omega, by dsimp only; rw [e1]; omega, by dsimp only; omega, by dsimp only; rw [e2]; omega, by dsimp only; omega, by dsimp only; omega⟩
      show _ = some (HO.tup (.str x.str :: (x.digits vx vy ++ (if x.long = true then [0] else [])).map V.int))
      rw [e3, e4]
      fail "hf"
end

/-! part P35law -/
theorem cut128 (xs : List Int) : cutV (xs.map V.int) none (some 128) = (xs.take 128).map V.int := by
  unfold cutV
  have e : HT.sIx (xs.map V.int).length (xs.map V.int).length (some 128) = min 128 xs.length := by
    rw [List.length_map]
    exact HT.sIx_nat _ _ 128
  have e0 : HT.sIx (xs.map V.int).length 0 none = 0 := rfl
  rw [e, e0, List.drop_zero, Nat.sub_zero, ← List.map_take]
  congr 1
  rcases Nat.le_total 128 xs.length with h | h
  · rw [Nat.min_eq_left h]
  · rw [Nat.min_eq_right h, List.take_of_length_le (Nat.le_refl _), List.take_of_length_le h]
theorem w_rRow {K : PySem.W.Frag} {H : Hp} {Q : VK} {d sa : Addr} {ns : List Int} (D : DiceAt K H d sa ns) (q : ∀ H' q r, DiceAt K H' d sa ns → KeepP d H H' → H' q = some (.tup (Row.vs r)) → r.Ok → Q (.ref q) H') : rRow K (.ref d) H Q := ⟨d, sa, ns, rfl, D, q⟩
theorem w_rCodeOf {H : Hp} {Q : VK} {q : Addr} {r : Row} (h : H q = some (.tup r.vs)) (ro : r.Ok) (k : ∀ H' p cs, Same H H' → H p = none → H' p = some (.lst (List.map V.int cs)) → cs.length ≤ 2 → (∀ c ∈ cs, 0 ≤ c ∧ c ≤ 9999) → Q (.ref p) H') : rCodeOf (.ref q) H Q := ⟨q, r, rfl, h, ro, k⟩
def CellsIn (cs : List Int) : Prop := ∀ c ∈ cs, 0 ≤ c ∧ c ≤ 9999
theorem cells_app {a b : List Int} (h : CellsIn a) (g : CellsIn b) : CellsIn (a ++ b) := fun c hc => by
  rcases List.mem_append.mp hc with z | z
  · exact h c z
  · exact g c z
theorem cells_nil : CellsIn [] := fun c h => by cases h
theorem cells_two {a b : Int} (h : 0 ≤ a ∧ a ≤ 9999) (g : 0 ≤ b ∧ b ≤ 9999) : CellsIn [a, b] := fun c hc => by
  rcases List.mem_cons.mp hc with z | z
  · rw [z]; exact h
  · rw [List.mem_singleton.mp z]; exact g
theorem cells_one {a : Int} (h : 0 ≤ a ∧ a ≤ 9999) : CellsIn [a] := fun c hc => by
  rw [List.mem_singleton.mp hc]; exact h
theorem rep_list {xs : List Int} : (List.replicate (Int.toNat 1) (xs.map V.int)).flatten = xs.map V.int ∧ (List.replicate (Int.toNat 0) (xs.map V.int)).flatten = ([] : List Int).map V.int := by
  constructor
  · show (xs.map V.int) ++ [] = _
    rw [List.append_nil]
  · rfl
theorem w_rep01 {H : Hp} {Q : VK} {l : Addr} {xs : List Int} {k : Prop} [Decidable k] (h : H l = some (.lst (xs.map V.int))) (hl : xs.length ≤ 2) (q : ∀ p, H p = none → Q (.ref p) (upd H p (.lst ((if k then xs else []).map V.int)))) : rInt1 [.bl (decide k)] H fun y H2 => rRep (.ref l) y H2 Q := by
  by_cases hk : k
  · rw [decide_eq_true hk]
    rw [if_pos hk] at q
    refine w_int1T (w_repL h (by decide) (by decide) (by rw [sizeLine_eq, List.length_map]; show xs.length * 1 ≤ _; omega) ?_)
    rw [rep_list.1]
    exact q
  · rw [decide_eq_false hk]
    rw [if_neg hk] at q
    refine w_int1F (w_repL h (by decide) (by decide) (by rw [sizeLine_eq]; show _ * 0 ≤ _; omega) ?_)
    rw [rep_list.2]
    exact q
theorem pick_cells {k : Prop} [Decidable k] {a b : Int} (h : 0 ≤ a ∧ a ≤ 9999) (g : 0 ≤ b ∧ b ≤ 9999) : CellsIn (if k then [a, b] else []) ∧ (if k then [a, b] else []).length ≤ 2 := by
  split
  · exact ⟨cells_two h g, Nat.le_refl _⟩
  · exact ⟨cells_nil, Nat.zero_le _⟩
theorem KeepP.snoc' {p : Addr} {H H1 H2 : Hp} (a : KeepP p H H1) (F : KeepP p H1 H2) : KeepP p H H2 := KeepP.snoc F a
theorem DiceAt.fr {K : PySem.W.Frag} {H H1 : Hp} {d sa a : Addr} {ns : List Int} (D : DiceAt K H1 d sa ns) (k : KeepP d H H1) (h : H1 a = none) : H a = none := let ⟨_, _, _, hd, _⟩ := D.ex; fresh_kp k hd h
theorem t_add {K : PySem.W.Frag} {H : Hp} {d sa fl q : Addr} {ns cs : List Int} {r : Row} {o2 : Option V} {n b dd : St' → Hp → Prop} {rt : VK} (D : DiceAt K H d sa ns) (hf : H fl = some (.lst (cs.map V.int))) (hq : H q = some (.tup r.vs)) (ro : r.Ok) (hl : cs.length ≤ 300)
    (k : ∀ H' p cs', DiceAt K H' d sa ns → KeepP d H H' → H p = none → H' p = some (.lst ((cs ++ cs').map V.int)) → cs'.length ≤ 2 → CellsIn cs' → n [some (.ref d), some (.ref p), o2, some (.ref q)] H') :
    tAsg (tOp rCat (tVar 1) (tIf (tTest (tOp (rI0 fun i j => V.bl (decide (j < i))) (tCall (sp2 (rNext K)) [] E0 (tCons (tVar 0) (tCons (tC (V.int 25)) tNil))) (tC (V.int 0)))) (tCall (sp1 rCodeOf) [] E0 (tCons (tVar 3) tNil)) (tLst (tCons (tCall (sp2 (rNext K)) [] E0 (tCons (tVar 0) (tCons (tC (V.int 10000)) tNil))) tNil)))) (gName 1) ⟨n, rt, b, dd⟩ [some (.ref d), some (.ref fl), o2, some (.ref q)] H := by
  fail "S"
  refine w_rNext D (by decide) (by decide) fun H1 v D1 K1 v0 v1 => ?_
  fail "S"
  refine kI_d (fun hv => ?_) (fun hv => ?_)
  · fail "S"
    refine w_rCodeOf (by fail "hf") ro fun H2 p cs' S2 hp hcs hl2 hc2 => ?_
    refine w_cnt (by fail "hf") (by fail "hf") (by rw [sizeLine_eq, List.length_map, List.length_map]; omega) fun p2 hp2 => ?_
    refine w_gName rfl (k _ _ cs' (by fail "di") (by fail "kp") (D1.fr K1 (fresh_same S2 hp2)) (by rw [upd_same, List.map_append]) hl2 hc2)
  · fail "S"
    refine w_rNext D1 (by decide) (by decide) fun H2 u D2 K2 u0 u1 => ?_
    fail "S"
    refine w_cnt (by fail "hf") (by fail "hf") (by rw [sizeLine_eq, List.length_map]; show _ + 1 ≤ _; omega) fun p2 hp2 => ?_
    refine w_gName rfl (k _ _ [u] (by fail "di") (by fail "kp") (D2.fr (by fail "kp") (fresh_new hp2)) (by rw [upd_same, List.map_append]; rfl) (by show 1 ≤ 2; decide) (cells_one ⟨by omega, by omega⟩))
section
variable {P : Program} {w : World} {K : PySem.W.Frag} {mg : Str → Option Value} {base : Heap}
theorem ok_l_code (T : Txt w K mg) : GDef P w K mg base "_law_code" 3 [] (sp1 (rCode K)) := by
  obtain ⟨f, fd, F, M⟩ := T.d_l_code
  refine ⟨f, fd, _, _, F.ok sc_l_code (fun vs H Q E h => ?_) (fun cdv A outer s0 H vs Q E hr h => ?_), M, F.kp, F.bindsN fun _ _ _ _ _ _ us hl => match us, hl with | [_], _ => rfl, .nil⟩
  · obtain ⟨_, rfl, _⟩ := h
    rfl
  · obtain ⟨_, rfl, d, sa, ns, rfl, D, k⟩ := h
    refine ⟨_, (pss_cons (ps_set (i := 1) sc_l_code.nd rfl (by first | exact .inl rfl | exact .inr rfl) (pe_op op_rep (pe_lst (pa_cons pe_int (pa_cons pe_int pa_nil))) (pe_callTy int1 (by rfl) T.f_int (by decide +kernel) (pa_cons (pe_cmpR op_gt (e_call (ok_l_next T) hr (pa_cons (pv 0) (pa_cons pe_int pa_nil))) pe_int (nomark _)) pa_nil))))
 (pss_cons (ps_for (passes_of rfl) rfl (pi_range1 (by rfl) T.f_range (pa_cons (e_call (ok_l_next T) hr (pa_cons (pv 0) (pa_cons (pe_ix ix_list (pe_lst (pa_cons pe_int (pa_cons pe_int (pa_cons pe_int pa_nil)))) (e_call (ok_l_next T) hr (pa_cons (pv 0) (pa_cons pe_int pa_nil))) (fun _ _ => rfl)) pa_nil))) pa_nil)) (pg_name (i := 2) sc_l_code.nd rfl (by first | exact .inl rfl | exact .inr rfl))
 (pss_cons (ps_set (i := 3) sc_l_code.nd rfl (by first | exact .inl rfl | exact .inr rfl) (e_call (ok_l_row T) hr (pa_cons (pv 0) pa_nil)))
 (pss_cons (ps_if (PW.pt (pw_and (pt_cmpR op_eq (pe_ix ix_tup (pv 3) pe_int (fun _ _ => rfl)) pe_str (nomark _)) (pw_and1 (pt_cmpR op_gt (e_call (ok_l_next T) hr (pa_cons (pv 0) (pa_cons pe_int pa_nil))) pe_int (nomark _)))))
 (pss_one (ps_set (i := 3) sc_l_code.nd rfl (by first | exact .inl rfl | exact .inr rfl) (pe_tup (pa_cons pe_str (pa_cons (e_call (ok_l_next T) hr (pa_cons (pv 0) (pa_cons pe_int pa_nil))) pa_nil)))))
 pss_nil)
 (pss_one (ps_set (i := 1) sc_l_code.nd rfl (by first | exact .inl rfl | exact .inr rfl) (pe_op op_cat (pv 1) (pe_ifExp (pt_cmpR op_gt (e_call (ok_l_next T) hr (pa_cons (pv 0) (pa_cons pe_int pa_nil))) pe_int (nomark _)) (e_call (ok_l_code_of T) hr (pa_cons (pv 3) pa_nil)) (pe_lst (pa_cons (e_call (ok_l_next T) hr (pa_cons (pv 0) (pa_cons pe_int pa_nil))) pa_nil)))))))))
 (pss_one (ps_ret (pe_slice sl_list (pe_op op_cat (pv 1) (pe_op op_rep (pe_lst (pa_cons pe_int (pa_cons pe_int pa_nil))) (pe_callTy int1 (by rfl) T.f_int (by decide +kernel) (pa_cons (pe_cmpR op_eq (e_call (ok_l_next T) hr (pa_cons (pv 0) (pa_cons pe_int pa_nil))) pe_int (nomark _)) pa_nil)))) po_none (po_some pe_int)))))), ?_⟩
    rw [show start N_l_code [V.ref d] = [some (V.ref d), none, none, none] from rfl]; try simp only [cxK, cxW]
    fail "S"
    refine w_rNext (by fail "di") (by decide) (by decide) fun H1 v D1 K1 v0 v1 => ?_
    fail "S"
    refine w_rep01 (xs := [1900, 0]) (by fail "hf") (by decide) fun fl hfl => ?_
    obtain ⟨ci, cl⟩ := pick_cells (k := 0 < v) (a := 1900) (b := 0) (by decide) (by decide)
    generalize (if 0 < v then [(1900 : Int), 0] else []) = cs0 at ci cl ⊢
    fail "S"
    refine w_rNext (by fail "di") (by decide) (by decide) fun H2 u D2 K2 u0 u1 => ?_
    have hu := gi_mem (ns := [8, 30, 70]) (i := u) u0 u1
    simp only [List.mem_cons, List.not_mem_nil, or_false] at hu
    refine w_ixLI (ns := [8, 30, 70]) (by fail "hf") u0 u1 ?_
    fail "S"
    refine w_rNext (by fail "di") (by omega) (by omega) fun H3 n D3 K3 n0 n1 => ?_
    fail "S"
    have hf3 : H3 fl = some (.lst (cs0.map V.int)) := by fail "hf"
    have hfn : H fl = none := D1.fr (by fail "kp") hfl
    have KK : KeepP d H H3 := by fail "kp"
    refine w_forJ walk_range (fun i σ H' => (∃ fl cs o2 o3, σ = [some (.ref d), some (.ref fl), o2, o3] ∧ H' fl = some (.lst (List.map V.int cs)) ∧ H fl = none ∧ cs.length ≤ 2 + 2 * i ∧ CellsIn cs) ∧ DiceAt K H' d sa ns ∧ KeepP d H H') ⟨⟨fl, cs0, _, _, rfl, hf3, hfn, cl, ci⟩, D3, KK⟩ (fun _ _ _ _ _ => True.intro) ?_ ?_
    · rintro i x σ H4 H' hi ⟨⟨fl, cs, o2, o3, rfl, hf4, hfn4, cl4, ci4⟩, D4, K4⟩ ⟨rfl, rfl⟩
      fail "S"
      refine w_rRow D4 fun H5 q r D5 K5 hq ro => ?_
      fail "S"
      refine w_ixT (SqT.of' hq) (row0 r) ?_
      fail "S"
      have post : ∀ (H6 : Hp) (q6 : Addr) (o : Option V), DiceAt K H6 d sa ns → KeepP d H' H6 → ∀ H7 p7 cs7, DiceAt K H7 d sa ns → KeepP d H6 H7 → H6 p7 = none → H7 p7 = some (.lst ((cs ++ cs7).map V.int)) → cs7.length ≤ 2 → CellsIn cs7 →
          (∃ fl cs o2 o3, [some (V.ref d), some (V.ref p7), o, some (V.ref q6)] = [some (.ref d), some (.ref fl), o2, o3] ∧ H7 fl = some (.lst (List.map V.int cs)) ∧ H fl = none ∧ cs.length ≤ 2 + 2 * (i + 1) ∧ CellsIn cs) ∧ DiceAt K H7 d sa ns ∧ KeepP d H H7 := fun H6 q6 o D6 K6 H7 p7 cs7 D7 K7 hp7 hcs7 hl7 hc7 =>
        ⟨⟨p7, _, _, _, rfl, hcs7, D6.fr (K4.snoc' K6) hp7, by rw [List.length_append]; omega, cells_app ci4 hc7⟩, D7, (K4.snoc' K6).snoc' K7⟩
      have hf5 : H5 fl = some (.lst (cs.map V.int)) := by fail "hf"
      refine kI_d (fun hs => ?_) (fun hs => ?_)
      · fail "S"
        refine w_rNext D5 (by decide) (by decide) fun H6 u D6 K6 u0 u1 => ?_
        fail "S"
        refine kI_d (fun hz => ?_) (fun hz => ?_)
        · fail "S"
          refine w_rNext D6 (by decide) (by decide) fun H7 z D7 K7 z0 z1 => ?_
          fail "s"
          fail "s"
          fail "s"
          rename_i t ht
          exact t_add (r := ⟨.say, z, 0, 0⟩) (D7.new ht) (by fail "hf") upd_same ⟨z0, z1, Int.le_refl 0, Int.zero_lt_one, Int.le_refl 0, by show (0 : Int) ≤ 9999; decide⟩ (by omega) (post _ t _ (D7.new ht) (by fail "kp"))
        · refine w_next ?_
          exact t_add D6 (by fail "hf") (by fail "hf") ro (by omega) (post _ q _ D6 (by fail "kp"))
      · refine kI_F (w_next ?_)
        exact t_add D5 hf5 hq ro (by omega) (post _ q _ D5 K5)
    · rintro σ H4 ⟨⟨fl, cs, o2, o3, rfl, hf4, hfn4, cl4, ci4⟩, D4, K4⟩
      fail "S"
      refine w_rNext (by fail "di") (by decide) (by decide) fun H5 z D5 K5 z0 z1 => ?_
      fail "S"
      have hf5 : H5 fl = some (.lst (cs.map V.int)) := by fail "hf"
      refine w_rep01 (xs := [900, 2]) (by fail "hf") (by decide) fun p1 hp1 => ?_
      obtain ⟨cj, cjl⟩ := pick_cells (k := z = 0) (a := 900) (b := 2) (by decide) (by decide)
      generalize (if z = 0 then [(900 : Int), 2] else []) = cs1 at cj cjl ⊢
      refine w_cnt (by fail "hf") (by fail "hf") (by rw [sizeLine_eq, List.length_map, List.length_map]; omega) fun p2 hp2 => ?_
      rw [← List.map_append]
      fail "S"
      refine w_slL (SqL.of' upd_same) fun p3 hp3 => ?_
      rw [cut128]
      refine k _ p3 _ (by fail "di") (by fail "kp") (D5.fr (by fail "kp") (fresh_new (fresh_new hp3))) upd_same (by rw [List.length_take]; omega) fun c hc => cells_app ci4 cj c (List.mem_of_mem_take hc)
end

/-! part P36law -/
/-! ### the law's own machine -/
structure GL where
  cl : Addr
  pg : Addr
  hd : Addr
  sd : Addr
def gFs (G : GL) (s : S) : List (Key × V) := [(.inr "cells", .ref G.cl), (.inr "pages", .ref G.pg), (.inr "held", .ref G.hd), (.inr "zero", .bl (zeroOf s.sum)), (.inr "carry", .bl (carryOf s.sum)), (.inr "place", .int s.place), (.inr "post", optV s.post), (.inr "said", .ref G.sd), (.inr "why", .str s.why), (.inr "many", .int s.many)]
structure GAt (H : Hp) (g : Addr) (G : GL) (s : S) : Prop where
  ob : H g = some (.dK (gFs G s))
  cl : H G.cl = some (.lst (s.cells.map V.int))
  pg : ∃ mv, H G.pg = some (.lst mv) ∧ Paired (PgV H) s.pages mv
  hd : H G.hd = some (.lst (s.held.map V.int))
  sd : H G.sd = some (.lst (s.said.map V.int))
  n1 : G.cl ≠ G.pg
  n2 : G.cl ≠ G.hd
  n3 : G.cl ≠ G.sd
  n4 : G.pg ≠ G.hd
  n5 : G.pg ≠ G.sd
  n6 : G.hd ≠ G.sd
  lc : s.cells.length = 128
  lp : s.pages.length = 4
  lh : s.held.length = 4
def GIn (G : GL) (g b : Addr) : Prop := b = g ∨ b = G.cl ∨ b = G.pg ∨ b = G.hd ∨ b = G.sd
def FrG (G : GL) (g : Addr) (H H' : Hp) : Prop := ∀ b o, H b = some o → ¬ GIn G g b → H' b = some o
section
variable {H H' H1 H2 : Hp} {g a x : Addr} {G : GL} {s s' : S} {o : HO}
theorem FrG.refl : FrG G g H H := fun _ _ h _ => h
theorem FrG.snoc (b : FrG G g H1 H2) (a : FrG G g H H1) : FrG G g H H2 := fun x o h n => b x o (a x o h n) n
theorem FrG.snocS (b : Same H1 H2) (a : FrG G g H H1) : FrG G g H H2 := fun x o h n => b x o (a x o h n)
theorem FrG.snocN (hx : H1 x = none) (a : FrG G g H H1) : FrG G g H (upd H1 x o) := FrG.snocS (Ext.new hx) a
theorem FrG.put (i : GIn G g x) : FrG G g H (upd H x o) := fun b u h n => by
  rw [upd_ne (fun q => n (by rw [q]; exact i))]; exact h
theorem GAt.inS (R : GAt H g G s) (h : GIn G g x) : ∃ o, H x = some o ∧ ∀ xs, o ≠ .tup xs := by
  obtain ⟨mv, h4, h5⟩ := R.pg
  rcases h with e | e | e | e | e <;> subst e
  · exact ⟨_, R.ob, fun _ z => by cases z⟩
  · exact ⟨_, R.cl, fun _ z => by cases z⟩
  · exact ⟨_, h4, fun _ z => by cases z⟩
  · exact ⟨_, R.hd, fun _ z => by cases z⟩
  · exact ⟨_, R.sd, fun _ z => by cases z⟩
theorem GAt.nNew (R : GAt H g G s) (h : H x = none) : ¬ GIn G g x := fun z => by obtain ⟨o, e, _⟩ := R.inS z; rw [h] at e; cases e
theorem GAt.nTup (R : GAt H g G s) {xs : List V} (h : H x = some (.tup xs)) : ¬ GIn G g x := fun z => by obtain ⟨o, e, q⟩ := R.inS z; rw [h] at e; injection e with e; exact q xs e.symm
theorem GAt.ne (R : GAt H g G s) : g ≠ G.cl ∧ g ≠ G.pg ∧ g ≠ G.hd ∧ g ≠ G.sd := by
  obtain ⟨mv, h4, h5⟩ := R.pg
  exact ⟨ne_of R.ob R.cl (by intro z; cases z), ne_of R.ob h4 (by intro z; cases z), ne_of R.ob R.hd (by intro z; cases z), ne_of R.ob R.sd (by intro z; cases z)⟩
theorem GAt.keepIn (k : ∀ b o, H b = some o → GIn G g b → H' b = some o) (tk : TupKeep H H') (R : GAt H g G s) : GAt H' g G s := by
  obtain ⟨h1, h2, ⟨mv, h3, h4⟩, h5, h6, n1, n2, n3, n4, n5, n6, l1, l2, l3⟩ := R
  exact ⟨k _ _ h1 (.inl rfl), k _ _ h2 (.inr (.inl rfl)), ⟨mv, k _ _ h3 (.inr (.inr (.inl rfl))), Paired.mono h4 fun _ _ q => q.keep tk⟩, k _ _ h5 (.inr (.inr (.inr (.inl rfl)))), k _ _ h6 (.inr (.inr (.inr (.inr rfl)))), n1, n2, n3, n4, n5, n6, l1, l2, l3⟩
theorem GAt.same (e : Same H H') (R : GAt H g G s) : GAt H' g G s := R.keepIn (fun b o h _ => e b o h) fun b xs h => e b _ h
theorem GAt.new (hx : H x = none) (R : GAt H g G s) : GAt (upd H x o) g G s := R.same (Ext.new hx)
theorem look_fg (F : FrG G g H H') (n : ¬ GIn G g a) (h : H a = some o) : H' a = some o := F _ _ h n
theorem GAt.setOb (R : GAt H g G s) (e1 : s'.cells = s.cells) (e2 : s'.pages = s.pages) (e3 : s'.held = s.held) (e4 : s'.said = s.said) : GAt (upd H g (.dK (gFs G s'))) g G s' := by
  have ne := R.ne
  obtain ⟨h1, h2, ⟨mv, h3, h4⟩, h5, h6, n1, n2, n3, n4, n5, n6, l1, l2, l3⟩ := R
  have tk : TupKeep H (upd H g (.dK (gFs G s'))) := tup_upd h1 (by intro xs z; cases z)
  exact ⟨upd_same, by rw [upd_ne ne.1.symm, e1]; exact h2, ⟨mv, by rw [upd_ne ne.2.1.symm]; exact h3, by rw [e2]; exact Paired.mono h4 fun _ _ q => q.keep tk⟩, by rw [upd_ne ne.2.2.1.symm, e3]; exact h5, by rw [upd_ne ne.2.2.2.symm, e4]; exact h6, n1, n2, n3, n4, n5, n6, by rw [e1]; exact l1, by rw [e2]; exact l2, by rw [e3]; exact l3⟩
theorem GAt.setCl (R : GAt H g G s) (cs : List Int) (hcs : cs.length = 128) : GAt (upd H G.cl (.lst (cs.map V.int))) g G { s with cells := cs } := by
  have ne := R.ne
  obtain ⟨h1, h2, ⟨mv, h3, h4⟩, h5, h6, n1, n2, n3, n4, n5, n6, l1, l2, l3⟩ := R
  have tk : TupKeep H (upd H G.cl (.lst (cs.map V.int))) := tup_upd h2 (by intro xs z; cases z)
  exact ⟨by rw [upd_ne ne.1]; exact h1, upd_same, ⟨mv, by rw [upd_ne n1.symm]; exact h3, Paired.mono h4 fun _ _ q => q.keep tk⟩, by rw [upd_ne n2.symm]; exact h5, by rw [upd_ne n3.symm]; exact h6, n1, n2, n3, n4, n5, n6, hcs, l2, l3⟩
theorem GAt.setHd (R : GAt H g G s) (cs : List Int) (hcs : cs.length = 4) : GAt (upd H G.hd (.lst (cs.map V.int))) g G { s with held := cs } := by
  have ne := R.ne
  obtain ⟨h1, h2, ⟨mv, h3, h4⟩, h5, h6, n1, n2, n3, n4, n5, n6, l1, l2, l3⟩ := R
  have tk : TupKeep H (upd H G.hd (.lst (cs.map V.int))) := tup_upd h5 (by intro xs z; cases z)
  exact ⟨by rw [upd_ne ne.2.2.1]; exact h1, by rw [upd_ne n2]; exact h2, ⟨mv, by rw [upd_ne n4]; exact h3, Paired.mono h4 fun _ _ q => q.keep tk⟩, upd_same, by rw [upd_ne n6.symm]; exact h6, n1, n2, n3, n4, n5, n6, l1, l2, hcs⟩
theorem GAt.setSd (R : GAt H g G s) (cs : List Int) : GAt (upd H G.sd (.lst (cs.map V.int))) g G { s with said := cs } := by
  have ne := R.ne
  obtain ⟨h1, h2, ⟨mv, h3, h4⟩, h5, h6, n1, n2, n3, n4, n5, n6, l1, l2, l3⟩ := R
  have tk : TupKeep H (upd H G.sd (.lst (cs.map V.int))) := tup_upd h6 (by intro xs z; cases z)
  exact ⟨by rw [upd_ne ne.2.2.2]; exact h1, by rw [upd_ne n3]; exact h2, ⟨mv, by rw [upd_ne n5]; exact h3, Paired.mono h4 fun _ _ q => q.keep tk⟩, by rw [upd_ne n6]; exact h5, upd_same, n1, n2, n3, n4, n5, n6, l1, l2, l3⟩
theorem GAt.setPg {mv : List V} {v : V} {o : Option (Int × Bool)} (R : GAt H g G s) (h3 : H G.pg = some (.lst mv)) (h4 : Paired (PgV H) s.pages mv) (i : Nat) (hv : PgV H o v) : GAt (upd H G.pg (.lst (mv.set i v))) g G { s with pages := s.pages.set i o } := by
  have ne := R.ne
  obtain ⟨h1, h2, _, h5, h6, n1, n2, n3, n4, n5, n6, l1, l2, l3⟩ := R
  have tk : TupKeep H (upd H G.pg (.lst (mv.set i v))) := tup_upd h3 (by intro xs z; cases z)
  exact ⟨by rw [upd_ne ne.2.1]; exact h1, by rw [upd_ne n1]; exact h2, ⟨_, upd_same, Paired.mono (Paired.set hv i h4) fun _ _ q => q.keep tk⟩, by rw [upd_ne n4.symm]; exact h5, by rw [upd_ne n5.symm]; exact h6, n1, n2, n3, n4, n5, n6, l1, by rw [List.length_set]; exact l2, l3⟩
end
/-! dict's readings -/
section
variable {td ty tv : TE} {σ : St'} {H : Hp} {Q : VK} {x y v : V} {g : Addr} {G : GL} {s : S} {n b d : St' → Hp → Prop} {rt : VK} {N : Hp → Prop} {K : PySem.W.Frag}
def kG' (x : V) (Q : VK) : VK := fun y H2 => ∃ a v, x = .ref a ∧ DGet H2 a y (some v) ∧ Q v H2
def kG (ty : TE) (σ : St') (Q : VK) : VK := fun x H1 => ty σ H1 (kG' x Q)
theorem w_dg (q : td σ H (kG ty σ Q)) : tDGet td ty σ H Q := q
theorem w_kG (q : ty σ H (kG' x Q)) : kG ty σ Q x H := q
theorem w_dgK {k : Key} {kvs : List (Key × V)} {y : V} (h : H g = some (.dK kvs)) (ey : kV k = y) (e : valV kvs k = some v) (q : Q v H) : kG' (.ref g) Q y H := by
  subst ey
  refine ⟨g, v, rfl, ?_, q⟩
  rw [← e]
  exact DGet.k h
theorem g_cells (R : GAt H g G s) (q : Q (.ref G.cl) H) : kG' (.ref g) Q (.str "cells") H := w_dgK (k := .inr "cells") R.ob rfl rfl q
theorem g_pages (R : GAt H g G s) (q : Q (.ref G.pg) H) : kG' (.ref g) Q (.str "pages") H := w_dgK (k := .inr "pages") R.ob rfl rfl q
theorem g_gheld (R : GAt H g G s) (q : Q (.ref G.hd) H) : kG' (.ref g) Q (.str "held") H := w_dgK (k := .inr "held") R.ob rfl rfl q
theorem g_gsaid (R : GAt H g G s) (q : Q (.ref G.sd) H) : kG' (.ref g) Q (.str "said") H := w_dgK (k := .inr "said") R.ob rfl rfl q
theorem g_gzero (R : GAt H g G s) (q : Q (.bl (zeroOf s.sum)) H) : kG' (.ref g) Q (.str "zero") H := w_dgK (k := .inr "zero") R.ob rfl rfl q
theorem g_gcarry (R : GAt H g G s) (q : Q (.bl (carryOf s.sum)) H) : kG' (.ref g) Q (.str "carry") H := w_dgK (k := .inr "carry") R.ob rfl rfl q
theorem g_gplace (R : GAt H g G s) (q : Q (.int s.place) H) : kG' (.ref g) Q (.str "place") H := w_dgK (k := .inr "place") R.ob rfl rfl q
theorem g_gpost (R : GAt H g G s) (q : Q (optV s.post) H) : kG' (.ref g) Q (.str "post") H := w_dgK (k := .inr "post") R.ob rfl rfl q
theorem g_gwhy (R : GAt H g G s) (q : Q (.str s.why) H) : kG' (.ref g) Q (.str "why") H := w_dgK (k := .inr "why") R.ob rfl rfl q
theorem g_gmany (R : GAt H g G s) (q : Q (.int s.many) H) : kG' (.ref g) Q (.str "many") H := w_dgK (k := .inr "many") R.ob rfl rfl q
theorem g_gixHd {i : Int} (R : GAt H g G s) (h0 : 0 ≤ i) (h1 : i < 4) (q : Q (.int (gi s.held i)) H) : rIxL K (.ref G.hd) (.int i) H Q := w_ixLI R.hd h0 (by rw [R.lh]; exact h1) q
theorem g_gixCl {i : Int} (R : GAt H g G s) (h0 : 0 ≤ i) (h1 : i < 128) (q : Q (.int (gi s.cells i)) H) : rIxL K (.ref G.cl) (.int i) H Q := w_ixLI R.cl h0 (by rw [R.lc]; exact h1) q
theorem g_gixPg {i : Int} (R : GAt H g G s) (h0 : 0 ≤ i) (h1 : i < 4) (q : ∀ v, PgV H (pgOf s.pages i) v → Q v H) : rIxL K (.ref G.pg) (.int i) H Q := by
  obtain ⟨mv, hm, hp⟩ := R.pg
  obtain ⟨v, hv, hpv⟩ := pg_at hp h0 (by rw [R.lp]; exact h1)
  exact w_ixL (SqL.of' hm) hv (q v hpv)
/-! writes -/
def kDP3 (v x : V) (N : Hp → Prop) : VK := fun y H3 => ∃ a H4, x = .ref a ∧ DPut H3 a y v H4 ∧ N H4
def kDP2 (v : V) (ty : TE) (σ : St') (N : Hp → Prop) : VK := fun x H2 => ty σ H2 (kDP3 v x N)
def kDP1 (td ty : TE) (σ : St') (N : Hp → Prop) : VK := fun v H1 => td σ H1 (kDP2 v ty σ N)
theorem w_dput (q : tv σ H (kDP1 td ty σ fun H4 => n σ H4)) : sDPut td ty tv ⟨n, rt, b, d⟩ σ H := q
theorem w_kDP1 (q : td σ H (kDP2 v ty σ N)) : kDP1 td ty σ N v H := q
theorem w_kDP2 (q : ty σ H (kDP3 v x N)) : kDP2 v ty σ N x H := q
theorem p_gD {k : Key} {s' : S} (R : GAt H g G s) (ey : kV k = y) (e : putK (gFs G s) k v = gFs G s') (e1 : s'.cells = s.cells) (e2 : s'.pages = s.pages) (e3 : s'.held = s.held) (e4 : s'.said = s.said) (q : ∀ H', GAt H' g G s' → FrG G g H H' → N H') : kDP3 v (.ref g) N y H := by
  subst ey
  refine ⟨g, _, rfl, DPut.k R.ob (by rw [sizeLine_eq]; exact Nat.le_of_ble_eq_true rfl), ?_⟩
  rw [e]
  exact q _ (R.setOb e1 e2 e3 e4) (FrG.put (.inl rfl))
theorem p_gplace {i : Int} (R : GAt H g G s) (q : ∀ H', GAt H' g G { s with place := i } → FrG G g H H' → N H') : kDP3 (.int i) (.ref g) N (.str "place") H := p_gD (k := .inr "place") (s' := { s with place := i }) R rfl rfl rfl rfl rfl rfl q
theorem p_gwhy {i : Str} (R : GAt H g G s) (q : ∀ H', GAt H' g G { s with why := i } → FrG G g H H' → N H') : kDP3 (.str i) (.ref g) N (.str "why") H := p_gD (k := .inr "why") (s' := { s with why := i }) R rfl rfl rfl rfl rfl rfl q
theorem p_gpost {i : Int} (R : GAt H g G s) (q : ∀ H', GAt H' g G { s with post := some i } → FrG G g H H' → N H') : kDP3 (.int i) (.ref g) N (.str "post") H := p_gD (k := .inr "post") (s' := { s with post := some i }) R rfl rfl rfl rfl rfl rfl q
theorem p_ghd {i j : Int} (R : GAt H g G s) (h0 : 0 ≤ i) (h1 : i < 4) (q : ∀ H', GAt H' g G { s with held := s.held.set i.toNat j } → FrG G g H H' → N H') : rSetL (.ref G.hd) (.int i) (.int j) H N :=
  w_setLI R.hd h0 (by rw [R.lh]; exact h1) (q _ (R.setHd _ (by rw [List.length_set]; exact R.lh)) (FrG.put (.inr (.inr (.inr (.inl rfl))))))
theorem p_gcl {i j : Int} (R : GAt H g G s) (h0 : 0 ≤ i) (h1 : i < 128) (q : ∀ H', GAt H' g G { s with cells := s.cells.set i.toNat j } → FrG G g H H' → N H') : rSetL (.ref G.cl) (.int i) (.int j) H N :=
  w_setLI R.cl h0 (by rw [R.lc]; exact h1) (q _ (R.setCl _ (by rw [List.length_set]; exact R.lc)) (FrG.put (.inr (.inl rfl))))
theorem p_gpg {i : Int} {o : Option (Int × Bool)} (R : GAt H g G s) (hv : PgV H o v) (h0 : 0 ≤ i) (h1 : i < 4) (q : ∀ H', GAt H' g G { s with pages := s.pages.set i.toNat o } → FrG G g H H' → N H') : rSetL (.ref G.pg) (.int i) v H N := by
  obtain ⟨mv, hm, hp⟩ := R.pg
  have hl : mv.length = 4 := by rw [← Paired.length hp]; exact R.lp
  exact w_setL hm h0 (by rw [hl]; exact h1) (q _ (R.setPg hm hp i.toNat hv) (FrG.put (.inr (.inr (.inl rfl)))))
theorem p_gsd {i : Int} (R : GAt H g G s) (hl : s.said.length ≤ 1000) (q : ∀ H', GAt H' g G { s with said := s.said ++ [i] } → FrG G g H H' → Q .non H') : rAppend (.ref G.sd) [.int i] H Q := by
  refine ⟨G.sd, _, .int i, rfl, rfl, R.sd, by rw [List.length_map]; exact Nat.lt_of_le_of_lt hl (by decide), ?_⟩
  have e : s.said.map V.int ++ [V.int i] = (s.said ++ [i]).map V.int := by simp
  rw [e]
  exact q _ (R.setSd _) (FrG.put (.inr (.inr (.inr (.inr rfl)))))
theorem p_gup {b' : Addr} {more : List (Key × V)} {s' : S} (R : GAt H g G s) (hb : H b' = some (.dK more)) (hne : g ≠ b') (hl : more.length ≤ 10) (e : mergeK (gFs G s) more = gFs G s') (e1 : s'.cells = s.cells) (e2 : s'.pages = s.pages) (e3 : s'.held = s.held) (e4 : s'.said = s.said) (q : ∀ H', GAt H' g G s' → FrG G g H H' → Q .non H') : kUpdD g Q (.ref b') H := by
  refine w_kUpdD R.ob hb hne (by rw [sizeLine_eq]; have : (gFs G s).length = 10 := rfl; omega) ?_
  rw [e]
  exact q _ (R.setOb e1 e2 e3 e4) (FrG.put (.inl rfl))
/-! displays -/
variable {trs : List (TE × TE)} {tk : TE} {QP : List (V × V) → Hp → Prop} {p : Addr}
def kDisp (p : Addr) (Q : VK) : List (V × V) → Hp → Prop := fun ps H2 => H2 p = some (.dK []) ∧ ∃ kvs : List (Key × V), ps = kvs.map (fun kv => (kV kv.1, kv.2)) ∧ kvs.length ≤ 15 ∧ Q (.ref p) (upd H2 p (.dK (mergeK [] kvs)))
theorem w_disp (q : ∀ p, H p = none → tPairs trs σ (upd H p (.dK [])) (kDisp p Q)) : tDisp trs σ H Q := q
theorem w_pc (q : tk σ H fun x H1 => tv σ H1 fun y H2 => tPairs trs σ H2 fun ps H3 => QP ((x, y) :: ps) H3) : tPairs ((tk, tv) :: trs) σ H QP := q
theorem w_pn (q : QP [] H) : tPairs [] σ H QP := q
theorem w_kDisp {ps : List (V × V)} (kvs : List (Key × V)) (h : H p = some (.dK [])) (e : ps = kvs.map (fun kv => (kV kv.1, kv.2))) (hl : kvs.length ≤ 15) (q : Q (.ref p) (upd H p (.dK (mergeK [] kvs)))) : kDisp p Q ps H := ⟨h, kvs, e, hl, q⟩
end
theorem kNV_T {H : Hp} {Q : VK} (q : Q (.bl false) H) : kNV Q (.bl true) H := ⟨true, rfl, q⟩
theorem kNV_F {H : Hp} {Q : VK} (q : Q (.bl true) H) : kNV Q (.bl false) H := ⟨false, rfl, q⟩
/-! promises -/
def rOwn (K : PySem.W.Frag) (a b : V) (H : Hp) (Q : VK) : Prop := ∃ (l : Addr) (cs : List Int), a = .ref l ∧ b = .int 0 ∧ SqL K H l (cs.map V.int) ∧ cs.length ≤ 128 ∧ ∀ H' g G, Same H H' → GAt H' g G (initS cs 0) → (∀ x, GIn G g x → H x = none) → Q (.ref g) H'
def rLSpot (a b : V) (H : Hp) (Q : VK) : Prop := ∃ g G s i, a = .ref g ∧ b = .int i ∧ GAt H g G s ∧ Q (optV (spotOf s.pages i)) H
theorem w_rLSpot {H : Hp} {Q : VK} {g : Addr} {G : GL} {s : S} {i : Int} (R : GAt H g G s) (q : Q (optV (spotOf s.pages i)) H) : rLSpot (.ref g) (.int i) H Q := ⟨g, G, s, i, rfl, rfl, R, q⟩
def rLAt (a b : V) (H : Hp) (Q : VK) : Prop := ∃ g G s i, a = .ref g ∧ b = .int i ∧ GAt H g G s ∧ S.Ok s ∧ ∀ H' v, Same H H' → ToldV H' (readRow s.cells s.pages i) v → Q v H'
theorem w_rLAt {H : Hp} {Q : VK} {g : Addr} {G : GL} {s : S} {i : Int} (R : GAt H g G s) (ok : s.Ok) (q : ∀ H' v, Same H H' → ToldV H' (readRow s.cells s.pages i) v → Q v H') : rLAt (.ref g) (.int i) H Q := ⟨g, G, s, i, rfl, rfl, R, ok, q⟩

local macro_rules | `(tactic| fail "ga") => `(tactic| first | with_reducible assumption | ((with_reducible refine' GAt.new ?h1 ?h2); (case h1 => assumption); (case h2 => fail "ga")) | ((with_reducible refine' GAt.same ?h1 ?h2); (case h1 => with_reducible assumption); (case h2 => fail "ga")) | fail)
local macro_rules | `(tactic| fail "fg") => `(tactic| first | with_reducible assumption | with_reducible exact FrG.refl | ((with_reducible refine' FrG.snoc ?h1 ?h2); (case h1 => with_reducible assumption); (case h2 => fail "fg")) | ((with_reducible refine' FrG.snocN ?h1 ?h2); (case h1 => assumption); (case h2 => fail "fg")) | ((with_reducible refine' FrG.snocS ?h1 ?h2); (case h1 => with_reducible assumption); (case h2 => fail "fg")) | fail)
local macro_rules | `(tactic| fail "ng") => `(tactic| first | assumption | ((refine' GAt.nNew ?a ?b); (case b => assumption); (case a => fail "ga")) | ((refine' GAt.nTup ?a ?b); (case b => assumption); (case a => fail "ga")) | fail)
local macro_rules | `(tactic| fail "hf") => `(tactic| first | assumption | exact upd_same | ((with_reducible refine' look_new ?h1 ?h2); (case h1 => assumption); (case h2 => fail "hf")) | ((with_reducible refine' look_same ?h1 ?h2); (case h1 => with_reducible assumption); (case h2 => fail "hf")) | ((with_reducible refine' look_fg ?h1 ?h2 ?h3); (case h1 => with_reducible assumption); (case h2 => fail "ng"); (case h3 => fail "hf")) | fail)
local macro_rules | `(tactic| fail "sd_0") => `(tactic| first | (with_reducible refine w_dg ?_) | (with_reducible refine w_kG ?_) | ((with_reducible refine' g_cells ?h ?_); (case h => fail "ga")) | ((with_reducible refine' g_pages ?h ?_); (case h => fail "ga")) | ((with_reducible refine' g_gheld ?h ?_); (case h => fail "ga")) | ((with_reducible refine' g_gsaid ?h ?_); (case h => fail "ga")) | ((with_reducible refine' g_gzero ?h ?_); (case h => fail "ga")) | ((with_reducible refine' g_gcarry ?h ?_); (case h => fail "ga")) | ((with_reducible refine' g_gplace ?h ?_); (case h => fail "ga")) | ((with_reducible refine' g_gpost ?h ?_); (case h => fail "ga")) | fail)
local macro_rules | `(tactic| fail "sd_1") => `(tactic| first | ((with_reducible refine' g_gwhy ?h ?_); (case h => fail "ga")) | ((with_reducible refine' g_gmany ?h ?_); (case h => fail "ga")) | ((with_reducible refine' g_gixHd ?h ?l ?m ?_); (case h => fail "ga"); (case l => fail "pr"); (case m => fail "pr")) | ((with_reducible refine' g_gixCl ?h ?l ?m ?_); (case h => fail "ga"); (case l => fail "pr"); (case m => fail "pr")) | ((with_reducible refine' p_ghd ?h ?l ?m (fun _ _ _ => ?_)); (case h => fail "ga"); (case l => fail "pr"); (case m => fail "pr")) | ((with_reducible refine' p_gcl ?h ?l ?m (fun _ _ _ => ?_)); (case h => fail "ga"); (case l => fail "pr"); (case m => fail "pr")) | ((with_reducible refine' p_gplace ?h (fun _ _ _ => ?_)); (case h => fail "ga")) | ((with_reducible refine' p_gwhy ?h (fun _ _ _ => ?_)); (case h => fail "ga")) | ((with_reducible refine' p_gpost ?h (fun _ _ _ => ?_)); (case h => fail "ga")) | (with_reducible refine w_dput ?_) | fail)
local macro_rules | `(tactic| fail "sd_2") => `(tactic| first | (with_reducible refine w_kDP1 ?_) | (with_reducible refine w_kDP2 ?_) | (with_reducible refine w_dupd ?_) | (with_reducible refine w_pc ?_) | (with_reducible refine w_pn ?_) | (with_reducible refine w_par3 ?_) | (with_reducible refine w_disp (fun _ _ => ?_)) | ((with_reducible refine' w_kUpd ?h ?_); (case h => exact GAt.ob (by fail "ga"))) | ((with_reducible refine' w_kPar3 ?h ?_); (case h => rfl)) | (with_reducible refine kOV_T ?_) | fail)
local macro_rules | `(tactic| fail "sd_3") => `(tactic| first | (with_reducible refine kOV_F ?_) | (with_reducible refine kAV_T ?_) | (with_reducible refine kAV_F ?_) | (with_reducible refine kNV_T ?_) | (with_reducible refine kNV_F ?_) | fail)
local macro_rules | `(tactic| fail "s") => `(tactic| first | fail "q0" | fail "q1" | fail "sd_0" | fail "sd_1" | fail "sd_2" | fail "sd_3" | fail)
/-! part P37law -/
/-- all but dicts stands -/
def KeepD (H H' : Hp) : Prop := ∀ b o, H b = some o → (∀ kvs, o ≠ .dK kvs) → H' b = some o
section
variable {H H1 H2 : Hp} {g x : Addr} {kvs : List (Key × V)} {o : HO}
theorem KeepD.ofSame (S : Same H H1) : KeepD H H1 := fun b o h _ => S b o h
theorem KeepD.put (h : H g = some (.dK kvs)) : KeepD H (upd H g o) := fun b u hb hn => by rw [upd_ne (fun e => hn kvs (by rw [e, h] at hb; injection hb with hb; exact hb.symm))]; exact hb
theorem KeepD.trans (a : KeepD H H1) (b : KeepD H1 H2) : KeepD H H2 := fun x o h n => b x o (a x o h n) n
end
section
variable {P : Program} {w : World} {K : PySem.W.Frag} {mg : Str → Option Value} {base : Heap}
theorem ok_l_own (T : Txt w K mg) : GDef P w K mg base "_law_own" 1 [] (sp2 (rOwn K)) := by
  obtain ⟨f, fd, F, M⟩ := T.d_l_own
  refine ⟨f, fd, _, _, F.ok sc_l_own (fun vs H Q E h => ?_) (fun cdv A outer s0 H vs Q E hr h => ?_), M, F.kp, F.bindsN fun _ _ _ _ _ _ us hl => match us, hl with | [_, _], _ => rfl, .nil⟩
  · obtain ⟨_, _, rfl, _⟩ := h
    rfl
  · obtain ⟨_, _, rfl, l, cs, rfl, rfl, hl, hlen, k⟩ := h
    refine ⟨_, (pss_cons (ps_set (i := 2) sc_l_own.nd rfl (by first | exact .inl rfl | exact .inr rfl) (pe_disp (pps_cons pe_str (pe_op op_cat (pe_callTy list_of (by rfl) T.f_list (by decide +kernel) (pa_cons (pv 0) pa_nil)) (pe_op op_rep (pe_lst (pa_cons pe_int pa_nil)) (pe_op op_sub pe_int (pe_callB len_seq (by rfl) T.f_len PySem.boot_len (pa_cons (pv 0) pa_nil))))) (pps_cons pe_str (pe_lst (pa_cons (pe_tup (pa_cons pe_int (pa_cons pe_bl pa_nil))) (pa_cons (pe_tup (pa_cons pe_int (pa_cons pe_bl pa_nil))) (pa_cons (pe_tup (pa_cons pe_int (pa_cons pe_bl pa_nil))) (pa_cons (pe_tup (pa_cons pe_int (pa_cons pe_bl pa_nil))) pa_nil))))) pps_nil)) (by rfl) (by rfl) (fun z => by cases z) (by decide)))
 (pss_cons (ps_expr (e_dupd (pv 2) (pe_disp (pps_cons pe_str (pe_lst (pa_cons pe_int (pa_cons pe_int (pa_cons pe_int (pa_cons pe_int pa_nil))))) (pps_cons pe_str pe_bl (pps_cons pe_str pe_bl (pps_cons pe_str (pv 1) (pps_cons pe_str pe_non (pps_cons pe_str (pe_lst pa_nil) pps_nil)))))) (by rfl) (by rfl) (fun z => by cases z) (by decide))))
 (pss_cons (ps_expr (e_dupd (pv 2) (pe_disp (pps_cons pe_str pe_str (pps_cons pe_str pe_int pps_nil)) (by rfl) (by rfl) (fun z => by cases z) (by decide))))
 (pss_one (ps_ret (pv 2)))))), ?_⟩
    rw [show start N_l_own [V.ref l, V.int 0] = [some (V.ref l), some (V.int 0), none] from rfl]; try simp only [cxK, cxW]
    fail "S"
    rw [List.length_map]
    refine w_repL (by fail "hf") (by omega) (by omega) (by rw [sizeLine_eq]; simp; omega) fun p2 hp2 => ?_
    rw [rep_ints]
    refine w_cnt (by fail "hf") (by fail "hf") (by rw [sizeLine_eq]; simp; omega) fun pc hpc => ?_
    rw [← List.map_append]
    fail "S"
    rename_i g hg l1 hl1 z1 hz1 t0 ht0 t1 ht1 t2 ht2 t3 ht3 pg hpg
    have Hpc : H pc = none := fresh_same (by fail "sm") hpc
    have Hpg : H pg = none := fresh_same (by fail "sm") hpg
    have SA : Same H (upd (upd (upd (upd (upd (upd (upd (upd (upd (upd H g (HO.dK [])) l1 (HO.lst (List.map V.int cs))) z1 (HO.lst [V.int 0])) p2 (HO.lst (List.map V.int (List.replicate (128 - (cs.length : Int)).toNat 0)))) pc (HO.lst (List.map V.int (cs ++ List.replicate (128 - (cs.length : Int)).toNat 0)))) t0 (HO.tup [V.int 0, V.bl true])) t1 (HO.tup [V.int 1, V.bl true])) t2 (HO.tup [V.int 2, V.bl true])) t3 (HO.tup [V.int 3, V.bl true])) pg (HO.lst [V.ref t0, V.ref t1, V.ref t2, V.ref t3])) := by fail "sm"
    have fg := (by fail "hf" : upd (upd (upd (upd (upd (upd (upd (upd (upd (upd H g (HO.dK [])) l1 (HO.lst (List.map V.int cs))) z1 (HO.lst [V.int 0])) p2 (HO.lst (List.map V.int (List.replicate (128 - (cs.length : Int)).toNat 0)))) pc (HO.lst (List.map V.int (cs ++ List.replicate (128 - (cs.length : Int)).toNat 0)))) t0 (HO.tup [V.int 0, V.bl true])) t1 (HO.tup [V.int 1, V.bl true])) t2 (HO.tup [V.int 2, V.bl true])) t3 (HO.tup [V.int 3, V.bl true])) pg (HO.lst [V.ref t0, V.ref t1, V.ref t2, V.ref t3]) g = some (.dK []))
    have fc := (by fail "hf" : upd (upd (upd (upd (upd (upd (upd (upd (upd (upd H g (HO.dK [])) l1 (HO.lst (List.map V.int cs))) z1 (HO.lst [V.int 0])) p2 (HO.lst (List.map V.int (List.replicate (128 - (cs.length : Int)).toNat 0)))) pc (HO.lst (List.map V.int (cs ++ List.replicate (128 - (cs.length : Int)).toNat 0)))) t0 (HO.tup [V.int 0, V.bl true])) t1 (HO.tup [V.int 1, V.bl true])) t2 (HO.tup [V.int 2, V.bl true])) t3 (HO.tup [V.int 3, V.bl true])) pg (HO.lst [V.ref t0, V.ref t1, V.ref t2, V.ref t3]) pc = some (HO.lst (List.map V.int (cs ++ List.replicate (128 - (cs.length : Int)).toNat 0))))
    have f0 := (by fail "hf" : upd (upd (upd (upd (upd (upd (upd (upd (upd (upd H g (HO.dK [])) l1 (HO.lst (List.map V.int cs))) z1 (HO.lst [V.int 0])) p2 (HO.lst (List.map V.int (List.replicate (128 - (cs.length : Int)).toNat 0)))) pc (HO.lst (List.map V.int (cs ++ List.replicate (128 - (cs.length : Int)).toNat 0)))) t0 (HO.tup [V.int 0, V.bl true])) t1 (HO.tup [V.int 1, V.bl true])) t2 (HO.tup [V.int 2, V.bl true])) t3 (HO.tup [V.int 3, V.bl true])) pg (HO.lst [V.ref t0, V.ref t1, V.ref t2, V.ref t3]) t0 = some (HO.tup [V.int 0, V.bl true]))
    have f1 := (by fail "hf" : upd (upd (upd (upd (upd (upd (upd (upd (upd (upd H g (HO.dK [])) l1 (HO.lst (List.map V.int cs))) z1 (HO.lst [V.int 0])) p2 (HO.lst (List.map V.int (List.replicate (128 - (cs.length : Int)).toNat 0)))) pc (HO.lst (List.map V.int (cs ++ List.replicate (128 - (cs.length : Int)).toNat 0)))) t0 (HO.tup [V.int 0, V.bl true])) t1 (HO.tup [V.int 1, V.bl true])) t2 (HO.tup [V.int 2, V.bl true])) t3 (HO.tup [V.int 3, V.bl true])) pg (HO.lst [V.ref t0, V.ref t1, V.ref t2, V.ref t3]) t1 = some (HO.tup [V.int 1, V.bl true]))
    have f2 := (by fail "hf" : upd (upd (upd (upd (upd (upd (upd (upd (upd (upd H g (HO.dK [])) l1 (HO.lst (List.map V.int cs))) z1 (HO.lst [V.int 0])) p2 (HO.lst (List.map V.int (List.replicate (128 - (cs.length : Int)).toNat 0)))) pc (HO.lst (List.map V.int (cs ++ List.replicate (128 - (cs.length : Int)).toNat 0)))) t0 (HO.tup [V.int 0, V.bl true])) t1 (HO.tup [V.int 1, V.bl true])) t2 (HO.tup [V.int 2, V.bl true])) t3 (HO.tup [V.int 3, V.bl true])) pg (HO.lst [V.ref t0, V.ref t1, V.ref t2, V.ref t3]) t2 = some (HO.tup [V.int 2, V.bl true]))
    have f3 := (by fail "hf" : upd (upd (upd (upd (upd (upd (upd (upd (upd (upd H g (HO.dK [])) l1 (HO.lst (List.map V.int cs))) z1 (HO.lst [V.int 0])) p2 (HO.lst (List.map V.int (List.replicate (128 - (cs.length : Int)).toNat 0)))) pc (HO.lst (List.map V.int (cs ++ List.replicate (128 - (cs.length : Int)).toNat 0)))) t0 (HO.tup [V.int 0, V.bl true])) t1 (HO.tup [V.int 1, V.bl true])) t2 (HO.tup [V.int 2, V.bl true])) t3 (HO.tup [V.int 3, V.bl true])) pg (HO.lst [V.ref t0, V.ref t1, V.ref t2, V.ref t3]) t3 = some (HO.tup [V.int 3, V.bl true]))
    have fp := (by fail "hf" : upd (upd (upd (upd (upd (upd (upd (upd (upd (upd H g (HO.dK [])) l1 (HO.lst (List.map V.int cs))) z1 (HO.lst [V.int 0])) p2 (HO.lst (List.map V.int (List.replicate (128 - (cs.length : Int)).toNat 0)))) pc (HO.lst (List.map V.int (cs ++ List.replicate (128 - (cs.length : Int)).toNat 0)))) t0 (HO.tup [V.int 0, V.bl true])) t1 (HO.tup [V.int 1, V.bl true])) t2 (HO.tup [V.int 2, V.bl true])) t3 (HO.tup [V.int 3, V.bl true])) pg (HO.lst [V.ref t0, V.ref t1, V.ref t2, V.ref t3]) pg = some (HO.lst [V.ref t0, V.ref t1, V.ref t2, V.ref t3]))
    have ncp : pc ≠ pg := ne_of_none (by fail "hf") hpg
    generalize upd (upd (upd (upd (upd (upd (upd (upd (upd (upd H g (HO.dK [])) l1 (HO.lst (List.map V.int cs))) z1 (HO.lst [V.int 0])) p2 (HO.lst (List.map V.int (List.replicate (128 - (cs.length : Int)).toNat 0)))) pc (HO.lst (List.map V.int (cs ++ List.replicate (128 - (cs.length : Int)).toNat 0)))) t0 (HO.tup [V.int 0, V.bl true])) t1 (HO.tup [V.int 1, V.bl true])) t2 (HO.tup [V.int 2, V.bl true])) t3 (HO.tup [V.int 3, V.bl true])) pg (HO.lst [V.ref t0, V.ref t1, V.ref t2, V.ref t3]) = HA at SA fg fc f0 f1 f2 f3 fp ⊢
    refine w_kDisp [(.inr "cells", .ref pc), (.inr "pages", .ref pg)] fg rfl (Nat.le_of_ble_eq_true rfl) ?_
    have gB : upd HA g (.dK (mergeK [] [(.inr "cells", .ref pc), (.inr "pages", .ref pg)])) g = some (.dK (mergeK [] [(.inr "cells", .ref pc), (.inr "pages", .ref pg)])) := upd_same
    have DB : KeepD HA (upd HA g (.dK (mergeK [] [(.inr "cells", .ref pc), (.inr "pages", .ref pg)]))) := KeepD.put fg
    have KB : KeepP g HA (upd HA g (.dK (mergeK [] [(.inr "cells", .ref pc), (.inr "pages", .ref pg)]))) := keep_upd
    generalize upd HA g (.dK (mergeK [] [(.inr "cells", .ref pc), (.inr "pages", .ref pg)])) = HB at gB DB KB ⊢
    refine w_gName rfl ?_
    fail "S"
    refine w_kUpd gB ?_
    fail "S"
    rename_i g2 hg2 hd hhd sd hsd
    have S2 : Same HB (upd (upd (upd HB g2 (HO.dK [])) hd (HO.lst [V.int 0, V.int 0, V.int 0, V.int 0])) sd (HO.lst [])) := by fail "sm"
    have e2 := (by fail "hf" : upd (upd (upd HB g2 (HO.dK [])) hd (HO.lst [V.int 0, V.int 0, V.int 0, V.int 0])) sd (HO.lst []) g2 = some (.dK []))
    have eh := (by fail "hf" : upd (upd (upd HB g2 (HO.dK [])) hd (HO.lst [V.int 0, V.int 0, V.int 0, V.int 0])) sd (HO.lst []) hd = some (HO.lst [V.int 0, V.int 0, V.int 0, V.int 0]))
    have es := (by fail "hf" : upd (upd (upd HB g2 (HO.dK [])) hd (HO.lst [V.int 0, V.int 0, V.int 0, V.int 0])) sd (HO.lst []) sd = some (HO.lst []))
    have nhd := fresh_new hhd
    have nsd := fresh_new (fresh_new hsd)
    have nhs : hd ≠ sd := ne_of_none (by fail "hf") hsd
    generalize upd (upd (upd HB g2 (HO.dK [])) hd (HO.lst [V.int 0, V.int 0, V.int 0, V.int 0])) sd (HO.lst []) = X2 at S2 e2 eh es ⊢
    have ng2 : g ≠ g2 := ne_of_none gB hg2
    refine w_kDisp [(.inr "held", .ref hd), (.inr "zero", .bl false), (.inr "carry", .bl false), (.inr "place", .int 0), (.inr "post", .non), (.inr "said", .ref sd)] e2 rfl (Nat.le_of_ble_eq_true rfl) ?_
    have DC : KeepD X2 (upd X2 g2 (.dK (mergeK [] [(.inr "held", .ref hd), (.inr "zero", .bl false), (.inr "carry", .bl false), (.inr "place", .int 0), (.inr "post", .non), (.inr "said", .ref sd)]))) := KeepD.put e2
    have KC : KeepP g2 X2 (upd X2 g2 (.dK (mergeK [] [(.inr "held", .ref hd), (.inr "zero", .bl false), (.inr "carry", .bl false), (.inr "place", .int 0), (.inr "post", .non), (.inr "said", .ref sd)]))) := keep_upd
    have gC : upd X2 g2 (.dK (mergeK [] [(.inr "held", .ref hd), (.inr "zero", .bl false), (.inr "carry", .bl false), (.inr "place", .int 0), (.inr "post", .non), (.inr "said", .ref sd)])) g = some (.dK (mergeK [] [(.inr "cells", .ref pc), (.inr "pages", .ref pg)])) := by
      rw [upd_ne ng2]; exact S2 _ _ gB
    refine w_kUpdD gC upd_same ng2 (by rw [sizeLine_eq]; exact Nat.le_of_ble_eq_true rfl) ?_
    generalize upd X2 g2 (.dK (mergeK [] [(.inr "held", .ref hd), (.inr "zero", .bl false), (.inr "carry", .bl false), (.inr "place", .int 0), (.inr "post", .non), (.inr "said", .ref sd)])) = HC at DC KC gC ⊢
    have DD : KeepD HC (upd HC g (.dK (mergeK (mergeK [] [(.inr "cells", .ref pc), (.inr "pages", .ref pg)]) (mergeK [] [(.inr "held", .ref hd), (.inr "zero", .bl false), (.inr "carry", .bl false), (.inr "place", .int 0), (.inr "post", .non), (.inr "said", .ref sd)])))) := KeepD.put gC
    have KD : KeepP g HC (upd HC g (.dK (mergeK (mergeK [] [(.inr "cells", .ref pc), (.inr "pages", .ref pg)]) (mergeK [] [(.inr "held", .ref hd), (.inr "zero", .bl false), (.inr "carry", .bl false), (.inr "place", .int 0), (.inr "post", .non), (.inr "said", .ref sd)])))) := keep_upd
    have gD : upd HC g (.dK (mergeK (mergeK [] [(.inr "cells", .ref pc), (.inr "pages", .ref pg)]) (mergeK [] [(.inr "held", .ref hd), (.inr "zero", .bl false), (.inr "carry", .bl false), (.inr "place", .int 0), (.inr "post", .non), (.inr "said", .ref sd)]))) g = some (.dK [(.inr "cells", .ref pc), (.inr "pages", .ref pg), (.inr "held", .ref hd), (.inr "zero", .bl false), (.inr "carry", .bl false), (.inr "place", .int 0), (.inr "post", .non), (.inr "said", .ref sd)]) := by
      rw [upd_same]; rfl
    generalize upd HC g (.dK (mergeK (mergeK [] [(.inr "cells", .ref pc), (.inr "pages", .ref pg)]) (mergeK [] [(.inr "held", .ref hd), (.inr "zero", .bl false), (.inr "carry", .bl false), (.inr "place", .int 0), (.inr "post", .non), (.inr "said", .ref sd)]))) = HD at DD KD gD ⊢
    fail "S"
    refine w_kUpd gD ?_
    fail "S"
    rename_i g3 hg3
    refine w_kDisp [(.inr "why", .str ""), (.inr "many", .int 0)] upd_same rfl (Nat.le_of_ble_eq_true rfl) ?_
    have ng3 : g ≠ g3 := ne_of_none gD hg3
    refine w_kUpdD (by rw [upd_ne ng3, upd_ne ng3]; exact gD) upd_same ng3 (by rw [sizeLine_eq]; exact Nat.le_of_ble_eq_true rfl) ?_
    fail "S"
    have DZ : KeepD HA (upd (upd (upd HD g3 (.dK [])) g3 (.dK (mergeK [] [(.inr "why", .str ""), (.inr "many", .int 0)]))) g (.dK (mergeK [(.inr "cells", .ref pc), (.inr "pages", .ref pg), (.inr "held", .ref hd), (.inr "zero", .bl false), (.inr "carry", .bl false), (.inr "place", .int 0), (.inr "post", .non), (.inr "said", .ref sd)] (mergeK [] [(.inr "why", .str ""), (.inr "many", .int 0)])))) :=
      (((((DB.trans (KeepD.ofSame S2)).trans DC).trans DD).trans (KeepD.ofSame (Ext.new hg3))).trans (KeepD.put upd_same)).trans (KeepD.put (kvs := [(.inr "cells", .ref pc), (.inr "pages", .ref pg), (.inr "held", .ref hd), (.inr "zero", .bl false), (.inr "carry", .bl false), (.inr "place", .int 0), (.inr "post", .non), (.inr "said", .ref sd)]) (by rw [upd_ne ng3, upd_ne ng3]; exact gD))
    have D2Z : KeepD X2 (upd (upd (upd HD g3 (.dK [])) g3 (.dK (mergeK [] [(.inr "why", .str ""), (.inr "many", .int 0)]))) g (.dK (mergeK [(.inr "cells", .ref pc), (.inr "pages", .ref pg), (.inr "held", .ref hd), (.inr "zero", .bl false), (.inr "carry", .bl false), (.inr "place", .int 0), (.inr "post", .non), (.inr "said", .ref sd)] (mergeK [] [(.inr "why", .str ""), (.inr "many", .int 0)])))) :=
      (((DC.trans DD).trans (KeepD.ofSame (Ext.new hg3))).trans (KeepD.put upd_same)).trans (KeepD.put (kvs := [(.inr "cells", .ref pc), (.inr "pages", .ref pg), (.inr "held", .ref hd), (.inr "zero", .bl false), (.inr "carry", .bl false), (.inr "place", .int 0), (.inr "post", .non), (.inr "said", .ref sd)]) (by rw [upd_ne ng3, upd_ne ng3]; exact gD))
    have fcB := DB _ _ fc (fun _ z => by cases z)
    have fpB := DB _ _ fp (fun _ z => by cases z)
    have nA : ∀ {x}, HB x = none → H x = none := fun h => fresh_same SA (fresh_kp KB gB h)
    have en : (128 - (cs.length : Int)).toNat = 128 - cs.length := by omega
    have SZ : Same H (upd (upd (upd HD g3 (.dK [])) g3 (.dK (mergeK [] [(.inr "why", .str ""), (.inr "many", .int 0)]))) g (.dK (mergeK [(.inr "cells", .ref pc), (.inr "pages", .ref pg), (.inr "held", .ref hd), (.inr "zero", .bl false), (.inr "carry", .bl false), (.inr "place", .int 0), (.inr "post", .non), (.inr "said", .ref sd)] (mergeK [] [(.inr "why", .str ""), (.inr "many", .int 0)])))) := fun b o hb => by
      have ng : b ≠ g := ne_of_none hb hg
      have b1 := KB _ _ (SA _ _ hb) ng
      have b2 := KD _ _ (KC _ _ (S2 _ _ b1) (ne_of_none b1 hg2)) ng
      have n3 : b ≠ g3 := ne_of_none b2 hg3
      rw [upd_ne ng, upd_ne n3, upd_ne n3]
      exact b2
    refine k _ g ⟨pc, pg, hd, sd⟩ SZ ⟨by rw [upd_same]; rfl, ?_, ⟨[V.ref t0, V.ref t1, V.ref t2, V.ref t3], DZ _ _ fp (fun _ z => by cases z), ?_⟩, D2Z _ _ eh (fun _ z => by cases z), D2Z _ _ es (fun _ z => by cases z), ncp, ne_of_none fcB nhd, ne_of_none fcB nsd, ne_of_none fpB nhd, ne_of_none fpB nsd, nhs, ?_, rfl, rfl⟩ ?_
    · rw [DZ _ _ fc (fun _ z => by cases z), en]
      rfl
    · exact .cons ⟨t0, rfl, DZ _ _ f0 (fun _ z => by cases z)⟩ (.cons ⟨t1, rfl, DZ _ _ f1 (fun _ z => by cases z)⟩ (.cons ⟨t2, rfl, DZ _ _ f2 (fun _ z => by cases z)⟩ (.cons ⟨t3, rfl, DZ _ _ f3 (fun _ z => by cases z)⟩ .nil)))
    · show (cs ++ List.replicate (128 - cs.length) (0 : Int)).length = 128
      simp
      omega
    · rintro x (z | z | z | z | z) <;> rw [z]
      · exact hg
      · exact Hpc
      · exact Hpg
      · exact nA nhd
      · exact nA nsd
theorem ok_l_spot (T : Txt w K mg) : GDef P w K mg base "_law_spot" 1 [] (sp2 rLSpot) := by
  obtain ⟨f, fd, F, M⟩ := T.d_l_spot
  refine ⟨f, fd, _, _, F.ok sc_l_spot (fun vs H Q E h => ?_) (fun cdv A outer s0 H vs Q E hr h => ?_), M, F.kp, F.bindsN fun _ _ _ _ _ _ us hl => match us, hl with | [_, _], _ => rfl, .nil⟩
  · obtain ⟨_, _, rfl, _⟩ := h
    rfl
  · obtain ⟨_, _, rfl, g, G, s, i, rfl, rfl, R, k⟩ := h
    refine ⟨_, (pss_cons (ps_if (PW.pt (pw_or (pt_not (pt_chain op_le op_lt pe_int (pv 1) pe_int)) (pw_or1 (pt_cmpR op_isN1 (pe_ix ix_list (pe_dget (u1 hr.units) (pv 0) pe_str (fun _ _ => rfl)) (pe_op op_fdiv (pv 1) pe_int) (fun _ _ => rfl)) pe_non (nomark _)))))
 (pss_one (ps_ret pe_non))
 pss_nil)
 (pss_one (ps_ret (pe_op op_add (pe_op op_mul pe_int (pe_ix ix_tup (pe_ix ix_list (pe_dget (u1 hr.units) (pv 0) pe_str (fun _ _ => rfl)) (pe_op op_fdiv (pv 1) pe_int) (fun _ _ => rfl)) pe_int (fun _ _ => rfl))) (pe_op op_mod (pv 1) pe_int))))), ?_⟩
    rw [show start N_l_spot [V.ref g, V.int i] = [some (V.ref g), some (V.int i)] from rfl]; try simp only [cxK, cxW]
    by_cases hi : 0 ≤ i ∧ i < 64
    · have hi1 := hi.1
      have hi2 := hi.2
      fail "S"
      refine g_gixPg R (by omega) (by omega) fun v hv => ?_
      cases e : pgOf s.pages (i / 16) with
      | none =>
        rw [e] at hv
        obtain rfl : v = .non := hv
        fail "S"
        rw [spotOf_no hi e] at k
        exact k
      | some fo =>
        obtain ⟨fr, o⟩ := fo
        rw [e] at hv
        obtain ⟨a, rfl, ha⟩ := hv
        fail "S"
        refine g_gixPg R (by omega) (by omega) fun v hv => ?_
        rw [e] at hv
        obtain ⟨a, rfl, ha⟩ := hv
        fail "S"
        rw [spotOf_at hi e] at k
        rw [Int.mul_comm]
        exact k
    · rw [spotOf_out hi] at k
      by_cases h0 : 0 ≤ i
      · fail "S"
        exact k
      · fail "S"
        exact k
end

/-! part P38law -/
theorem w_rHeadL {H : Hp} {Q : VK} {c : Int} (h : 0 ≤ c) (k : ∀ H' v, Same H H' → HeadV H' (headOf c) v → Q v H') : rHead (.int c) H Q := ⟨c, rfl, h, k⟩
section
variable {P : Program} {w : World} {K : PySem.W.Frag} {mg : Str → Option Value} {base : Heap}
theorem ok_l_at (T : Txt w K mg) : GDef P w K mg base "_law_at" 3 [] (sp2 rLAt) := by
  obtain ⟨f, fd, F, M⟩ := T.d_l_at
  refine ⟨f, fd, _, _, F.ok sc_l_at (fun vs H Q E h => ?_) (fun cdv A outer s0 H vs Q E hr h => ?_), M, F.kp, F.bindsN fun _ _ _ _ _ _ us hl => match us, hl with | [_, _], _ => rfl, .nil⟩
  · obtain ⟨_, _, rfl, _⟩ := h
    rfl
  · obtain ⟨_, _, rfl, g, G, s, i, rfl, rfl, R, ok, k⟩ := h
    refine ⟨_, (pss_cons (ps_set (i := 2) sc_l_at.nd rfl (by first | exact .inl rfl | exact .inr rfl) (e_call (ok_l_spot T) hr (pa_cons (pv 0) (pa_cons (pv 1) pa_nil))))
 (pss_cons (ps_if (pt_cmpR op_isN1 (pv 2) pe_non (nomark _))
 (pss_one (ps_ret (pe_tup (pa_cons pe_non (pa_cons pe_str pa_nil)))))
 pss_nil)
 (pss_cons (ps_set (i := 3) sc_l_at.nd rfl (by first | exact .inl rfl | exact .inr rfl) (e_call (ok_l_head T) hr (pa_cons (pe_ix ix_list (pe_dget (u1 hr.units) (pv 0) pe_str (fun _ _ => rfl)) (pv 2) (fun _ _ => rfl)) pa_nil)))
 (pss_cons (ps_if (pt_cmpR op_isN1 (pv 3) pe_non (nomark _))
 (pss_one (ps_ret (pe_tup (pa_cons pe_non (pa_cons pe_str pa_nil)))))
 pss_nil)
 (pss_cons (ps_if (pt_not (pt_val (e_call (ok_l_is_long T) hr (pa_cons (pe_ix ix_tup (pv 3) pe_int (fun _ _ => rfl)) pa_nil))))
 (pss_one (ps_ret (pe_tup (pa_cons (pv 3) (pa_cons (pe_op op_add (pv 1) pe_int) pa_nil)))))
 pss_nil)
 (pss_cons (ps_set (i := 4) sc_l_at.nd rfl (by first | exact .inl rfl | exact .inr rfl) (e_call (ok_l_spot T) hr (pa_cons (pv 0) (pa_cons (pe_op op_add (pv 1) pe_int) pa_nil))))
 (pss_one (ps_ret (pe_ifExp (pt_cmpR op_isN1 (pv 4) pe_non (nomark _)) (pe_tup (pa_cons pe_non (pa_cons pe_str pa_nil))) (pe_tup (pa_cons (pe_op op_catA (pv 3) (pe_tup (pa_cons (pe_ix ix_list (pe_dget (u1 hr.units) (pv 0) pe_str (fun _ _ => rfl)) (pv 4) (fun _ _ => rfl)) pa_nil))) (pa_cons (pe_op op_add (pv 1) pe_int) pa_nil)))))))))))), ?_⟩
    rw [show start N_l_at [V.ref g, V.int i] = [some (V.ref g), some (V.int i), none, none, none] from rfl]; try simp only [cxK, cxW]
    fail "S"
    refine w_rLSpot R ?_
    cases e : spotOf s.pages i with
    | none =>
      fail "S"
      have en : readRow s.cells s.pages i = .bad "lacks" := by unfold readRow; rw [e]
      rw [en] at k
      exact k _ _ (by fail "sm") ⟨_, rfl, by fail "hf"⟩
    | some c =>
      obtain ⟨c0, c1, g0, g1⟩ := spotOf_ok ok.pr e
      dsimp only [optV]
      have hcell := ok.cr _ (gi_mem (ns := s.cells) (i := c) c0 (by rw [ok.cl]; omega))
      fail "S"
      refine w_rHeadL hcell.1 fun H1 v S1 hv => ?_
      fail "S"
      cases eh : headOf (gi s.cells c) with
      | none =>
        rw [eh] at hv
        obtain rfl : v = .non := hv
        fail "S"
        have en : readRow s.cells s.pages i = .bad "row" := by unfold readRow; rw [e]; dsimp only; rw [eh]
        rw [en] at k
        exact k _ _ (by fail "sm") ⟨_, rfl, by fail "hf"⟩
      | some hd =>
        rw [eh] at hv
        obtain ⟨a, rfl, ha⟩ := hv
        rw [head_cons] at ha
        fail "S"
        refine w_ixT (SqT.of' ha) (show atI _ (0 : Int) = some (.str hd.w.str) from atI_nat (j := 0) rfl) ?_
        fail "S"
        refine w_rLong fun H2 S2 => ?_
        cases el : hd.w.long with
        | false =>
          fail "S"
          have en : readRow s.cells s.pages i = .row ⟨hd.w, hd.x, hd.y, 0⟩ (i + 1) := by unfold readRow; rw [e]; dsimp only; rw [eh]; dsimp only; rw [el]; rfl
          rw [en] at k
          rw [← head_cons, row_short el] at ha
          have ha2 := S2 _ _ ha
          rename_i t ht
          exact k _ _ (by fail "sm") ⟨_, a, rfl, upd_same, look_new ht ha2⟩
        | true =>
          fail "S"
          refine w_rLSpot (by fail "ga") ?_
          cases ef : spotOf s.pages (i + 1) with
          | none =>
            fail "S"
            have en : readRow s.cells s.pages i = .bad "lacks" := by unfold readRow; rw [e]; dsimp only; rw [eh]; dsimp only; rw [el, ef]; rfl
            rw [en] at k
            exact k _ _ (by fail "sm") ⟨_, rfl, by fail "hf"⟩
          | some f =>
            obtain ⟨f0, f1, _, _⟩ := spotOf_ok ok.pr ef
            dsimp only [optV]
            have en : readRow s.cells s.pages i = .row ⟨hd.w, hd.x, hd.y, gi s.cells f⟩ (i + 2) := by unfold readRow; rw [e]; dsimp only; rw [eh]; dsimp only; rw [el, ef]; rfl
            rw [en] at k
            fail "S"
            refine w_catN (by fail "hf") (by fail "sqt") (by have := args_len hd; rw [sizeLine_eq]; simp; omega) fun t H3 S3 h2 => ?_
            have h3 : H3 t = some (.tup (⟨hd.w, hd.x, hd.y, gi s.cells f⟩ : Row).vs) := by rw [h2, ← row_long el]; rfl
            fail "S"
            exact k _ _ (by fail "sm") ⟨_, _, rfl, by fail "hf", by fail "hf"⟩
end

/-! part P39law -/
def rLGoal (a b c : V) (H : Hp) (Q : VK) : Prop := ∃ (g : Addr) (G : GL) (s : S) (q : Addr) (r : Row) (bh : Int), a = .ref g ∧ b = .ref q ∧ c = .int bh ∧ GAt H g G s ∧ H q = some (.tup r.vs) ∧ r.Ok ∧ ∀ H', Same H H' → Q (.int (goalOf s r bh)) H'
theorem w_rLGoal {H : Hp} {Q : VK} {g q : Addr} {G : GL} {s : S} {r : Row} {bh : Int} (R : GAt H g G s) (hq : H q = some (.tup r.vs)) (ro : r.Ok) (k : ∀ H', Same H H' → Q (.int (goalOf s r bh)) H') : rLGoal (.ref g) (.ref q) (.int bh) H Q := ⟨g, G, s, q, r, bh, rfl, rfl, rfl, R, hq, ro, k⟩
def rLChange (a b c : V) (H : Hp) (Q : VK) : Prop := ∃ (g : Addr) (G : GL) (s : S) (q : Addr) (r : Row) (bh : Int), a = .ref g ∧ b = .ref q ∧ c = .int bh ∧ GAt H g G s ∧ s.Ok ∧ s.said.length ≤ 1000 ∧ H q = some (.tup r.vs) ∧ r.Ok ∧ goalPl s r = none ∧ ∀ H', GAt H' g G (changeS s r bh) → FrG G g H H' → Q .non H'
theorem w_rLChange {H : Hp} {Q : VK} {g q : Addr} {G : GL} {s : S} {r : Row} {bh : Int} (R : GAt H g G s) (ok : s.Ok) (hs : s.said.length ≤ 1000) (hq : H q = some (.tup r.vs)) (ro : r.Ok) (hg : goalPl s r = none) (k : ∀ H', GAt H' g G (changeS s r bh) → FrG G g H H' → Q .non H') : rLChange (.ref g) (.ref q) (.int bh) H Q := ⟨g, G, s, q, r, bh, rfl, rfl, rfl, R, ok, hs, hq, ro, hg, k⟩
def OneV (H : Hp) (s : S) (x : V) : Prop := match stepRow s with
  | none => x = .non
  | some r => ∃ q, x = .ref q ∧ H q = some (.tup r.vs)
def rOne (a : V) (H : Hp) (Q : VK) : Prop := ∃ (g : Addr) (G : GL) (s : S), a = .ref g ∧ GAt H g G s ∧ s.Ok ∧ s.said.length ≤ 1000 ∧ ∀ H' p x y, GAt H' g G (stepS s) → FrG G g H H' → H' p = some (.tup [x, y]) → OneV H' s x → Q (.ref p) H'
theorem goal_kind (x : W20) : (x = .jump ∨ x = .call) ∨ x = .zero ∨ x = .other ∨ x = .carry ∨ x = .back ∨ (inV (.str x.str) [.str "jump", .str "call"] = false ∧ ¬ x.str = "zero" ∧ ¬ x.str = "other" ∧ ¬ x.str = "carry" ∧ ¬ x.str = "back" ∧ ∀ (s : S) (a b n bh : Int), goalOf s ⟨x, a, b, n⟩ bh = bh) := by
  cases x
  all_goals first | exact .inl (.inl rfl) | exact .inl (.inr rfl) | exact .inr (.inl rfl) | exact .inr (.inr (.inl rfl)) | exact .inr (.inr (.inr (.inl rfl))) | exact .inr (.inr (.inr (.inr (.inl rfl)))) | exact .inr (.inr (.inr (.inr (.inr ⟨by decide +kernel, by decide +kernel, by decide +kernel, by decide +kernel, by decide +kernel, fun _ _ _ _ _ => rfl⟩))))
theorem GAt.updOut {H : Hp} {g x : Addr} {G : GL} {s : S} {o : HO} {kvs : List (Key × V)} (n : ¬ GIn G g x) (hx : H x = some (.dK kvs)) (R : GAt H g G s) : GAt (upd H x o) g G s :=
  R.keepIn (fun b u h i => by rw [upd_ne (fun e => n (by rw [← e]; exact i))]; exact h) (tup_upd hx (by intro xs z; cases z))
theorem zc_add {a b : Int} (ha : 0 ≤ a) (hb : 0 ≤ b) : zeroOf (some ("add", a, b)) = decide ((a + b) % 10000 = 0) ∧ carryOf (some ("add", a, b)) = decide (¬ a + b < 10000) := ⟨rfl, by
  show decide (a + b > 9999) = _
  exact decide_eq_decide.mpr (by omega)⟩
theorem zc_less {a b : Int} (ha : 0 ≤ a ∧ a ≤ 9999) (hb : 0 ≤ b ∧ b ≤ 9999) : zeroOf (some ("less", a, b)) = decide ((a - b) % 10000 = 0) ∧ carryOf (some ("less", a, b)) = decide (a < b) := ⟨by
  show decide (a = b) = _
  exact decide_eq_decide.mpr (by omega), rfl⟩
section
variable {P : Program} {w : World} {K : PySem.W.Frag} {mg : Str → Option Value} {base : Heap}
theorem ok_l_goal (T : Txt w K mg) : GDef P w K mg base "_law_goal" 1 [] (sp3 rLGoal) := by
  obtain ⟨f, fd, F, M⟩ := T.d_l_goal
  refine ⟨f, fd, _, _, F.ok sc_l_goal (fun vs H Q E h => ?_) (fun cdv A outer s0 H vs Q E hr h => ?_), M, F.kp, F.bindsN fun _ _ _ _ _ _ us hl => match us, hl with | [_, _, _], _ => rfl, .nil⟩
  · obtain ⟨_, _, _, rfl, _⟩ := h
    rfl
  · obtain ⟨_, _, _, rfl, g, G, s, q, r, bh, rfl, rfl, rfl, R, hq, ro, k⟩ := h
    refine ⟨_, (pss_cons (ps_set (i := 3) sc_l_goal.nd rfl (by first | exact .inl rfl | exact .inr rfl) (pe_ix ix_tup (pv 1) pe_int (fun _ _ => rfl)))
 (pss_cons (ps_set (i := 4) sc_l_goal.nd rfl (by first | exact .inl rfl | exact .inr rfl) (pe_or (pe_cmpR op_in_seq (pv 3) (pe_tup (pa_cons pe_str (pa_cons pe_str pa_nil))) (by with_unfolding_all rfl)) (pe_or (pe_and (pe_cmpR op_eq (pv 3) pe_str (nomark _)) (pe_one (pe_dget (u1 hr.units) (pv 0) pe_str (fun _ _ => rfl)))) (pe_one (pe_and (pe_cmpR op_eq (pv 3) pe_str (nomark _)) (pe_one (pe_not (pe_dget (u1 hr.units) (pv 0) pe_str (fun _ _ => rfl)))))))))
 (pss_cons (ps_if (PW.pt (pw_or (pt_val (pv 4)) (pw_or1 (PW.pt (pw_and (pt_cmpR op_eq (pv 3) pe_str (nomark _)) (pw_and1 (pt_val (pe_dget (u1 hr.units) (pv 0) pe_str (fun _ _ => rfl)))))))))
 (pss_one (ps_ret (pe_ix ix_tup (pv 1) pe_int (fun _ _ => rfl))))
 pss_nil)
 (pss_one (ps_ret (pe_ifExp (pt_cmpR op_eq (pv 3) pe_str (nomark _)) (pe_ix ix_list (pe_dget (u1 hr.units) (pv 0) pe_str (fun _ _ => rfl)) (pe_ix ix_tup (pv 1) pe_int (fun _ _ => rfl)) (fun _ _ => rfl)) (pv 2))))))), ?_⟩
    rw [show start N_l_goal [V.ref g, V.ref q, V.int bh] = [some (V.ref g), some (V.ref q), some (V.int bh), none, none] from rfl]; try simp only [cxK, cxW]
    have hx0 := ro.x0
    have hx4 := ro.x4
    obtain ⟨wd, x, y, n⟩ := r
    rcases goal_kind wd with (rfl | rfl) | rfl | rfl | rfl | rfl | ⟨e1, e2, e3, e4, e5, e6⟩
    · dsimp only [Row.vs, Row.args, Row.tail, W20.str, W20.digits, W20.long] at hq hx0 hx4
      fail "S"
      exact k _ (by fail "sm")
    · dsimp only [Row.vs, Row.args, Row.tail, W20.str, W20.digits, W20.long] at hq hx0 hx4
      fail "S"
      exact k _ (by fail "sm")
    · dsimp only [Row.vs, Row.args, Row.tail, W20.str, W20.digits, W20.long] at hq hx0 hx4
      fail "S"
      cases hz : zeroOf s.sum with
      | true =>
        fail "S"
        rw [show goalOf s ⟨.zero, x, y, n⟩ bh = n from if_pos hz] at k
        exact k _ (by fail "sm")
      | false =>
        fail "S"
        rw [show goalOf s ⟨.zero, x, y, n⟩ bh = bh from if_neg (by rw [hz]; decide)] at k
        exact k _ (by fail "sm")
    · dsimp only [Row.vs, Row.args, Row.tail, W20.str, W20.digits, W20.long] at hq hx0 hx4
      fail "S"
      cases hz : zeroOf s.sum with
      | true =>
        fail "S"
        rw [show goalOf s ⟨.other, x, y, n⟩ bh = bh from if_pos hz] at k
        exact k _ (by fail "sm")
      | false =>
        fail "S"
        rw [show goalOf s ⟨.other, x, y, n⟩ bh = n from if_neg (by rw [hz]; decide)] at k
        exact k _ (by fail "sm")
    · dsimp only [Row.vs, Row.args, Row.tail, W20.str, W20.digits, W20.long] at hq hx0 hx4
      fail "S"
      cases hz : carryOf s.sum with
      | true =>
        fail "S"
        rw [show goalOf s ⟨.carry, x, y, n⟩ bh = n from if_pos hz] at k
        exact k _ (by fail "sm")
      | false =>
        fail "S"
        rw [show goalOf s ⟨.carry, x, y, n⟩ bh = bh from if_neg (by rw [hz]; decide)] at k
        exact k _ (by fail "sm")
    · dsimp only [Row.vs, Row.args, Row.tail, W20.str, W20.digits, W20.long] at hq hx0 hx4
      fail "S"
      exact k _ (by fail "sm")
    · fail "S"
      refine w_ixT (SqT.of' hq) (row0 ⟨wd, x, y, n⟩) ?_
      dsimp only
      fail "S"
      refine w_inT_F (SqT.of' upd_same) rfl rfl e1 ?_
      fail "S"
      rw [e6] at k
      exact k _ (by fail "sm")
theorem ok_l_change (T : Txt w K mg) : GDef P w K mg base "_law_change" 1 [] (sp3 rLChange) := by
  obtain ⟨f, fd, F, M⟩ := T.d_l_change
  refine ⟨f, fd, _, _, F.ok sc_l_change (fun vs H Q E h => ?_) (fun cdv A outer s0 H vs Q E hr h => ?_), M, F.kp, F.bindsN fun _ _ _ _ _ _ us hl => match us, hl with | [_, _, _], _ => rfl, .nil⟩
  · obtain ⟨_, _, _, rfl, _⟩ := h
    rfl
  · obtain ⟨_, _, _, rfl, g, G, s, q, r, bh, rfl, rfl, rfl, R, ok, hsd, hq, ro, hg, k⟩ := h
    refine ⟨_, (pss_cons (ps_par (i := 3) (j := 4) rfl sc_l_change.nd rfl rfl (by decide) rfl rfl (pa_cons (pe_ix ix_tup (pv 1) pe_int (fun _ _ => rfl)) (pa_cons (pe_dget (u1 hr.units) (pv 0) pe_str (fun _ _ => rfl)) pa_nil)) (by rfl))
 (pss_one (ps_if (pt_cmpR op_in_seq (pv 3) (pe_tup (pa_cons pe_str (pa_cons pe_str pa_nil))) (by with_unfolding_all rfl))
 (pss_cons (ps_par (i := 5) (j := 6) rfl sc_l_change.nd rfl rfl (by decide) rfl rfl (pa_cons (pe_ix ix_list (pv 4) (pe_ix ix_tup (pv 1) pe_int (fun _ _ => rfl)) (fun _ _ => rfl)) (pa_cons (pe_ix ix_list (pv 4) (pe_ix ix_tup (pv 1) pe_int (fun _ _ => rfl)) (fun _ _ => rfl)) pa_nil)) (by rfl))
 (pss_cons (ps_set (i := 7) sc_l_change.nd rfl (by first | exact .inl rfl | exact .inr rfl) (pe_ifExp (pt_cmpR op_eq (pv 3) pe_str (nomark _)) (pe_op op_add (pv 5) (pv 6)) (pe_op op_sub (pv 5) (pv 6))))
 (pss_cons (ps_asg (pe_op op_mod (pv 7) pe_int) (pg_sub (pv 4) (pe_ix ix_tup (pv 1) pe_int (fun _ _ => rfl)) set_list))
 (pss_one (ps_expr (e_dupd (pv 0) (pe_disp (pps_cons pe_str (pe_cmpR op_eq (pe_op op_mod (pv 7) pe_int) pe_int (nomark _)) (pps_cons pe_str (pe_not (pe_chain op_le op_lt pe_int (pv 7) pe_int)) pps_nil)) (by rfl) (by rfl) (fun z => by cases z) (by decide))))))))
 (pss_one (ps_if (pt_cmpR op_eq (pv 3) pe_str (nomark _))
 (pss_one (ps_asg (pe_ix ix_list (pv 4) (pe_ix ix_tup (pv 1) pe_int (fun _ _ => rfl)) (fun _ _ => rfl)) (pg_sub (pv 4) (pe_ix ix_tup (pv 1) pe_int (fun _ _ => rfl)) set_list)))
 (pss_one (ps_if (pt_cmpR op_eq (pv 3) pe_str (nomark _))
 (pss_one (ps_asg (pe_ix ix_tup (pv 1) pe_int (fun _ _ => rfl)) (pg_sub (pv 4) (pe_ix ix_tup (pv 1) pe_int (fun _ _ => rfl)) set_list)))
 (pss_one (ps_if (pt_cmpR op_in_seq (pv 3) (pe_tup (pa_cons pe_str (pa_cons pe_str pa_nil))) (by with_unfolding_all rfl))
 (pss_one (ps_asg (pe_tup (pa_cons (pe_ix ix_tup (pv 1) pe_int (fun _ _ => rfl)) (pa_cons (pe_cmpR op_eq (pv 3) pe_str (nomark _)) pa_nil))) (pg_sub (pe_dget (u1 hr.units) (pv 0) pe_str (fun _ _ => rfl)) (pe_ix ix_tup (pv 1) pe_int (fun _ _ => rfl)) set_list)))
 (pss_one (ps_if (pt_cmpR op_eq (pv 3) pe_str (nomark _))
 (pss_one (ps_asg pe_non (pg_sub (pe_dget (u1 hr.units) (pv 0) pe_str (fun _ _ => rfl)) (pe_ix ix_tup (pv 1) pe_int (fun _ _ => rfl)) set_list)))
 (pss_one (ps_if (pt_cmpR op_eq (pv 3) pe_str (nomark _))
 (pss_one (ps_asg (pv 2) (pg_sub (pv 4) pe_int set_list)))
 (pss_one (ps_if (pt_cmpR op_eq (pv 3) pe_str (nomark _))
 (pss_one (ps_expr (pe_bm PySem.F.plainAttrs_list PySem.F.slot_list_append PySem.F.type_list_append mt_append (pe_dget (u1 hr.units) (pv 0) pe_str (fun _ _ => rfl)) (pa_cons (pe_ix ix_list (pv 4) (pe_ix ix_tup (pv 1) pe_int (fun _ _ => rfl)) (fun _ _ => rfl)) pa_nil))))
 (pss_one (ps_if (pt_cmpR op_eq (pv 3) pe_str (nomark _))
 (pss_one (ps_dput (u1 hr.units) (pv 0) pe_str (pe_ix ix_tup (pv 1) pe_int (fun _ _ => rfl)) rfl))
 (pss_one (ps_dput (u1 hr.units) (pv 0) pe_str (pe_ifExp (pt_cmpR op_eq (pv 3) pe_str (nomark _)) pe_str (pe_dget (u1 hr.units) (pv 0) pe_str (fun _ _ => rfl))) rfl))))))))))))))))))), ?_⟩
    rw [show start N_l_change [V.ref g, V.ref q, V.int bh] = [some (V.ref g), some (V.ref q), some (V.int bh), none, none, none, none, none] from rfl]; try simp only [cxK, cxW]
    have hx0 := ro.x0
    have hx4 := ro.x4
    have hy0 := ro.y0
    have hy1 := ro.y1
    obtain ⟨wd, x, y, n⟩ := r
    cases wd
    case load => cases hg
    case store => cases hg
    case fetch => cases hg
    case send => cases hg
    all_goals dsimp only [Row.vs, Row.args, Row.tail, W20.str, W20.digits, W20.long, W20.b2, List.map, List.append, List.cons_append, List.nil_append] at hq hx0 hx4 hy0 hy1
    all_goals fail "S"
    all_goals try exact k _ (by assumption) (by fail "fg")
    · have ha := ok.held_at hx0 hx4
      have hb := ok.held_at hy0 hy1
      rename_i H5 R5 F5 g2 hg2
      refine kC_y (by omega) ?_
      fail "S"
      refine kNV_d ?_
      fail "S"
      refine w_kDisp [(.inr "zero", .bl (decide ((gi s.held x + gi s.held y) % 10000 = 0))), (.inr "carry", .bl (decide (¬ gi s.held x + gi s.held y < 10000)))] upd_same rfl (Nat.le_of_ble_eq_true rfl) ?_
      refine p_gup (s' := changeS s ⟨.add, x, y, n⟩ bh) (GAt.updOut (R5.nNew hg2) upd_same (R5.new hg2)) upd_same (ne_of_none R5.ob hg2) (Nat.le_of_ble_eq_true rfl) ?_ rfl rfl rfl rfl fun H6 R6 F6 => ?_
      · obtain ⟨e1, e2⟩ := zc_add ha.1 hb.1
        unfold gFs
        dsimp only [changeS]
        rw [e1, e2]
        rfl
      · refine k _ R6 ?_
        have F7 : FrG G g H5 H6 := fun b o h i => F6 _ _ (by rw [upd_ne (ne_of_none h hg2), upd_ne (ne_of_none h hg2)]; exact h) i
        exact FrG.snoc F7 (by fail "fg")
    · have ha := ok.held_at hx0 hx4
      have hb := ok.held_at hy0 hy1
      rename_i H5 R5 F5 g2 hg2
      have fin : ∀ c, c = decide (gi s.held x < gi s.held y) → kDisp g2 (kUpdD g fun x H1 => Q V.non H1) [(V.str (Str.ofString "zero"), V.bl (decide ((gi s.held x - gi s.held y) % 10000 = 0))), (V.str (Str.ofString "carry"), V.bl c)] (upd H5 g2 (.dK [])) := fun c hc => by
        subst hc
        refine w_kDisp [(.inr "zero", .bl (decide ((gi s.held x - gi s.held y) % 10000 = 0))), (.inr "carry", .bl (decide (gi s.held x < gi s.held y)))] upd_same rfl (Nat.le_of_ble_eq_true rfl) ?_
        refine p_gup (s' := changeS s ⟨.less, x, y, n⟩ bh) (GAt.updOut (R5.nNew hg2) upd_same (R5.new hg2)) upd_same (ne_of_none R5.ob hg2) (Nat.le_of_ble_eq_true rfl) ?_ rfl rfl rfl rfl fun H6 R6 F6 => ?_
        · obtain ⟨e1, e2⟩ := zc_less ha hb
          unfold gFs
          dsimp only [changeS]
          rw [e1, e2]
          rfl
        · refine k _ R6 ?_
          have F7 : FrG G g H5 H6 := fun b o h i => F6 _ _ (by rw [upd_ne (ne_of_none h hg2), upd_ne (ne_of_none h hg2)]; exact h) i
          exact FrG.snoc F7 (by fail "fg")
      by_cases h0 : 0 ≤ gi s.held x - gi s.held y
      · refine kC_y h0 ?_
        fail "S"
        refine kNV_d ?_
        fail "S"
        exact fin _ (decide_eq_decide.mpr (by omega))
      · refine kC_n h0 ?_
        fail "S"
        exact fin _ (decide_eq_true (by omega)).symm
    · refine w_kBM (SqL.of' (GAt.sd (by fail "ga"))) ?_
      fail "S"
      exact p_gsd (by fail "ga") hsd fun H' R' F' => k _ R' (FrG.snoc F' (by fail "fg"))
    · exact p_gpg (o := some (y, true)) (by fail "ga") ⟨_, rfl, upd_same⟩ hx0 hx4 fun H' R' F' => k _ R' (FrG.snoc F' (by fail "fg"))
    · exact p_gpg (o := some (y, false)) (by fail "ga") ⟨_, rfl, upd_same⟩ hx0 hx4 fun H' R' F' => k _ R' (FrG.snoc F' (by fail "fg"))
    · exact p_gpg (o := none) (by fail "ga") rfl hx0 hx4 fun H' R' F' => k _ R' (FrG.snoc F' (by fail "fg"))
end

/-! part P40law -/
theorem in_mem (x : W20) : inV (.str x.str) [.str "load", .str "store", .str "fetch", .str "send"] = (x.byN || x.byR) := by cases x <;> decide +kernel
theorem in_wr (x : W20) : inV (.str x.str) [.str "store", .str "send"] = x.writes := by cases x <;> decide +kernel
theorem in_rd (x : W20) : inV (.str x.str) [.str "load", .str "fetch"] = x.reads := by cases x <;> decide +kernel
theorem rw1 {r : Row} (h : r.w.writes = true ∨ r.w.reads = true) : atI r.vs (1 : Int) = some (.int r.x) := by
  obtain ⟨wd, x, y, n⟩ := r
  cases wd
  all_goals first | exact atI_nat (j := 1) rfl | (exfalso; rcases h with h | h <;> cases h)
theorem mem_of {r : Row} (h : r.w.writes = true ∨ r.w.reads = true) : (r.w.byN || r.w.byR) = true ∧ r.w ≠ .stop := by
  obtain ⟨wd, x, y, n⟩ := r
  cases wd
  all_goals first | exact ⟨rfl, fun z => by cases z⟩ | (exfalso; rcases h with h | h <;> cases h)
theorem goalPl_some {s : S} {r : Row} (h : (r.w.byN || r.w.byR) = true) : ∃ p, goalPl s r = some p := by
  unfold goalPl
  cases e : r.w.byN with
  | true => exact ⟨_, if_pos rfl⟩
  | false =>
    rw [e] at h
    have h : r.w.byR = true := h
    rw [if_neg Bool.false_ne_true, if_pos h]
    exact ⟨_, rfl⟩
theorem goalPl_no {s : S} {r : Row} (h : (r.w.byN || r.w.byR) = false) : goalPl s r = none := by
  unfold goalPl
  cases e : r.w.byN with
  | true => rw [e] at h; cases h
  | false =>
    rw [e] at h
    have h : r.w.byR = false := h
    rw [if_neg Bool.false_ne_true, h, if_neg Bool.false_ne_true]
theorem reach_of_mem {s : S} {r : Row} (h : (r.w.byN || r.w.byR) = true) (hf : doFault s r = none) : ∃ c pg, reachOf s r = .at_ c r.w.writes pg := by
  obtain ⟨p, hp⟩ := goalPl_some (s := s) h
  cases e : spotOf s.pages p with
  | none => unfold doFault at hf; rw [reach_lacks hp e] at hf; cases hf
  | some c => exact ⟨c, p / 16, reach_at hp e⟩
theorem nomem {r : Row} (h : r.w.writes = false) (g : r.w.reads = false) : (r.w.byN || r.w.byR) = false := by
  obtain ⟨wd, x, y, n⟩ := r
  cases wd <;> first | rfl | (cases g; done) | (cases h; done)
theorem changeS_pm (s : S) (r : Row) (b i j : Int) : changeS { s with place := i, many := j } r b = { changeS s r b with place := i, many := j } := by
  obtain ⟨wd, x, y, n⟩ := r
  cases wd <;> rfl
section
variable {K : PySem.W.Frag} {H : Hp} {g q : Addr} {G : GL} {s : S} {r : Row} {bh : Int} {sv : V} {o2 o3 o4 o5 o7 : Option V} {n b d : St' → Hp → Prop} {rt : VK} {kd : Str}
theorem pm_ok {s : S} (ok : s.Ok) {r : Row} (ro : r.Ok) {b : Int} (hb : 0 ≤ b ∧ b ≤ 9999) : ({ s with place := goalOf s r b, many := s.many + 1 } : S).Ok := by
  have hg := goalOf_ok ok ro hb
  obtain ⟨cl, cr, pl, pr, hl, hr, p0, po, sm, sd⟩ := ok
  exact ⟨cl, cr, pl, pr, hl, hr, hg, po, sm, by dsimp only; omega⟩
theorem t_gdone (R : GAt H g G s) (ok : s.Ok) (hsd : s.said.length ≤ 1000) (hq : H q = some (.tup r.vs)) (ro : r.Ok) (hb : 0 ≤ bh ∧ bh ≤ 9999) (hf : doFault s r = none) (hsv : ∀ c wr pg, reachOf s r = .at_ c wr pg → sv = .int c)
    (k : ∀ H' p y, GAt H' g G (doneS s r s.place bh) → FrG G g H H' → H' p = some (.tup [.ref q, y]) → H' q = some (.tup r.vs) → rt (.ref p) H') :
    tSeq (tDrop (tDUpd (tVar 0) (tDisp [(tC (V.str "place"), tCall (sp3 rLGoal) [] E0 (tCons (tVar 0) (tCons (tVar 2) (tCons (tVar 3) tNil)))), (tC (V.str "many"), tOp (rI0 fun i j => V.int (i + j)) (tDGet (tVar 0) (tC (V.str "many"))) (tC (V.int 1)))])))
      (tSeq (tIfS (tTest (tOp (rIn K false) (tOp (rIxT K) (tVar 2) (tC (V.int 0))) (tTup (tCons (tC (V.str "store")) (tCons (tC (V.str "send")) tNil)))))
          (tSeq (tAsg (tOp (rIxL K) (tVar 6) (tOp (rIxT K) (tVar 2) (tC (V.int 1)))) (gSub (tDGet (tVar 0) (tC (V.str "cells"))) (tVar 5) rSetL)) (tRet (tTup (tCons (tVar 2) (tCons (tVar 5) tNil))))) tNext)
        (tSeq (tIfS (tTest (tOp (rIn K false) (tOp (rIxT K) (tVar 2) (tC (V.int 0))) (tTup (tCons (tC (V.str "load")) (tCons (tC (V.str "fetch")) tNil)))))
            (tAsg (tOp (rIxL K) (tDGet (tVar 0) (tC (V.str "cells"))) (tVar 5)) (gSub (tVar 6) (tOp (rIxT K) (tVar 2) (tC (V.int 1))) rSetL))
            (tDrop (tCall (sp3 rLChange) [] E0 (tCons (tVar 0) (tCons (tVar 2) (tCons (tVar 3) tNil))))))
          (tSeq (tIfS (tTest (tOp rEq (tOp (rIxT K) (tVar 2) (tC (V.int 0))) (tC (V.str "stop")))) (sDPut (tVar 0) (tC (V.str "place")) (tVar 1)) tNext)
            (tRet (tTup (tCons (tVar 2) (tCons (tC V.non) tNil))))))) ⟨n, rt, b, d⟩ [some (.ref g), some (.int s.place), some (.ref q), some (.int bh), o4, some sv, some (.ref G.hd), o7] H := by
  have hx0 := ro.x0
  have hx4 := ro.x4
  fail "S"
  rename_i g2 hg2
  refine w_rLGoal (by fail "ga") (by fail "hf") ro fun H1 S1 => ?_
  fail "S"
  have R1 : GAt H1 g G s := by fail "ga"
  have e2 : H1 g2 = some (.dK []) := by fail "hf"
  have hq1 : H1 q = some (.tup r.vs) := by fail "hf"
  have F1 : FrG G g H H1 := by fail "fg"
  refine w_kDisp [(.inr "place", .int (goalOf s r bh)), (.inr "many", .int (s.many + 1))] e2 rfl (Nat.le_of_ble_eq_true rfl) ?_
  refine p_gup (s' := { s with place := goalOf s r bh, many := s.many + 1 }) (GAt.updOut (fun z => R.nNew hg2 z) e2 R1) upd_same (ne_of_none R.ob hg2) (Nat.le_of_ble_eq_true rfl) rfl rfl rfl rfl rfl fun H2 R2 F2' => ?_
  have F2 : FrG G g H H2 := fun b o h i => F2' _ _ (by rw [upd_ne (ne_of_none h hg2)]; exact F1 _ _ h i) i
  have hq2 : H2 q = some (.tup r.vs) := F2 _ _ hq (R.nTup hq)
  fail "S"
  refine w_ixT (SqT.of' hq2) (row0 r) ?_
  fail "S"
  rename_i t1 ht1
  have hq3 := look_new (x := .tup [.str "store", .str "send"]) ht1 hq2
  have R3 := GAt.new (o := .tup [.str "store", .str "send"]) ht1 R2
  cases hw : r.w.writes with
  | true =>
    refine w_inT_T (SqT.of' upd_same) rfl rfl (by rw [in_wr]; exact hw) ?_
    obtain ⟨hm, hns⟩ := mem_of (.inl hw)
    obtain ⟨c, pg, er⟩ := reach_of_mem hm hf
    rw [hw] at er
    obtain rfl := hsv _ _ _ er
    obtain ⟨c0, c1⟩ := reach_spot ok er
    have ed : doneS s r s.place bh = { s with cells := s.cells.set c.toNat (gi s.held r.x), place := goalOf s r bh, many := s.many + 1 } := by
      unfold doneS effS
      rw [er]
      dsimp only
      rw [if_neg hns]
    rw [ed] at k
    fail "S"
    refine w_ixT (SqT.of' hq3) (rw1 (.inl hw)) ?_
    fail "S"
    rename_i H4 R4 F4 t4 ht4
    have F5 : FrG G g H H4 := FrG.snoc F4 (FrG.snocN ht1 F2)
    exact k _ _ _ (by fail "ga") (by fail "fg") upd_same (look_new ht4 (F5 _ _ hq (R.nTup hq)))
  | false =>
    refine w_inT_F (SqT.of' upd_same) rfl rfl (by rw [in_wr]; exact hw) ?_
    fail "S"
    refine w_ixT (SqT.of' hq3) (row0 r) ?_
    fail "S"
    rename_i t2 ht2
    have hq4 := look_new (x := .tup [.str "load", .str "fetch"]) ht2 hq3
    have R4 := GAt.new (o := .tup [.str "load", .str "fetch"]) ht2 R3
    cases hrd : r.w.reads with
    | true =>
      refine w_inT_T (SqT.of' upd_same) rfl rfl (by rw [in_rd]; exact hrd) ?_
      obtain ⟨hm, hns⟩ := mem_of (.inr hrd)
      obtain ⟨c, pg, er⟩ := reach_of_mem hm hf
      rw [hw] at er
      obtain rfl := hsv _ _ _ er
      obtain ⟨c0, c1⟩ := reach_spot ok er
      have ed : doneS s r s.place bh = { s with held := s.held.set r.x.toNat (gi s.cells c), place := goalOf s r bh, many := s.many + 1 } := by
        unfold doneS effS
        rw [er]
        dsimp only
        rw [if_neg hns]
      rw [ed] at k
      fail "S"
      refine w_ixT (SqT.of' hq4) (rw1 (.inr hrd)) ?_
      fail "S"
      rename_i H5 R5 F5
      have hq5 : H5 q = some (.tup r.vs) := F5 _ _ hq4 (R4.nTup hq4)
      refine w_ixT (SqT.of' hq5) (row0 r) ?_
      fail "S"
      refine kI_n (fun z => hns (str_stop z)) ?_
      fail "S"
      rename_i t5 ht5
      exact k _ _ _ (by fail "ga") (by fail "fg") upd_same (look_new ht5 hq5)
    | false =>
      refine w_inT_F (SqT.of' upd_same) rfl rfl (by rw [in_rd]; exact hrd) ?_
      have hm := nomem hw hrd
      have er : reachOf s r = .none := by unfold reachOf; rw [goalPl_no hm]
      have ed : doneS s r s.place bh = { changeS s r bh with place := if r.w = .stop then s.place else goalOf s r bh, many := s.many + 1 } := by
        unfold doneS effS
        rw [er]
      rw [ed] at k
      fail "S"
      refine w_rLChange R4 (pm_ok ok ro hb) hsd hq4 ro (goalPl_no hm) fun H5 R5 F5 => ?_
      rw [changeS_pm] at R5
      have hq5 : H5 q = some (.tup r.vs) := F5 _ _ hq4 (R4.nTup hq4)
      fail "S"
      refine w_ixT (SqT.of' hq5) (row0 r) ?_
      fail "S"
      by_cases hs : r.w = .stop
      · rw [if_pos hs] at k
        refine kI_y (by rw [hs]; rfl) ?_
        fail "S"
        rename_i H6 R6 F6 t6 ht6
        exact k _ _ _ (by fail "ga") (by fail "fg") upd_same (look_new ht6 (F6 _ _ hq5 (R5.nTup hq5)))
      · rw [if_neg hs] at k
        refine kI_n (fun z => hs (str_stop z)) ?_
        fail "S"
        rename_i t6 ht6
        exact k _ _ _ (by fail "ga") (by fail "fg") upd_same (look_new ht6 hq5)
end

/-! part P41law -/
section
variable {K : PySem.W.Frag} {H : Hp} {g : Addr} {G : GL} {s : S} {o2 o3 o5 o7 : Option V} {n b d : St' → Hp → Prop} {rt : VK} {kd : Str}
theorem kind_at {kd : Str} (hk : kd = "lacks" ∨ kd = "kept" ∨ kd = "row") : valV (mergeK [] [((.inr "lacks" : Key), V.int 1), (.inr "kept", V.int 2), (.inr "row", V.int 3)]) (.inr kd) = some (.int (kindN kd)) := by
  rcases hk with rfl | rfl | rfl <;> rfl
theorem t_gfault (R : GAt H g G s) (hk : kd = "lacks" ∨ kd = "kept" ∨ kd = "row")
    (k : ∀ H' p, GAt H' g G (faultS s kd s.place) → FrG G g H H' → H' p = some (.tup [.non, .non]) → rt (.ref p) H') :
    tSeq (tIfS (tTest (tOp rIsN (tDGet (tVar 0) (tC (V.str "post"))) (tC V.non)))
        (tSeq (sDPut (tVar 0) (tC (V.str "why")) (tVar 4)) (tRet (tTup (tCons (tC V.non) (tCons (tC V.non) tNil))))) tNext)
      (tSeq (tAsg (tTup (tCons (tDGet (tDisp [(tC (V.str "lacks"), tC (V.int 1)), (tC (V.str "kept"), tC (V.int 2)), (tC (V.str "row"), tC (V.int 3))]) (tVar 4)) (tCons (tVar 1) tNil)))
          (gTup K 2 (gCons (gSub (tVar 6) (tC (V.int 0)) rSetL) (gCons (gSub (tVar 6) (tC (V.int 1)) rSetL) gNil))))
        (tSeq (tDrop (tDUpd (tVar 0) (tDisp [(tC (V.str "place"), tDGet (tVar 0) (tC (V.str "post"))), (tC (V.str "post"), tC V.non), (tC (V.str "many"), tOp (rI0 fun i j => V.int (i + j)) (tDGet (tVar 0) (tC (V.str "many"))) (tC (V.int 1)))])))
          (tRet (tTup (tCons (tC V.non) (tCons (tC V.non) tNil)))))) ⟨n, rt, b, d⟩ [some (.ref g), some (.int s.place), o2, o3, some (.str kd), o5, some (.ref G.hd), o7] H := by
  fail "S"
  cases e : s.post with
  | none =>
    fail "S"
    rename_i H1 R1 F1 t ht
    have ef : faultS s kd s.place = { s with why := kd } := by
      unfold faultS
      rw [e]
    rw [ef] at k
    exact k _ _ (by fail "ga") (by fail "fg") upd_same
  | some gd =>
    have ef : faultS s kd s.place = { s with held := (s.held.set 0 (kindN kd)).set 1 s.place, place := gd, post := none, many := s.many + 1 } := by
      unfold faultS
      rw [e]
    rw [ef] at k
    have ep : optV s.post = .int gd := by rw [e]; rfl
    fail "S"
    rename_i g3 hg3
    refine w_kDisp [(.inr "lacks", .int 1), (.inr "kept", .int 2), (.inr "row", .int 3)] upd_same rfl (Nat.le_of_ble_eq_true rfl) ?_
    have g3e : upd (upd H g3 (.dK [])) g3 (.dK (mergeK [] [(.inr "lacks", .int 1), (.inr "kept", .int 2), (.inr "row", .int 3)])) g3 = some (.dK (mergeK [] [(.inr "lacks", .int 1), (.inr "kept", .int 2), (.inr "row", .int 3)])) := upd_same
    have R3 : GAt (upd (upd H g3 (.dK [])) g3 (.dK (mergeK [] [(.inr "lacks", .int 1), (.inr "kept", .int 2), (.inr "row", .int 3)]))) g G s := GAt.updOut (R.nNew hg3) upd_same (R.new hg3)
    have S3 : Same H (upd (upd H g3 (.dK [])) g3 (.dK (mergeK [] [(.inr "lacks", .int 1), (.inr "kept", .int 2), (.inr "row", .int 3)]))) := fun b o h => by rw [upd_ne (ne_of_none h hg3), upd_ne (ne_of_none h hg3)]; exact h
    generalize upd (upd H g3 (.dK [])) g3 (.dK (mergeK [] [(.inr "lacks", .int 1), (.inr "kept", .int 2), (.inr "row", .int 3)])) = H3 at g3e R3 S3 ⊢
    fail "S"
    refine w_dgK (k := .inr kd) g3e rfl (kind_at hk) ?_
    fail "S"
    rename_i t ht H4 R4 F4 H5 R5 F5 g4 hg4
    refine w_kDisp [(.inr "place", optV s.post), (.inr "post", .non), (.inr "many", .int (s.many + 1))] upd_same rfl (Nat.le_of_ble_eq_true rfl) ?_
    refine p_gup (s' := { s with held := (s.held.set 0 (kindN kd)).set 1 s.place, place := gd, post := none, many := s.many + 1 }) (GAt.updOut (R5.nNew hg4) upd_same (R5.new hg4)) upd_same (ne_of_none R5.ob hg4) (Nat.le_of_ble_eq_true rfl) (by rw [ep]; rfl) rfl rfl rfl rfl fun H6 R6 F6 => ?_
    have F56 : FrG G g H5 H6 := fun b o h i => F6 _ _ (by rw [upd_ne (ne_of_none h hg4), upd_ne (ne_of_none h hg4)]; exact h) i
    have F06 : FrG G g H H6 := FrG.snoc F56 (FrG.snoc F5 (FrG.snoc F4 (FrG.snocN ht (FrG.snocS S3 FrG.refl))))
    fail "S"
    exact k _ _ (by fail "ga") (by fail "fg") upd_same
end
section
variable {P : Program} {w : World} {K : PySem.W.Frag} {mg : Str → Option Value} {base : Heap}
theorem gl_k {s : S} {r : Row} {p : Int} (h : goalPl s r = some p) (e : spotOf s.pages p = none) : doFault s r = some ("lacks" : Str) := by unfold doFault; rw [reach_lacks h e]
theorem gk_k {s : S} {r : Row} {p c f : Int} {o : Bool} (h : goalPl s r = some p) (e : spotOf s.pages p = some c) (hw : r.w.writes = true) (hp : pgOf s.pages (p / 16) = some (f, o)) : doFault s r = if o = true then none else some ("kept" : Str) := by
  unfold doFault
  rw [reach_at h e, hw]
  dsimp only
  unfold openPg
  rw [hp]
theorem gr_k {s : S} {r : Row} {p c : Int} (h : goalPl s r = some p) (e : spotOf s.pages p = some c) (hw : r.w.writes = false) : doFault s r = none := by
  unfold doFault
  rw [reach_at h e, hw]
theorem gn_k {s : S} {r : Row} (h : goalPl s r = none) : doFault s r = none ∧ ∀ c wr pg, reachOf s r ≠ .at_ c wr pg := by
  have er : reachOf s r = .none := by unfold reachOf; rw [h]
  exact ⟨by unfold doFault; rw [er], fun c wr pg z => by rw [er] at z; cases z⟩
theorem stepS_bad {s : S} {kd : Str} (e : readRow s.cells s.pages s.place = .bad kd) : stepS s = faultS s kd s.place ∧ stepRow s = none := by
  unfold stepS stepRow
  rw [e]
  exact ⟨rfl, rfl⟩
theorem stepS_flt {s : S} {kd : Str} {r : Row} {bh : Int} (e : readRow s.cells s.pages s.place = .row r bh) (h : doFault s r = some kd) : stepS s = faultS s kd s.place ∧ stepRow s = none := by
  unfold stepS stepRow
  rw [e]
  dsimp only
  unfold doS
  rw [h]
  exact ⟨rfl, rfl⟩
theorem stepS_don {s : S} {r : Row} {bh : Int} (e : readRow s.cells s.pages s.place = .row r bh) (h : doFault s r = none) : stepS s = doneS s r s.place bh ∧ stepRow s = some r := by
  unfold stepS stepRow
  rw [e]
  dsimp only
  unfold doS
  rw [h]
  exact ⟨rfl, rfl⟩
theorem OneV.no {H : Hp} {s : S} (h : stepRow s = none) : OneV H s .non := by unfold OneV; rw [h]
theorem OneV.yes {H : Hp} {s : S} {r : Row} {q : Addr} (h : stepRow s = some r) (hq : H q = some (.tup r.vs)) : OneV H s (.ref q) := by unfold OneV; rw [h]; exact ⟨q, rfl, hq⟩
theorem bad_ne {kd : Str} (hk : kd = "lacks" ∨ kd = "kept" ∨ kd = "row") : ¬ kd = "" := by rcases hk with rfl | rfl | rfl <;> decide +kernel
theorem t_mem {H : Hp} {g q : Addr} {G : GL} {s : S} {r : Row} {bh pl0 : Int} {o4 o5 o7 : Option V} {n b d : St' → Hp → Prop} {rt : VK} (R : GAt H g G s) (ok : s.Ok) (hq : H q = some (.tup r.vs)) (ro : r.Ok) (hm : (r.w.byN || r.w.byR) = true)
    (k1 : ∀ (kd : Str) H' o5 o7, (kd = "lacks" ∨ kd = "kept" ∨ kd = "row") → doFault s r = some kd → Same H H' → n [some (.ref g), some (.int pl0), some (.ref q), some (.int bh), some (.str kd), o5, some (.ref G.hd), o7] H')
    (k2 : ∀ H' c o7, doFault s r = none → (∀ c' wr pg, reachOf s r = .at_ c' wr pg → V.int c = V.int c') → Same H H' → n [some (.ref g), some (.int pl0), some (.ref q), some (.int bh), some (.str ""), some (.int c), some (.ref G.hd), o7] H') :
    tSeq (tAsg (tIf (tTest (tOp (rIn K false) (tOp (rIxT K) (tVar 2) (tC (V.int 0))) (tTup (tCons (tC (V.str "load")) (tCons (tC (V.str "store")) tNil))))) (tOp (rIxT K) (tVar 2) (tC (V.int 2))) (tOp (rIxL K) (tVar 6) (tOp (rIxT K) (tVar 2) (tC (V.int 2))))) (gName 7))
      (tSeq (tAsg (tCall (sp2 rLSpot) [] E0 (tCons (tVar 0) (tCons (tVar 7) tNil))) (gName 5))
        (tSeq (tAsg (tIf (tTest (tOp rIsN (tVar 5) (tC V.non))) (tC (V.str "lacks")) (tC (V.str ""))) (gName 4))
          (tIfS (tAnd (tTest (tOp rEq (tVar 4) (tC (V.str "")))) (tAnd (tTest (tOp (rIn K false) (tOp (rIxT K) (tVar 2) (tC (V.int 0))) (tTup (tCons (tC (V.str "store")) (tCons (tC (V.str "send")) tNil)))))
              (tNot (tB (tOp (rIxT K) (tOp (rIxL K) (tDGet (tVar 0) (tC (V.str "pages"))) (tOp (rI CDiv fun i j => V.int (i / j)) (tVar 7) (tC (V.int 16)))) (tC (V.int 1)))))))
            (tAsg (tC (V.str "kept")) (gName 4)) tNext))) ⟨n, rt, b, d⟩ [some (.ref g), some (.int pl0), some (.ref q), some (.int bh), o4, o5, some (.ref G.hd), o7] H := by
  have hx0 := ro.x0
  have hx4 := ro.x4
  have hy0 := ro.y0
  have hy1 := ro.y1
  obtain ⟨wd, x, y, nn⟩ := r
  cases wd
  all_goals first | (cases hm; done) | skip
  all_goals dsimp only [Row.vs, Row.args, Row.tail, W20.str, W20.digits, W20.long, W20.b2, List.map, List.append, List.cons_append, List.nil_append] at hq hx0 hx4 hy0 hy1
  all_goals fail "S"
  · refine w_rLSpot (by fail "ga") ?_
    cases ep : spotOf s.pages (nn) with
    | none =>
      fail "S"
      exact k1 _ _ _ _ (.inl rfl) (gl_k (r := ⟨.load, x, y, nn⟩) rfl ep) (by fail "sm")
    | some c =>
      fail "S"
      exact k2 _ c _ (gr_k (r := ⟨.load, x, y, nn⟩) rfl ep rfl) (fun c' wr pg z => by rw [reach_at (r := ⟨.load, x, y, nn⟩) rfl ep] at z; injection z with z; rw [z]) (by fail "sm")
  · refine w_rLSpot (by fail "ga") ?_
    cases ep : spotOf s.pages (nn) with
    | none =>
      fail "S"
      exact k1 _ _ _ _ (.inl rfl) (gl_k (r := ⟨.store, x, y, nn⟩) rfl ep) (by fail "sm")
    | some c =>
      obtain ⟨f, o, hpg, _, q0, q1⟩ := spotPg ep
      fail "S"
      refine g_gixPg (by fail "ga") (by omega) (by omega) fun v hv => ?_
      rw [hpg] at hv
      obtain ⟨a, rfl, ha⟩ := hv
      cases o with
      | true =>
        fail "S"
        exact k2 _ c _ (by rw [gk_k (r := ⟨.store, x, y, nn⟩) rfl ep rfl hpg]; rfl) (fun c' wr pg z => by rw [reach_at (r := ⟨.store, x, y, nn⟩) rfl ep] at z; injection z with z; rw [z]) (by fail "sm")
      | false =>
        fail "S"
        exact k1 _ _ _ _ (.inr (.inl rfl)) (by rw [gk_k (r := ⟨.store, x, y, nn⟩) rfl ep rfl hpg]; rfl) (by fail "sm")
  · refine w_rLSpot (by fail "ga") ?_
    cases ep : spotOf s.pages (gi s.held y) with
    | none =>
      fail "S"
      exact k1 _ _ _ _ (.inl rfl) (gl_k (r := ⟨.fetch, x, y, nn⟩) rfl ep) (by fail "sm")
    | some c =>
      fail "S"
      exact k2 _ c _ (gr_k (r := ⟨.fetch, x, y, nn⟩) rfl ep rfl) (fun c' wr pg z => by rw [reach_at (r := ⟨.fetch, x, y, nn⟩) rfl ep] at z; injection z with z; rw [z]) (by fail "sm")
  · refine w_rLSpot (by fail "ga") ?_
    cases ep : spotOf s.pages (gi s.held y) with
    | none =>
      fail "S"
      exact k1 _ _ _ _ (.inl rfl) (gl_k (r := ⟨.send, x, y, nn⟩) rfl ep) (by fail "sm")
    | some c =>
      obtain ⟨f, o, hpg, _, q0, q1⟩ := spotPg ep
      fail "S"
      refine g_gixPg (by fail "ga") (by omega) (by omega) fun v hv => ?_
      rw [hpg] at hv
      obtain ⟨a, rfl, ha⟩ := hv
      cases o with
      | true =>
        fail "S"
        exact k2 _ c _ (by rw [gk_k (r := ⟨.send, x, y, nn⟩) rfl ep rfl hpg]; rfl) (fun c' wr pg z => by rw [reach_at (r := ⟨.send, x, y, nn⟩) rfl ep] at z; injection z with z; rw [z]) (by fail "sm")
      | false =>
        fail "S"
        exact k1 _ _ _ _ (.inr (.inl rfl)) (by rw [gk_k (r := ⟨.send, x, y, nn⟩) rfl ep rfl hpg]; rfl) (by fail "sm")
theorem ok_l_one (T : Txt w K mg) : GDef P w K mg base "_law_one" 4 [] (sp1 rOne) := by
  obtain ⟨f, fd, F, M⟩ := T.d_l_one
  refine ⟨f, fd, _, _, F.ok sc_l_one (fun vs H Q E h => ?_) (fun cdv A outer s0 H vs Q E hr h => ?_), M, F.kp, F.bindsN fun _ _ _ _ _ _ us hl => match us, hl with | [_], _ => rfl, .nil⟩
  · obtain ⟨_, rfl, _⟩ := h
    rfl
  · obtain ⟨_, rfl, g, G, s, rfl, R, ok, hsd, k⟩ := h
    refine ⟨_, (pss_cons (ps_set (i := 1) sc_l_one.nd rfl (by first | exact .inl rfl | exact .inr rfl) (pe_dget (u1 hr.units) (pv 0) pe_str (fun _ _ => rfl)))
 (pss_cons (ps_asg (e_call (ok_l_at T) hr (pa_cons (pv 0) (pa_cons (pv 1) pa_nil))) (pg_tup rfl (pgs_cons (pg_name (i := 2) sc_l_one.nd rfl (by first | exact .inl rfl | exact .inr rfl)) (pgs_cons (pg_name (i := 3) sc_l_one.nd rfl (by first | exact .inl rfl | exact .inr rfl)) pgs_nil))))
 (pss_cons (ps_par (i := 4) (j := 5) rfl sc_l_one.nd rfl rfl (by decide) rfl rfl (pa_cons (pe_ifExp (pt_cmpR op_isN1 (pv 2) pe_non (nomark _)) (pv 3) pe_str) (pa_cons pe_non pa_nil)) (by rfl))
 (pss_cons (ps_set (i := 6) sc_l_one.nd rfl (by first | exact .inl rfl | exact .inr rfl) (pe_dget (u1 hr.units) (pv 0) pe_str (fun _ _ => rfl)))
 (pss_cons (ps_if (PW.pt (pw_and (pt_cmpR op_notN1 (pv 2) pe_non (nomark _)) (pw_and1 (pt_cmpR op_in_seq (pe_ix ix_tup (pv 2) pe_int (fun _ _ => rfl)) (pe_tup (pa_cons pe_str (pa_cons pe_str (pa_cons pe_str (pa_cons pe_str pa_nil))))) (by with_unfolding_all rfl)))))
 (pss_cons (ps_set (i := 7) sc_l_one.nd rfl (by first | exact .inl rfl | exact .inr rfl) (pe_ifExp (pt_cmpR op_in_seq (pe_ix ix_tup (pv 2) pe_int (fun _ _ => rfl)) (pe_tup (pa_cons pe_str (pa_cons pe_str pa_nil))) (by with_unfolding_all rfl)) (pe_ix ix_tup (pv 2) pe_int (fun _ _ => rfl)) (pe_ix ix_list (pv 6) (pe_ix ix_tup (pv 2) pe_int (fun _ _ => rfl)) (fun _ _ => rfl))))
 (pss_cons (ps_set (i := 5) sc_l_one.nd rfl (by first | exact .inl rfl | exact .inr rfl) (e_call (ok_l_spot T) hr (pa_cons (pv 0) (pa_cons (pv 7) pa_nil))))
 (pss_cons (ps_set (i := 4) sc_l_one.nd rfl (by first | exact .inl rfl | exact .inr rfl) (pe_ifExp (pt_cmpR op_isN1 (pv 5) pe_non (nomark _)) pe_str pe_str))
 (pss_one (ps_if (PW.pt (pw_and (pt_cmpR op_eq (pv 4) pe_str (nomark _)) (pw_and (pt_cmpR op_in_seq (pe_ix ix_tup (pv 2) pe_int (fun _ _ => rfl)) (pe_tup (pa_cons pe_str (pa_cons pe_str pa_nil))) (by with_unfolding_all rfl)) (pw_and1 (pt_not (pt_val (pe_ix ix_tup (pe_ix ix_list (pe_dget (u1 hr.units) (pv 0) pe_str (fun _ _ => rfl)) (pe_op op_fdiv (pv 7) pe_int) (fun _ _ => rfl)) pe_int (fun _ _ => rfl))))))))
 (pss_one (ps_set (i := 4) sc_l_one.nd rfl (by first | exact .inl rfl | exact .inr rfl) pe_str))
 pss_nil)))))
 pss_nil)
 (pss_cons (ps_if (pt_cmpR op_ne (pv 4) pe_str (nomark _))
 (pss_cons (ps_if (pt_cmpR op_isN1 (pe_dget (u1 hr.units) (pv 0) pe_str (fun _ _ => rfl)) pe_non (nomark _))
 (pss_cons (ps_dput (u1 hr.units) (pv 0) pe_str (pv 4) rfl)
 (pss_one (ps_ret (pe_tup (pa_cons pe_non (pa_cons pe_non pa_nil))))))
 pss_nil)
 (pss_cons (ps_asg (pe_tup (pa_cons (pe_dget (u1 hr.units) (pe_disp (pps_cons pe_str pe_int (pps_cons pe_str pe_int (pps_cons pe_str pe_int pps_nil))) (by rfl) (by rfl) (fun z => by cases z) (by decide)) (pv 4) (fun _ _ => rfl)) (pa_cons (pv 1) pa_nil))) (pg_tup rfl (pgs_cons (pg_sub (pv 6) pe_int set_list) (pgs_cons (pg_sub (pv 6) pe_int set_list) pgs_nil))))
 (pss_cons (ps_expr (e_dupd (pv 0) (pe_disp (pps_cons pe_str (pe_dget (u1 hr.units) (pv 0) pe_str (fun _ _ => rfl)) (pps_cons pe_str pe_non (pps_cons pe_str (pe_op op_add (pe_dget (u1 hr.units) (pv 0) pe_str (fun _ _ => rfl)) pe_int) pps_nil))) (by rfl) (by rfl) (fun z => by cases z) (by decide))))
 (pss_one (ps_ret (pe_tup (pa_cons pe_non (pa_cons pe_non pa_nil))))))))
 pss_nil)
 (pss_cons (ps_expr (e_dupd (pv 0) (pe_disp (pps_cons pe_str (e_call (ok_l_goal T) hr (pa_cons (pv 0) (pa_cons (pv 2) (pa_cons (pv 3) pa_nil)))) (pps_cons pe_str (pe_op op_add (pe_dget (u1 hr.units) (pv 0) pe_str (fun _ _ => rfl)) pe_int) pps_nil)) (by rfl) (by rfl) (fun z => by cases z) (by decide))))
 (pss_cons (ps_if (pt_cmpR op_in_seq (pe_ix ix_tup (pv 2) pe_int (fun _ _ => rfl)) (pe_tup (pa_cons pe_str (pa_cons pe_str pa_nil))) (by with_unfolding_all rfl))
 (pss_cons (ps_asg (pe_ix ix_list (pv 6) (pe_ix ix_tup (pv 2) pe_int (fun _ _ => rfl)) (fun _ _ => rfl)) (pg_sub (pe_dget (u1 hr.units) (pv 0) pe_str (fun _ _ => rfl)) (pv 5) set_list))
 (pss_one (ps_ret (pe_tup (pa_cons (pv 2) (pa_cons (pv 5) pa_nil))))))
 pss_nil)
 (pss_cons (ps_if (pt_cmpR op_in_seq (pe_ix ix_tup (pv 2) pe_int (fun _ _ => rfl)) (pe_tup (pa_cons pe_str (pa_cons pe_str pa_nil))) (by with_unfolding_all rfl))
 (pss_one (ps_asg (pe_ix ix_list (pe_dget (u1 hr.units) (pv 0) pe_str (fun _ _ => rfl)) (pv 5) (fun _ _ => rfl)) (pg_sub (pv 6) (pe_ix ix_tup (pv 2) pe_int (fun _ _ => rfl)) set_list)))
 (pss_one (ps_expr (e_call (ok_l_change T) hr (pa_cons (pv 0) (pa_cons (pv 2) (pa_cons (pv 3) pa_nil)))))))
 (pss_cons (ps_if (pt_cmpR op_eq (pe_ix ix_tup (pv 2) pe_int (fun _ _ => rfl)) pe_str (nomark _))
 (pss_one (ps_dput (u1 hr.units) (pv 0) pe_str (pv 1) rfl))
 pss_nil)
 (pss_one (ps_ret (pe_tup (pa_cons (pv 2) (pa_cons pe_non pa_nil))))))))))))))), ?_⟩
    rw [show start N_l_one [V.ref g] = [some (V.ref g), none, none, none, none, none, none, none] from rfl]; try simp only [cxK, cxW]
    fail "S"
    refine w_rLAt R ok fun H1 v S1 hv => ?_
    have R1 := R.same S1
    have F1 : FrG G g H H1 := FrG.snocS S1 FrG.refl
    cases e : readRow s.cells s.pages s.place with
    | bad kd =>
      rw [e] at hv
      obtain ⟨a, rfl, ha⟩ := hv
      have hk := bad_word e
      obtain ⟨e1, e2⟩ := stepS_bad e
      rw [e1] at k
      fail "S"
      refine kI_y (bad_ne hk) ?_
      exact t_gfault R1 hk fun H' p R' F' hp => k H' p _ _ R' (FrG.snoc F' F1) hp (OneV.no e2)
    | row r bh =>
      rw [e] at hv
      obtain ⟨a, q, rfl, ha, hq⟩ := hv
      obtain ⟨ro, _, _, b0, b1⟩ := readRow_ok ok e
      have hb : 0 ≤ bh ∧ bh ≤ 9999 := ⟨by omega, by omega⟩
      fail "S"
      refine w_ixT (SqT.of' hq) (row0 r) ?_
      fail "S"
      rename_i t ht
      cases hm : (r.w.byN || r.w.byR) with
      | false =>
        refine w_inT_F (SqT.of' upd_same) rfl rfl (by rw [in_mem]; exact hm) ?_
        obtain ⟨hf, hr'⟩ := gn_k (s := s) (goalPl_no hm)
        obtain ⟨e1, e2⟩ := stepS_don e hf
        rw [e1] at k
        refine w_kB (kI_F (w_next (w_seq (w_ifS (w_test (w_op (w_var rfl (w_C (w_neS_F rfl (w_kB (kI_F (w_next ?_)))))))))))) 
        exact t_gdone (R1.new ht) ok hsd (look_new ht hq) ro hb hf (fun c wr pg z => absurd z (hr' c wr pg)) fun H' p y R' F' hp hq' => k H' p _ _ R' (FrG.snoc F' (FrG.snocN ht F1)) hp (OneV.yes e2 hq')
      | true =>
        refine w_inT_T (SqT.of' upd_same) rfl rfl (by rw [in_mem]; exact hm) ?_
        refine w_kB (kI_T ?_)
        refine t_mem (R1.new ht) ok (look_new ht hq) ro hm (fun kd H' o5 o7 hk hf S' => ?_) (fun H' c o7 hf hc S' => ?_)
        · obtain ⟨e1, e2⟩ := stepS_flt e hf
          rw [e1] at k
          refine w_seq (w_ifS (w_test (w_op (w_var rfl (w_C (w_neS_T (bad_ne hk) (w_kB (kI_T ?_))))))))
          exact t_gfault ((R1.new ht).same S') hk fun H' p R' F' hp => k H' p _ _ R' (FrG.snoc F' (FrG.snocS S' (FrG.snocN ht F1))) hp (OneV.no e2)
        · obtain ⟨e1, e2⟩ := stepS_don e hf
          rw [e1] at k
          refine w_seq (w_ifS (w_test (w_op (w_var rfl (w_C (w_neS_F rfl (w_kB (kI_F (w_next ?_)))))))))
          exact t_gdone ((R1.new ht).same S') ok hsd (S' _ _ (look_new ht hq)) ro hb hf hc fun H' p y R' F' hp hq' => k H' p _ _ R' (FrG.snoc F' (FrG.snocS S' (FrG.snocN ht F1))) hp (OneV.yes e2 hq')
end

local macro_rules | `(tactic| fail "ob") => `(tactic| first | with_reducible assumption | ((with_reducible refine' ObV.new ?h1 ?h2); (case h1 => assumption); (case h2 => fail "ob")) | ((with_reducible refine' ObV.same ?h1 ?h2); (case h1 => with_reducible assumption); (case h2 => fail "ob")) | fail)
local macro_rules | `(tactic| fail "se_0") => `(tactic| first | ((with_reducible refine' g_mM ?h ?l ?_); (case h => fail "ob"); (case l => (unfold mNames; simp; done))) | ((with_reducible refine' w_mRows ?h ?l ?_); (case h => fail "ob"); (case l => fail "st")) | ((with_reducible refine' w_mPlace ?h ?l ?_); (case h => fail "ob"); (case l => fail "st")) | ((with_reducible refine' w_mWhy ?h ?l ?_); (case h => fail "ob"); (case l => fail "st")) | ((with_reducible refine' w_mGuard ?h ?l ?_); (case h => fail "ob"); (case l => fail "st")) | ((with_reducible refine' w_mRegs ?h ?l (fun _ _ => ?_)); (case h => fail "ob"); (case l => fail "st")) | ((with_reducible refine' w_mCells ?h ?l (fun _ _ => ?_)); (case h => fail "ob"); (case l => fail "st")) | ((with_reducible refine' w_mSaid ?h ?l (fun _ _ => ?_)); (case h => fail "ob"); (case l => fail "st")) | ((with_reducible refine' w_mPages ?h ?l (fun _ _ _ _ => ?_)); (case h => fail "ob"); (case l => fail "st")) | ((with_reducible refine' w_mFlags ?h ?l ?m (fun _ _ => ?_)); (case h => fail "ob"); (case l => fail "st"); (case m => assumption)) | fail)
local macro_rules | `(tactic| fail "s") => `(tactic| first | fail "q0" | fail "q1" | fail "se_0" | fail)
/-! part P42all -/
/-! ### all that a machine tells -/
structure AllA where
  h : Addr
  f : Addr
  c : Addr
  sd : Addr
  pg : Addr
def AIn (A : AllA) (p x : Addr) : Prop := x = p ∨ x = A.h ∨ x = A.f ∨ x = A.c ∨ x = A.sd ∨ x = A.pg
structure AllV (H : Hp) (s : S) (p : Addr) (A : AllA) : Prop where
  ls : H p = some (.lst [.int s.many, .int s.place, .str s.why, .ref A.h, .ref A.f, .ref A.c, .ref A.sd, .ref A.pg, optV s.post])
  h : H A.h = some (.lst (s.held.map V.int))
  f : H A.f = some (.tup [.bl (zeroOf s.sum), .bl (carryOf s.sum)])
  c : H A.c = some (.lst (s.cells.map V.int))
  sd : H A.sd = some (.lst (s.said.map V.int))
  pg : ∃ mv, H A.pg = some (.lst mv) ∧ Paired (PgV H) s.pages mv
theorem AllV.keepIn {H H' : Hp} {s : S} {p : Addr} {A : AllA} (k : ∀ b o, H b = some o → AIn A p b → H' b = some o) (tk : TupKeep H H') (R : AllV H s p A) : AllV H' s p A := by
  obtain ⟨h1, h2, h3, h4, h5, ⟨mv, h6, h7⟩⟩ := R
  exact ⟨k _ _ h1 (.inl rfl), k _ _ h2 (.inr (.inl rfl)), k _ _ h3 (.inr (.inr (.inl rfl))), k _ _ h4 (.inr (.inr (.inr (.inl rfl)))), k _ _ h5 (.inr (.inr (.inr (.inr (.inl rfl))))), ⟨mv, k _ _ h6 (.inr (.inr (.inr (.inr (.inr rfl))))), Paired.mono h7 fun _ _ q => q.keep tk⟩⟩
theorem AllV.same {H H' : Hp} {s : S} {p : Addr} {A : AllA} (S : Same H H') (R : AllV H s p A) : AllV H' s p A := R.keepIn (fun b o h _ => S b o h) (Same.tups S)
theorem AllV.inS {H : Hp} {s : S} {p x : Addr} {A : AllA} (R : AllV H s p A) (h : AIn A p x) : ∃ o, H x = some o := by
  obtain ⟨h1, h2, h3, h4, h5, ⟨mv, h6, h7⟩⟩ := R
  rcases h with e | e | e | e | e | e <;> rw [e]
  · exact ⟨_, h1⟩
  · exact ⟨_, h2⟩
  · exact ⟨_, h3⟩
  · exact ⟨_, h4⟩
  · exact ⟨_, h5⟩
  · exact ⟨_, h6⟩
def rAll (K : PySem.W.Frag) (C : Addr) (a : V) (H : Hp) (Q : VK) : Prop := ∃ m sp L s, a = .ref m ∧ ObV H C m sp ∧ StAt K H sp L s ∧ S.Ok s ∧ ∀ H' p A, Same H H' → AllV H' s p A → (∀ x, AIn A p x → H x = none) → Q (.ref p) H'
section
variable {P : Program} {w : World} {K : PySem.W.Frag} {mg : Str → Option Value} {base : Heap}
theorem ok_l_all (T : Txt w K mg) {C : Addr} (hC : MC0 K C) : GDef P w K mg base "_law_all" 3 [] (sp1 (rAll K C)) := by
  obtain ⟨f, fd, F, M⟩ := T.d_l_all
  refine ⟨f, fd, _, _, F.ok sc_l_all (fun vs H Q E h => ?_) (fun cdv A outer s0 H vs Q E hr h => ?_), M, F.kp, F.bindsN fun _ _ _ _ _ _ us hl => match us, hl with | [_], _ => rfl, .nil⟩
  · obtain ⟨_, rfl, _⟩ := h
    rfl
  · obtain ⟨_, rfl, m, sp, L, s, rfl, O, R, ok, k⟩ := h
    refine ⟨_, (pss_cons (ps_set (i := 1) sc_l_all.nd rfl (by first | exact .inl rfl | exact .inr rfl) (pe_lst (pa_cons (e_meth0 (pv 0) hC.cl (ok_Plain_rows_done T hC) hr) (pa_cons (e_meth0 (pv 0) hC.cl (ok_Plain_place T hC) hr) (pa_cons (e_meth0 (pv 0) hC.cl (ok_Plain_why T hC) hr) (pa_cons (e_meth0 (pv 0) hC.cl (ok_Plain_registers T hC) hr) (pa_cons (e_meth0 (pv 0) hC.cl (ok_Plain_flags T hC) hr) pa_nil)))))))
 (pss_one (ps_ret (pe_op op_cat (pv 1) (pe_lst (pa_cons (e_meth0 (pv 0) hC.cl (ok_Plain_cells T hC) hr) (pa_cons (e_meth0 (pv 0) hC.cl (ok_Plain_said T hC) hr) (pa_cons (e_meth0 (pv 0) hC.cl (ok_Plain_pages T hC) hr) (pa_cons (e_meth0 (pv 0) hC.cl (ok_Plain_guard T hC) hr) pa_nil))))))))), ?_⟩
    rw [show start N_l_all [V.ref m] = [some (V.ref m), none] from rfl]; try simp only [cxK, cxW]
    fail "S"
    rename_i h hh f' hf l1 hl1 c hc sd hsd pg mv hpg hP l2 hl2
    refine w_cnt (by fail "hf") (by fail "hf") (by rw [sizeLine_eq]; exact Nat.le_of_ble_eq_true rfl) fun p hp => ?_
    refine k _ p ⟨h, f', c, sd, pg⟩ (by fail "sm") ⟨upd_same, by fail "hf", by fail "hf", by fail "hf", by fail "hf", ⟨mv, by fail "hf", Paired.mono hP fun _ _ q => q.keep (Same.tups (by fail "sm"))⟩⟩ fun x hx => ?_
    rcases hx with e | e | e | e | e | e <;> rw [e]
    · exact fresh_same (by fail "sm") hp
    · exact fresh_same (by fail "sm") hh
    · exact fresh_same (by fail "sm") hf
    · exact fresh_same (by fail "sm") hc
    · exact fresh_same (by fail "sm") hsd
    · exact fresh_same (by fail "sm") hpg
end

/-! part P43chk -/
def pgD : Option (Int × Bool) → PyData
  | none => .none
  | some (f, o) => .tuple [.int f, .bool o]
def optD : Option Int → PyData
  | none => .none
  | some i => .int i
section
variable {K : PySem.W.Frag} {H H' : Hp} {s : S} {p : Addr} {A : AllA}
theorem dp_pgs : ∀ {pg : List (Option (Int × Bool))} {mv : List V}, Paired (PgV H) pg mv → DpAll K H mv (pg.map pgD)
  | _, _, .nil => .nil
  | none :: _, _, .cons r t => by
    obtain rfl := r
    exact .cons .non (dp_pgs t)
  | some (f, o) :: _, _, .cons ⟨a, e, h⟩ t => by
    subst e
    exact .cons (.tup (SqT.of' h) (.cons (.int _) (.cons (.bl _) .nil))) (dp_pgs t)
theorem dp_opt : ∀ o : Option Int, Dp K H (optV o) (optD o)
  | none => .non
  | some i => .int i
theorem AllV.dH (R : AllV H s p A) : Dp K H (.ref A.h) (.list (s.held.map PyData.int)) := .lst (SqL.of' R.h) (dp_ints _)
theorem AllV.dF (R : AllV H s p A) : Dp K H (.ref A.f) (.tuple [.bool (zeroOf s.sum), .bool (carryOf s.sum)]) := .tup (SqT.of' R.f) (.cons (.bl _) (.cons (.bl _) .nil))
theorem AllV.dC (R : AllV H s p A) : Dp K H (.ref A.c) (.list (s.cells.map PyData.int)) := .lst (SqL.of' R.c) (dp_ints _)
theorem AllV.dS (R : AllV H s p A) : Dp K H (.ref A.sd) (.list (s.said.map PyData.int)) := .lst (SqL.of' R.sd) (dp_ints _)
theorem AllV.dP (R : AllV H s p A) : Dp K H (.ref A.pg) (.list (s.pages.map pgD)) := let ⟨_, h, q⟩ := R.pg; .lst (SqL.of' h) (dp_pgs q)
theorem sm_ints {k : Nat} (xs : List Int) : Small (k + 1) (.list (xs.map PyData.int)) := Small.list fun d hd => by
  obtain ⟨i, _, rfl⟩ := List.mem_map.mp hd
  exact .int i
theorem sm_pgD {k : Nat} : ∀ o, Small (k + 1) (pgD o)
  | none => .none
  | some (f, o) => Small.tuple fun d hd => by
    rcases List.mem_cons.mp hd with e | e
    · rw [e]; exact .int _
    · rw [List.mem_singleton.mp e]; exact .bool _
theorem sm_optD {k : Nat} : ∀ o, Small k (optD o)
  | none => .none
  | some i => .int i
theorem sm_pgs {k : Nat} (pg : List (Option (Int × Bool))) : Small (k + 2) (.list (pg.map pgD)) := Small.list fun d hd => by
  obtain ⟨o, _, rfl⟩ := List.mem_map.mp hd
  exact sm_pgD o
theorem sm_flags {k : Nat} (a b : Bool) : Small (k + 1) (.tuple [.bool a, .bool b]) := Small.tuple fun d hd => by
  rcases List.mem_cons.mp hd with e | e
  · rw [e]; exact .bool _
  · rw [List.mem_singleton.mp e]; exact .bool _
theorem sm_nil {k : Nat} : Small (k + 1) (.list []) := Small.list fun d hd => by cases hd
theorem sm_cons {k : Nat} {d : PyData} {ds : List PyData} (h : Small k d) (g : Small (k + 1) (.list ds)) : Small (k + 1) (.list (d :: ds)) := by
  obtain ⟨g1, g2⟩ := g
  obtain ⟨h1, h2⟩ := h
  refine ⟨?_, ?_⟩
  · simp only [PyData.canLay0] at g1 ⊢
    simp only [PyData.canLayAll0, g1, h1, Bool.and_self]
  · simp only [PyData.depth] at g2 ⊢
    simp only [PyData.depthAll]
    omega
theorem w_neSame {Q : VK} {x y : V} {d : PyData} (hx : Dp K H x d) (hy : Dp K H y d) (sm : Small 60 d) (q : Q (.bl false) H) : rNeD K x y H Q :=
  w_neD hx hy (sm.shaped (by decide)) (sm.shaped (by decide)) (k := false) (by rw [SeqAt.eqv_refl d sm.lay]; rfl) q
theorem AllV.dAll (R : AllV H s p A) : Dp K H (.ref p) (.list [.int s.many, .int s.place, .str s.why, .list (s.held.map PyData.int), .tuple [.bool (zeroOf s.sum), .bool (carryOf s.sum)], .list (s.cells.map PyData.int), .list (s.said.map PyData.int), .list (s.pages.map pgD), optD s.post]) :=
  .lst (SqL.of' R.ls) (.cons (.int _) (.cons (.int _) (.cons (.str _) (.cons R.dH (.cons R.dF (.cons R.dC (.cons R.dS (.cons R.dP (.cons (dp_opt _) .nil)))))))))
theorem sm_str {k : Nat} {x : Str} (h : PyData.strOk x = true) : Small k (.str x) := ⟨by simp only [PyData.canLay0]; exact h, by simp [PyData.depth]⟩
theorem sm_all (h : PyData.strOk s.why = true) : Small 60 (.list [.int s.many, .int s.place, .str s.why, .list (s.held.map PyData.int), .tuple [.bool (zeroOf s.sum), .bool (carryOf s.sum)], .list (s.cells.map PyData.int), .list (s.said.map PyData.int), .list (s.pages.map pgD), optD s.post]) :=
  sm_cons (.int _) (sm_cons (.int _) (sm_cons (sm_str h) (sm_cons (sm_ints _) (sm_cons (sm_flags _ _) (sm_cons (sm_ints _) (sm_cons (sm_ints _) (sm_cons (sm_pgs _) (sm_cons (sm_optD _) sm_nil))))))))
end
theorem faultS_why {s : S} {k : Str} {p : Int} (hk : PyData.strOk k = true) (h : PyData.strOk s.why = true) : PyData.strOk (faultS s k p).why = true := by
  unfold faultS
  cases s.post with
  | none => exact hk
  | some g => exact h
theorem changeS_why {s : S} {r : Row} {b : Int} (h : PyData.strOk s.why = true) : PyData.strOk (changeS s r b).why = true := by
  obtain ⟨wd, x, y, n⟩ := r
  cases wd <;> first | exact h | (show PyData.strOk "stop" = true; decide +kernel)
theorem stepS_why {s : S} (h : PyData.strOk s.why = true) : PyData.strOk (stepS s).why = true := by
  have kw : ∀ kd : Str, (kd = "lacks" ∨ kd = "kept" ∨ kd = "row") → PyData.strOk kd = true := fun kd hk => by rcases hk with rfl | rfl | rfl <;> decide +kernel
  unfold stepS
  cases e : readRow s.cells s.pages s.place with
  | bad kd => exact faultS_why (kw kd (bad_word e)) h
  | row r b =>
    dsimp only
    unfold doS
    cases ef : doFault s r with
    | some kd =>
      refine faultS_why (kw kd ?_) h
      unfold doFault at ef
      split at ef
      · injection ef with ef; exact .inl ef.symm
      · split at ef
        · cases ef
        · injection ef with ef; exact .inr (.inl ef.symm)
      · cases ef
    | none =>
      show PyData.strOk (effS s r b).why = true
      unfold effS
      split
      · exact h
      · exact h
      · exact changeS_why h

/-! part P43fault -/
theorem cut48 (a b c d e f g h i : V) : cutV [a, b, c, d, e, f, g, h, i] (some 4) (some 8) = [e, f, g, h] := rfl
theorem cut02 (a b c d e f g h i : V) : cutV [a, b, c, d, e, f, g, h, i] none (some 2) = [a, b] := rfl
theorem cut3n (a b c d e f g h i : V) : cutV [a, b, c, d, e, f, g, h, i] (some 3) none = [d, e, f, g, h, i] := rfl
theorem cut2n {xs : List Int} (h : xs.length = 4) : cutV (xs.map V.int) (some 2) none = (xs.drop 2).map V.int := by
  match xs, h with
  | [a, b, c, d], _ => rfl
structure FltF (s s' : S) : Prop where
  sum : s'.sum = s.sum
  cells : s'.cells = s.cells
  said : s'.said = s.said
  pages : s'.pages = s.pages
  dr : s'.held.drop 2 = s.held.drop 2
  hl : s'.held.length = 4
  hl0 : s.held.length = 4
  or : (s.post = none ∧ s'.post = none ∧ s'.many = s.many ∧ s'.place = s.place ∧ s'.held = s.held ∧ ¬ s'.why = "") ∨ (∃ g, s.post = some g ∧ s'.many = s.many + 1 ∧ s'.place = g ∧ gi s'.held 1 = s.place ∧ (gi s'.held 0 = 1 ∨ gi s'.held 0 = 2 ∨ gi s'.held 0 = 3))
theorem fltF {s : S} {kd : Str} (hk : kd = "lacks" ∨ kd = "kept" ∨ kd = "row") (ok : s.Ok) : FltF s (faultS s kd s.place) := by
  have hl := ok.hl
  obtain ⟨a, b, c, d, hd⟩ : ∃ a b c d, s.held = [a, b, c, d] := by
    match h : s.held, hl with
    | [a, b, c, d], _ => exact ⟨a, b, c, d, rfl⟩
  cases e : s.post with
  | none =>
    have ef : faultS s kd s.place = { s with why := kd } := by
      unfold faultS
      rw [e]
    rw [ef]
    exact ⟨rfl, rfl, rfl, rfl, rfl, hl, hl, .inl ⟨e, e, rfl, rfl, rfl, bad_ne hk⟩⟩
  | some g =>
    have ef : faultS s kd s.place = { s with held := (s.held.set 0 (kindN kd)).set 1 s.place, place := g, post := none, many := s.many + 1 } := by
      unfold faultS
      rw [e]
    rw [ef]
    refine ⟨rfl, rfl, rfl, rfl, ?_, ?_, hl, .inr ⟨g, e, rfl, rfl, ?_, ?_⟩⟩
    · show ((s.held.set 0 (kindN kd)).set 1 s.place).drop 2 = s.held.drop 2
      rw [hd]; rfl
    · show ((s.held.set 0 (kindN kd)).set 1 s.place).length = 4
      rw [hd]; rfl
    · show gi ((s.held.set 0 (kindN kd)).set 1 s.place) 1 = s.place
      rw [hd]; rfl
    · have e0 : gi ((s.held.set 0 (kindN kd)).set 1 s.place) 0 = kindN kd := by rw [hd]; rfl
      show gi ((s.held.set 0 (kindN kd)).set 1 s.place) 0 = 1 ∨ _ ∨ _
      rw [e0]
      unfold kindN
      split
      · exact .inl rfl
      · split
        · exact .inr (.inl rfl)
        · exact .inr (.inr rfl)
theorem w_neI_F {H : Hp} {Q : VK} {i j : Int} (h : i = j) (q : Q (.bl false) H) : rNe (.int i) (.int j) H Q := w_neI (by rw [decide_eq_false (fun z => z h)]; exact q)
section
variable {K : PySem.W.Frag} {H : Hp} {s s' : S} {pa pb : Addr} {A B : AllA} {o0 o1 o2 o3 o4 o5 o8 : Option V} {n b d : St' → Hp → Prop} {rt : VK}
/-- what the law asks behind a fault -/
theorem t_fchk (F : FltF s s') (Vb : AllV H s pb B) (Va : AllV H s' pa A) (q : ∀ H', Same H H' → n [o0, o1, o2, o3, o4, o5, some (.ref pb), some (optV s.post), o8, some (.int (s'.many - s.many)), some (.ref pa)] H') :
    tSeq (tIfS (tOr (tTest (tOp (rNeD K) (tSl (rSlL K) (tVar 10) (tPart (tC (V.int 4))) (tPart (tC (V.int 8)))) (tSl (rSlL K) (tVar 6) (tPart (tC (V.int 4))) (tPart (tC (V.int 8))))))
        (tTest (tOp (rNeD K) (tSl (rSlL K) (tOp (rIxL K) (tVar 10) (tC (V.int 3))) (tPart (tC (V.int 2))) tNoPart) (tSl (rSlL K) (tOp (rIxL K) (tVar 6) (tC (V.int 3))) (tPart (tC (V.int 2))) tNoPart)))) (tRet (tC (V.bl false))) tNext)
      (tSeq (tIfS (tOr (tTest (tOp rNe (tVar 9) (tCB rInt1 (tCons (tOp rNotN (tVar 7) (tC V.non)) tNil)))) (tAnd (tTest (tOp rIsN (tVar 7) (tC V.non))) (tTest (tOp rEq (tOp (rIxL K) (tVar 10) (tC (V.int 2))) (tC (V.str "")))))) (tRet (tC (V.bl false))) tNext)
        (tSeq (tIfS (tAnd (tTest (tOp rIsN (tVar 7) (tC V.non))) (tTest (tOp (rNeD K) (tLst (tCons (tSl (rSlL K) (tVar 10) tNoPart (tPart (tC (V.int 2)))) (tCons (tSl (rSlL K) (tVar 10) (tPart (tC (V.int 3))) tNoPart) tNil))) (tLst (tCons (tSl (rSlL K) (tVar 6) tNoPart (tPart (tC (V.int 2)))) (tCons (tSl (rSlL K) (tVar 6) (tPart (tC (V.int 3))) tNoPart) tNil)))))) (tRet (tC (V.bl false))) tNext)
          (tSeq (tIfS (tAnd (tTest (tOp rNotN (tVar 7) (tC V.non))) (tTest (tOp (rNeD K) (tLst (tCons (tOp (rIxL K) (tVar 10) (tC (V.int 1))) (tCons (tOp (rIxL K) (tOp (rIxL K) (tVar 10) (tC (V.int 3))) (tC (V.int 1))) tNil))) (tLst (tCons (tVar 7) (tCons (tOp (rIxL K) (tVar 6) (tC (V.int 1))) tNil)))))) (tRet (tC (V.bl false))) tNext)
            (tIfS (tAnd (tTest (tOp rNotN (tVar 7) (tC V.non))) (tTest (tOp (rIn K true) (tOp (rIxL K) (tOp (rIxL K) (tVar 10) (tC (V.int 3))) (tC (V.int 0))) (tTup (tCons (tC (V.int 1)) (tCons (tC (V.int 2)) (tCons (tC (V.int 3)) tNil))))))) (tRet (tC (V.bl false))) tNext)))) ⟨n, rt, b, d⟩ [o0, o1, o2, o3, o4, o5, some (.ref pb), some (optV s.post), o8, some (.int (s'.many - s.many)), some (.ref pa)] H := by
  have hb := Vb.ls
  have ha := Va.ls
  fail "S"
  refine w_slL (SqL.of' ha) fun p1 h1 => ?_
  fail "S"
  refine w_slL (SqL.of' (look_new h1 hb)) fun p2 h2 => ?_
  rw [cut48, cut48]
  have S2 : Same H (upd (upd H p1 (HO.lst [V.ref A.f, V.ref A.c, V.ref A.sd, V.ref A.pg])) p2 (HO.lst [V.ref B.f, V.ref B.c, V.ref B.sd, V.ref B.pg])) := by fail "sm"
  have l1 := (by fail "hf" : upd (upd H p1 (HO.lst [V.ref A.f, V.ref A.c, V.ref A.sd, V.ref A.pg])) p2 (HO.lst [V.ref B.f, V.ref B.c, V.ref B.sd, V.ref B.pg]) p1 = some (HO.lst [V.ref A.f, V.ref A.c, V.ref A.sd, V.ref A.pg]))
  have l2 := (by fail "hf" : upd (upd H p1 (HO.lst [V.ref A.f, V.ref A.c, V.ref A.sd, V.ref A.pg])) p2 (HO.lst [V.ref B.f, V.ref B.c, V.ref B.sd, V.ref B.pg]) p2 = some (HO.lst [V.ref B.f, V.ref B.c, V.ref B.sd, V.ref B.pg]))
  generalize upd (upd H p1 (HO.lst [V.ref A.f, V.ref A.c, V.ref A.sd, V.ref A.pg])) p2 (HO.lst [V.ref B.f, V.ref B.c, V.ref B.sd, V.ref B.pg]) = H2 at S2 l1 l2 ⊢
  have Va2 := Va.same S2
  have Vb2 := Vb.same S2
  have hb2 := Vb2.ls
  have ha2 := Va2.ls
  have dA : DpAll K H2 [V.ref A.f, V.ref A.c, V.ref A.sd, V.ref A.pg] _ := DpAll.cons Va2.dF (DpAll.cons Va2.dC (DpAll.cons Va2.dS (DpAll.cons Va2.dP DpAll.nil)))
  rw [F.sum, F.cells, F.said, F.pages] at dA
  refine w_neSame (.lst (SqL.of' l1) dA) (.lst (SqL.of' l2) (.cons Vb2.dF (.cons Vb2.dC (.cons Vb2.dS (.cons Vb2.dP .nil))))) (sm_cons (sm_flags _ _) (sm_cons (sm_ints _) (sm_cons (sm_ints _) (sm_cons (sm_pgs _) sm_nil)))) ?_
  fail "S"
  refine w_slL (SqL.of' Va2.h) fun p3 h3 => ?_
  rw [cut2n F.hl, F.dr]
  fail "S"
  refine w_slL (SqL.of' (look_new h3 Vb2.h)) fun p4 h4 => ?_
  rw [cut2n F.hl0]
  have S4 : Same H2 (upd (upd H2 p3 (HO.lst ((s.held.drop 2).map V.int))) p4 (HO.lst ((s.held.drop 2).map V.int))) := by fail "sm"
  refine w_neSame (.lst (SqL.of' (by fail "hf")) (dp_ints _)) (.lst (SqL.of' (by fail "hf")) (dp_ints _)) (sm_ints _) ?_
  generalize upd (upd H2 p3 (HO.lst ((s.held.drop 2).map V.int))) p4 (HO.lst ((s.held.drop 2).map V.int)) = H4 at S4 ⊢
  have Va4 := Va2.same S4
  have Vb4 := Vb2.same S4
  have hb4 := Vb4.ls
  have ha4 := Va4.ls
  have S04 := S2.trans S4
  rcases F.or with ⟨f1, f2, f3, f4, f5, f6⟩ | ⟨g, f1, f2, f3, f4, f5⟩
  · rw [f1] at hb4 q ⊢
    rw [f2, f3, f4] at ha4
    dsimp only [optV] at ha4 hb4 q ⊢
    fail "S"
    refine w_slL (SqL.of' ha4) fun p5 h5 => ?_
    rw [cut02]
    fail "S"
    refine w_slL (SqL.of' (look_new h5 ha4)) fun p6 h6 => ?_
    rw [cut3n]
    fail "S"
    refine w_slL (SqL.of' (by fail "hf")) fun p8 h8 => ?_
    rw [cut02]
    fail "S"
    refine w_slL (SqL.of' (by fail "hf")) fun p9 h9 => ?_
    rw [cut3n]
    fail "S"
    rename_i p7 h7 p10 h10
    have S5 : Same H4 (upd (upd (upd (upd (upd (upd H4 p5 (HO.lst [V.int s.many, V.int s.place])) p6 (HO.lst [V.ref A.h, V.ref A.f, V.ref A.c, V.ref A.sd, V.ref A.pg, .non])) p7 (HO.lst [V.ref p5, V.ref p6])) p8 (HO.lst [V.int s.many, V.int s.place])) p9 (HO.lst [V.ref B.h, V.ref B.f, V.ref B.c, V.ref B.sd, V.ref B.pg, .non])) p10 (HO.lst [V.ref p8, V.ref p9])) := by fail "sm"
    have Va5 := Va4.same S5
    have Vb5 := Vb4.same S5
    have dA5 : DpAll K _ [V.ref A.h, V.ref A.f, V.ref A.c, V.ref A.sd, V.ref A.pg, .non] _ := DpAll.cons Va5.dH (DpAll.cons Va5.dF (DpAll.cons Va5.dC (DpAll.cons Va5.dS (DpAll.cons Va5.dP (DpAll.cons .non DpAll.nil)))))
    rw [F.sum, F.cells, F.said, F.pages, f5] at dA5
    refine w_neSame (.lst (SqL.of' (by fail "hf")) (.cons (.lst (SqL.of' (by fail "hf")) (.cons (.int _) (.cons (.int _) .nil))) (.cons (.lst (SqL.of' (by fail "hf")) dA5) .nil)))
      (.lst (SqL.of' (by fail "hf")) (.cons (.lst (SqL.of' (by fail "hf")) (.cons (.int _) (.cons (.int _) .nil))) (.cons (.lst (SqL.of' (by fail "hf")) (DpAll.cons Vb5.dH (DpAll.cons Vb5.dF (DpAll.cons Vb5.dC (DpAll.cons Vb5.dS (DpAll.cons Vb5.dP (DpAll.cons .non DpAll.nil))))))) .nil)))
      (sm_cons (sm_cons (.int _) (sm_cons (.int _) sm_nil)) (sm_cons (sm_cons (sm_ints _) (sm_cons (sm_flags _ _) (sm_cons (sm_ints _) (sm_cons (sm_ints _) (sm_cons (sm_pgs _) (sm_cons .none sm_nil)))))) sm_nil)) ?_
    fail "S"
    exact q _ (S04.trans S5)
  · rw [f1] at hb4 q ⊢
    rw [f2, f3] at ha4
    dsimp only [optV] at hb4 q ⊢
    have hA4 := Va4.h
    fail "S"
    refine w_ixLI Va4.h (by decide) (by rw [F.hl]; decide) ?_
    rw [f4]
    fail "S"
    refine w_neSame (d := .list [.int g, .int s.place]) (.lst (SqL.of' (by fail "hf")) (.cons (.int _) (.cons (.int _) .nil))) (.lst (SqL.of' (by fail "hf")) (.cons (.int _) (.cons (.int _) .nil))) (sm_cons (.int _) (sm_cons (.int _) sm_nil)) ?_
    fail "S"
    refine w_ixLI (ns := s'.held) (by fail "hf") (by decide) (by rw [F.hl]; decide) ?_
    fail "S"
    refine w_niT_F (SqT.of' upd_same) rfl rfl (by rcases f5 with e | e | e <;> rw [e] <;> decide +kernel) ?_
    fail "S"
    exact q _ (S04.trans (by fail "sm"))
end

/-! part P43turn -/
theorem turnI_view {K : PySem.W.Frag} {H : Hp} {m : Addr} {s : S} {F : Addr → Prop} {n : Nat} (h : TurnI K H m s F n) : ∃ sp L, ObV H (cT K) m sp ∧ StAt K H sp L s := by
  obtain ⟨d, e, R, _⟩ := h
  subst e
  obtain ⟨dx, k, ho⟩ := R.ob
  exact ⟨d.sp, d.L, ⟨dx, _, k.asked, ho, rfl, rfl, Nat.le_of_ble_eq_true rfl, noM rfl⟩, R.st⟩
section
variable {K : PySem.W.Frag} {H : Hp} {Q : VK} {m : Addr} {s : S} {F : Addr → Prop} {n : Nat} {σ : St'}
theorem w_all (M : MOk K H m s F n) (h3 : σ[3]? = some (some (.ref m))) (k : ∀ H' p A, Same H H' → AllV H' s p A → (∀ x, AIn A p x → H x = none) → Q (.ref p) H') :
    tCall (sp1 (rAll K (cP K))) [] E0 (tCons (tVar 3) tNil) σ H Q ∨ tCall (sp1 (rAll K (cT K))) [] E0 (tCons (tVar 3) tNil) σ H Q := by
  have ok := M.ok
  rcases M with h | h
  · obtain ⟨sp, L, O, R⟩ := plainI_view h
    exact .inl (w_call (w_cons (w_var h3 (w_nil ⟨.ref m, rfl, m, sp, L, s, rfl, O, R, ok, k⟩))))
  · obtain ⟨sp, L, O, R⟩ := turnI_view h
    exact .inr (w_call (w_cons (w_var h3 (w_nil ⟨.ref m, rfl, m, sp, L, s, rfl, O, R, ok, k⟩))))
theorem w_go1 (M : MOk K H m s F n) (hn : n + 1 ≤ 1000) (h3 : σ[3]? = some (some (.ref m))) (k : ∀ H' F', MOk K H' m (goS s) F' (n + 1) → FrM F H H' F' → Q (.int ((goS s).many - s.many)) H') :
    tMeth (cP K) "go" (sp2 (rMGo (PlainI K))) [V.int 1] E0 (tVar 3) tNil σ H Q ∨ tMeth (cT K) "go" (sp2 (rMGo (TurnI K))) [V.int 1] E0 (tVar 3) tNil σ H Q := by
  rcases M with h | h
  · obtain ⟨sp, L, O, R⟩ := plainI_view h
    exact .inl (w_meth (w_var h3 (g_mM O (by unfold mNames; simp) (w_nil ⟨.ref m, .int 1, rfl, m, s, F, n, 1, rfl, rfl, h, hn, by decide, by decide, .inl rfl, fun H' F' hI hF => k H' F' (.inl hI) hF⟩))))
  · obtain ⟨sp, L, O, R⟩ := turnI_view h
    exact .inr (w_meth (w_var h3 (g_mM O (by unfold mNames; simp) (w_nil ⟨.ref m, .int 1, rfl, m, s, F, n, 1, rfl, rfl, h, hn, by decide, by decide, .inl rfl, fun H' F' hI hF => k H' F' (.inr hI) hF⟩))))
theorem w_go999 (M : MOk K H m s F n) (hn : n + 1 ≤ 1000) (hw : s.why ≠ "") (h3 : σ[3]? = some (some (.ref m))) (k : ∀ H' F', MOk K H' m (goS s) F' (n + 1) → FrM F H H' F' → Q (.int ((goS s).many - s.many)) H') :
    tMeth (cP K) "go" (sp2 (rMGo (PlainI K))) [] E0 (tVar 3) (tCons (tC (V.int 999)) tNil) σ H Q ∨ tMeth (cT K) "go" (sp2 (rMGo (TurnI K))) [] E0 (tVar 3) (tCons (tC (V.int 999)) tNil) σ H Q := by
  rcases M with h | h
  · obtain ⟨sp, L, O, R⟩ := plainI_view h
    exact .inl (w_meth (w_var h3 (g_mM O (by unfold mNames; simp) (w_cons (w_C (w_nil ⟨.ref m, .int 999, rfl, m, s, F, n, 999, rfl, rfl, h, hn, by decide, by decide, .inr hw, fun H' F' hI hF => k H' F' (.inl hI) hF⟩))))))
  · obtain ⟨sp, L, O, R⟩ := turnI_view h
    exact .inr (w_meth (w_var h3 (g_mM O (by unfold mNames; simp) (w_cons (w_C (w_nil ⟨.ref m, .int 999, rfl, m, s, F, n, 999, rfl, rfl, h, hn, by decide, by decide, .inr hw, fun H' F' hI hF => k H' F' (.inr hI) hF⟩))))))
end
def goE (K : PySem.W.Frag) : TE := fun σ H Q => tMeth (cP K) "go" (sp2 (rMGo (PlainI K))) [] E0 (tVar 3) (tCons (tC (V.int 999)) tNil) σ H Q ∨ tMeth (cT K) "go" (sp2 (rMGo (TurnI K))) [] E0 (tVar 3) (tCons (tC (V.int 999)) tNil) σ H Q
theorem eqv_word (r : Row) : PyData.eqv (rowDt r) (.tuple [.str ""]) = false := by
  have h : (r.w.str == ("" : Str)) = false := by cases r.w <;> decide +kernel
  simp only [rowDt, PyData.eqv, PyData.eqvAll, h, Bool.false_and]
theorem sm_e {k : Nat} : Small (k + 1) (.tuple [.str ""]) := Small.tuple fun d hd => by
  rw [List.mem_singleton.mp hd]
  exact sm_str (by decide +kernel)
theorem dp_row {K : PySem.W.Frag} {H : Hp} {q : Addr} {r : Row} (h : H q = some (.tup r.vs)) : Dp K H (.ref q) (rowDt r) := .tup (SqT.of' h) (.cons (.str _) (dp_ints _))
section
variable {K : PySem.W.Frag} {H : Hp} {m pa pb q : Addr} {s : S} {r : Row} {F : Addr → Prop} {N : Nat} {A B : AllA} {x : V} {o0 o1 o2 o3 o4 o5 o6 o7 o9 o10 : Option V} {n b d : St' → Hp → Prop} {rt : VK}
/-- what the law asks behind an end: no end -/
theorem t_enoN (k : ∀ H', Same H H' → n [o0, o1, o2, o3, o4, o5, o6, o7, some .non, o9, o10] H') :
    tIfS (tAnd (tTest (tOp (rEqD K) (tVar 8) (tTup (tCons (tC (V.str "")) tNil)))) (tOr (tTest (tOp rNe (tVar 9) (tC (V.int 0)))) (tOr (tTest (tOp (rNeD K) (tVar 10) (tVar 6))) (tTest (tOp rNe (goE K) (tC (V.int 0))))))) (tRet (tC (V.bl false))) tNext ⟨n, rt, b, d⟩ [o0, o1, o2, o3, o4, o5, o6, o7, some .non, o9, o10] H := by
  fail "S"
  rename_i t ht
  refine w_eqD .non (.tup (SqT.of' upd_same) (.cons (.str _) .nil)) (Small.shaped (k := 1) .none (by decide)) (Small.shaped (k := 1) sm_e (by decide)) (k := false) rfl ?_
  fail "S"
  exact k _ (Ext.new ht)
theorem t_enoR (hq : H q = some (.tup r.vs)) (k : ∀ H', Same H H' → n [o0, o1, o2, o3, o4, o5, o6, o7, some (.ref q), o9, o10] H') :
    tIfS (tAnd (tTest (tOp (rEqD K) (tVar 8) (tTup (tCons (tC (V.str "")) tNil)))) (tOr (tTest (tOp rNe (tVar 9) (tC (V.int 0)))) (tOr (tTest (tOp (rNeD K) (tVar 10) (tVar 6))) (tTest (tOp rNe (goE K) (tC (V.int 0))))))) (tRet (tC (V.bl false))) tNext ⟨n, rt, b, d⟩ [o0, o1, o2, o3, o4, o5, o6, o7, some (.ref q), o9, o10] H := by
  fail "S"
  rename_i t ht
  refine w_eqD (dp_row (look_new ht hq)) (.tup (SqT.of' upd_same) (.cons (.str _) .nil)) (Small.shaped (k := 1) (small_row r) (by decide)) (Small.shaped (k := 1) sm_e (by decide)) (k := false) (eqv_word r) ?_
  fail "S"
  exact k _ (Ext.new ht)
/-- an ended machine -/
theorem t_end_ (hq : H q = some (.tup [.str ""])) (M : MOk K H m s F N) (hN : N + 1 ≤ 1000) (hw : s.why ≠ "") (hs : PyData.strOk s.why = true) (Va : AllV H s pa A) (Vb : AllV H s pb B)
    (k : ∀ H' F', MOk K H' m s F' (N + 1) → FrM F H H' F' → n [o0, o1, o2, some (.ref m), o4, o5, some (.ref pb), o7, some (.ref q), some (.int 0), some (.ref pa)] H') :
    tIfS (tAnd (tTest (tOp (rEqD K) (tVar 8) (tTup (tCons (tC (V.str "")) tNil)))) (tOr (tTest (tOp rNe (tVar 9) (tC (V.int 0)))) (tOr (tTest (tOp (rNeD K) (tVar 10) (tVar 6))) (tTest (tOp rNe (goE K) (tC (V.int 0))))))) (tRet (tC (V.bl false))) tNext ⟨n, rt, b, d⟩ [o0, o1, o2, some (.ref m), o4, o5, some (.ref pb), o7, some (.ref q), some (.int 0), some (.ref pa)] H := by
  fail "S"
  rename_i t ht
  have S1 : Same H (upd H t (.tup [.str ""])) := Ext.new ht
  refine w_eqD (d := .tuple [.str ""]) (e := .tuple [.str ""]) (.tup (SqT.of' (look_new ht hq)) (.cons (.str _) .nil)) (.tup (SqT.of' upd_same) (.cons (.str _) .nil)) (Small.shaped (k := 1) sm_e (by decide)) (Small.shaped (k := 1) sm_e (by decide)) (k := true) (SeqAt.eqv_refl _ (sm_e (k := 0)).lay) ?_
  fail "S"
  refine w_neSame (Va.same S1).dAll (Vb.same S1).dAll (sm_all hs) ?_
  fail "S"
  refine w_go999 (M.same S1) hN hw rfl fun H2 F2 M2 FR => ?_
  have e : goS s = s := by unfold goS; rw [if_neg hw]
  rw [e] at M2 ⊢
  rw [Int.sub_self]
  fail "S"
  exact k H2 F2 M2 fun b o h i => FR b o (S1 _ _ h) i
end

/-! part P43uloop -/
def allE (K : PySem.W.Frag) : TE := fun σ H Q => tCall (sp1 (rAll K (cP K))) [] E0 (tCons (tVar 3) tNil) σ H Q ∨ tCall (sp1 (rAll K (cT K))) [] E0 (tCons (tVar 3) tNil) σ H Q
def go1E (K : PySem.W.Frag) : TE := fun σ H Q => tMeth (cP K) "go" (sp2 (rMGo (PlainI K))) [V.int 1] E0 (tVar 3) tNil σ H Q ∨ tMeth (cT K) "go" (sp2 (rMGo (TurnI K))) [V.int 1] E0 (tVar 3) tNil σ H Q
def fchkT (K : PySem.W.Frag) : TS :=
    tSeq (tIfS (tOr (tTest (tOp (rNeD K) (tSl (rSlL K) (tVar 10) (tPart (tC (V.int 4))) (tPart (tC (V.int 8)))) (tSl (rSlL K) (tVar 6) (tPart (tC (V.int 4))) (tPart (tC (V.int 8))))))
        (tTest (tOp (rNeD K) (tSl (rSlL K) (tOp (rIxL K) (tVar 10) (tC (V.int 3))) (tPart (tC (V.int 2))) tNoPart) (tSl (rSlL K) (tOp (rIxL K) (tVar 6) (tC (V.int 3))) (tPart (tC (V.int 2))) tNoPart)))) (tRet (tC (V.bl false))) tNext)
      (tSeq (tIfS (tOr (tTest (tOp rNe (tVar 9) (tCB rInt1 (tCons (tOp rNotN (tVar 7) (tC V.non)) tNil)))) (tAnd (tTest (tOp rIsN (tVar 7) (tC V.non))) (tTest (tOp rEq (tOp (rIxL K) (tVar 10) (tC (V.int 2))) (tC (V.str "")))))) (tRet (tC (V.bl false))) tNext)
        (tSeq (tIfS (tAnd (tTest (tOp rIsN (tVar 7) (tC V.non))) (tTest (tOp (rNeD K) (tLst (tCons (tSl (rSlL K) (tVar 10) tNoPart (tPart (tC (V.int 2)))) (tCons (tSl (rSlL K) (tVar 10) (tPart (tC (V.int 3))) tNoPart) tNil))) (tLst (tCons (tSl (rSlL K) (tVar 6) tNoPart (tPart (tC (V.int 2)))) (tCons (tSl (rSlL K) (tVar 6) (tPart (tC (V.int 3))) tNoPart) tNil)))))) (tRet (tC (V.bl false))) tNext)
          (tSeq (tIfS (tAnd (tTest (tOp rNotN (tVar 7) (tC V.non))) (tTest (tOp (rNeD K) (tLst (tCons (tOp (rIxL K) (tVar 10) (tC (V.int 1))) (tCons (tOp (rIxL K) (tOp (rIxL K) (tVar 10) (tC (V.int 3))) (tC (V.int 1))) tNil))) (tLst (tCons (tVar 7) (tCons (tOp (rIxL K) (tVar 6) (tC (V.int 1))) tNil)))))) (tRet (tC (V.bl false))) tNext)
            (tIfS (tAnd (tTest (tOp rNotN (tVar 7) (tC V.non))) (tTest (tOp (rIn K true) (tOp (rIxL K) (tOp (rIxL K) (tVar 10) (tC (V.int 3))) (tC (V.int 0))) (tTup (tCons (tC (V.int 1)) (tCons (tC (V.int 2)) (tCons (tC (V.int 3)) tNil))))))) (tRet (tC (V.bl false))) tNext))))
def echkT (K : PySem.W.Frag) : TS := tIfS (tAnd (tTest (tOp (rEqD K) (tVar 8) (tTup (tCons (tC (V.str "")) tNil)))) (tOr (tTest (tOp rNe (tVar 9) (tC (V.int 0)))) (tOr (tTest (tOp (rNeD K) (tVar 10) (tVar 6))) (tTest (tOp rNe (goE K) (tC (V.int 0))))))) (tRet (tC (V.bl false))) tNext
def bodyT (K : PySem.W.Frag) : TS :=
  tSeq (tPar 6 7 (tCons (allE K) (tCons (tDGet (tVar 4) (tC (V.str "post"))) tNil)))
    (tSeq (tAsg (tIf (tTest (tOp rEq (tDGet (tVar 4) (tC (V.str "why"))) (tC (V.str "")))) (tOp (rIxT K) (tCall (sp1 rOne) [] E0 (tCons (tVar 4) tNil)) (tC (V.int 0))) (tTup (tCons (tC (V.str "")) tNil))) (gName 8))
      (tSeq (tPar 9 10 (tCons (go1E K) (tCons (allE K) tNil)))
        (tSeq (tIfS (tTest (tOp rIsN (tVar 8) (tC V.non))) (fchkT K) tNext) (echkT K))))
theorem w_rOne {H : Hp} {Q : VK} {g : Addr} {G : GL} {s : S} (R : GAt H g G s) (ok : s.Ok) (hs : s.said.length ≤ 1000) (k : ∀ H' p x y, GAt H' g G (stepS s) → FrG G g H H' → H' p = some (.tup [x, y]) → OneV H' s x → Q (.ref p) H') : rOne (.ref g) H Q := ⟨g, G, s, rfl, R, ok, hs, k⟩
theorem MOk.said {K : PySem.W.Frag} {H : Hp} {m : Addr} {s : S} {F : Addr → Prop} {n : Nat} (M : MOk K H m s F n) : s.said.length ≤ n := by
  rcases M with ⟨dx, sp, L, kk, ho, R, ok, hn, e⟩ | ⟨d, e, R, ok, hn, eF, c⟩ <;> exact hn
theorem stepRow_flt {s : S} (h : stepRow s = none) : ∃ kd : Str, (kd = "lacks" ∨ kd = "kept" ∨ kd = "row") ∧ stepS s = faultS s kd s.place := by
  cases e : readRow s.cells s.pages s.place with
  | bad kd => exact ⟨kd, bad_word e, (stepS_bad e).1⟩
  | row r bh =>
    cases ef : doFault s r with
    | none => rw [(stepS_don e ef).2] at h; cases h
    | some kd =>
      refine ⟨kd, ?_, (stepS_flt e ef).1⟩
      unfold doFault at ef
      split at ef
      · injection ef with ef; exact .inl ef.symm
      · split at ef
        · cases ef
        · injection ef with ef; exact .inr (.inl ef.symm)
      · cases ef
/-- what is to be left alone while a machine goes -/
structure Prot (PP : Addr → Prop) (RR : Hp → Prop) : Prop where
  at_ : ∀ H x, RR H → PP x → ∃ o, H x = some o
  st : ∀ H H', RR H → (∀ b o, H b = some o → PP b → H' b = some o) → TupKeep H H' → RR H'
structure LoopI (K : PySem.W.Frag) (PP : Addr → Prop) (RR : Hp → Prop) (H : Hp) (m g : Addr) (G : GL) (N : Nat) (s : S) (F : Addr → Prop) : Prop where
  mo : MOk K H m s F N
  ga : GAt H g G s
  wy : PyData.strOk s.why = true
  d1 : ∀ x, GIn G g x → ¬ F x
  d2 : ∀ x, PP x → ¬ F x
  d3 : ∀ x, PP x → ¬ GIn G g x
  rr : RR H
section
variable {K : PySem.W.Frag} {PP : Addr → Prop} {RR : Hp → Prop} {H H' : Hp} {m g : Addr} {G : GL} {N : Nat} {s : S} {F F' : Addr → Prop}
theorem LoopI.same (P : Prot PP RR) (S : Same H H') (I : LoopI K PP RR H m g G N s F) : LoopI K PP RR H' m g G N s F :=
  ⟨I.mo.same S, I.ga.same S, I.wy, I.d1, I.d2, I.d3, P.st _ _ I.rr (fun b o h _ => S b o h) (Same.tups S)⟩
theorem MOk.upN {n' : Nat} (h : N ≤ n') (M : MOk K H m s F N) : MOk K H m s F n' := by
  rcases M with ⟨dx, sp, L, kk, ho, R, ok, hn, e⟩ | ⟨d, e, R, ok, hn, eF, c⟩
  · exact .inl ⟨dx, sp, L, kk, ho, R, ok, Nat.le_trans hn h, e⟩
  · exact .inr ⟨d, e, R.upN h, ok, Nat.le_trans hn h, eF, c⟩
theorem LoopI.upN {n' : Nat} (h : N ≤ n') (I : LoopI K PP RR H m g G N s F) : LoopI K PP RR H m g G n' s F := ⟨I.mo.upN h, I.ga, I.wy, I.d1, I.d2, I.d3, I.rr⟩
/-- the machine went -/
theorem LoopI.went {s' : S} {N' : Nat} (P : Prot PP RR) (M0 : MOk K H m s F N) (d1 : ∀ x, GIn G g x → ¬ F x) (d2 : ∀ x, PP x → ¬ F x) (d3 : ∀ x, PP x → ¬ GIn G g x) (rr : RR H) (R : GAt H g G s') (hw : PyData.strOk s'.why = true) (M : MOk K H' m s' F' N') (FR : FrM F H H' F') : LoopI K PP RR H' m g G N' s' F' := by
  have tk : TupKeep H H' := fun b xs h => (FR b _ h (M0.nTup h)).1
  refine ⟨M, R.keepIn (fun b o h i => (FR b o h (d1 b i)).1) tk, hw, fun x i => ?_, fun x i => ?_, d3, P.st _ _ rr (fun b o h p => (FR b o h (d2 b p)).1) tk⟩
  · obtain ⟨o, h, _⟩ := R.inS i
    exact (FR x o h (d1 x i)).2
  · obtain ⟨o, h⟩ := P.at_ _ _ rr i
    exact (FR x o h (d2 x i)).2
theorem LoopI.frG (P : Prot PP RR) (I : LoopI K PP RR H m g G N s F) (FG : FrG G g H H') : TupKeep H H' ∧ MOk K H' m s F N ∧ RR H' := by
  have tk : TupKeep H H' := fun b xs h => FG _ _ h (I.ga.nTup h)
  exact ⟨tk, I.mo.keep (fun b o h f => FG _ _ h fun z => I.d1 b z f) tk, P.st _ _ I.rr (fun b o h p => FG _ _ h (I.d3 b p)) tk⟩
theorem AllV.frG {p : Addr} {A : AllA} {s0 : S} (R : GAt H g G s) (V : AllV H s0 p A) (na : ∀ x, AIn A p x → ¬ GIn G g x) (FG : FrG G g H H') : AllV H' s0 p A :=
  V.keepIn (fun b o h i => FG _ _ h (na b i)) fun b xs h => FG _ _ h (R.nTup h)
theorem AllV.frM {p : Addr} {A : AllA} {s0 : S} (M : MOk K H m s F N) (V : AllV H s0 p A) (na : ∀ x, AIn A p x → ¬ F x) (FR : FrM F H H' F') : AllV H' s0 p A :=
  V.keepIn (fun b o h i => (FR _ _ h (na b i)).1) fun b xs h => (FR _ _ h (M.nTup h)).1
variable {o0 o1 o2 o5 o6 o7 o8 o9 o10 : Option V} {n b d : St' → Hp → Prop} {rt : VK}
theorem t_body (P : Prot PP RR) (I : LoopI K PP RR H m g G N s F) (hN : N + 2 ≤ 1000)
    (k : ∀ H' s' F' o6 o7 o8 o9 o10, LoopI K PP RR H' m g G (N + 2) s' F' → n [o0, o1, o2, some (.ref m), some (.ref g), o5, o6, o7, o8, o9, o10] H') :
    bodyT K ⟨n, rt, b, d⟩ [o0, o1, o2, some (.ref m), some (.ref g), o5, o6, o7, o8, o9, o10] H := by
  have ok := I.mo.ok
  refine w_seq (w_par (w_cons ?_))
  refine w_all I.mo rfl fun H1 pb B S1 Vb nB => ?_
  have I1 := I.same P S1
  have nBF : ∀ x, AIn B pb x → ¬ F x := fun x hx => I.mo.nNew (nB x hx)
  have nBG : ∀ x, AIn B pb x → ¬ GIn G g x := fun x hx => I.ga.nNew (nB x hx)
  have R1 := I1.ga
  fail "S"
  by_cases hy : s.why = ""
  · have eg : goS s = stepS s := by unfold goS; rw [if_pos hy]
    refine kI_y hy ?_
    fail "S"
    refine w_rOne R1 ok (by have := I.mo.said; omega) fun H2 p x y R2 F2 hp hx => ?_
    refine w_C (w_ixT (SqT.of' hp) rfl (w_gName rfl (w_seq (w_par (w_cons ?_)))))
    obtain ⟨tk2, M2, rr2⟩ := I1.frG P F2
    have Vb2 := (Vb.frG I1.ga nBG F2)
    refine w_go1 M2 (by omega) rfl fun H3 F3 M3 FR3 => ?_
    rw [eg] at M3 ⊢
    have I3 := LoopI.went P M2 I.d1 I.d2 I.d3 rr2 R2 (stepS_why I.wy) M3 FR3
    have Vb3 := Vb2.frM M2 nBF FR3
    refine w_cons (w_all I3.mo rfl fun H4 pa A S4 Va nA => w_nil (w_kPar rfl ?_))
    have I4 := I3.same P S4
    have Vb4 := Vb3.same S4
    cases hr : stepRow s with
    | none =>
      have hx : x = .non := by unfold OneV at hx; rw [hr] at hx; exact hx
      subst hx
      obtain ⟨kd, hk, ef⟩ := stepRow_flt hr
      refine w_seq (w_ifS (w_test (w_op (w_var rfl (w_C (w_isNT (w_kB (kI_T ?_))))))))
      refine t_fchk (s := s) (s' := stepS s) (by rw [ef]; exact fltF hk ok) Vb4 Va fun H5 S5 => ?_
      exact t_enoN fun H6 S6 => k H6 _ F3 _ _ _ _ _ ((I4.same P (S5.trans S6)).upN (Nat.le_succ _))
    | some r =>
      obtain ⟨q, rfl, hq⟩ : ∃ q, x = .ref q ∧ H2 q = some (.tup r.vs) := by unfold OneV at hx; rw [hr] at hx; exact hx
      have hq4 := S4 _ _ (FR3 _ _ hq (M2.nTup hq)).1
      refine w_seq (w_ifS (w_test (w_op (w_var rfl (w_C (w_isNF (w_kB (kI_F (w_next ?_)))))))))
      exact t_enoR hq4 fun H6 S6 => k H6 _ F3 _ _ _ _ _ ((I4.same P S6).upN (Nat.le_succ _))
  · have eg : goS s = s := by unfold goS; rw [if_neg hy]
    refine kI_n hy (w_tup (w_cons (w_C (w_nil (w_kT sz1 fun t ht => ?_)))))
    refine w_gName rfl (w_seq (w_par (w_cons ?_)))
    have S2 : Same H1 (upd H1 t (.tup [.str ""])) := Ext.new ht
    have I2 := I1.same P S2
    have ht2 : upd H1 t (.tup [.str ""]) t = some (.tup [.str ""]) := upd_same
    have Vb2 := Vb.same S2
    generalize upd H1 t (.tup [.str ""]) = H2 at S2 I2 ht2 Vb2 ⊢
    refine w_go1 I2.mo (by omega) rfl fun H3 F3 M3 FR3 => ?_
    rw [eg] at M3 ⊢
    rw [Int.sub_self]
    have I3 := LoopI.went P I2.mo I.d1 I.d2 I.d3 I2.rr I2.ga I.wy M3 FR3
    have Vb3 := Vb2.frM I2.mo nBF FR3
    refine w_cons (w_all I3.mo rfl fun H4 pa A S4 Va nA => w_nil (w_kPar rfl ?_))
    have I4 := I3.same P S4
    have Vb4 := Vb3.same S4
    have ht4 := S4 _ _ (FR3 _ _ ht2 (I2.mo.nTup ht2)).1
    refine w_seq (w_ifS (w_test (w_op (w_var rfl (w_C (w_isNF (w_kB (kI_F (w_next ?_)))))))))
    refine t_end_ ht4 I4.mo (by omega) hy I.wy Va Vb4 fun H5 F5 M5 FR5 => ?_
    exact k H5 s F5 _ _ _ _ _ (LoopI.went P I4.mo I4.d1 I4.d2 I4.d3 I4.rr I4.ga I4.wy M5 FR5)
theorem t_inner {v : Nat} (P : Prot PP RR) (hv : v ≤ 100) (I : LoopI K PP RR H m g G 0 s F) (k : ∀ H' s' F' o5 o6 o7 o8 o9 o10, LoopI K PP RR H' m g G (2 * v) s' F' → n [o0, o1, o2, some (.ref m), some (.ref g), o5, o6, o7, o8, o9, o10] H') :
    kForJ (gName 5) (bodyT K) ⟨n, rt, b, d⟩ [o0, o1, o2, some (.ref m), some (.ref g), o5, o6, o7, o8, o9, o10] (Itr 0 v) H := by
  refine w_forJ walk_range (fun i σ H' => (∃ o5 o6 o7 o8 o9 o10, σ = [o0, o1, o2, some (.ref m), some (.ref g), o5, o6, o7, o8, o9, o10]) ∧ ∃ s' F', LoopI K PP RR H' m g G (2 * i) s' F') ⟨⟨_, _, _, _, _, _, rfl⟩, _, _, I⟩ (fun _ _ _ _ _ => True.intro) ?_ ?_
  · rintro i x σ H1 H2 hi ⟨⟨o5, o6, o7, o8, o9, o10, rfl⟩, s1, F1, I1⟩ ⟨rfl, rfl⟩
    refine w_gName rfl ?_
    exact t_body P I1 (by omega) fun H' s' F' o6 o7 o8 o9 o10 I' => ⟨⟨_, _, _, _, _, _, rfl⟩, s', F', I'⟩
  · rintro σ H1 ⟨⟨o5, o6, o7, o8, o9, o10, rfl⟩, s1, F1, I1⟩
    exact k _ _ _ _ _ _ _ _ _ I1
end
/-- the script's own thing, if there is one -/
theorem sq_prot {K : PySem.W.Frag} {H : Hp} {d sa : Addr} {ns : List Int} (D : DiceAt K H d sa ns) : ∃ (Ps : Addr → Prop) (Rs : Hp → Prop), Rs H ∧ (∀ H', Rs H' → SqL K H' sa (ns.map V.int)) ∧ Prot Ps Rs ∧ ∀ x, Ps x → x ≠ d := by
  obtain ⟨⟨i, mx, r, hd, _⟩, sq⟩ := D
  rcases sq with (q | ⟨u, q⟩) | q
  · refine ⟨fun x => x = sa, fun H' => H' sa = some (.lst (ns.map V.int)), q, fun H' h => .inl (.inl h), ⟨fun H' x h (e : x = sa) => (by subst e; exact ⟨_, h⟩), fun H1 H2 h k _ => k _ _ h rfl⟩, fun x e z => ?_⟩
    rw [← e, z, hd] at q
    injection q with q
    exact ints_ne (xs := ns) q.symm
  · refine ⟨fun x => x = sa, fun H' => H' sa = some (.frz u (.lst (ns.map V.int))), q, fun H' h => .inl (.inr ⟨u, h⟩), ⟨fun H' x h (e : x = sa) => (by subst e; exact ⟨_, h⟩), fun H1 H2 h k _ => k _ _ h rfl⟩, fun x e z => ?_⟩
    rw [← e, z, hd] at q
    cases q
  · exact ⟨fun _ => False, fun _ => True, trivial, fun H' _ => .inr q, ⟨fun _ _ _ z => z.elim, fun _ _ _ _ _ => trivial⟩, fun _ z => z.elim⟩
structure Base (K : PySem.W.Frag) (H : Hp) (d sa c lm mp mt : Addr) (cs : List Int) : Prop where
  di : ∃ i mx r, H d = some (.lst [.ref sa, .int i, .int mx, .int r]) ∧ 0 ≤ i
  c : H c = some (.lst (cs.map V.int))
  lm : H lm = some (.lst [.ref mp, .ref mt])
theorem prot_base {K : PySem.W.Frag} {d sa c lm mp mt : Addr} {cs : List Int} {Ps E : Addr → Prop} {Rs RE : Hp → Prop} (P1 : Prot Ps Rs) (P2 : Prot E RE) : Prot (fun x => x = d ∨ x = c ∨ x = lm ∨ Ps x ∨ E x) (fun H => Base K H d sa c lm mp mt cs ∧ Rs H ∧ RE H) where
  at_ := fun H x ⟨⟨⟨i, mx, r, h1, _⟩, h2, h3⟩, h4, h5⟩ h => by
    rcases h with e | e | e | e | e
    · exact ⟨_, by rw [e]; exact h1⟩
    · exact ⟨_, by rw [e]; exact h2⟩
    · exact ⟨_, by rw [e]; exact h3⟩
    · exact P1.at_ H x h4 e
    · exact P2.at_ H x h5 e
  st := fun H H' ⟨⟨⟨i, mx, r, h1, h0⟩, h2, h3⟩, h4, h5⟩ k tk =>
    ⟨⟨⟨i, mx, r, k _ _ h1 (.inl rfl), h0⟩, k _ _ h2 (.inr (.inl rfl)), k _ _ h3 (.inr (.inr (.inl rfl)))⟩, P1.st H H' h4 (fun b o h p => k b o h (.inr (.inr (.inr (.inl p))))) tk, P2.st H H' h5 (fun b o h p => k b o h (.inr (.inr (.inr (.inr p))))) tk⟩
theorem prot_mok {K : PySem.W.Frag} {m : Addr} {s : S} {F : Addr → Prop} {n : Nat} : Prot F (fun H => MOk K H m s F n) where
  at_ := fun H x M h => let ⟨o, e, _⟩ := M.inS h; ⟨o, e⟩
  st := fun H H' M k tk => M.keep k tk
theorem prot_no : Prot (fun _ => False) (fun _ => True) := ⟨fun _ _ _ z => z.elim, fun _ _ _ _ _ => trivial⟩

/-! part P44law -/
def rLaw (K : PySem.W.Frag) (a : V) (H : Hp) (Q : VK) : Prop := ∃ sa ns, a = .ref sa ∧ SqL K H sa (List.map V.int ns) ∧ ns.length ≤ 63 ∧ ∀ H', Q (.bl true) H'
/-- the machine that is still to come -/
def Rest (K : PySem.W.Frag) (i : Nat) (H : Hp) (mp mt : Addr) (cs : List Int) (FP FT : Addr → Prop) : Prop := (i = 0 ∧ MOk K H mp (initS cs 0) FP 0 ∧ MOk K H mt (initS cs 0) FT 0) ∨ (i = 1 ∧ MOk K H mt (initS cs 0) FT 0) ∨ i = 2
theorem mk_loop {K : PySem.W.Frag} {PP : Addr → Prop} {RR : Hp → Prop} {H : Hp} {m g : Addr} {G : GL} {cs : List Int} {F : Addr → Prop} (M : MOk K H m (initS cs 0) F 0) (R : GAt H g G (initS cs 0)) (d1 : ∀ x, GIn G g x → ¬ F x) (d2 : ∀ x, PP x → ¬ F x) (d3 : ∀ x, PP x → ¬ GIn G g x) (rr : RR H) : LoopI K PP RR H m g G 0 (initS cs 0) F :=
  ⟨M, R, by show PyData.strOk "" = true; decide +kernel, d1, d2, d3, rr⟩
section
variable {P : Program} {w : World} {K : PySem.W.Frag} {mg : Str → Option Value} {base : Heap}
/-- a machine's loop: own, next, the turns -/
theorem t_outer {H : Hp} {m d sa c lm mp mt : Addr} {cs ns : List Int} {F E : Addr → Prop} {RE Rs : Hp → Prop} {Ps : Addr → Prop} {o4 o5 o6 o7 o8 o9 o10 : Option V} {n b dd : St' → Hp → Prop} {rt : VK}
    (P1 : Prot Ps Rs) (P2 : Prot E RE) (hRs : ∀ H', Rs H' → SqL K H' sa (ns.map V.int)) (hPd : ∀ x, Ps x → x ≠ d) (hEd : ∀ x, E x → x ≠ d) (hcd : c ≠ d) (hld : lm ≠ d) (hcl : cs.length ≤ 128)
    (M : MOk K H m (initS cs 0) F 0) (B : Base K H d sa c lm mp mt cs) (rs : Rs H) (re : RE H) (d2 : ∀ x, (x = d ∨ x = c ∨ x = lm ∨ Ps x ∨ E x) → ¬ F x)
    (k : ∀ H' o4 o5 o6 o7 o8 o9 o10, Base K H' d sa c lm mp mt cs → Rs H' → RE H' → n [some (.ref sa), some (.ref d), some (.ref c), some (.ref m), o4, o5, o6, o7, o8, o9, o10] H') :
    tSeq (tAsg (tCall (sp2 (rOwn K)) [] E0 (tCons (tVar 2) (tCons (tC (V.int 0)) tNil))) (gName 4))
      (tFor (iRng1 (tCons (tCall (sp2 (rNext K)) [] E0 (tCons (tVar 1) (tCons (tC (V.int 61)) tNil))) tNil)) (gName 5) (bodyT K)) ⟨n, rt, b, dd⟩ [some (.ref sa), some (.ref d), some (.ref c), some (.ref m), o4, o5, o6, o7, o8, o9, o10] H := by
  refine w_seq (w_asg (w_call (w_cons (w_var rfl (w_cons (w_C (w_nil (w_spF2 ?_))))))))
  refine ⟨c, cs, rfl, rfl, SqL.of' B.c, hcl, fun H1 g G S1 R1 nG => w_gName rfl ?_⟩
  have P := prot_base (K := K) (d := d) (sa := sa) (c := c) (lm := lm) (mp := mp) (mt := mt) (cs := cs) P1 P2
  have rr : Base K H d sa c lm mp mt cs ∧ Rs H ∧ RE H := ⟨B, rs, re⟩
  have rr1 := P.st _ _ rr (fun b o h _ => S1 b o h) (Same.tups S1)
  have M1 := M.same S1
  have D1 : DiceAt K H1 d sa ns := ⟨rr1.1.di, hRs _ rr1.2.1⟩
  have d1 : ∀ x, GIn G g x → ¬ F x := fun x h => M.nNew (nG x h)
  have d3 : ∀ x, (x = d ∨ x = c ∨ x = lm ∨ Ps x ∨ E x) → ¬ GIn G g x := fun x h z => by
    obtain ⟨o, e⟩ := P.at_ _ _ rr h
    rw [nG x z] at e
    cases e
  refine w_for (w_iRng1 (w_cons (w_call (w_cons (w_var rfl (w_cons (w_C (w_nil (w_spF2 (w_rNext D1 (by decide) (by decide) fun H2 v D2 K2 v0 v1 => ?_)))))))))) 
  refine w_nil (w_kR1 (by omega) (by omega) ?_)
  obtain ⟨i, mx, r, hd1, _⟩ := D1.ex
  have tk : TupKeep H1 H2 := tup_kp hd1 K2
  have rr2 : Base K H2 d sa c lm mp mt cs ∧ Rs H2 ∧ RE H2 :=
    ⟨⟨D2.ex, K2 _ _ rr1.1.c hcd, K2 _ _ rr1.1.lm hld⟩, P1.st _ _ rr1.2.1 (fun b o h p => K2 _ _ h (hPd b p)) tk, P2.st _ _ rr1.2.2 (fun b o h p => K2 _ _ h (hEd b p)) tk⟩
  have M2 := M1.keep (fun b o h f => K2 _ _ h (fun e => d2 d (.inl rfl) (e ▸ f))) tk
  have R2 := R1.keepIn (fun b o h i => K2 _ _ h (fun e => d3 d (.inl rfl) (e ▸ i))) tk
  refine t_inner P (by omega) (mk_loop M2 R2 d1 d2 d3 rr2) fun H' s' F' o5 o6 o7 o8 o9 o10 I' => ?_
  exact k H' _ _ _ _ _ _ _ I'.rr.1 I'.rr.2.1 I'.rr.2.2
theorem fn_law (T : Txt w K mg) {f : Addr} {fd : FuncData} (F : FunD K "law" "law" (defArgs s_law) (defBody s_law) (defScope s_law) [] [] f fd) : FnOk P w K mg base CX0 10 f fd ["_law_script"] (sp1 (rLaw K)) := by
  refine F.ok sc_law (fun vs H Q E h => ?_) (fun cdv A outer s0 H vs Q E hr h => ?_)
  · obtain ⟨_, rfl, _⟩ := h
    rfl
  · obtain ⟨_, rfl, sa, ns, rfl, hs, hlen, k⟩ := h
    have goP1 := go1 (P := P) (base := base) T (mc_P T) (mi_plain T)
    have goT1 := go1 (P := P) (base := base) T (mc_T T) (mi_turn T)
    have goP0 := go0 (P := P) (base := base) T (mc_P T) (mi_plain T)
    have goT0 := go0 (P := P) (base := base) T (mc_T T) (mi_turn T)
    refine ⟨_, (pss_cons (ps_set (i := 1) sc_law.nd rfl (by first | exact .inl rfl | exact .inr rfl) (e_call (ok_l_dice T) hr (pa_cons (pv 0) pa_nil)))
 (pss_cons (ps_set (i := 2) sc_law.nd rfl (by first | exact .inl rfl | exact .inr rfl) (e_call (ok_l_code T) hr (pa_cons (pv 1) pa_nil)))
 (pss_cons (ps_for (passes_of rfl) rfl (pi_list (pe_lst (pa_cons (e_make (mk_Plain T) hr (pa_cons (pv 2) pa_nil)) (pa_cons (e_make (mk_Turner T) hr (pa_cons (pv 2) pa_nil)) pa_nil)))) (pg_name (i := 3) sc_law.nd rfl (by first | exact .inl rfl | exact .inr rfl))
 (pss_cons (ps_set (i := 4) sc_law.nd rfl (by first | exact .inl rfl | exact .inr rfl) (e_call (ok_l_own T) hr (pa_cons (pv 2) (pa_cons pe_int pa_nil))))
 (pss_one (ps_for (passes_of rfl) rfl (pi_range1 (by rfl) T.f_range (pa_cons (e_call (ok_l_next T) hr (pa_cons (pv 1) (pa_cons pe_int pa_nil))) pa_nil)) (pg_name (i := 5) sc_law.nd rfl (by first | exact .inl rfl | exact .inr rfl))
 (pss_cons (ps_par (i := 6) (j := 7) rfl sc_law.nd rfl rfl (by decide) rfl rfl (pa_cons (pe_or2 (e_call (ok_l_all T (mc_P T)) hr (pa_cons (pv 3) pa_nil)) (e_call (ok_l_all T (mc_T T)) hr (pa_cons (pv 3) pa_nil))) (pa_cons (pe_dget (u1 hr.units) (pv 4) pe_str (fun _ _ => rfl)) pa_nil)) (by rfl))
 (pss_cons (ps_set (i := 8) sc_law.nd rfl (by first | exact .inl rfl | exact .inr rfl) (pe_ifExp (pt_cmpR op_eq (pe_dget (u1 hr.units) (pv 4) pe_str (fun _ _ => rfl)) pe_str (nomark _)) (pe_ix ix_tup (e_call (ok_l_one T) hr (pa_cons (pv 4) pa_nil)) pe_int (fun _ _ => rfl)) (pe_tup (pa_cons pe_str pa_nil))))
 (pss_cons (ps_par (i := 9) (j := 10) rfl sc_law.nd rfl rfl (by decide) rfl rfl (pa_cons (pe_or2 (e_meth0 (pv 3) T.cl_Plain goP1 hr) (e_meth0 (pv 3) T.cl_Turner goT1 hr)) (pa_cons (pe_or2 (e_call (ok_l_all T (mc_P T)) hr (pa_cons (pv 3) pa_nil)) (e_call (ok_l_all T (mc_T T)) hr (pa_cons (pv 3) pa_nil))) pa_nil)) (by rfl))
 (pss_cons (ps_if (pt_cmpR op_isN1 (pv 8) pe_non (nomark _))
 (pss_cons (ps_if (PW.pt (pw_or (pt_cmpR (op_neD hr.units) (pe_slice sl_list (pv 10) (po_some pe_int) (po_some pe_int)) (pe_slice sl_list (pv 6) (po_some pe_int) (po_some pe_int)) (nomark _)) (pw_or1 (pt_cmpR (op_neD hr.units) (pe_slice sl_list (pe_ix ix_list (pv 10) pe_int (fun _ _ => rfl)) (po_some pe_int) po_none) (pe_slice sl_list (pe_ix ix_list (pv 6) pe_int (fun _ _ => rfl)) (po_some pe_int) po_none) (nomark _)))))
 (pss_one (ps_ret pe_bl))
 pss_nil)
 (pss_cons (ps_if (PW.pt (pw_or (pt_cmpR op_ne (pv 9) (pe_callTy int1 (by rfl) T.f_int (by decide +kernel) (pa_cons (pe_cmpR op_notN1 (pv 7) pe_non (nomark _)) pa_nil)) (nomark _)) (pw_or1 (PW.pt (pw_and (pt_cmpR op_isN1 (pv 7) pe_non (nomark _)) (pw_and1 (pt_cmpR op_eq (pe_ix ix_list (pv 10) pe_int (fun _ _ => rfl)) pe_str (nomark _))))))))
 (pss_one (ps_ret pe_bl))
 pss_nil)
 (pss_cons (ps_if (PW.pt (pw_and (pt_cmpR op_isN1 (pv 7) pe_non (nomark _)) (pw_and1 (pt_cmpR (op_neD hr.units) (pe_lst (pa_cons (pe_slice sl_list (pv 10) po_none (po_some pe_int)) (pa_cons (pe_slice sl_list (pv 10) (po_some pe_int) po_none) pa_nil))) (pe_lst (pa_cons (pe_slice sl_list (pv 6) po_none (po_some pe_int)) (pa_cons (pe_slice sl_list (pv 6) (po_some pe_int) po_none) pa_nil))) (nomark _)))))
 (pss_one (ps_ret pe_bl))
 pss_nil)
 (pss_cons (ps_if (PW.pt (pw_and (pt_cmpR op_notN1 (pv 7) pe_non (nomark _)) (pw_and1 (pt_cmpR (op_neD hr.units) (pe_lst (pa_cons (pe_ix ix_list (pv 10) pe_int (fun _ _ => rfl)) (pa_cons (pe_ix ix_list (pe_ix ix_list (pv 10) pe_int (fun _ _ => rfl)) pe_int (fun _ _ => rfl)) pa_nil))) (pe_lst (pa_cons (pv 7) (pa_cons (pe_ix ix_list (pv 6) pe_int (fun _ _ => rfl)) pa_nil))) (nomark _)))))
 (pss_one (ps_ret pe_bl))
 pss_nil)
 (pss_one (ps_if (PW.pt (pw_and (pt_cmpR op_notN1 (pv 7) pe_non (nomark _)) (pw_and1 (pt_cmpR op_notIn_seq (pe_ix ix_list (pe_ix ix_list (pv 10) pe_int (fun _ _ => rfl)) pe_int (fun _ _ => rfl)) (pe_tup (pa_cons pe_int (pa_cons pe_int (pa_cons pe_int pa_nil)))) (by with_unfolding_all rfl)))))
 (pss_one (ps_ret pe_bl))
 pss_nil))))))
 pss_nil)
 (pss_one (ps_if (PW.pt (pw_and (pt_cmpR (op_eqD hr.units) (pv 8) (pe_tup (pa_cons pe_str pa_nil)) (nomark _)) (pw_and1 (PW.pt (pw_or (pt_cmpR op_ne (pv 9) pe_int (nomark _)) (pw_or (pt_cmpR (op_neD hr.units) (pv 10) (pv 6) (nomark _)) (pw_or1 (pt_cmpR op_ne (pe_or2 (e_meth (pv 3) T.cl_Plain goP0 hr (pa_cons pe_int pa_nil)) (e_meth (pv 3) T.cl_Turner goT0 hr (pa_cons pe_int pa_nil))) pe_int (nomark _)))))))))
 (pss_one (ps_ret pe_bl))
 pss_nil))))))))))
 (pss_one (ps_ret pe_bl))))), ?_⟩
    rw [show start N_law [V.ref sa] = [some (V.ref sa), none, none, none, none, none, none, none, none, none, none] from rfl]; try simp only [cxK, cxW]
    refine w_seq (w_asg (w_call (w_cons (w_var rfl (w_nil (w_spF1 ?_))))))
    refine ⟨sa, ns, rfl, hs, hlen, fun H1 d S1 nd D1 => w_gName rfl ?_⟩
    refine w_seq (w_asg (w_call (w_cons (w_var rfl (w_nil (w_spF1 ?_))))))
    refine ⟨d, sa, ns, rfl, D1, fun H2 c cs D2 K2 nc hc hcl hcb => w_gName rfl ?_⟩
    obtain ⟨Ps, Rs, rs2, hRs, P1, hPd⟩ := sq_prot D2
    obtain ⟨i1, mx1, r1, hd1, _⟩ := D1.ex
    obtain ⟨i2, mx2, r2, hd2, hi2⟩ := D2.ex
    have hcd : c ≠ d := (ne_of_none hd1 nc).symm
    refine w_seq (w_for (w_iList (w_lst (w_cons (w_make (w_cons (w_var rfl (w_nil ?_))))))))
    intro mp pd hmp hpd hne
    have hmp' : upd H2 pd (.own mp) mp = none := by rw [upd_ne hne.symm]; exact hmp
    have hx : ∀ {x}, upd (upd H2 pd (.own mp)) mp (.ins (cP K) pd []) x = none → H2 x = none := fun h => fresh_new (fresh_new h)
    refine ⟨_, _, _, rfl, mp, pd, c, cs, 0, rfl, rfl, rfl, upd_same, SqL.of' (look_new hmp' (look_new hpd hc)), hcl, hcb, by decide, by decide, fun H3 sp L h3 R3 nsp nL K3 => ⟨rfl, ?_⟩⟩
    have S3 : Same H2 H3 := fun x o h => K3 _ _ (look_new hmp' (look_new hpd h)) (ne_of_none h hmp)
    have MP3 : MOk K H3 mp (initS cs 0) (fun x => x = mp ∨ L.In sp x) 0 := .inl ⟨pd, sp, L, 0, h3, R3, initS_ok hcl hcb, Nat.le_refl _, rfl⟩
    have nFP : ∀ x, (x = mp ∨ L.In sp x) → H2 x = none := fun x h => by
      rcases h with e | e | e | e | e | e <;> rw [e]
      · exact hmp
      · exact hx nsp
      · exact hx nL.st
      · exact hx nL.mp
      · exact hx nL.hd
      · exact hx nL.td
    obtain ⟨FP, MP3, nFP⟩ : ∃ FP : Addr → Prop, MOk K H3 mp (initS cs 0) FP 0 ∧ ∀ x, FP x → H2 x = none := ⟨_, MP3, nFP⟩
    refine w_cons (w_make (w_cons (w_var rfl (w_nil ?_))))
    intro mt td hmt htd hne2
    have hmt' : upd H3 td (.own mt) mt = none := by rw [upd_ne hne2.symm]; exact hmt
    refine ⟨_, _, _, _, _, rfl, mt, td, c, cs, rfl, rfl, rfl, rfl, rfl, upd_same, SqL.of' (look_new hmt' (look_new htd (S3 _ _ hc))), hcl, hcb, fun H4 FT MT K4 nFT' => ⟨rfl, ?_⟩⟩
    have S4 : Same H3 H4 := fun x o h => K4 _ _ (look_new hmt' (look_new htd h)) (ne_of_none h hmt)
    have nFT : ∀ x, FT x → H3 x = none := fun x h => by
      rcases nFT' x h with e | e
      · rw [e]; exact hmt
      · exact fresh_new (fresh_new e)
    have MT4 : MOk K H4 mt (initS cs 0) FT 0 := .inr MT
    have MP4 := MP3.same S4
    refine w_nil (w_kL sz2 fun lm hlm => w_kIL (SqL.of' upd_same) ?_)
    have S5 : Same H4 (upd H4 lm (.lst [.ref mp, .ref mt])) := Ext.new hlm
    have hl5 : upd H4 lm (.lst [.ref mp, .ref mt]) lm = some (.lst [.ref mp, .ref mt]) := upd_same
    generalize upd H4 lm (.lst [.ref mp, .ref mt]) = H5 at S5 hl5 ⊢
    have S25 : Same H2 H5 := (S3.trans S4).trans S5
    have MP5 := MP4.same S5
    have MT5 := MT4.same S5
    have hld : lm ≠ d := fun e => by rw [e, S4 _ _ (S3 _ _ hd2)] at hlm; cases hlm
    have B5 : Base K H5 d sa c lm mp mt cs := ⟨⟨_, _, _, S25 _ _ hd2, hi2⟩, S25 _ _ hc, hl5⟩
    have rs5 := P1.st _ _ rs2 (fun b o h _ => S25 b o h) (Same.tups S25)
    have in2 : ∀ x, (x = d ∨ x = c ∨ Ps x) → ∃ o, H2 x = some o := fun x h => by
      rcases h with e | e | e
      · exact ⟨_, by rw [e]; exact hd2⟩
      · exact ⟨_, by rw [e]; exact hc⟩
      · exact P1.at_ _ _ rs2 e
    have dFP : ∀ x, (x = d ∨ x = c ∨ x = lm ∨ Ps x ∨ FT x) → ¬ FP x := fun x h f => by
      have e0 := nFP x f
      rcases h with e | e | e | e | e
      · obtain ⟨o, z⟩ := in2 x (.inl e); rw [e0] at z; cases z
      · obtain ⟨o, z⟩ := in2 x (.inr (.inl e)); rw [e0] at z; cases z
      · exact MP4.nNew hlm (e ▸ f)
      · obtain ⟨o, z⟩ := in2 x (.inr (.inr e)); rw [e0] at z; cases z
      · exact MP3.nNew (nFT x e) f
    have dFT : ∀ x, (x = d ∨ x = c ∨ x = lm ∨ Ps x ∨ False) → ¬ FT x := fun x h f => by
      have e0 := nFT x f
      rcases h with e | e | e | e | e
      · obtain ⟨o, z⟩ := in2 x (.inl e); rw [S3 _ _ z] at e0; cases e0
      · obtain ⟨o, z⟩ := in2 x (.inr (.inl e)); rw [S3 _ _ z] at e0; cases e0
      · exact MT4.nNew hlm (e ▸ f)
      · obtain ⟨o, z⟩ := in2 x (.inr (.inr e)); rw [S3 _ _ z] at e0; cases e0
      · exact e
    refine w_forJ walk_list (fun i σ H' => (∃ o3 o4 o5 o6 o7 o8 o9 o10, σ = [some (.ref sa), some (.ref d), some (.ref c), o3, o4, o5, o6, o7, o8, o9, o10]) ∧ Base K H' d sa c lm mp mt cs ∧ Rs H' ∧ Rest K i H' mp mt cs FP FT)
      ⟨⟨_, _, _, _, _, _, _, _, rfl⟩, B5, rs5, .inl ⟨rfl, MP5, MT5⟩⟩ (fun i σ H' _ ⟨_, B', _⟩ => SqL.of' B'.lm) ?_ ?_
    · rintro i x σ H6 H7 hi ⟨⟨o3, o4, o5, o6, o7, o8, o9, o10, rfl⟩, B6, rs6, hrest⟩ ⟨rfl, hx⟩
      rcases hrest with ⟨rfl, MP6, MT6⟩ | ⟨rfl, MT6⟩ | rfl
      · obtain rfl : V.ref mp = x := Option.some.inj hx
        refine w_gName rfl ?_
        exact t_outer P1 prot_mok hRs hPd (fun y hy e => dFT y (.inl e) hy) hcd hld hcl MP6 B6 rs6 MT6 dFP fun H' o4 o5 o6 o7 o8 o9 o10 B' rs' MT' => ⟨⟨_, _, _, _, _, _, _, _, rfl⟩, B', rs', .inr (.inl ⟨rfl, MT'⟩)⟩
      · obtain rfl : V.ref mt = x := Option.some.inj hx
        refine w_gName rfl ?_
        exact t_outer P1 prot_no hRs hPd (fun y hy => hy.elim) hcd hld hcl MT6 B6 rs6 trivial dFT fun H' o4 o5 o6 o7 o8 o9 o10 B' rs' _ => ⟨⟨_, _, _, _, _, _, _, _, rfl⟩, B', rs', .inr (.inr rfl)⟩
      · exact absurd hi (Nat.lt_irrefl 2)
    · rintro σ H6 ⟨⟨o3, o4, o5, o6, o7, o8, o9, o10, rfl⟩, _⟩
      exact w_ret (w_C (k _))
end

/-! part P45txt -/
/-! ### Txt out of what the top has left -/
def FA : List He.Fa := [.cls "State", .mkr "State", .glo "State", .noat "State" "store", .noat "State" "map", .noat "State" "held", .noat "State" "sum", .noat "State" "next_place", .noat "State" "post", .noat "State" "told", .noat "State" "end", .noat "State" "many", .cls "Plain", .mkr "Plain", .glo "Plain", .noat "Plain" "state", .noat "Plain" "asked", .cls "Block", .mkr "Block", .glo "Block", .noat "Block" "start", .noat "Block" "rows", .noat "Block" "spots", .noat "Block" "chains", .noat "Block" "begun", .noat "Block" "last", .cls "Turner", .mkr "Turner", .glo "Turner", .noat "Turner" "state", .noat "Turner" "asked", .noat "Turner" "long", .noat "Turner" "room", .noat "Turner" "table", .noat "Turner" "now", .noat "Turner" "come", .noat "Turner" "at", .noat "Turner" "clock", .noat "Turner" "made", .noat "Turner" "looked", .noat "Turner" "chained", .noat "Turner" "thrown", .glo "head_of", .glo "size_of", .meth "State" "spot", .meth "State" "is_zero", .meth "State" "is_carry", .meth "State" "fault", .meth "State" "goal", .meth "State" "reached", .meth "State" "do", .meth "State" "change", .glo "need_guest", .glo "read_row", .glo "done_alone", .meth "Plain" "go", .meth "Turner" "go", .meth "Plain" "advance", .meth "Plain" "rows_done", .meth "Turner" "rows_done", .meth "Plain" "place", .meth "Turner" "place", .meth "Plain" "why", .meth "Turner" "why", .meth "Plain" "registers", .meth "Turner" "registers", .meth "Plain" "flags", .meth "Turner" "flags", .meth "Plain" "cells", .meth "Turner" "cells", .meth "Plain" "said", .meth "Turner" "said", .meth "Plain" "pages", .meth "Turner" "pages", .meth "Plain" "guard", .meth "Turner" "guard", .meth "Block" "exits", .glo "block_at", .meth "Turner" "advance", .meth "Turner" "change_blocks", .meth "Turner" "found", .meth "Turner" "begin", .meth "Turner" "make", .meth "Turner" "throw", .glo "_law_dice", .glo "_law_next", .glo "_law_terms", .glo "_law_bounds", .glo "_law_is_long", .glo "_law_head", .glo "_law_code_of", .glo "_law_row", .glo "_law_code", .glo "_law_own", .glo "_law_spot", .glo "_law_at", .glo "_law_one", .glo "_law_goal", .glo "_law_change", .glo "_law_all", .glo "law", .glo "ALL_WORDS", .glo "LONGER", .glo "ENDS", .glo "GOALS", .glo "NOT_BEHIND", .glo "SHAPES", .glo "KINDS", .int "MOST" 9999, .int "REGISTERS" 4, .int "PAGES" 4, .int "CELLS" 128, .int "FRAME" 16, .int "PLACES" 64, .int "BEGIN" 0, .int "MOST_COUNT" 999, .int "LONG" 8, .int "ROOM" 6, .int "MOST_LONG" 16, .int "MOST_ROOM" 20, .str "LACKS" "lacks", .str "KEPT" "kept", .str "ROW" "row", .free "len", .free "list", .free "tuple", .free "range", .free "zip", .free "enumerate", .free "int", .free "min"]
def D_head_of : He.DefD := ⟨("head_of", none), "head_of", "head_of", defArgs s_head_of, defBody s_head_of, defScope s_head_of, [], []⟩
def D_size_of : He.DefD := ⟨("size_of", none), "size_of", "size_of", defArgs s_size_of, defBody s_size_of, defScope s_size_of, [], []⟩
def D_State_init : He.DefD := ⟨("State", some "__init__"), "__init__", "State.__init__", defArgs s_State_init, defBody s_State_init, defScope s_State_init, [], []⟩
def D_State_spot : He.DefD := ⟨("State", some "spot"), "spot", "State.spot", defArgs s_State_spot, defBody s_State_spot, defScope s_State_spot, [], []⟩
def D_State_is_zero : He.DefD := ⟨("State", some "is_zero"), "is_zero", "State.is_zero", defArgs s_State_is_zero, defBody s_State_is_zero, defScope s_State_is_zero, [], []⟩
def D_State_is_carry : He.DefD := ⟨("State", some "is_carry"), "is_carry", "State.is_carry", defArgs s_State_is_carry, defBody s_State_is_carry, defScope s_State_is_carry, [], []⟩
def D_State_fault : He.DefD := ⟨("State", some "fault"), "fault", "State.fault", defArgs s_State_fault, defBody s_State_fault, defScope s_State_fault, [], []⟩
def D_State_goal : He.DefD := ⟨("State", some "goal"), "goal", "State.goal", defArgs s_State_goal, defBody s_State_goal, defScope s_State_goal, [], []⟩
def D_State_reached : He.DefD := ⟨("State", some "reached"), "reached", "State.reached", defArgs s_State_reached, defBody s_State_reached, defScope s_State_reached, [], []⟩
def D_State_do : He.DefD := ⟨("State", some "do"), "do", "State.do", defArgs s_State_do, defBody s_State_do, defScope s_State_do, [], []⟩
def D_State_change : He.DefD := ⟨("State", some "change"), "change", "State.change", defArgs s_State_change, defBody s_State_change, defScope s_State_change, [], []⟩
def D_need_guest : He.DefD := ⟨("need_guest", none), "need_guest", "need_guest", defArgs s_need_guest, defBody s_need_guest, defScope s_need_guest, [], []⟩
def D_read_row : He.DefD := ⟨("read_row", none), "read_row", "read_row", defArgs s_read_row, defBody s_read_row, defScope s_read_row, [], []⟩
def D_done_alone : He.DefD := ⟨("done_alone", none), "done_alone", "done_alone", defArgs s_done_alone, defBody s_done_alone, defScope s_done_alone, [], []⟩
def D_Plain_init : He.DefD := ⟨("Plain", some "__init__"), "__init__", "Plain.__init__", defArgs s_Plain_init, defBody s_Plain_init, defScope s_Plain_init, [], [("begin", .int 0)]⟩
def D_Plain_go : He.DefD := ⟨("Plain", some "go"), "go", "Plain.go", defArgs s_Plain_go, defBody s_Plain_go, defScope s_Plain_go, [.int 1], []⟩
def D_Plain_advance : He.DefD := ⟨("Plain", some "advance"), "advance", "Plain.advance", defArgs s_Plain_advance, defBody s_Plain_advance, defScope s_Plain_advance, [], []⟩
def D_Plain_rows_done : He.DefD := ⟨("Plain", some "rows_done"), "rows_done", "Plain.rows_done", defArgs s_Plain_rows_done, defBody s_Plain_rows_done, defScope s_Plain_rows_done, [], []⟩
def D_Plain_place : He.DefD := ⟨("Plain", some "place"), "place", "Plain.place", defArgs s_Plain_place, defBody s_Plain_place, defScope s_Plain_place, [], []⟩
def D_Plain_why : He.DefD := ⟨("Plain", some "why"), "why", "Plain.why", defArgs s_Plain_why, defBody s_Plain_why, defScope s_Plain_why, [], []⟩
def D_Plain_registers : He.DefD := ⟨("Plain", some "registers"), "registers", "Plain.registers", defArgs s_Plain_registers, defBody s_Plain_registers, defScope s_Plain_registers, [], []⟩
def D_Plain_flags : He.DefD := ⟨("Plain", some "flags"), "flags", "Plain.flags", defArgs s_Plain_flags, defBody s_Plain_flags, defScope s_Plain_flags, [], []⟩
def D_Plain_cells : He.DefD := ⟨("Plain", some "cells"), "cells", "Plain.cells", defArgs s_Plain_cells, defBody s_Plain_cells, defScope s_Plain_cells, [], []⟩
def D_Plain_said : He.DefD := ⟨("Plain", some "said"), "said", "Plain.said", defArgs s_Plain_said, defBody s_Plain_said, defScope s_Plain_said, [], []⟩
def D_Plain_pages : He.DefD := ⟨("Plain", some "pages"), "pages", "Plain.pages", defArgs s_Plain_pages, defBody s_Plain_pages, defScope s_Plain_pages, [], []⟩
def D_Plain_guard : He.DefD := ⟨("Plain", some "guard"), "guard", "Plain.guard", defArgs s_Plain_guard, defBody s_Plain_guard, defScope s_Plain_guard, [], []⟩
def D_Block_init : He.DefD := ⟨("Block", some "__init__"), "__init__", "Block.__init__", defArgs s_Block_init, defBody s_Block_init, defScope s_Block_init, [], []⟩
def D_Block_exits : He.DefD := ⟨("Block", some "exits"), "exits", "Block.exits", defArgs s_Block_exits, defBody s_Block_exits, defScope s_Block_exits, [], []⟩
def D_block_at : He.DefD := ⟨("block_at", none), "block_at", "block_at", defArgs s_block_at, defBody s_block_at, defScope s_block_at, [], []⟩
def D_Turner_init : He.DefD := ⟨("Turner", some "__init__"), "__init__", "Turner.__init__", defArgs s_Turner_init, defBody s_Turner_init, defScope s_Turner_init, [], [("begin", .int 0), ("long", .int 8), ("room", .int 6)]⟩
def D_Turner_advance : He.DefD := ⟨("Turner", some "advance"), "advance", "Turner.advance", defArgs s_Turner_advance, defBody s_Turner_advance, defScope s_Turner_advance, [], []⟩
def D_Turner_change_blocks : He.DefD := ⟨("Turner", some "change_blocks"), "change_blocks", "Turner.change_blocks", defArgs s_Turner_change_blocks, defBody s_Turner_change_blocks, defScope s_Turner_change_blocks, [], []⟩
def D_Turner_found : He.DefD := ⟨("Turner", some "found"), "found", "Turner.found", defArgs s_Turner_found, defBody s_Turner_found, defScope s_Turner_found, [], []⟩
def D_Turner_begin : He.DefD := ⟨("Turner", some "begin"), "begin", "Turner.begin", defArgs s_Turner_begin, defBody s_Turner_begin, defScope s_Turner_begin, [], []⟩
def D_Turner_make : He.DefD := ⟨("Turner", some "make"), "make", "Turner.make", defArgs s_Turner_make, defBody s_Turner_make, defScope s_Turner_make, [], []⟩
def D_Turner_throw : He.DefD := ⟨("Turner", some "throw"), "throw", "Turner.throw", defArgs s_Turner_throw, defBody s_Turner_throw, defScope s_Turner_throw, [], []⟩
def D_l_dice : He.DefD := ⟨("_law_dice", none), "_law_dice", "_law_dice", defArgs s_l_dice, defBody s_l_dice, defScope s_l_dice, [], []⟩
def D_l_next : He.DefD := ⟨("_law_next", none), "_law_next", "_law_next", defArgs s_l_next, defBody s_l_next, defScope s_l_next, [], []⟩
def D_l_terms : He.DefD := ⟨("_law_terms", none), "_law_terms", "_law_terms", defArgs s_l_terms, defBody s_l_terms, defScope s_l_terms, [], []⟩
def D_l_bounds : He.DefD := ⟨("_law_bounds", none), "_law_bounds", "_law_bounds", defArgs s_l_bounds, defBody s_l_bounds, defScope s_l_bounds, [], []⟩
def D_l_is_long : He.DefD := ⟨("_law_is_long", none), "_law_is_long", "_law_is_long", defArgs s_l_is_long, defBody s_l_is_long, defScope s_l_is_long, [], []⟩
def D_l_head : He.DefD := ⟨("_law_head", none), "_law_head", "_law_head", defArgs s_l_head, defBody s_l_head, defScope s_l_head, [], []⟩
def D_l_code_of : He.DefD := ⟨("_law_code_of", none), "_law_code_of", "_law_code_of", defArgs s_l_code_of, defBody s_l_code_of, defScope s_l_code_of, [], []⟩
def D_l_row : He.DefD := ⟨("_law_row", none), "_law_row", "_law_row", defArgs s_l_row, defBody s_l_row, defScope s_l_row, [], []⟩
def D_l_code : He.DefD := ⟨("_law_code", none), "_law_code", "_law_code", defArgs s_l_code, defBody s_l_code, defScope s_l_code, [], []⟩
def D_l_own : He.DefD := ⟨("_law_own", none), "_law_own", "_law_own", defArgs s_l_own, defBody s_l_own, defScope s_l_own, [], []⟩
def D_l_spot : He.DefD := ⟨("_law_spot", none), "_law_spot", "_law_spot", defArgs s_l_spot, defBody s_l_spot, defScope s_l_spot, [], []⟩
def D_l_at : He.DefD := ⟨("_law_at", none), "_law_at", "_law_at", defArgs s_l_at, defBody s_l_at, defScope s_l_at, [], []⟩
def D_l_one : He.DefD := ⟨("_law_one", none), "_law_one", "_law_one", defArgs s_l_one, defBody s_l_one, defScope s_l_one, [], []⟩
def D_l_goal : He.DefD := ⟨("_law_goal", none), "_law_goal", "_law_goal", defArgs s_l_goal, defBody s_l_goal, defScope s_l_goal, [], []⟩
def D_l_change : He.DefD := ⟨("_law_change", none), "_law_change", "_law_change", defArgs s_l_change, defBody s_l_change, defScope s_l_change, [], []⟩
def D_l_all : He.DefD := ⟨("_law_all", none), "_law_all", "_law_all", defArgs s_l_all, defBody s_l_all, defScope s_l_all, [], []⟩
def D_law : He.DefD := ⟨("law", none), "law", "law", defArgs s_law, defBody s_law, defScope s_law, [], []⟩
def FN : List He.DefD := [D_head_of, D_size_of, D_State_init, D_State_spot, D_State_is_zero, D_State_is_carry, D_State_fault, D_State_goal, D_State_reached, D_State_do, D_State_change, D_need_guest, D_read_row, D_done_alone, D_Plain_init, D_Plain_go, D_Plain_advance, D_Plain_rows_done, D_Plain_place, D_Plain_why, D_Plain_registers, D_Plain_flags, D_Plain_cells, D_Plain_said, D_Plain_pages, D_Plain_guard, D_Block_init, D_Block_exits, D_block_at, D_Turner_init, D_Turner_advance, D_Turner_change_blocks, D_Turner_found, D_Turner_begin, D_Turner_make, D_Turner_throw, D_l_dice, D_l_next, D_l_terms, D_l_bounds, D_l_is_long, D_l_head, D_l_code_of, D_l_row, D_l_code, D_l_own, D_l_spot, D_l_at, D_l_one, D_l_goal, D_l_change, D_l_all, D_law]
def TS_ : List He.Tab := [(fun K => He.ga K "SHAPES", ["stop", "copy", "take", "add", "less", "load", "store", "fetch", "send", "back", "say", "lay", "keep", "leave"]), (fun K => He.ga K "KINDS", ["lacks", "kept", "row"])]
def tupA (K : PySem.W.Frag) (a : Addr) (vs : List He.Dv) : Bool := match K.lookup a with
  | some ⟨.type c, _, .seq its _, _⟩ => decide (c = "tuple") && (decide (its.size ≤ sizeLine) && He.relAll (vs.map (He.Dv.v K)) its.toList)
  | _ => false
theorem tupA_ok {K : PySem.W.Frag} {a : Addr} {vs : List He.Dv} (h : tupA K a vs = true) (H : Hp) : SqT K H a (vs.map (He.Dv.v K)) := by
  unfold tupA at h
  cases q : K.lookup a with
  | none =>
    rw [q] at h
    cases h
  | some o =>
    obtain ⟨oc, od, dt, osl⟩ := o
    rw [q] at h
    cases oc with
    | type c =>
      cases dt with
      | seq its n =>
        obtain ⟨h1, h2⟩ := He.ba (show (decide (c = "tuple") && (decide (its.size ≤ sizeLine) && He.relAll (vs.map (He.Dv.v K)) its.toList)) = true from h)
        obtain ⟨h3, h4⟩ := He.ba h2
        exact .inr ⟨_, its, n, q, congrArg Value.type (of_decide_eq_true h1), rfl, of_decide_eq_true h3, He.relAll_ok h4⟩
      | _ => cases h
    | _ => cases dt <;> cases h
def shB (K : PySem.W.Frag) : Bool := shapeL.all fun q => match PySem.W.nsIn K (He.ga K "SHAPES") q.1 with
  | some (some (.ref a)) => tupA K a (q.2.map He.Dv.int)
  | _ => false
def shN (K : PySem.W.Frag) : Bool := (["jump", "zero", "other", "carry", "call", "guard"] : List Str).all fun x => He.eqO (PySem.W.nsIn K (He.ga K "SHAPES") x) (some none)
def oeB (K : PySem.W.Frag) : Bool := decide (PySem.W.mroIn K (He.ga K "Block") (.type "object") = some true) && (He.eqO (PySem.W.findIn K (.ref (He.ga K "Block")) "__eq__") (some (some (.builtin "object.__eq__"))) && decide (PySem.W.mroIn K (He.ga K "Block") (.type "NoneType") = some false))
def clB (K : PySem.W.Frag) : Bool := PySem.W.readsIn K (He.ga K "Plain") (.type "type") && (He.eqO (PySem.W.specialIn K (.ref (He.ga K "Plain")) "__getattribute__") (some (some (.builtin "type.__getattribute__"))) && (match PySem.W.findCls K (.ref (He.ga K "Plain")) (.type "type") "__init__" with
  | some (.val (.ref a)) => decide (a = He.ma K (He.ga K "Plain") "__init__")
  | _ => false))

def smB (K : PySem.W.Frag) : Bool := (["go", "rows_done", "place", "why", "registers", "flags", "cells", "said", "pages", "guard"] : List Str).all fun m => decide (He.ma K (He.ga K "Turner") m = He.ma K (He.ga K "Plain") m)
def tpB (K : PySem.W.Frag) : Bool := He.tupB K "ALL_WORDS" [.str "stop", .str "copy", .str "take", .str "add", .str "less", .str "load", .str "store", .str "fetch", .str "send", .str "jump", .str "zero", .str "other", .str "carry", .str "call", .str "back", .str "say", .str "lay", .str "keep", .str "leave", .str "guard"] && He.tupB K "LONGER" [.str "take", .str "load", .str "store", .str "jump", .str "zero", .str "other", .str "carry", .str "call", .str "guard"] && He.tupB K "ENDS" [.str "stop", .str "jump", .str "zero", .str "other", .str "carry", .str "call", .str "back", .str "lay", .str "keep", .str "leave", .str "guard"] && He.tupB K "GOALS" [.str "jump", .str "zero", .str "other", .str "carry", .str "call"] && He.tupB K "NOT_BEHIND" [.str "stop", .str "jump", .str "call", .str "back", .str "lay", .str "keep", .str "leave", .str "guard"]
def kdB (K : PySem.W.Frag) : Bool := He.valsB K (He.ga K "KINDS") [("lacks", .int 1), ("kept", .int 2), ("row", .int 3)]
def extraB (K : PySem.W.Frag) : Bool := shB K && (shN K && (oeB K && (clB K && (smB K && (tpB K && kdB K)))))
theorem shB_ok {K : PySem.W.Frag} (h : shB K = true) : ∀ q ∈ shapeL, ∃ a, PySem.W.nsIn K (gA K "SHAPES") q.1 = some (some (.ref a)) ∧ ∀ H, SqT K H a (q.2.map V.int) := fun q hq => by
  have h1 := List.all_eq_true.mp h q hq
  split at h1
  · rename_i a e
    refine ⟨a, e, fun H => ?_⟩
    have h2 := tupA_ok h1 H
    rw [List.map_map] at h2
    exact h2
  · cases h1
theorem clB_ok {K : PySem.W.Frag} (h : clB K = true) : ClX.CRead K (cP K) (.type "type") ∧ ClX.CVal K (cP K) (.type "type") "__init__" (.ref (He.ma K (He.ga K "Plain") "__init__")) (.ref (He.ma K (He.ga K "Plain") "__init__")) := by
  obtain ⟨h1, h2⟩ := He.ba h
  obtain ⟨h2, h3⟩ := He.ba h2
  refine ⟨⟨h1, He.eqO_ok h2⟩, ?_, rfl⟩
  show PySem.W.findCls K (.ref (He.ga K "Plain")) (.type "type") "__init__" = _
  split at h3
  · rename_i a e
    rw [e, of_decide_eq_true h3]
  · cases h3
theorem smB_ok {K : PySem.W.Frag} (h : smB K = true) {m : Str} (hm : m ∈ (["go", "rows_done", "place", "why", "registers", "flags", "cells", "said", "pages", "guard"] : List Str)) (hM : Meth K (cT K) m (He.ma K (cT K) m)) : Meth K (cT K) m (He.ma K (cP K) m) := by
  have h1 := of_decide_eq_true (List.all_eq_true.mp h m hm)
  have h2 : He.ma K (cT K) m = He.ma K (cP K) m := h1
  rw [h2] at hM
  exact hM
section
variable {w : World} {K : PySem.W.Frag} {h : Heap} {mg : Str → Option Value}
theorem txt_of (X : K.In h) (G : h.Ns mainGlobals mg) (cs : He.SaysT FA FN TS_ w K) (ex : extraB K = true) : Txt w K mg := by
  have c := cs.d
  obtain ⟨x1, ex⟩ := He.ba ex
  obtain ⟨x2, ex⟩ := He.ba ex
  obtain ⟨x3, ex⟩ := He.ba ex
  obtain ⟨x4, ex⟩ := He.ba ex
  obtain ⟨x5, ex⟩ := He.ba ex
  obtain ⟨x6, x7⟩ := He.ba ex
  obtain ⟨x6, t5⟩ := He.ba x6
  obtain ⟨x6, t4⟩ := He.ba x6
  obtain ⟨x6, t3⟩ := He.ba x6
  obtain ⟨t1, t2⟩ := He.ba x6
  obtain ⟨o1, o23⟩ := He.ba x3
  obtain ⟨o2, o3⟩ := He.ba o23
  obtain ⟨cr, cv⟩ := clB_ok x4
  obtain ⟨es, n, kd⟩ := cs.tab 1 (t := (fun K => He.ga K "KINDS", ["lacks", "kept", "row"])) rfl
  have kk : ∀ q ∈ ([("lacks", .int 1), ("kept", .int 2), ("row", .int 3)] : List (Str × He.Dv)), KDct K w (gA K "KINDS") q.1 (q.2.v K) := fun q hq => by
    obtain ⟨u, h1, h2⟩ := He.valsB_ok x7 hq
    exact ⟨es, n, u, kd.at_, kd.lit, h1, h2⟩
  exact {
    cl_State := He.cls_ok (c.fact 0 (f := .cls "State") rfl)
    n_State_store := He.noat_ok (c.fact 3 (f := .noat "State" "store") rfl)
    n_State_map := He.noat_ok (c.fact 4 (f := .noat "State" "map") rfl)
    n_State_held := He.noat_ok (c.fact 5 (f := .noat "State" "held") rfl)
    n_State_sum := He.noat_ok (c.fact 6 (f := .noat "State" "sum") rfl)
    n_State_next_place := He.noat_ok (c.fact 7 (f := .noat "State" "next_place") rfl)
    n_State_post := He.noat_ok (c.fact 8 (f := .noat "State" "post") rfl)
    n_State_told := He.noat_ok (c.fact 9 (f := .noat "State" "told") rfl)
    n_State_end := He.noat_ok (c.fact 10 (f := .noat "State" "end") rfl)
    n_State_many := He.noat_ok (c.fact 11 (f := .noat "State" "many") rfl)
    cl_Plain := He.cls_ok (c.fact 12 (f := .cls "Plain") rfl)
    n_Plain_state := He.noat_ok (c.fact 15 (f := .noat "Plain" "state") rfl)
    n_Plain_asked := He.noat_ok (c.fact 16 (f := .noat "Plain" "asked") rfl)
    cl_Block := He.cls_ok (c.fact 17 (f := .cls "Block") rfl)
    n_Block_start := He.noat_ok (c.fact 20 (f := .noat "Block" "start") rfl)
    n_Block_rows := He.noat_ok (c.fact 21 (f := .noat "Block" "rows") rfl)
    n_Block_spots := He.noat_ok (c.fact 22 (f := .noat "Block" "spots") rfl)
    n_Block_chains := He.noat_ok (c.fact 23 (f := .noat "Block" "chains") rfl)
    n_Block_begun := He.noat_ok (c.fact 24 (f := .noat "Block" "begun") rfl)
    n_Block_last := He.noat_ok (c.fact 25 (f := .noat "Block" "last") rfl)
    cl_Turner := He.cls_ok (c.fact 26 (f := .cls "Turner") rfl)
    n_Turner_state := He.noat_ok (c.fact 29 (f := .noat "Turner" "state") rfl)
    n_Turner_asked := He.noat_ok (c.fact 30 (f := .noat "Turner" "asked") rfl)
    n_Turner_long := He.noat_ok (c.fact 31 (f := .noat "Turner" "long") rfl)
    n_Turner_room := He.noat_ok (c.fact 32 (f := .noat "Turner" "room") rfl)
    n_Turner_table := He.noat_ok (c.fact 33 (f := .noat "Turner" "table") rfl)
    n_Turner_now := He.noat_ok (c.fact 34 (f := .noat "Turner" "now") rfl)
    n_Turner_come := He.noat_ok (c.fact 35 (f := .noat "Turner" "come") rfl)
    n_Turner_at := He.noat_ok (c.fact 36 (f := .noat "Turner" "at") rfl)
    n_Turner_clock := He.noat_ok (c.fact 37 (f := .noat "Turner" "clock") rfl)
    n_Turner_made := He.noat_ok (c.fact 38 (f := .noat "Turner" "made") rfl)
    n_Turner_looked := He.noat_ok (c.fact 39 (f := .noat "Turner" "looked") rfl)
    n_Turner_chained := He.noat_ok (c.fact 40 (f := .noat "Turner" "chained") rfl)
    n_Turner_thrown := He.noat_ok (c.fact 41 (f := .noat "Turner" "thrown") rfl)
    o_Block := ⟨of_decide_eq_true o1, He.eqO_ok o2, of_decide_eq_true o3⟩
    d_head_of := let ⟨fd, F⟩ := c.def_ 0 (d := D_head_of) rfl; ⟨_, fd, F, (He.glo_ok X G (c.fact 42 (f := .glo "head_of") rfl))⟩
    d_size_of := let ⟨fd, F⟩ := c.def_ 1 (d := D_size_of) rfl; ⟨_, fd, F, (He.glo_ok X G (c.fact 43 (f := .glo "size_of") rfl))⟩
    d_State_init := let ⟨fd, F⟩ := c.def_ 2 (d := D_State_init) rfl; ⟨_, fd, F, He.mkr_ok (c.fact 1 (f := .mkr "State") rfl), (He.glo_ok X G (c.fact 2 (f := .glo "State") rfl))⟩
    d_State_spot := let ⟨fd, F⟩ := c.def_ 3 (d := D_State_spot) rfl; ⟨_, fd, F, He.meth_ok (c.fact 44 (f := .meth "State" "spot") rfl)⟩
    d_State_is_zero := let ⟨fd, F⟩ := c.def_ 4 (d := D_State_is_zero) rfl; ⟨_, fd, F, He.meth_ok (c.fact 45 (f := .meth "State" "is_zero") rfl)⟩
    d_State_is_carry := let ⟨fd, F⟩ := c.def_ 5 (d := D_State_is_carry) rfl; ⟨_, fd, F, He.meth_ok (c.fact 46 (f := .meth "State" "is_carry") rfl)⟩
    d_State_fault := let ⟨fd, F⟩ := c.def_ 6 (d := D_State_fault) rfl; ⟨_, fd, F, He.meth_ok (c.fact 47 (f := .meth "State" "fault") rfl)⟩
    d_State_goal := let ⟨fd, F⟩ := c.def_ 7 (d := D_State_goal) rfl; ⟨_, fd, F, He.meth_ok (c.fact 48 (f := .meth "State" "goal") rfl)⟩
    d_State_reached := let ⟨fd, F⟩ := c.def_ 8 (d := D_State_reached) rfl; ⟨_, fd, F, He.meth_ok (c.fact 49 (f := .meth "State" "reached") rfl)⟩
    d_State_do := let ⟨fd, F⟩ := c.def_ 9 (d := D_State_do) rfl; ⟨_, fd, F, He.meth_ok (c.fact 50 (f := .meth "State" "do") rfl)⟩
    d_State_change := let ⟨fd, F⟩ := c.def_ 10 (d := D_State_change) rfl; ⟨_, fd, F, He.meth_ok (c.fact 51 (f := .meth "State" "change") rfl)⟩
    d_need_guest := let ⟨fd, F⟩ := c.def_ 11 (d := D_need_guest) rfl; ⟨_, fd, F, (He.glo_ok X G (c.fact 52 (f := .glo "need_guest") rfl))⟩
    d_read_row := let ⟨fd, F⟩ := c.def_ 12 (d := D_read_row) rfl; ⟨_, fd, F, (He.glo_ok X G (c.fact 53 (f := .glo "read_row") rfl))⟩
    d_done_alone := let ⟨fd, F⟩ := c.def_ 13 (d := D_done_alone) rfl; ⟨_, fd, F, (He.glo_ok X G (c.fact 54 (f := .glo "done_alone") rfl))⟩
    d_Plain_init := let ⟨fd, F⟩ := c.def_ 14 (d := D_Plain_init) rfl; ⟨_, fd, F, He.mkr_ok (c.fact 13 (f := .mkr "Plain") rfl), (He.glo_ok X G (c.fact 14 (f := .glo "Plain") rfl))⟩
    e_Plain := let ⟨fd, F⟩ := c.def_ 14 (d := D_Plain_init) rfl; ⟨_, fd, F, cr, cv⟩
    d_Plain_go := let ⟨fd, F⟩ := c.def_ 15 (d := D_Plain_go) rfl; ⟨_, fd, F, He.meth_ok (c.fact 55 (f := .meth "Plain" "go") rfl), smB_ok x5 (by decide +kernel) (He.meth_ok (c.fact 56 (f := .meth "Turner" "go") rfl))⟩
    d_Plain_advance := let ⟨fd, F⟩ := c.def_ 16 (d := D_Plain_advance) rfl; ⟨_, fd, F, He.meth_ok (c.fact 57 (f := .meth "Plain" "advance") rfl)⟩
    d_Plain_rows_done := let ⟨fd, F⟩ := c.def_ 17 (d := D_Plain_rows_done) rfl; ⟨_, fd, F, He.meth_ok (c.fact 58 (f := .meth "Plain" "rows_done") rfl), smB_ok x5 (by decide +kernel) (He.meth_ok (c.fact 59 (f := .meth "Turner" "rows_done") rfl))⟩
    d_Plain_place := let ⟨fd, F⟩ := c.def_ 18 (d := D_Plain_place) rfl; ⟨_, fd, F, He.meth_ok (c.fact 60 (f := .meth "Plain" "place") rfl), smB_ok x5 (by decide +kernel) (He.meth_ok (c.fact 61 (f := .meth "Turner" "place") rfl))⟩
    d_Plain_why := let ⟨fd, F⟩ := c.def_ 19 (d := D_Plain_why) rfl; ⟨_, fd, F, He.meth_ok (c.fact 62 (f := .meth "Plain" "why") rfl), smB_ok x5 (by decide +kernel) (He.meth_ok (c.fact 63 (f := .meth "Turner" "why") rfl))⟩
    d_Plain_registers := let ⟨fd, F⟩ := c.def_ 20 (d := D_Plain_registers) rfl; ⟨_, fd, F, He.meth_ok (c.fact 64 (f := .meth "Plain" "registers") rfl), smB_ok x5 (by decide +kernel) (He.meth_ok (c.fact 65 (f := .meth "Turner" "registers") rfl))⟩
    d_Plain_flags := let ⟨fd, F⟩ := c.def_ 21 (d := D_Plain_flags) rfl; ⟨_, fd, F, He.meth_ok (c.fact 66 (f := .meth "Plain" "flags") rfl), smB_ok x5 (by decide +kernel) (He.meth_ok (c.fact 67 (f := .meth "Turner" "flags") rfl))⟩
    d_Plain_cells := let ⟨fd, F⟩ := c.def_ 22 (d := D_Plain_cells) rfl; ⟨_, fd, F, He.meth_ok (c.fact 68 (f := .meth "Plain" "cells") rfl), smB_ok x5 (by decide +kernel) (He.meth_ok (c.fact 69 (f := .meth "Turner" "cells") rfl))⟩
    d_Plain_said := let ⟨fd, F⟩ := c.def_ 23 (d := D_Plain_said) rfl; ⟨_, fd, F, He.meth_ok (c.fact 70 (f := .meth "Plain" "said") rfl), smB_ok x5 (by decide +kernel) (He.meth_ok (c.fact 71 (f := .meth "Turner" "said") rfl))⟩
    d_Plain_pages := let ⟨fd, F⟩ := c.def_ 24 (d := D_Plain_pages) rfl; ⟨_, fd, F, He.meth_ok (c.fact 72 (f := .meth "Plain" "pages") rfl), smB_ok x5 (by decide +kernel) (He.meth_ok (c.fact 73 (f := .meth "Turner" "pages") rfl))⟩
    d_Plain_guard := let ⟨fd, F⟩ := c.def_ 25 (d := D_Plain_guard) rfl; ⟨_, fd, F, He.meth_ok (c.fact 74 (f := .meth "Plain" "guard") rfl), smB_ok x5 (by decide +kernel) (He.meth_ok (c.fact 75 (f := .meth "Turner" "guard") rfl))⟩
    d_Block_init := let ⟨fd, F⟩ := c.def_ 26 (d := D_Block_init) rfl; ⟨_, fd, F, He.mkr_ok (c.fact 18 (f := .mkr "Block") rfl), (He.glo_ok X G (c.fact 19 (f := .glo "Block") rfl))⟩
    d_Block_exits := let ⟨fd, F⟩ := c.def_ 27 (d := D_Block_exits) rfl; ⟨_, fd, F, He.meth_ok (c.fact 76 (f := .meth "Block" "exits") rfl)⟩
    d_block_at := let ⟨fd, F⟩ := c.def_ 28 (d := D_block_at) rfl; ⟨_, fd, F, (He.glo_ok X G (c.fact 77 (f := .glo "block_at") rfl))⟩
    d_Turner_init := let ⟨fd, F⟩ := c.def_ 29 (d := D_Turner_init) rfl; ⟨_, fd, F, He.mkr_ok (c.fact 27 (f := .mkr "Turner") rfl), (He.glo_ok X G (c.fact 28 (f := .glo "Turner") rfl))⟩
    d_Turner_advance := let ⟨fd, F⟩ := c.def_ 30 (d := D_Turner_advance) rfl; ⟨_, fd, F, He.meth_ok (c.fact 78 (f := .meth "Turner" "advance") rfl)⟩
    d_Turner_change_blocks := let ⟨fd, F⟩ := c.def_ 31 (d := D_Turner_change_blocks) rfl; ⟨_, fd, F, He.meth_ok (c.fact 79 (f := .meth "Turner" "change_blocks") rfl)⟩
    d_Turner_found := let ⟨fd, F⟩ := c.def_ 32 (d := D_Turner_found) rfl; ⟨_, fd, F, He.meth_ok (c.fact 80 (f := .meth "Turner" "found") rfl)⟩
    d_Turner_begin := let ⟨fd, F⟩ := c.def_ 33 (d := D_Turner_begin) rfl; ⟨_, fd, F, He.meth_ok (c.fact 81 (f := .meth "Turner" "begin") rfl)⟩
    d_Turner_make := let ⟨fd, F⟩ := c.def_ 34 (d := D_Turner_make) rfl; ⟨_, fd, F, He.meth_ok (c.fact 82 (f := .meth "Turner" "make") rfl)⟩
    d_Turner_throw := let ⟨fd, F⟩ := c.def_ 35 (d := D_Turner_throw) rfl; ⟨_, fd, F, He.meth_ok (c.fact 83 (f := .meth "Turner" "throw") rfl)⟩
    d_l_dice := let ⟨fd, F⟩ := c.def_ 36 (d := D_l_dice) rfl; ⟨_, fd, F, (He.glo_ok X G (c.fact 84 (f := .glo "_law_dice") rfl))⟩
    d_l_next := let ⟨fd, F⟩ := c.def_ 37 (d := D_l_next) rfl; ⟨_, fd, F, (He.glo_ok X G (c.fact 85 (f := .glo "_law_next") rfl))⟩
    d_l_terms := let ⟨fd, F⟩ := c.def_ 38 (d := D_l_terms) rfl; ⟨_, fd, F, (He.glo_ok X G (c.fact 86 (f := .glo "_law_terms") rfl))⟩
    d_l_bounds := let ⟨fd, F⟩ := c.def_ 39 (d := D_l_bounds) rfl; ⟨_, fd, F, (He.glo_ok X G (c.fact 87 (f := .glo "_law_bounds") rfl))⟩
    d_l_is_long := let ⟨fd, F⟩ := c.def_ 40 (d := D_l_is_long) rfl; ⟨_, fd, F, (He.glo_ok X G (c.fact 88 (f := .glo "_law_is_long") rfl))⟩
    d_l_head := let ⟨fd, F⟩ := c.def_ 41 (d := D_l_head) rfl; ⟨_, fd, F, (He.glo_ok X G (c.fact 89 (f := .glo "_law_head") rfl))⟩
    d_l_code_of := let ⟨fd, F⟩ := c.def_ 42 (d := D_l_code_of) rfl; ⟨_, fd, F, (He.glo_ok X G (c.fact 90 (f := .glo "_law_code_of") rfl))⟩
    d_l_row := let ⟨fd, F⟩ := c.def_ 43 (d := D_l_row) rfl; ⟨_, fd, F, (He.glo_ok X G (c.fact 91 (f := .glo "_law_row") rfl))⟩
    d_l_code := let ⟨fd, F⟩ := c.def_ 44 (d := D_l_code) rfl; ⟨_, fd, F, (He.glo_ok X G (c.fact 92 (f := .glo "_law_code") rfl))⟩
    d_l_own := let ⟨fd, F⟩ := c.def_ 45 (d := D_l_own) rfl; ⟨_, fd, F, (He.glo_ok X G (c.fact 93 (f := .glo "_law_own") rfl))⟩
    d_l_spot := let ⟨fd, F⟩ := c.def_ 46 (d := D_l_spot) rfl; ⟨_, fd, F, (He.glo_ok X G (c.fact 94 (f := .glo "_law_spot") rfl))⟩
    d_l_at := let ⟨fd, F⟩ := c.def_ 47 (d := D_l_at) rfl; ⟨_, fd, F, (He.glo_ok X G (c.fact 95 (f := .glo "_law_at") rfl))⟩
    d_l_one := let ⟨fd, F⟩ := c.def_ 48 (d := D_l_one) rfl; ⟨_, fd, F, (He.glo_ok X G (c.fact 96 (f := .glo "_law_one") rfl))⟩
    d_l_goal := let ⟨fd, F⟩ := c.def_ 49 (d := D_l_goal) rfl; ⟨_, fd, F, (He.glo_ok X G (c.fact 97 (f := .glo "_law_goal") rfl))⟩
    d_l_change := let ⟨fd, F⟩ := c.def_ 50 (d := D_l_change) rfl; ⟨_, fd, F, (He.glo_ok X G (c.fact 98 (f := .glo "_law_change") rfl))⟩
    d_l_all := let ⟨fd, F⟩ := c.def_ 51 (d := D_l_all) rfl; ⟨_, fd, F, (He.glo_ok X G (c.fact 99 (f := .glo "_law_all") rfl))⟩
    d_law := let ⟨fd, F⟩ := c.def_ 52 (d := D_law) rfl; ⟨_, fd, F, (He.glo_ok X G (c.fact 100 (f := .glo "law") rfl))⟩
    v_MOST := let ⟨t, e⟩ := He.int_ok X G (c.fact 108 (f := .int "MOST" 9999) rfl); ⟨_, e, t, rfl⟩
    v_REGISTERS := let ⟨t, e⟩ := He.int_ok X G (c.fact 109 (f := .int "REGISTERS" 4) rfl); ⟨_, e, t, rfl⟩
    v_PAGES := let ⟨t, e⟩ := He.int_ok X G (c.fact 110 (f := .int "PAGES" 4) rfl); ⟨_, e, t, rfl⟩
    v_CELLS := let ⟨t, e⟩ := He.int_ok X G (c.fact 111 (f := .int "CELLS" 128) rfl); ⟨_, e, t, rfl⟩
    v_FRAME := let ⟨t, e⟩ := He.int_ok X G (c.fact 112 (f := .int "FRAME" 16) rfl); ⟨_, e, t, rfl⟩
    v_PLACES := let ⟨t, e⟩ := He.int_ok X G (c.fact 113 (f := .int "PLACES" 64) rfl); ⟨_, e, t, rfl⟩
    v_BEGIN := let ⟨t, e⟩ := He.int_ok X G (c.fact 114 (f := .int "BEGIN" 0) rfl); ⟨_, e, t, rfl⟩
    v_MOST_COUNT := let ⟨t, e⟩ := He.int_ok X G (c.fact 115 (f := .int "MOST_COUNT" 999) rfl); ⟨_, e, t, rfl⟩
    v_LONG := let ⟨t, e⟩ := He.int_ok X G (c.fact 116 (f := .int "LONG" 8) rfl); ⟨_, e, t, rfl⟩
    v_ROOM := let ⟨t, e⟩ := He.int_ok X G (c.fact 117 (f := .int "ROOM" 6) rfl); ⟨_, e, t, rfl⟩
    v_MOST_LONG := let ⟨t, e⟩ := He.int_ok X G (c.fact 118 (f := .int "MOST_LONG" 16) rfl); ⟨_, e, t, rfl⟩
    v_MOST_ROOM := let ⟨t, e⟩ := He.int_ok X G (c.fact 119 (f := .int "MOST_ROOM" 20) rfl); ⟨_, e, t, rfl⟩
    v_LACKS := let ⟨t, e⟩ := He.str_ok X G (c.fact 120 (f := .str "LACKS" "lacks") rfl); ⟨_, e, t, rfl⟩
    v_KEPT := let ⟨t, e⟩ := He.str_ok X G (c.fact 121 (f := .str "KEPT" "kept") rfl); ⟨_, e, t, rfl⟩
    v_ROW := let ⟨t, e⟩ := He.str_ok X G (c.fact 122 (f := .str "ROW" "row") rfl); ⟨_, e, t, rfl⟩
    v_ALL_WORDS := ⟨_, (He.glo_ok X G (c.fact 101 (f := .glo "ALL_WORDS") rfl)), rfl⟩
    t_ALL_WORDS := He.tupB_ok t1
    v_LONGER := ⟨_, (He.glo_ok X G (c.fact 102 (f := .glo "LONGER") rfl)), rfl⟩
    t_LONGER := He.tupB_ok t2
    v_ENDS := ⟨_, (He.glo_ok X G (c.fact 103 (f := .glo "ENDS") rfl)), rfl⟩
    t_ENDS := He.tupB_ok t3
    v_GOALS := ⟨_, (He.glo_ok X G (c.fact 104 (f := .glo "GOALS") rfl)), rfl⟩
    t_GOALS := He.tupB_ok t4
    v_NOT_BEHIND := ⟨_, (He.glo_ok X G (c.fact 105 (f := .glo "NOT_BEHIND") rfl)), rfl⟩
    t_NOT_BEHIND := He.tupB_ok t5
    v_SHAPES := ⟨_, (He.glo_ok X G (c.fact 106 (f := .glo "SHAPES") rfl)), rfl⟩
    k_SHAPES := cs.tab 0 (t := (fun K => He.ga K "SHAPES", ["stop", "copy", "take", "add", "less", "load", "store", "fetch", "send", "back", "say", "lay", "keep", "leave"])) rfl
    t_SHAPES := shB_ok x1
    m_SHAPES := fun x hx => He.eqO_ok (List.all_eq_true.mp x2 x hx)
    v_KINDS := ⟨_, (He.glo_ok X G (c.fact 107 (f := .glo "KINDS") rfl)), rfl⟩
    t_KINDS := ⟨kk ("lacks", .int 1) (by simp), kk ("kept", .int 2) (by simp), kk ("row", .int 3) (by simp)⟩
    f_len := He.free_ok X G (c.fact 123 (f := .free "len") rfl)
    f_list := He.free_ok X G (c.fact 124 (f := .free "list") rfl)
    f_tuple := He.free_ok X G (c.fact 125 (f := .free "tuple") rfl)
    f_range := He.free_ok X G (c.fact 126 (f := .free "range") rfl)
    f_zip := He.free_ok X G (c.fact 127 (f := .free "zip") rfl)
    f_enumerate := He.free_ok X G (c.fact 128 (f := .free "enumerate") rfl)
    f_int := He.free_ok X G (c.fact 129 (f := .free "int") rfl)
    f_min := He.free_ok X G (c.fact 130 (f := .free "min") rfl) }
/-- the law, as its row asks it -/
theorem law_mk {P : Program} {f : Addr} (X : K.In h) (G : h.Ns mainGlobals mg) (hfa : mg ("law" : Str) = some (.ref f)) (cs : He.SaysT FA FN TS_ w K) (ex : extraB K = true) :
    ∃ fd : FuncData, (∀ (s : Shared) (v : Value), BindsTo s fd ⟨[v], []⟩ [("_law_script", v)]) ∧ ∀ base : Heap, K.In base → base.Ns mainGlobals mg → FnOk P w K mg base CX0 10 f fd ["_law_script"] (sp1 (rLaw K)) := by
  have T := txt_of X G cs ex
  obtain ⟨f', fd, F, g⟩ := T.d_law
  rw [hfa] at g
  cases g
  have b := FunD.bindsA (ps := ["_law_script"]) F fun _ _ _ _ _ _ us hl => match us, hl with | [_], _ => rfl
  exact ⟨fd, fun s v => b s [v] rfl, fun base _ _ => fn_law T F⟩
end

/-! part P46walk -/
theorem walk {l : PySem.W.OpenLaw} {q : Program} {loose : List Str} {XP : (Str → Option Value) → Heap → Prop} {YP : World → Heap → Prop} {d : DefRec} {K : Params → PySem.W.Frag} (hn : l.most = some 63) (hdf : d.params.defaults = [])
    (hY : ∀ (w : World) (h : Heap), YP w h → (K w.params).In h)
    (F : ∀ (w : World) (mg : Str → Option Value) (fa : Addr) (h : Heap), (K w.params).In h → h.Ns mainGlobals mg → mg d.name = some (.ref fa) →
      ∃ fd : FuncData, (∀ (s : Shared) (u : Value), BindsTo s fd ⟨[u], []⟩ [("_law_script", u)]) ∧ ∀ base : Heap, (K w.params).In base → base.Ns mainGlobals mg → FnOk l.prog w (K w.params) mg base CX0 10 fa fd ["_law_script"] (sp1 (rLaw (K w.params)))) :
    PySem.W.WalkO q loose XP YP l.row.toRowW d [] (fun f vs => PySem.call f vs) :=
  L2.walk_of (n := 63) (k := 10) (x := "_law_script") (CX := fun _ => CX0) (sp := fun w => sp1 (rLaw (K w.params))) hn (by decide) hdf ⟨rfl, by decide, by decide⟩ hY F (fun _ _ a ns hl _ hS => ⟨_, rfl, a, ns, rfl, hS, hl, fun _ => rfl⟩) fun _ _ _ _ _ z => z

end GB
open PySem PySem.W PyProof.Rows in
set_option maxRecDepth 100000 in
set_option maxHeartbeats 0 in
theorem PySem.Challenge.cw_guestblocks_k26_whole_faults_leave_all_e_holds : PySem.Challenge.rw_guestblocks_k26_whole_faults_leave_all_e.Holds := by
  w_on; o_law; k_head; (case hw => w_witness2)
  k_fill
  refine GB.walk (l := PySem.Challenge.rw_guestblocks_k26_whole_faults_leave_all_e) rfl rfl (fun w h Y => PySem.W.kIn_of Y) ?F
  case F =>
    intro w mg fa h KX G hmg
    refine GB.law_mk KX G hmg ?a ?b
    case a =>
      show He.obsT GB.FA GB.FN GB.TS_ _ = He.valT GB.FN GB.TS_ w
      kernel_rfl
    case b => kernel_rfl
