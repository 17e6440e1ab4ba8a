import PyProof.Rows.All
import Wide.All
import OpenK.AllK
import Wide.FinOn
import HandS.ForMost
import HandS.Wide
import HandS.IsInst
import HandS.Style
import HandS.RaiseMore
import HandS.TupAny
import HandS.Strs
import HandS.SetFor
import PySem.Challenge.RW_settledplay_k04_whole_stirred_lucks_and
set_option Elab.async false
set_option linter.all false
set_option maxRecDepth 100000
set_option maxHeartbeats 4000000

namespace K04
open PySem PySem.Spec PyProof.Rows L2 SkE
def topS (i : Nat) : Stmt := PySem.Challenge.pw_settledplay_k04_whole_stirred_lucks_and.main.body.getD i (.Pass ⟨0, 0, 0, 0⟩)
abbrev s_is_whole : Stmt := topS 6
abbrev N_is_whole : List Str := ["value"] -- 0:value
theorem sc_is_whole : FnScope N_is_whole ["value"] (defScope s_is_whole) := ⟨rfl, rfl, rfl, by decide +kernel, rfl, by decide +kernel, by decide +kernel⟩
abbrev s_is_short : Stmt := topS 7
abbrev N_is_short : List Str := ["value"] -- 0:value
theorem sc_is_short : FnScope N_is_short ["value"] (defScope s_is_short) := ⟨rfl, rfl, rfl, by decide +kernel, rfl, by decide +kernel, by decide +kernel⟩
abbrev s_is_from : Stmt := topS 8
abbrev N_is_from : List Str := ["value", "least", "most"] -- 0:value 1:least 2:most
theorem sc_is_from : FnScope N_is_from ["value", "least", "most"] (defScope s_is_from) := ⟨rfl, rfl, rfl, by decide +kernel, rfl, by decide +kernel, by decide +kernel⟩
abbrev s_is_tick : Stmt := topS 9
abbrev N_is_tick : List Str := ["value"] -- 0:value
theorem sc_is_tick : FnScope N_is_tick ["value"] (defScope s_is_tick) := ⟨rfl, rfl, rfl, by decide +kernel, rfl, by decide +kernel, by decide +kernel⟩
abbrev s_require_from : Stmt := topS 10
abbrev N_require_from : List Str := ["value", "least", "most"] -- 0:value 1:least 2:most
theorem sc_require_from : FnScope N_require_from ["value", "least", "most"] (defScope s_require_from) := ⟨rfl, rfl, rfl, by decide +kernel, rfl, by decide +kernel, by decide +kernel⟩
abbrev s_require_tick : Stmt := topS 11
abbrev N_require_tick : List Str := ["value"] -- 0:value
theorem sc_require_tick : FnScope N_require_tick ["value"] (defScope s_require_tick) := ⟨rfl, rfl, rfl, by decide +kernel, rfl, by decide +kernel, by decide +kernel⟩
abbrev s_power : Stmt := topS 17
abbrev N_power : List Str := ["base", "many", "found"] -- 0:base 1:many 2:found
theorem sc_power : FnScope N_power ["base", "many"] (defScope s_power) := ⟨rfl, rfl, rfl, by decide +kernel, rfl, by decide +kernel, by decide +kernel⟩
abbrev s_stirred_in : Stmt := topS 18
abbrev N_stirred_in : List Str := ["luck"] -- 0:luck
theorem sc_stirred_in : FnScope N_stirred_in ["luck"] (defScope s_stirred_in) := ⟨rfl, rfl, rfl, by decide +kernel, rfl, by decide +kernel, by decide +kernel⟩
abbrev s_stirred_at : Stmt := topS 19
abbrev N_stirred_at : List Str := ["luck", "entry", "thing", "found", "number"] -- 0:luck 1:entry 2:thing 3:found 4:number
theorem sc_stirred_at : FnScope N_stirred_at ["luck", "entry", "thing"] (defScope s_stirred_at) := ⟨rfl, rfl, rfl, by decide +kernel, rfl, by decide +kernel, by decide +kernel⟩
abbrev s_spot_in : Stmt := topS 20
abbrev N_spot_in : List Str := ["luck", "entry", "thing", "turn"] -- 0:luck 1:entry 2:thing 3:turn
theorem sc_spot_in : FnScope N_spot_in ["luck", "entry", "thing", "turn"] (defScope s_spot_in) := ⟨rfl, rfl, rfl, by decide +kernel, rfl, by decide +kernel, by decide +kernel⟩
abbrev s_unstirred_in : Stmt := topS 21
abbrev N_unstirred_in : List Str := ["luck"] -- 0:luck
theorem sc_unstirred_in : FnScope N_unstirred_in ["luck"] (defScope s_unstirred_in) := ⟨rfl, rfl, rfl, by decide +kernel, rfl, by decide +kernel, by decide +kernel⟩
abbrev s_drawn_in : Stmt := topS 22
abbrev N_drawn_in : List Str := ["luck", "entry", "thing", "turn", "sides"] -- 0:luck 1:entry 2:thing 3:turn 4:sides
theorem sc_drawn_in : FnScope N_drawn_in ["luck", "entry", "thing", "turn", "sides"] (defScope s_drawn_in) := ⟨rfl, rfl, rfl, by decide +kernel, rfl, by decide +kernel, by decide +kernel⟩
abbrev s_is_luck_in : Stmt := topS 23
abbrev N_is_luck_in : List Str := ["value"] -- 0:value
theorem sc_is_luck_in : FnScope N_is_luck_in ["value"] (defScope s_is_luck_in) := ⟨rfl, rfl, rfl, by decide +kernel, rfl, by decide +kernel, by decide +kernel⟩
abbrev s_require_luck : Stmt := topS 24
abbrev N_require_luck : List Str := ["value"] -- 0:value
theorem sc_require_luck : FnScope N_require_luck ["value"] (defScope s_require_luck) := ⟨rfl, rfl, rfl, by decide +kernel, rfl, by decide +kernel, by decide +kernel⟩
abbrev s_require_spot : Stmt := topS 25
abbrev N_require_spot : List Str := ["luck", "entry", "thing"] -- 0:luck 1:entry 2:thing
theorem sc_require_spot : FnScope N_require_spot ["luck", "entry", "thing"] (defScope s_require_spot) := ⟨rfl, rfl, rfl, by decide +kernel, rfl, by decide +kernel, by decide +kernel⟩
abbrev s_stirred : Stmt := topS 26
abbrev N_stirred : List Str := ["luck"] -- 0:luck
theorem sc_stirred : FnScope N_stirred ["luck"] (defScope s_stirred) := ⟨rfl, rfl, rfl, by decide +kernel, rfl, by decide +kernel, by decide +kernel⟩
abbrev s_unstirred : Stmt := topS 27
abbrev N_unstirred : List Str := ["luck"] -- 0:luck
theorem sc_unstirred : FnScope N_unstirred ["luck"] (defScope s_unstirred) := ⟨rfl, rfl, rfl, by decide +kernel, rfl, by decide +kernel, by decide +kernel⟩
abbrev s_spot_number : Stmt := topS 28
abbrev N_spot_number : List Str := ["luck", "entry", "thing", "turn"] -- 0:luck 1:entry 2:thing 3:turn
theorem sc_spot_number : FnScope N_spot_number ["luck", "entry", "thing", "turn"] (defScope s_spot_number) := ⟨rfl, rfl, rfl, by decide +kernel, rfl, by decide +kernel, by decide +kernel⟩
abbrev s_turn_of : Stmt := topS 29
abbrev N_turn_of : List Str := ["luck", "entry", "thing", "number"] -- 0:luck 1:entry 2:thing 3:number
theorem sc_turn_of : FnScope N_turn_of ["luck", "entry", "thing", "number"] (defScope s_turn_of) := ⟨rfl, rfl, rfl, by decide +kernel, rfl, by decide +kernel, by decide +kernel⟩
abbrev s_drawn : Stmt := topS 30
abbrev N_drawn : List Str := ["luck", "entry", "thing", "turn", "sides"] -- 0:luck 1:entry 2:thing 3:turn 4:sides
theorem sc_drawn : FnScope N_drawn ["luck", "entry", "thing", "turn", "sides"] (defScope s_drawn) := ⟨rfl, rfl, rfl, by decide +kernel, rfl, by decide +kernel, by decide +kernel⟩
abbrev s_l_dice : Stmt := topS 32
abbrev N_l_dice : List Str := ["_law_script", "_law_spot_here", "_law_cell", "_law_left"] -- 0:_law_script 1:_law_spot_here 2:_law_cell 3:_law_left
theorem sc_l_dice : FnScope N_l_dice ["_law_script", "_law_spot_here"] (defScope s_l_dice) := ⟨rfl, rfl, rfl, by decide +kernel, rfl, by decide +kernel, by decide +kernel⟩
abbrev s_l_roll : Stmt := topS 33
abbrev N_l_roll : List Str := ["_law_dice_here", "_law_total", "_law_one", "_law_two", "_law_found"] -- 0:_law_dice_here 1:_law_total 2:_law_one 3:_law_two 4:_law_found
theorem sc_l_roll : FnScope N_l_roll ["_law_dice_here", "_law_total"] (defScope s_l_roll) := ⟨rfl, rfl, rfl, by decide +kernel, rfl, by decide +kernel, by decide +kernel⟩
abbrev s_l_pick : Stmt := topS 34
abbrev N_l_pick : List Str := ["_law_dice_here", "_law_items"] -- 0:_law_dice_here 1:_law_items
theorem sc_l_pick : FnScope N_l_pick ["_law_dice_here", "_law_items"] (defScope s_l_pick) := ⟨rfl, rfl, rfl, by decide +kernel, rfl, by decide +kernel, by decide +kernel⟩
abbrev s_l_lk_stirred : Stmt := topS 35
abbrev N_l_lk_stirred : List Str := ["_law_luck"] -- 0:_law_luck
theorem sc_l_lk_stirred : FnScope N_l_lk_stirred ["_law_luck"] (defScope s_l_lk_stirred) := ⟨rfl, rfl, rfl, by decide +kernel, rfl, by decide +kernel, by decide +kernel⟩
abbrev s_l_luck_drawn : Stmt := topS 36
abbrev N_l_luck_drawn : List Str := ["_law_dice_here"] -- 0:_law_dice_here
theorem sc_l_luck_drawn : FnScope N_l_luck_drawn ["_law_dice_here"] (defScope s_l_luck_drawn) := ⟨rfl, rfl, rfl, by decide +kernel, rfl, by decide +kernel, by decide +kernel⟩
abbrev s_l_index_drawn : Stmt := topS 37
abbrev N_l_index_drawn : List Str := ["_law_dice_here", "_law_way"] -- 0:_law_dice_here 1:_law_way
theorem sc_l_index_drawn : FnScope N_l_index_drawn ["_law_dice_here"] (defScope s_l_index_drawn) := ⟨rfl, rfl, rfl, by decide +kernel, rfl, by decide +kernel, by decide +kernel⟩
abbrev s_l_spot : Stmt := topS 38
abbrev N_l_spot : List Str := ["_law_luck", "_law_told", "_law_found", "_law_number"] -- 0:_law_luck 1:_law_told 2:_law_found 3:_law_number
theorem sc_l_spot : FnScope N_l_spot ["_law_luck", "_law_told"] (defScope s_l_spot) := ⟨rfl, rfl, rfl, by decide +kernel, rfl, by decide +kernel, by decide +kernel⟩
abbrev s_l_stirred_right : Stmt := topS 39
abbrev N_l_stirred_right : List Str := ["_law_luck", "_law_there", "_law_back"] -- 0:_law_luck 1:_law_there 2:_law_back
theorem sc_l_stirred_right : FnScope N_l_stirred_right ["_law_luck"] (defScope s_l_stirred_right) := ⟨rfl, rfl, rfl, by decide +kernel, rfl, by decide +kernel, by decide +kernel⟩
abbrev s_l_turn_right : Stmt := topS 40
abbrev N_l_turn_right : List Str := ["_law_luck", "_law_told", "_law_goal", "_law_turn"] -- 0:_law_luck 1:_law_told 2:_law_goal 3:_law_turn
theorem sc_l_turn_right : FnScope N_l_turn_right ["_law_luck", "_law_told", "_law_goal"] (defScope s_l_turn_right) := ⟨rfl, rfl, rfl, by decide +kernel, rfl, by decide +kernel, by decide +kernel⟩
abbrev s_l_draws_right : Stmt := topS 41
abbrev N_l_draws_right : List Str := ["_law_dice_here", "_law_luck", "_law_told", "_law_less", "_law_more", "_law_sides"] -- 0:_law_dice_here 1:_law_luck 2:_law_told 3:_law_less 4:_law_more 5:_law_sides
theorem sc_l_draws_right : FnScope N_l_draws_right ["_law_dice_here", "_law_luck", "_law_told"] (defScope s_l_draws_right) := ⟨rfl, rfl, rfl, by decide +kernel, rfl, by decide +kernel, by decide +kernel⟩
abbrev s_l_right : Stmt := topS 42
abbrev N_l_right : List Str := ["_law_dice_here", "_law_luck", "_law_told", "_law_number", "_law_at", "_law_more", "_law_near", "_law_other", "_law_place"] -- 0:_law_dice_here 1:_law_luck 2:_law_told 3:_law_number 4:_law_at 5:_law_more 6:_law_near 7:_law_other 8:_law_place cells _law_dice_here
theorem sc_l_right : FnScope N_l_right ["_law_dice_here"] (defScope s_l_right) := ⟨rfl, rfl, rfl, by decide +kernel, rfl, by decide +kernel, by decide +kernel⟩
abbrev s_law : Stmt := topS 43
abbrev N_law : List Str := ["_law_script", "_law_spot_here", "_law_rolls", "_law_dice_here", "_law_turn"] -- 0:_law_script 1:_law_spot_here 2:_law_rolls 3:_law_dice_here 4:_law_turn
theorem sc_law : FnScope N_law ["_law_script"] (defScope s_law) := ⟨rfl, rfl, rfl, by decide +kernel, rfl, by decide +kernel, by decide +kernel⟩
structure Tp (K : PySem.W.Frag) (mg : Str → Option Value) where
  a_is_whole : Addr
  d_is_whole : FuncData
  F_is_whole : Fun K "is_whole" "is_whole" s_is_whole a_is_whole d_is_whole
  g_is_whole : mg "is_whole" = some (.ref a_is_whole)
  b_is_whole : Binds K d_is_whole ["value"] []
  a_is_short : Addr
  d_is_short : FuncData
  F_is_short : Fun K "is_short" "is_short" s_is_short a_is_short d_is_short
  g_is_short : mg "is_short" = some (.ref a_is_short)
  b_is_short : Binds K d_is_short ["value"] []
  a_is_from : Addr
  d_is_from : FuncData
  F_is_from : Fun K "is_from" "is_from" s_is_from a_is_from d_is_from
  g_is_from : mg "is_from" = some (.ref a_is_from)
  b_is_from : Binds K d_is_from ["value", "least", "most"] []
  a_is_tick : Addr
  d_is_tick : FuncData
  F_is_tick : Fun K "is_tick" "is_tick" s_is_tick a_is_tick d_is_tick
  g_is_tick : mg "is_tick" = some (.ref a_is_tick)
  b_is_tick : Binds K d_is_tick ["value"] []
  a_require_from : Addr
  d_require_from : FuncData
  F_require_from : Fun K "require_from" "require_from" s_require_from a_require_from d_require_from
  g_require_from : mg "require_from" = some (.ref a_require_from)
  b_require_from : Binds K d_require_from ["value", "least", "most"] []
  a_require_tick : Addr
  d_require_tick : FuncData
  F_require_tick : Fun K "require_tick" "require_tick" s_require_tick a_require_tick d_require_tick
  g_require_tick : mg "require_tick" = some (.ref a_require_tick)
  b_require_tick : Binds K d_require_tick ["value"] []
  a_power : Addr
  d_power : FuncData
  F_power : Fun K "power" "power" s_power a_power d_power
  g_power : mg "power" = some (.ref a_power)
  b_power : Binds K d_power ["base", "many"] []
  a_stirred_in : Addr
  d_stirred_in : FuncData
  F_stirred_in : Fun K "stirred_in" "stirred_in" s_stirred_in a_stirred_in d_stirred_in
  g_stirred_in : mg "stirred_in" = some (.ref a_stirred_in)
  b_stirred_in : Binds K d_stirred_in ["luck"] []
  a_stirred_at : Addr
  d_stirred_at : FuncData
  F_stirred_at : Fun K "stirred_at" "stirred_at" s_stirred_at a_stirred_at d_stirred_at
  g_stirred_at : mg "stirred_at" = some (.ref a_stirred_at)
  b_stirred_at : Binds K d_stirred_at ["luck", "entry", "thing"] []
  a_spot_in : Addr
  d_spot_in : FuncData
  F_spot_in : Fun K "spot_in" "spot_in" s_spot_in a_spot_in d_spot_in
  g_spot_in : mg "spot_in" = some (.ref a_spot_in)
  b_spot_in : Binds K d_spot_in ["luck", "entry", "thing", "turn"] []
  a_unstirred_in : Addr
  d_unstirred_in : FuncData
  F_unstirred_in : Fun K "unstirred_in" "unstirred_in" s_unstirred_in a_unstirred_in d_unstirred_in
  g_unstirred_in : mg "unstirred_in" = some (.ref a_unstirred_in)
  b_unstirred_in : Binds K d_unstirred_in ["luck"] []
  a_drawn_in : Addr
  d_drawn_in : FuncData
  F_drawn_in : Fun K "drawn_in" "drawn_in" s_drawn_in a_drawn_in d_drawn_in
  g_drawn_in : mg "drawn_in" = some (.ref a_drawn_in)
  b_drawn_in : Binds K d_drawn_in ["luck", "entry", "thing", "turn", "sides"] []
  a_is_luck_in : Addr
  d_is_luck_in : FuncData
  F_is_luck_in : Fun K "is_luck_in" "is_luck_in" s_is_luck_in a_is_luck_in d_is_luck_in
  g_is_luck_in : mg "is_luck_in" = some (.ref a_is_luck_in)
  b_is_luck_in : Binds K d_is_luck_in ["value"] []
  a_require_luck : Addr
  d_require_luck : FuncData
  F_require_luck : Fun K "require_luck" "require_luck" s_require_luck a_require_luck d_require_luck
  g_require_luck : mg "require_luck" = some (.ref a_require_luck)
  b_require_luck : Binds K d_require_luck ["value"] []
  a_require_spot : Addr
  d_require_spot : FuncData
  F_require_spot : Fun K "require_spot" "require_spot" s_require_spot a_require_spot d_require_spot
  g_require_spot : mg "require_spot" = some (.ref a_require_spot)
  b_require_spot : Binds K d_require_spot ["luck", "entry", "thing"] []
  a_stirred : Addr
  d_stirred : FuncData
  F_stirred : Fun K "stirred" "stirred" s_stirred a_stirred d_stirred
  g_stirred : mg "stirred" = some (.ref a_stirred)
  b_stirred : Binds K d_stirred ["luck"] []
  a_unstirred : Addr
  d_unstirred : FuncData
  F_unstirred : Fun K "unstirred" "unstirred" s_unstirred a_unstirred d_unstirred
  g_unstirred : mg "unstirred" = some (.ref a_unstirred)
  b_unstirred : Binds K d_unstirred ["luck"] []
  a_spot_number : Addr
  d_spot_number : FuncData
  F_spot_number : Fun K "spot_number" "spot_number" s_spot_number a_spot_number d_spot_number
  g_spot_number : mg "spot_number" = some (.ref a_spot_number)
  b_spot_number : Binds K d_spot_number ["luck", "entry", "thing", "turn"] []
  a_turn_of : Addr
  d_turn_of : FuncData
  F_turn_of : Fun K "turn_of" "turn_of" s_turn_of a_turn_of d_turn_of
  g_turn_of : mg "turn_of" = some (.ref a_turn_of)
  b_turn_of : Binds K d_turn_of ["luck", "entry", "thing", "number"] []
  a_drawn : Addr
  d_drawn : FuncData
  F_drawn : Fun K "drawn" "drawn" s_drawn a_drawn d_drawn
  g_drawn : mg "drawn" = some (.ref a_drawn)
  b_drawn : Binds K d_drawn ["luck", "entry", "thing", "turn", "sides"] []
  a_l_dice : Addr
  d_l_dice : FuncData
  F_l_dice : Fun K "_law_dice" "_law_dice" s_l_dice a_l_dice d_l_dice
  g_l_dice : mg "_law_dice" = some (.ref a_l_dice)
  b_l_dice : Binds K d_l_dice ["_law_script", "_law_spot_here"] []
  a_l_roll : Addr
  d_l_roll : FuncData
  F_l_roll : Fun K "_law_roll" "_law_roll" s_l_roll a_l_roll d_l_roll
  g_l_roll : mg "_law_roll" = some (.ref a_l_roll)
  b_l_roll : Binds K d_l_roll ["_law_dice_here", "_law_total"] []
  a_l_pick : Addr
  d_l_pick : FuncData
  F_l_pick : Fun K "_law_pick" "_law_pick" s_l_pick a_l_pick d_l_pick
  g_l_pick : mg "_law_pick" = some (.ref a_l_pick)
  b_l_pick : Binds K d_l_pick ["_law_dice_here", "_law_items"] []
  a_l_lk_stirred : Addr
  d_l_lk_stirred : FuncData
  F_l_lk_stirred : Fun K "_law_lk_stirred" "_law_lk_stirred" s_l_lk_stirred a_l_lk_stirred d_l_lk_stirred
  g_l_lk_stirred : mg "_law_lk_stirred" = some (.ref a_l_lk_stirred)
  b_l_lk_stirred : Binds K d_l_lk_stirred ["_law_luck"] []
  a_l_luck_drawn : Addr
  d_l_luck_drawn : FuncData
  F_l_luck_drawn : Fun K "_law_luck_drawn" "_law_luck_drawn" s_l_luck_drawn a_l_luck_drawn d_l_luck_drawn
  g_l_luck_drawn : mg "_law_luck_drawn" = some (.ref a_l_luck_drawn)
  b_l_luck_drawn : Binds K d_l_luck_drawn ["_law_dice_here"] []
  a_l_index_drawn : Addr
  d_l_index_drawn : FuncData
  F_l_index_drawn : Fun K "_law_index_drawn" "_law_index_drawn" s_l_index_drawn a_l_index_drawn d_l_index_drawn
  g_l_index_drawn : mg "_law_index_drawn" = some (.ref a_l_index_drawn)
  b_l_index_drawn : Binds K d_l_index_drawn ["_law_dice_here"] []
  a_l_spot : Addr
  d_l_spot : FuncData
  F_l_spot : Fun K "_law_spot" "_law_spot" s_l_spot a_l_spot d_l_spot
  g_l_spot : mg "_law_spot" = some (.ref a_l_spot)
  b_l_spot : Binds K d_l_spot ["_law_luck", "_law_told"] []
  a_l_stirred_right : Addr
  d_l_stirred_right : FuncData
  F_l_stirred_right : Fun K "_law_stirred_right" "_law_stirred_right" s_l_stirred_right a_l_stirred_right d_l_stirred_right
  g_l_stirred_right : mg "_law_stirred_right" = some (.ref a_l_stirred_right)
  b_l_stirred_right : Binds K d_l_stirred_right ["_law_luck"] []
  a_l_turn_right : Addr
  d_l_turn_right : FuncData
  F_l_turn_right : Fun K "_law_turn_right" "_law_turn_right" s_l_turn_right a_l_turn_right d_l_turn_right
  g_l_turn_right : mg "_law_turn_right" = some (.ref a_l_turn_right)
  b_l_turn_right : Binds K d_l_turn_right ["_law_luck", "_law_told", "_law_goal"] []
  a_l_draws_right : Addr
  d_l_draws_right : FuncData
  F_l_draws_right : Fun K "_law_draws_right" "_law_draws_right" s_l_draws_right a_l_draws_right d_l_draws_right
  g_l_draws_right : mg "_law_draws_right" = some (.ref a_l_draws_right)
  b_l_draws_right : Binds K d_l_draws_right ["_law_dice_here", "_law_luck", "_law_told"] []
  a_l_right : Addr
  d_l_right : FuncData
  F_l_right : Fun K "_law_right" "_law_right" s_l_right a_l_right d_l_right
  g_l_right : mg "_law_right" = some (.ref a_l_right)
  b_l_right : Binds K d_l_right ["_law_dice_here"] []
  a_law : Addr
  d_law : FuncData
  F_law : Fun K "law" "law" s_law a_law d_law
  g_law : mg "law" = some (.ref a_law)
  b_law : Binds K d_law ["_law_script"] []
  m_abs : mg "abs" = none
  m_bool : mg "bool" = none
  m_int : mg "int" = none
  m_isinstance : mg "isinstance" = none
  m_len : mg "len" = none
  m_max : mg "max" = none
  m_min : mg "min" = none
  m_range : mg "range" = none
  m_set : mg "set" = none
  m_sorted : mg "sorted" = none
  m_tuple : mg "tuple" = none
  t_GREATEST : Tok
  c_GREATEST : mg "GREATEST" = some (.int 1000000000000000000000000000000000000000000000000000000000000 t_GREATEST)
  t_MODULUS : Tok
  c_MODULUS : mg "MODULUS" = some (.int 999999937 t_MODULUS)
  t_SUMMAND : Tok
  c_SUMMAND : mg "SUMMAND" = some (.int 271829 t_SUMMAND)
  t_MAX_SIDES : Tok
  c_MAX_SIDES : mg "MAX_SIDES" = some (.int 1000 t_MAX_SIDES)
  t_ROOT_POWER : Tok
  c_ROOT_POWER : mg "ROOT_POWER" = some (.int 799999949 t_ROOT_POWER)
namespace Tp
variable {K : PySem.W.Frag} {mg : Str → Option Value} (T : Tp K mg)
theorem r_GREATEST : RelV (.int 1000000000000000000000000000000000000000000000000000000000000) (.int 1000000000000000000000000000000000000000000000000000000000000 T.t_GREATEST) := ⟨_, rfl⟩
theorem r_MODULUS : RelV (.int 999999937) (.int 999999937 T.t_MODULUS) := ⟨_, rfl⟩
theorem r_SUMMAND : RelV (.int 271829) (.int 271829 T.t_SUMMAND) := ⟨_, rfl⟩
theorem r_MAX_SIDES : RelV (.int 1000) (.int 1000 T.t_MAX_SIDES) := ⟨_, rfl⟩
theorem r_ROOT_POWER : RelV (.int 799999949) (.int 799999949 T.t_ROOT_POWER) := ⟨_, rfl⟩
end Tp
/-! ### the ring of lucks: 48274 is a primitive root modulo 999999937 -/
@[irreducible] def fp (k : Nat) : Nat := 48274 ^ k % 999999937
@[irreducible] def pw (b : Int) (n : Nat) : Int := b ^ n % 999999937
theorem fp_zero : fp 0 = 1 := by unfold fp; rfl
theorem fp_one : fp 1 = 48274 := by unfold fp; rfl
theorem fp_lt (k : Nat) : fp k < 999999937 := by unfold fp; exact Nat.mod_lt _ (by decide)
theorem fp_add (a b : Nat) : fp (a + b) = fp a * fp b % 999999937 := by
  unfold fp
  rw [Nat.pow_add, Nat.mul_mod]
theorem fp_mul (a b : Nat) : fp a ^ b % 999999937 = fp (a * b) := by
  unfold fp
  rw [← Nat.pow_mod, Nat.pow_mul]
/-- powers by squaring, to be reckoned -/
def sq (fuel : Nat) (b n acc : Nat) : Nat := match fuel with
  | 0 => acc
  | f + 1 => if n = 0 then acc else sq f (b * b % 999999937) (n / 2) (if n % 2 = 1 then acc * b % 999999937 else acc)
theorem sq_eq : ∀ (fuel b n acc : Nat), n < 2 ^ fuel → sq fuel b n acc % 999999937 = acc * b ^ n % 999999937
  | 0, b, n, acc, h => by
    have e : n = 0 := by have : n < 1 := h; omega
    subst e
    show acc % _ = acc * b ^ 0 % _
    rw [Nat.pow_zero, Nat.mul_one]
  | f + 1, b, n, acc, h => by
    unfold sq
    by_cases e : n = 0
    · rw [if_pos e, e, Nat.pow_zero, Nat.mul_one]
    · rw [if_neg e, sq_eq f _ _ _ (by rw [Nat.pow_succ] at h; omega)]
      have e2 : n = 2 * (n / 2) + n % 2 := by omega
      have e3 : (b * b % 999999937) ^ (n / 2) % 999999937 = b ^ (2 * (n / 2)) % 999999937 := by
        rw [← Nat.pow_mod, Nat.pow_mul, Nat.pow_two]
      rw [Nat.mul_mod, e3, ← Nat.mul_mod]
      by_cases h1 : n % 2 = 1
      · rw [if_pos h1]
        rw [Nat.mul_mod, Nat.mod_mod, ← Nat.mul_mod]
        conv => rhs; rw [e2, h1, Nat.pow_add, Nat.pow_one]
        rw [Nat.mul_assoc, Nat.mul_comm b]
      · rw [if_neg h1]
        conv => rhs; rw [e2, show n % 2 = 0 by omega, Nat.add_zero]
theorem fp_sq (n : Nat) (h : n < 2 ^ 32) : fp n = sq 32 48274 n 1 % 999999937 := by
  rw [sq_eq 32 48274 n 1 h, Nat.one_mul]
  unfold fp
  rfl
theorem fp_n : fp 999999936 = 1 := by rw [fp_sq _ (by decide)]; decide +kernel
theorem fp_mul_n (t : Nat) : fp (999999936 * t) = 1 := by
  rw [← fp_mul, fp_n, Nat.one_pow]
theorem fp_mod (k : Nat) : fp (k % 999999936) = fp k := by
  have h : fp k = fp (999999936 * (k / 999999936) + k % 999999936) := by rw [Nat.div_add_mod]
  rw [h, fp_add, fp_mul_n, Nat.one_mul, Nat.mod_eq_of_lt (fp_lt _)]
theorem least_of {p : Nat → Prop} : ∀ e, 0 < e → p e → ∃ d, 0 < d ∧ p d ∧ ∀ c, 0 < c → c < d → ¬ p c := by
  intro e
  induction e using Nat.strongRecOn with
  | _ e ih =>
    intro h0 h1
    by_cases h : ∃ c, 0 < c ∧ c < e ∧ p c
    · obtain ⟨c, c0, c1, c2⟩ := h
      exact ih c c1 c0 c2
    · exact ⟨e, h0, h1, fun c c0 c1 c2 => h ⟨c, c0, c1, c2⟩⟩
theorem divs (q : Nat) (hq : ∀ d, d < q + 1 → d ∣ q → d = 1 ∨ d = q) (h0 : 0 < q) (m : Nat) (h : ¬ q ∣ m) : Nat.Coprime m q := by
  have h1 : Nat.gcd m q ∣ q := Nat.gcd_dvd_right m q
  rcases hq _ (Nat.lt_succ_of_le (Nat.le_of_dvd h0 h1)) h1 with e | e
  · exact e
  · exact absurd (e ▸ Nat.gcd_dvd_left m q) h
theorem p2 : ∀ d, d < 2 + 1 → d ∣ 2 → d = 1 ∨ d = 2 := by decide +kernel
theorem p3 : ∀ d, d < 3 + 1 → d ∣ 3 → d = 1 ∨ d = 3 := by decide +kernel
theorem p13 : ∀ d, d < 13 + 1 → d ∣ 13 → d = 1 ∨ d = 13 := by decide +kernel
theorem p83 : ∀ d, d < 83 + 1 → d ∣ 83 → d = 1 ∨ d = 83 := by decide +kernel
theorem p1609 : ∀ d, d < 1609 + 1 → d ∣ 1609 → d = 1 ∨ d = 1609 := by decide +kernel
theorem some_prime (m : Nat) (h : m ∣ 999999936) (h1 : m ≠ 1) : 2 ∣ m ∨ 3 ∣ m ∨ 13 ∣ m ∨ 83 ∣ m ∨ 1609 ∣ m := by
  by_cases a2 : 2 ∣ m
  · exact .inl a2
  by_cases a3 : 3 ∣ m
  · exact .inr (.inl a3)
  by_cases a13 : 13 ∣ m
  · exact .inr (.inr (.inl a13))
  by_cases a83 : 83 ∣ m
  · exact .inr (.inr (.inr (.inl a83)))
  by_cases a1609 : 1609 ∣ m
  · exact .inr (.inr (.inr (.inr a1609)))
  exfalso
  have c2 := divs 2 p2 (by decide) m a2
  have c3 := divs 3 p3 (by decide) m a3
  have c13 := divs 13 p13 (by decide) m a13
  have c83 := divs 83 p83 (by decide) m a83
  have c1609 := divs 1609 p1609 (by decide) m a1609
  have e1 : m ∣ 2 * 499999968 := h
  have e2 : m ∣ 2 * 249999984 := c2.dvd_of_dvd_mul_left e1
  have e3 : m ∣ 2 * 124999992 := c2.dvd_of_dvd_mul_left e2
  have e4 : m ∣ 2 * 62499996 := c2.dvd_of_dvd_mul_left e3
  have e5 : m ∣ 2 * 31249998 := c2.dvd_of_dvd_mul_left e4
  have e6 : m ∣ 2 * 15624999 := c2.dvd_of_dvd_mul_left e5
  have e7 : m ∣ 3 * 5208333 := c2.dvd_of_dvd_mul_left e6
  have e8 : m ∣ 3 * 1736111 := c3.dvd_of_dvd_mul_left e7
  have e9 : m ∣ 13 * 133547 := c3.dvd_of_dvd_mul_left e8
  have e10 : m ∣ 83 * 1609 := c13.dvd_of_dvd_mul_left e9
  have e11 : m ∣ 1609 * 1 := c83.dvd_of_dvd_mul_left e10
  have e12 : m ∣ 1 := c1609.dvd_of_dvd_mul_left e11
  exact h1 (Nat.dvd_one.mp e12)
theorem fp_order (e : Nat) (h0 : 0 < e) (h : e < 999999936) : fp e ≠ 1 := by
  intro he
  obtain ⟨d, d0, d1, d2⟩ := least_of (p := fun k => fp k = 1) e h0 he
  have dl : d < 999999936 := by
    by_cases c : e < d
    · exact absurd he (d2 e h0 c)
    · omega
  have dt : ∀ t, fp (d * t) = 1 := fun t => by rw [← fp_mul, d1, Nat.one_pow]
  have dd : d ∣ 999999936 := by
    have r : fp (999999936 % d) = 1 := by
      have z : fp 999999936 = fp (d * (999999936 / d) + 999999936 % d) := by rw [Nat.div_add_mod]
      rw [fp_n, fp_add, dt, Nat.one_mul, Nat.mod_eq_of_lt (fp_lt _)] at z
      exact z.symm
    have : 999999936 % d < d := Nat.mod_lt _ d0
    have : ¬ 0 < 999999936 % d := fun c => d2 _ c this r
    exact Nat.dvd_of_mod_eq_zero (by omega)
  obtain ⟨m, em⟩ := dd
  have m1 : m ≠ 1 := fun z => by subst z; omega
  have key : ∀ q r, 999999936 = q * r → fp r ≠ 1 → 0 < q → ¬ q ∣ m := fun q r eq hr q0 ⟨t, et⟩ => by
    apply hr
    have : q * r = q * (d * t) := by rw [← eq, em, et, Nat.mul_left_comm]
    rw [Nat.eq_of_mul_eq_mul_left q0 this]
    exact dt t
  rcases some_prime m ⟨d, by rw [em, Nat.mul_comm]⟩ m1 with k | k | k | k | k
  · exact key 2 499999968 rfl (by rw [fp_sq _ (by decide)]; decide +kernel) (by decide) k
  · exact key 3 333333312 rfl (by rw [fp_sq _ (by decide)]; decide +kernel) (by decide) k
  · exact key 13 76923072 rfl (by rw [fp_sq _ (by decide)]; decide +kernel) (by decide) k
  · exact key 83 12048192 rfl (by rw [fp_sq _ (by decide)]; decide +kernel) (by decide) k
  · exact key 1609 621504 rfl (by rw [fp_sq _ (by decide)]; decide +kernel) (by decide) k
/-- what leads from a to b -/
theorem fp_sub {i j : Nat} (h : i ≤ j) (e : fp i = fp j) (hj : j < 999999936) : i = j := by
  by_cases c : i = j
  · exact c
  · exfalso
    have hi : i < 999999936 := by omega
    refine fp_order (j - i) (by omega) (by omega) ?_
    have z1 : fp (j - i + i + (999999936 - i)) = fp (i + (999999936 - i)) := by
      rw [show j - i + i = j by omega, fp_add j, ← e, ← fp_add]
    rw [show i + (999999936 - i) = 999999936 by omega, fp_n, show j - i + i + (999999936 - i) = 999999936 + (j - i) by omega, fp_add, fp_n, Nat.one_mul, Nat.mod_eq_of_lt (fp_lt _)] at z1
    exact z1
theorem fp_inj {i j : Nat} (hi : i < 999999936) (hj : j < 999999936) (e : fp i = fp j) : i = j := by
  rcases Nat.le_total i j with h | h
  · exact fp_sub h e hj
  · exact (fp_sub h e.symm hi).symm
theorem fp_pos (k : Nat) : 0 < fp k := by
  rcases Nat.eq_zero_or_pos (fp k) with h | h
  · exfalso
    have z : fp (k + k * 999999935) = 1 := by
      rw [show k + k * 999999935 = 999999936 * k by omega]
      exact fp_mul_n k
    rw [fp_add, h, Nat.zero_mul] at z
    exact absurd z (by decide)
  · exact h
/-! ### a one-to-one row of n numbers below n has them all -/
theorem nodup_le : ∀ (N : Nat) (l : List Nat), l.Nodup → (∀ x ∈ l, x < N) → l.length ≤ N
  | 0, [], _, _ => Nat.le_refl 0
  | 0, x :: r, _, h => absurd (h x (List.mem_cons_self)) (Nat.not_lt_zero x)
  | N + 1, l, hn, h => by
    have h1 : (l.erase N).Nodup := hn.erase N
    have h2 : ∀ x ∈ l.erase N, x < N := fun x hx => by
      have a1 := h x (List.mem_of_mem_erase hx)
      have a2 : x ≠ N := fun z => by
        subst z
        exact hn.not_mem_erase hx
      omega
    have h3 := nodup_le N _ h1 h2
    have h4 : l.length ≤ (l.erase N).length + 1 := by
      rw [List.length_erase]
      split <;> omega
    omega
theorem inj_surj (n : Nat) (f : Nat → Nat) (hf : ∀ i, i < n → f i < n) (inj : ∀ i j, i < n → j < n → f i = f j → i = j) (y : Nat) (hy : y < n) : ∃ i, i < n ∧ f i = y := by
  by_cases c : ∃ i, i < n ∧ f i = y
  · exact c
  exfalso
  have nd : ((List.range n).map f).Nodup := by
    rw [List.nodup_iff_pairwise_ne, List.pairwise_map]
    refine (List.nodup_range (n := n)).imp_of_mem ?_
    intro a b ha hb hab z
    exact hab (inj a b (List.mem_range.mp ha) (List.mem_range.mp hb) z)
  have nd2 : (y :: (List.range n).map f).Nodup := List.nodup_cons.mpr ⟨fun m => by
    obtain ⟨i, hi, e⟩ := List.mem_map.mp m
    exact c ⟨i, List.mem_range.mp hi, e⟩, nd⟩
  have le := nodup_le n _ nd2 (fun x hx => by
    rcases List.mem_cons.mp hx with rfl | hx
    · exact hy
    · obtain ⟨i, hi, e⟩ := List.mem_map.mp hx
      rw [← e]
      exact hf i (List.mem_range.mp hi))
  rw [List.length_cons, List.length_map, List.length_range] at le
  omega
theorem fp_surj (y : Nat) (h0 : 0 < y) (h1 : y < 999999937) : ∃ k, k < 999999936 ∧ fp k = y := by
  obtain ⟨i, hi, e⟩ := inj_surj 999999936 (fun k => fp k - 1) (fun i _ => by
    have a := fp_lt i
    have b := fp_pos i
    show fp i - 1 < 999999936
    omega) (fun i j hi hj e => by
    have a := fp_pos i
    have b := fp_pos j
    have e : fp i - 1 = fp j - 1 := e
    exact fp_inj hi hj (by omega)) (y - 1) (by omega)
  refine ⟨i, hi, ?_⟩
  have a := fp_pos i
  have e : fp i - 1 = y - 1 := e
  omega
/-! ### over whole numbers -/
theorem pw_zero (b : Int) : pw b 0 = 1 := by unfold pw; rw [Int.pow_zero]; rfl
theorem emod_pow (b : Int) : ∀ n : Nat, (b % 999999937) ^ n % 999999937 = b ^ n % 999999937
  | 0 => by rw [Int.pow_zero, Int.pow_zero]
  | n + 1 => by rw [Int.pow_succ, Int.pow_succ, Int.mul_emod, emod_pow b n, Int.emod_emod, ← Int.mul_emod]
theorem pw_lo (b : Int) (n : Nat) : 0 ≤ pw b n := by unfold pw; exact Int.emod_nonneg _ (by decide)
theorem pw_hi (b : Int) (n : Nat) : pw b n < 999999937 := by unfold pw; exact Int.emod_lt_of_pos _ (by decide)
theorem pw_fp {b : Int} {k : Nat} (h : b % 999999937 = (fp k : Int)) (n : Nat) : pw b n = (fp (k * n) : Int) := by
  have e : pw b n = (b % 999999937) ^ n % 999999937 := by
    unfold pw
    rw [emod_pow]
  rw [e, h, ← fp_mul, Int.natCast_emod, Int.natCast_pow]
  rfl
theorem res_fp {b : Int} (h : b % 999999937 ≠ 0) : ∃ k, k < 999999936 ∧ b % 999999937 = (fp k : Int) := by
  have h0 : 0 ≤ b % 999999937 := Int.emod_nonneg _ (by decide)
  have h1 : b % 999999937 < 999999937 := Int.emod_lt_of_pos _ (by decide)
  obtain ⟨k, hk, e⟩ := fp_surj (b % 999999937).toNat (by omega) (by omega)
  exact ⟨k, hk, by omega⟩

/-! ### general: frames of the heap, the dice -/
/-- all that was tracked is as it was, but d -/
def Ext (d : Addr) (H H' : Hp) : Prop := ∀ b o, b ≠ d → H b = some o → H' b = some o
theorem Ext.refl (d : Addr) (H : Hp) : Ext d H H := fun _ _ _ h => h
theorem Ext.trans {d : Addr} {H H1 H2 : Hp} (a : Ext d H H1) (b : Ext d H1 H2) : Ext d H H2 := fun c o n h => b c o n (a c o n h)
theorem Ext.of {d : Addr} {H H' : Hp} (s : Same H H') : Ext d H H' := fun b o _ h => s b o h
theorem Ext.new {d p : Addr} {o : HO} {H : Hp} (h : H p = none) : Ext d H (upd H p o) := fun b u _ e => by
  rw [upd_ne (ne_of_none e h)]; exact e
theorem Ext.put {d : Addr} {o : HO} {H : Hp} : Ext d H (upd H d o) := fun b u n e => by
  rw [upd_ne n]; exact e
/-- d was not tracked ahead -/
theorem Ext.same {d : Addr} {H H' : Hp} (e : Ext d H H') (h : H d = none) : Same H H' := fun b o q => e b o (ne_of_none q h) q
theorem same_new {H : Hp} {p : Addr} {o : HO} (h : H p = none) : Same H (upd H p o) := fun b x e => by
  rw [upd_ne (ne_of_none e h)]; exact e
theorem Ext.at' {d a : Addr} {H H' : Hp} {o : HO} (e : Ext d H H') (n : a ≠ d) (h : H a = some o) : H' a = some o := e a o n h
theorem Ext.rd {d a : Addr} {H H' : Hp} {o : HO} (e : Ext d H H') (n : a ≠ d) (h : Rd H a o) : Rd H' a o := by
  rcases h with h | ⟨u, h⟩
  · exact .inl (e _ _ n h)
  · exact .inr ⟨u, e _ _ n h⟩
theorem Ext.sql {K : PySem.W.Frag} {d a : Addr} {H H' : Hp} {xs : List V} (e : Ext d H H') (n : a ≠ d) (h : SqL K H a xs) : SqL K H' a xs := by
  rcases h with h | h
  · exact .inl (e.rd n h)
  · exact .inr h
theorem same_sqt {K : PySem.W.Frag} {H H' : Hp} {a : Addr} {xs : List V} (e : Same H H') (h : SqT K H a xs) : SqT K H' a xs := by
  rcases h with (h | ⟨o, h⟩) | h
  · exact .inl (.inl (e _ _ h))
  · exact .inl (.inr ⟨o, e _ _ h⟩)
  · exact .inr h
theorem sql_ne {K : PySem.W.Frag} {d a : Addr} {H : Hp} {xs : List V} (h : Rd H a (.lst xs)) (n : H d = none) : a ≠ d := by
  rcases h with h | ⟨u, h⟩ <;> exact ne_of_none h n
theorem iteY {c A B : Prop} [Decidable c] (hc : c) (h : A) : if c then A else B := by rw [if_pos hc]; exact h
theorem iteN {c A B : Prop} [Decidable c] (hc : ¬ c) (h : B) : if c then A else B := by rw [if_neg hc]; exact h
theorem iteNT {A B : Prop} (h : B) : if (!true) = true then A else B := h
theorem iteNF {A B : Prop} (h : A) : if (!false) = true then A else B := h
theorem Ext.sqt {K : PySem.W.Frag} {d a : Addr} {H H' : Hp} {xs : List V} (e : Ext d H H') (n : a ≠ d) (h : SqT K H a xs) : SqT K H' a xs := by
  rcases h with h | h
  · exact .inl (e.rd n h)
  · exact .inr h
theorem Ext.mut {d a : Addr} {H H' : Hp} {o : HO} (e : Ext d H H') (n : H a = none) : Ext d H (upd H' a o) := fun b u nb hb => by
  rw [upd_ne (ne_of_none hb n)]
  exact e b u nb hb
/-- a wish that the short tactics leave alone -/
inductive Stp (p : Prop) : Prop where
  | of (h : p)
  | no (h : False)
theorem Stp.get {p : Prop} (h : Stp p) : p := by
  cases h with
  | of h => exact h
  | no h => exact h.elim
/-- the dice: three ints -/
def Dice (d : Addr) (H : Hp) : Prop := ∃ x y z : Int, H d = some (.lst [.int x, .int y, .int z])
theorem Dice.same {d : Addr} {H H' : Hp} (h : Dice d H) (s : Same H H') : Dice d H' := by
  obtain ⟨x, y, z, e⟩ := h
  exact ⟨x, y, z, s _ _ e⟩
theorem Dice.ne {d p : Addr} {H : Hp} (h : Dice d H) (n : H p = none) : p ≠ d := by
  obtain ⟨x, y, z, e⟩ := h
  exact (ne_of_none e n).symm
theorem Dice.new {d p : Addr} {o : HO} {H : Hp} (h : Dice d H) (n : H p = none) : Dice d (upd H p o) := h.same (same_new n)
theorem Dice.eq {d : Addr} {H : Hp} (x y z : Int) (h : H d = some (.lst [.int x, .int y, .int z])) : Dice d H := ⟨x, y, z, h⟩
theorem nn {x y : Int} (h : 0 ≤ x) (k : x < y) : -y < x ∧ x < y := ⟨by omega, k⟩
theorem Dice.ne_tup {d p : Addr} {H : Hp} {xs : List V} (h : Dice d H) (n : H p = some (.tup xs)) : p ≠ d := by
  obtain ⟨x, y, z, e⟩ := h
  exact ne_of n e (by intro z; cases z)
theorem Dice.put {d p : Addr} {o : HO} {H : Hp} (h : Dice d H) (n : p ≠ d) : Dice d (upd H p o) := by
  obtain ⟨x, y, z, e⟩ := h
  exact ⟨x, y, z, by rw [upd_ne (fun q => n q.symm)]; exact e⟩
/-- an int within bounds -/
def inB (lo hi : Int) : V → Bool
  | .int i => decide (lo ≤ i) && decide (i < hi)
  | _ => false
theorem inB_of {lo hi : Int} {v : V} (h : inB lo hi v = true) : ∃ i, v = .int i ∧ lo ≤ i ∧ i < hi := by
  cases v with
  | int i =>
    have h : (decide (lo ≤ i) && decide (i < hi)) = true := h
    rw [Bool.and_eq_true] at h
    exact ⟨i, rfl, of_decide_eq_true h.1, of_decide_eq_true h.2⟩
  | _ => exact absurd h (by intro z; cases z)
theorem inB_mem {lo hi : Int} {v : V} {xs : List V} (hv : v ∈ xs) (h : xs.all (inB lo hi) = true) : ∃ i, v = .int i ∧ lo ≤ i ∧ i < hi := inB_of (List.all_eq_true.mp h v hv)
/-! ### the dice's defs -/
def sp_l_dice (K : PySem.W.Frag) : Sp := fun vs H Q _ => ∃ (a : Addr) (ns : List Int) (k : Int), vs = [.ref a, .int k] ∧ SqL K H a (ns.map V.int) ∧ 0 ≤ k ∧ k < 1000 ∧
  ∀ d H', H d = none → Dice d H' → Same H H' → Q (.ref d) H'
def sp_l_roll (_ : PySem.W.Frag) : Sp := fun vs H Q _ => ∃ (d : Addr) (n : Int), vs = [.ref d, .int n] ∧ 0 < n ∧ n < 2 ^ 250 ∧ Dice d H ∧
  ∀ r H', 0 ≤ r → r < n → Dice d H' → Ext d H H' → Q (.int r) H'
def sp_l_pick (K : PySem.W.Frag) : Sp := fun vs H Q _ => ∃ (d a : Addr) (xs : List V), vs = [.ref d, .ref a] ∧ SqL K H a xs ∧ a ≠ d ∧ 0 < xs.length ∧ xs.length < 1000 ∧ Dice d H ∧
  ∀ v H', v ∈ xs → Dice d H' → Ext d H H' → Q v H'
def sp_l_near (_ : PySem.W.Frag) : Sp := fun vs H Q _ => ∃ (d : Addr) (m : Int), vs = [.ref d, .int m] ∧ 0 ≤ m ∧ m < 2 ^ 240 ∧ Dice d H ∧
  ∀ r H', -m ≤ r → r ≤ m → Dice d H' → Ext d H H' → Q (.int r) H'

/-! ### judged values -/
inductive Jd (K : PySem.W.Frag) (H : Hp) : V → Prop where
  | non : Jd K H .non
  | bl (b : Bool) : Jd K H (.bl b)
  | int (i : Int) : Jd K H (.int i)
  | str (x : Str) : Jd K H (.str x)
  | lst {a : Addr} {xs : List V} (e : H a = some (.lst xs)) : Jd K H (.ref a)
  | tup {a : Addr} {xs : List V} (e : H a = some (.tup xs)) : Jd K H (.ref a)
  | dK {a : Addr} {kvs : List (Key × V)} (e : H a = some (.dK kvs)) : Jd K H (.ref a)
@[reducible] def isI : V → Bool
  | .int _ => true
  | _ => false
@[reducible] def isB : V → Bool
  | .bl _ => true
  | _ => false
@[reducible] def isS : V → Bool
  | .str _ => true
  | _ => false
theorem Jd.ty {K : PySem.W.Frag} {H : Hp} {x : V} (j : Jd K H x) : ∃ n, TyX K H x (.type n) ∧ kitB n "int" = some (isI x || isB x) ∧ kitB n "bool" = some (isB x) ∧ kitB n "str" = some (isS x) := by
  cases j with
  | non => exact ⟨_, .base .non, by decide +kernel, by decide +kernel, by decide +kernel⟩
  | bl b => exact ⟨_, .base (.bl b), by show kitB "bool" "int" = some true; decide +kernel, by show kitB "bool" "bool" = some true; decide +kernel, by show kitB "bool" "str" = some false; decide +kernel⟩
  | int i => exact ⟨_, .base (.int i), by show kitB "int" "int" = some true; decide +kernel, by show kitB "int" "bool" = some false; decide +kernel, by show kitB "int" "str" = some false; decide +kernel⟩
  | str x => exact ⟨_, .base (.str x), by show kitB "str" "int" = some false; decide +kernel, by show kitB "str" "bool" = some false; decide +kernel, by show kitB "str" "str" = some true; decide +kernel⟩
  | lst e => exact ⟨_, .base (.lst e), by show kitB "list" "int" = some false; decide +kernel, by show kitB "list" "bool" = some false; decide +kernel, by show kitB "list" "str" = some false; decide +kernel⟩
  | tup e => exact ⟨_, .base (.tup e), by show kitB "tuple" "int" = some false; decide +kernel, by show kitB "tuple" "bool" = some false; decide +kernel, by show kitB "tuple" "str" = some false; decide +kernel⟩
  | dK e => exact ⟨_, .base (.dK e), by show kitB "dict" "int" = some false; decide +kernel, by show kitB "dict" "bool" = some false; decide +kernel, by show kitB "dict" "str" = some false; decide +kernel⟩
theorem Jd.same {K : PySem.W.Frag} {H H' : Hp} {x : V} (j : Jd K H x) (s : Same H H') : Jd K H' x := by
  cases j with
  | non => exact .non
  | bl b => exact .bl b
  | int i => exact .int i
  | str x => exact .str x
  | lst e => exact .lst (s _ _ e)
  | tup e => exact .tup (s _ _ e)
  | dK e => exact .dK (s _ _ e)
def shortB : V → Bool
  | .int i => decide (-(10 ^ 60) < i) && decide (i < 10 ^ 60)
  | _ => false
def fromB : V → Int → Int → Bool
  | .int i, a, b => decide (a ≤ i) && decide (i ≤ b)
  | _, _, _ => false
def sp_is_whole (K : PySem.W.Frag) : Sp := fun vs H Q _ => ∃ x, vs = [x] ∧ Jd K H x ∧ Q (.bl (isI x)) H
def sp_is_short (K : PySem.W.Frag) : Sp := fun vs H Q _ => ∃ x, vs = [x] ∧ Jd K H x ∧ Q (.bl (shortB x)) H
def sp_is_from (K : PySem.W.Frag) : Sp := fun vs H Q _ => ∃ x a b, vs = [x, .int a, .int b] ∧ Jd K H x ∧ Q (.bl (fromB x a b)) H
theorem and_t {a b : Bool} {F : Bool → Prop} (q : F (a && b)) (e : a = true) : F b := by
  subst e
  exact q
theorem and_f {a b : Bool} {F : Bool → Prop} (q : F (a && b)) (e : ¬ a = true) : F false := by
  have e := eq_false_of_ne_true e
  subst e
  exact q

/-! ### further rules -/
section
variable {X : Cx} {pos : Pos}
def tIfT (t ta tb : TT) : TT := fun σ H Q => t σ H fun c H1 => if c = true then ta σ H1 Q else tb σ H1 Q
theorem pt_ifE {c a b : Expr} {tc ta tb : TT} (hc : PT X c tc) (ha : PT X a ta) (hb : PT X b tb) : PT X (.IfExp c a b pos) (tIfT tc ta tb) := by
  refine ⟨fun pins s σ H Q I h => ?_⟩
  refine isTrue_IfExp (thn (hc.run pins s σ H _ I h) fun d s1 ⟨H1, I1, q1⟩ => ?_)
  cases d with
  | true => exact ha.run pins s1 σ H1 Q I1 q1
  | false => exact hb.run pins s1 σ H1 Q I1 q1
end

/-! ### lucks -/
def tickB : V → Bool
  | .int i => (decide (-(10 ^ 60) < i) && decide (i < 10 ^ 60)) && decide (0 ≤ i)
  | _ => false
def sp_is_tick (K : PySem.W.Frag) : Sp := fun vs H Q _ => ∃ x, vs = [x] ∧ Jd K H x ∧ Q (.bl (tickB x)) H
def sp_require_tick (_ : PySem.W.Frag) : Sp := fun vs H Q _ => ∃ i, vs = [.int i] ∧ 0 ≤ i ∧ i < 10 ^ 60 ∧ Q .non H
def sp_is_luck_in (K : PySem.W.Frag) : Sp := fun vs H Q _ => ∃ x, vs = [x] ∧ Jd K H x ∧ Q (.bl (fromB x 0 999999936)) H
def sp_require_luck (_ : PySem.W.Frag) : Sp := fun vs H Q _ => ∃ i, vs = [.int i] ∧ 0 ≤ i ∧ i < 999999937 ∧ Q .non H
def sp_next_in (_ : PySem.W.Frag) : Sp := fun vs H Q _ => ∃ l, vs = [.int l] ∧ Q (.int ((48274 * l + 271829) % 999999937)) H
def sp_power (_ : PySem.W.Frag) : Sp := fun vs H Q _ => ∃ b n, vs = [.int b, .int n] ∧ (-(2 ^ 64) < b ∧ b < 2 ^ 64) ∧ 0 ≤ n ∧ Q (.int (pw b n.toNat)) H
def sp_over (_ : PySem.W.Frag) : Sp := fun vs H Q _ => ∃ x y, vs = [.int x, .int y] ∧ (-(2 ^ 64) < y ∧ y < 2 ^ 64) ∧ Q (.int (x * pw y 999999935 % 999999937)) H
def sp_led (_ : PySem.W.Frag) : Sp := fun vs H Q _ => ∃ l f, vs = [.int l, .int f] ∧ (-(2 ^ 64) < f ∧ f < 2 ^ 64) ∧ Q (.int (((l - 949019055) * f + 949019055) % 999999937)) H
/-- a power of the loop, one turn -/
theorem pow_turn (f b : Int) (n : Nat) : (if n % 2 = 1 then f * b % 999999937 else f) * (b * b % 999999937) ^ (n / 2) % 999999937 = f * b ^ n % 999999937 := by
  have e2 : n = 2 * (n / 2) + n % 2 := by omega
  have e3 : (b * b % 999999937) ^ (n / 2) % 999999937 = b ^ (2 * (n / 2)) % 999999937 := by
    rw [emod_pow, Int.pow_mul]
    congr 2
    rw [Int.pow_succ, Int.pow_succ, Int.pow_zero, Int.one_mul]
  rw [Int.mul_emod, e3]
  by_cases h1 : n % 2 = 1
  · rw [if_pos h1, Int.emod_emod, ← Int.mul_emod]
    conv => rhs; rw [e2, h1, Int.pow_add]
    rw [Int.pow_succ b 0, Int.pow_zero, Int.one_mul, Int.mul_assoc, Int.mul_comm b]
  · rw [if_neg h1, ← Int.mul_emod]
    conv => rhs; rw [e2, show n % 2 = 0 by omega, Nat.add_zero]

theorem pwF (n : Nat) : pw 48274 n = (fp n : Int) := by
  rw [pw_fp (k := 1) (by rw [fp_one]; rfl), Nat.one_mul]
theorem fpI_mod (k : Nat) : (fp k : Int) % 999999937 = (fp k : Int) := Int.emod_eq_of_lt (Int.natCast_nonneg _) (by have := fp_lt k; omega)
theorem pwfp (k n : Nat) : pw (fp k : Int) n = (fp (k * n) : Int) := pw_fp (fpI_mod k) n
theorem fpI_add (a b : Nat) : (fp a : Int) * (fp b : Int) % 999999937 = (fp (a + b) : Int) := by
  rw [fp_add, Int.natCast_emod, Int.natCast_mul]; rfl
/-- exponents alike modulo the order -/
theorem fp_cong {a b s t : Nat} (h : a + 999999936 * s = b + 999999936 * t) : fp a = fp b := by
  have x : fp (a + 999999936 * s) = fp a := by rw [fp_add, fp_mul_n, Nat.mul_one, Nat.mod_eq_of_lt (fp_lt _)]
  have y : fp (b + 999999936 * t) = fp b := by rw [fp_add, fp_mul_n, Nat.mul_one, Nat.mod_eq_of_lt (fp_lt _)]
  rw [← x, h, y]
/-- a prime's part of the order: q * c is the order -/
structure Pr (q c : Nat) : Prop where
  h : q * c = 999999936
  two : 2 ≤ q
  small : q ≤ 1609
theorem Pr.inj {q c i j : Nat} (p : Pr q c) (hi : i < q) (hj : j < q) (e : fp (c * i) = fp (c * j)) : i = j := by
  have h := p.h
  have c0 : 0 < c := by
    rcases Nat.eq_zero_or_pos c with z | z
    · subst z; omega
    · exact z
  have m : ∀ i, i < q → c * i < 999999936 := fun i hi => by
    rw [← h, Nat.mul_comm q]
    exact Nat.mul_lt_mul_of_pos_left hi c0
  exact Nat.eq_of_mul_eq_mul_left c0 (fp_inj (m i hi) (m j hj) e)
def sp_digit_of (_ : PySem.W.Frag) : Sp := fun vs H Q _ => ∃ (x y : Int) (q c j : Nat), vs = [.int x, .int y] ∧ x = (fp (c * j) : Int) ∧ y = (q : Int) ∧ Pr q c ∧ j < q ∧ Q (.int (j : Int)) H
def sp_times_modulo (_ : PySem.W.Frag) : Sp := fun vs H Q _ => ∃ (x y z : Int) (k q e u : Nat), vs = [.int x, .int y, .int z] ∧ x = (fp k : Int) ∧ y = (q : Int) ∧ z = (e : Int) ∧ 2 ≤ q ∧ q ≤ 1609 ∧ e ≤ 6 ∧ q ^ e * u = 999999936 ∧
  ∀ p H', H p = none → Same H H' → H' p = some (.tup [.int ((k % q ^ e : Nat) : Int), .int ((q ^ e : Nat) : Int)]) → Q (.ref p) H'
def sp_times_of (K : PySem.W.Frag) : Sp := fun vs H Q _ => ∃ (x : Int) (k : Nat), vs = [.int x] ∧ x = (fp k : Int) ∧ k < 999999936 ∧ ∀ H', Same H H' → Q (.int (k : Int)) H'
/-- what a turn of times_modulo tells -/
theorem told_eq {k q i u c : Nat} (h : q ^ i * (q * u) = 999999936) (hc : q * c = 999999936) : fp ((k + k % q ^ i * 999999935) * u) = fp (c * (k / q ^ i % q)) := by
  have q0 : 0 < q := by
    rcases Nat.eq_zero_or_pos q with z | z
    · subst z; omega
    · exact z
  have e1 : q ^ i * u = c := by
    refine Nat.eq_of_mul_eq_mul_left q0 ?_
    rw [hc, ← h]
    rw [Nat.mul_left_comm]
  have e2 : q ^ i * (k / q ^ i) + k % q ^ i = k := Nat.div_add_mod _ _
  have e3 : q * (k / q ^ i / q) + k / q ^ i % q = k / q ^ i := Nat.div_add_mod _ _
  have a1 : (k + k % q ^ i * 999999935) * u = c * (k / q ^ i) + 999999936 * (k % q ^ i * u) := by
    have : k + k % q ^ i * 999999935 = q ^ i * (k / q ^ i) + k % q ^ i * 999999936 := by omega
    rw [this, Nat.add_mul, ← e1, Nat.mul_right_comm, Nat.mul_comm (k % q ^ i) 999999936, Nat.mul_assoc 999999936]
  have a2 : c * (k / q ^ i) = c * (k / q ^ i % q) + 999999936 * (k / q ^ i / q) := by
    conv => lhs; rw [← e3, Nat.mul_add, ← Nat.mul_assoc, Nat.mul_comm c q, hc]
    rw [Nat.add_comm]
  refine fp_cong (s := 0) (t := k / q ^ i / q + k % q ^ i * u) ?_
  rw [a1, a2]
  omega
/-- the moduli found so far -/
theorem crt {k D s t : Nat} (D0 : 0 < D) (s0 : 0 < s) (co : Nat.Coprime s D) (ht : t ≤ k / D % s) (e : (k % D + D * t) % s = k % s) : t = k / D % s := by
  have e1 : k % (D * s) = k % D + D * (k / D % s) := Nat.mod_mul
  have e2 : k % (D * s) % s = k % s := Nat.mod_mul_left_mod k D s
  have e3 : (k % D + D * (k / D % s)) % s = (k % D + D * t) % s := by rw [← e1, e2, e]
  have e4 : s ∣ D * (k / D % s - t) := by
    have : k % D + D * (k / D % s) = k % D + D * t + D * (k / D % s - t) := by
      rw [Nat.mul_sub]
      have : D * t ≤ D * (k / D % s) := Nat.mul_le_mul_left D ht
      omega
    rw [this] at e3
    have z := Nat.sub_mod_eq_zero_of_mod_eq e3
    rw [Nat.add_sub_cancel_left] at z
    exact Nat.dvd_of_mod_eq_zero z
  have e5 : s ∣ (k / D % s - t) := co.dvd_of_dvd_mul_left e4
  have lt : k / D % s < s := Nat.mod_lt _ s0
  have := Nat.eq_zero_of_dvd_of_lt e5 (by omega)
  omega

/-! ### stirring -/
def stI (l : Int) : Int := (l ^ 5 + 271829) % 999999937
theorem stI_lo (l : Int) : 0 ≤ stI l := Int.emod_nonneg _ (by decide)
theorem stI_hi (l : Int) : stI l < 999999937 := Int.emod_lt_of_pos _ (by decide)
def unI (l : Int) : Int := pw ((l - 271829) % 999999937) 799999949
theorem unI_lo (l : Int) : 0 ≤ unI l := pw_lo _ _
theorem unI_hi (l : Int) : unI l < 999999937 := pw_hi _ _
/-- the fifth power and its root -/
theorem pw_mul (b : Int) (m n : Nat) : pw (pw b m) n = pw b (m * n) := by
  unfold pw
  rw [emod_pow, ← Int.pow_mul]
theorem pw_five (b : Int) : pw b 3999999745 = b % 999999937 := by
  by_cases h : b % 999999937 = 0
  · rw [h]
    have e : pw b 3999999745 = pw (b % 999999937) 3999999745 := by unfold pw; rw [emod_pow]
    rw [e, h]
    unfold pw
    rw [Int.zero_pow (by decide)]
    rfl
  · obtain ⟨k, hk, e⟩ := res_fp h
    rw [pw_fp e, e, show k * 3999999745 = k + 999999936 * (4 * k) by omega]
    rw [fp_cong (a := k + 999999936 * (4 * k)) (b := k) (s := 0) (t := 4 * k) rfl]
theorem stI_pw (l : Int) : stI l = (pw l 5 + 271829) % 999999937 := by
  unfold stI pw
  rw [Int.emod_add_emod]
theorem st_un {l : Int} (h0 : 0 ≤ l) (h1 : l < 999999937) : stI (unI l) = l := by
  rw [stI_pw]
  unfold unI
  rw [pw_mul, show 799999949 * 5 = 3999999745 from rfl, pw_five, Int.emod_emod, Int.emod_add_emod]
  omega
theorem un_st {l : Int} (h0 : 0 ≤ l) (h1 : l < 999999937) : unI (stI l) = l := by
  unfold unI
  rw [stI_pw, Int.emod_sub_emod, Int.add_sub_cancel]
  have e : pw l 5 % 999999937 = pw l 5 := Int.emod_eq_of_lt (pw_lo _ _) (pw_hi _ _)
  rw [e, pw_mul, show 5 * 799999949 = 3999999745 from rfl, pw_five, Int.emod_eq_of_lt h0 h1]
theorem st_inj {a b : Int} (a0 : 0 ≤ a) (a1 : a < 999999937) (b0 : 0 ≤ b) (b1 : b < 999999937) (h : stI a = stI b) : a = b := by
  rw [← un_st a0 a1, h, un_st b0 b1]
def stA (l e : Int) : Int := stI ((l + e) % 999999937)
theorem stA_lo (l e : Int) : 0 ≤ stA l e := stI_lo _
theorem stA_hi (l e : Int) : stA l e < 999999937 := stI_hi _
theorem stA_inj {a b e f : Int} (h : stA a e = stA b f) : (a + e) % 999999937 = (b + f) % 999999937 :=
  st_inj (Int.emod_nonneg _ (by decide)) (Int.emod_lt_of_pos _ (by decide)) (Int.emod_nonneg _ (by decide)) (Int.emod_lt_of_pos _ (by decide)) h
def atI2 (l e t : Int) : Int := stA (stA (stI l) e) t
theorem atI2_lo (l e t : Int) : 0 ≤ atI2 l e t := stI_lo _
theorem atI2_hi (l e t : Int) : atI2 l e t < 999999937 := stI_hi _
def spI (l e t n : Int) : Int := stA (atI2 l e t) n
theorem spI_lo (l e t n : Int) : 0 ≤ spI l e t n := stI_lo _
theorem spI_hi (l e t n : Int) : spI l e t n < 999999937 := stI_hi _
theorem sp_ne_e {l e t n d : Int} (h0 : 1 ≤ d) (h1 : d < 999999937) : spI l (e + d) t n ≠ spI l e t n := fun z => by
  have z1 := stA_inj z
  have a := atI2_lo l (e + d) t
  have b := atI2_hi l (e + d) t
  have a' := atI2_lo l e t
  have b' := atI2_hi l e t
  have z2 : atI2 l (e + d) t = atI2 l e t := by omega
  have z3 := stA_inj z2
  have c := stA_lo (stI l) (e + d)
  have c' := stA_hi (stI l) (e + d)
  have f := stA_lo (stI l) e
  have f' := stA_hi (stI l) e
  have z4 : stA (stI l) (e + d) = stA (stI l) e := by omega
  have z5 := stA_inj z4
  omega
theorem sp_ne_t {l e t n d : Int} (h0 : 1 ≤ d) (h1 : d < 999999937) : spI l e (t + d) n ≠ spI l e t n := fun z => by
  have z1 := stA_inj z
  have a := atI2_lo l e (t + d)
  have b := atI2_hi l e (t + d)
  have a' := atI2_lo l e t
  have b' := atI2_hi l e t
  have z2 : atI2 l e (t + d) = atI2 l e t := by omega
  have z5 := stA_inj z2
  omega
theorem sp_ne_n {l e t n d : Int} (h0 : 1 ≤ d) (h1 : d < 999999937) : spI l e t (n + d) ≠ spI l e t n := fun z => by
  have z5 := stA_inj z
  omega
theorem sp_ne_l {l e t n m : Int} (l0 : 0 ≤ l) (l1 : l < 999999937) (m0 : 0 ≤ m) (m1 : m < 999999937) (h : m ≠ l) : spI m e t n ≠ spI l e t n := fun z => by
  have z1 := stA_inj z
  have a := atI2_lo m e t
  have b := atI2_hi m e t
  have a' := atI2_lo l e t
  have b' := atI2_hi l e t
  have z2 : atI2 m e t = atI2 l e t := by omega
  have z3 := stA_inj z2
  have c := stA_lo (stI m) e
  have c' := stA_hi (stI m) e
  have f := stA_lo (stI l) e
  have f' := stA_hi (stI l) e
  have z4 : stA (stI m) e = stA (stI l) e := by omega
  have z5 := stA_inj z4
  have g := stI_lo m
  have g' := stI_hi m
  have k := stI_lo l
  have k' := stI_hi l
  have z6 : stI m = stI l := by omega
  exact h (st_inj m0 m1 l0 l1 z6)
def tuI (l e t v : Int) : Int := (unI v - atI2 l e t) % 999999937
theorem sp_tu {l e t v : Int} (v0 : 0 ≤ v) (v1 : v < 999999937) : spI l e t (tuI l e t v) = v := by
  unfold spI tuI stA
  rw [Int.add_emod_emod, show atI2 l e t + (unI v - atI2 l e t) = unI v by omega, Int.emod_eq_of_lt (unI_lo v) (unI_hi v), st_un v0 v1]
theorem tu_sp (l e t n : Int) : tuI l e t (spI l e t n) = n % 999999937 := by
  unfold tuI spI stA
  rw [un_st (Int.emod_nonneg _ (by decide)) (Int.emod_lt_of_pos _ (by decide))]
  omega
theorem draw_less {s a b : Int} (hb : 0 < b) : s * (a * b) / 999999937 / b = s * a / 999999937 := by
  rw [Int.ediv_ediv_of_nonneg (by decide), ← Int.mul_assoc]
  exact Int.mul_ediv_mul_of_pos_left _ _ hb
def drI (k : Nat) : Int := spI 12345 0 0 (k : Int) * 6 / 999999937
def rollsI : List Int := (List.range 300).map drI
theorem rolls_in : ∀ k ∈ rollsI, 0 ≤ k ∧ k < ((6 : Nat) : Int) := by
  intro k hk
  have h : (rollsI.all fun k => decide (0 ≤ k) && decide (k < 6)) = true := by decide +kernel
  have := List.all_eq_true.mp h k hk
  rw [Bool.and_eq_true] at this
  exact ⟨of_decide_eq_true this.1, of_decide_eq_true this.2⟩
theorem rolls_sorted {ns : List Int} (hs : ns.Pairwise (· < ·)) (hm : ∀ k : Int, k ∈ ns ↔ decide (k ∈ rollsI) = true) : ns = [0, 1, 2, 3, 4, 5] := by
  have hp : ns.Perm [0, 1, 2, 3, 4, 5] := by
    refine (List.perm_ext_iff_of_nodup (hs.imp fun h => by omega) (by decide)).mpr fun k => ?_
    rw [hm, decide_eq_true_iff]
    constructor
    · intro h
      have := rolls_in k h
      have : k = 0 ∨ k = 1 ∨ k = 2 ∨ k = 3 ∨ k = 4 ∨ k = 5 := by omega
      simpa using this
    · intro h
      have h2 : (([0, 1, 2, 3, 4, 5] : List Int).all fun k => rollsI.contains k) = true := by decide +kernel
      have := List.all_eq_true.mp h2 k h
      simpa using this
  exact PySem.W.ksm_same hp (hs.imp fun h => Int.le_of_lt h) (by decide)

def sp_require_from (_ : PySem.W.Frag) : Sp := fun vs H Q _ => ∃ i a b, vs = [.int i, .int a, .int b] ∧ a ≤ i ∧ i ≤ b ∧ Q .non H
def sp_require_spot (_ : PySem.W.Frag) : Sp := fun vs H Q _ => ∃ l e t, vs = [.int l, .int e, .int t] ∧ 0 ≤ l ∧ l < 999999937 ∧ 0 ≤ e ∧ e < 10 ^ 60 ∧ 0 ≤ t ∧ t < 10 ^ 60 ∧ Q .non H
def sp_stirred_in (_ : PySem.W.Frag) : Sp := fun vs H Q _ => ∃ l, vs = [.int l] ∧ 0 ≤ l ∧ l < 999999937 ∧ Q (.int (stI l)) H
def sp_stirred_at (_ : PySem.W.Frag) : Sp := fun vs H Q _ => ∃ l e t, vs = [.int l, .int e, .int t] ∧ 0 ≤ l ∧ l < 999999937 ∧ ∀ H', Same H H' → Q (.int (atI2 l e t)) H'
def sp_spot_in (_ : PySem.W.Frag) : Sp := fun vs H Q _ => ∃ l e t n, vs = [.int l, .int e, .int t, .int n] ∧ 0 ≤ l ∧ l < 999999937 ∧ ∀ H', Same H H' → Q (.int (spI l e t n)) H'
def sp_unstirred_in (_ : PySem.W.Frag) : Sp := fun vs H Q _ => ∃ l, vs = [.int l] ∧ 0 ≤ l ∧ l < 999999937 ∧ Q (.int (unI l)) H
def sp_drawn_in (_ : PySem.W.Frag) : Sp := fun vs H Q _ => ∃ l e t n c, vs = [.int l, .int e, .int t, .int n, .int c] ∧ 0 ≤ l ∧ l < 999999937 ∧ 1 ≤ c ∧ c ≤ 1000 ∧ ∀ H', Same H H' → Q (.int (spI l e t n * c / 999999937)) H'
def sp_stirred (_ : PySem.W.Frag) : Sp := fun vs H Q _ => ∃ l, vs = [.int l] ∧ 0 ≤ l ∧ l < 999999937 ∧ Q (.int (stI l)) H
def sp_unstirred (_ : PySem.W.Frag) : Sp := fun vs H Q _ => ∃ l, vs = [.int l] ∧ 0 ≤ l ∧ l < 999999937 ∧ Q (.int (unI l)) H
def sp_spot_number (_ : PySem.W.Frag) : Sp := fun vs H Q _ => ∃ l e t n, vs = [.int l, .int e, .int t, .int n] ∧ 0 ≤ l ∧ l < 999999937 ∧ 0 ≤ e ∧ e < 10 ^ 60 ∧ 0 ≤ t ∧ t < 10 ^ 60 ∧ 0 ≤ n ∧ n < 10 ^ 60 ∧ ∀ H', Same H H' → Q (.int (spI l e t n)) H'
def sp_turn_of (_ : PySem.W.Frag) : Sp := fun vs H Q _ => ∃ l e t n, vs = [.int l, .int e, .int t, .int n] ∧ 0 ≤ l ∧ l < 999999937 ∧ 0 ≤ e ∧ e < 10 ^ 60 ∧ 0 ≤ t ∧ t < 10 ^ 60 ∧ 0 ≤ n ∧ n < 999999937 ∧ ∀ H', Same H H' → Q (.int (tuI l e t n)) H'
def sp_drawn (_ : PySem.W.Frag) : Sp := fun vs H Q _ => ∃ l e t n c, vs = [.int l, .int e, .int t, .int n, .int c] ∧ 0 ≤ l ∧ l < 999999937 ∧ 0 ≤ e ∧ e < 10 ^ 60 ∧ 0 ≤ t ∧ t < 10 ^ 60 ∧ 0 ≤ n ∧ n < 10 ^ 60 ∧ 1 ≤ c ∧ c ≤ 1000 ∧ ∀ H', Same H H' → Q (.int (spI l e t n * c / 999999937)) H'

def sp_l_lk_stirred (_ : PySem.W.Frag) : Sp := fun vs H Q _ => ∃ l, vs = [.int l] ∧ 0 ≤ l ∧ l < 999999937 ∧ Q (.int (stI l)) H
def sp_l_luck_drawn (_ : PySem.W.Frag) : Sp := fun vs H Q _ => ∃ d, vs = [.ref d] ∧ Dice d H ∧ ∀ r H', 0 ≤ r → r < 999999937 → Dice d H' → Ext d H H' → Q (.int r) H'
def sp_l_index_drawn (_ : PySem.W.Frag) : Sp := fun vs H Q _ => ∃ d, vs = [.ref d] ∧ Dice d H ∧ ∀ r H', 0 ≤ r → r < 5 * 10 ^ 59 → Dice d H' → Ext d H H' → Q (.int r) H'
def sp_l_spot (K : PySem.W.Frag) : Sp := fun vs H Q _ => ∃ (l : Int) (p : Addr) (e t n : Int), vs = [.int l, .ref p] ∧ SqT K H p [.int e, .int t, .int n] ∧ 0 ≤ l ∧ l < 999999937 ∧ Q (.int (spI l e t n)) H
def sp_l_stirred_right (_ : PySem.W.Frag) : Sp := fun vs H Q _ => ∃ l, vs = [.int l] ∧ 0 ≤ l ∧ l < 999999937 ∧ Q (.bl true) H
def sp_l_turn_right (K : PySem.W.Frag) : Sp := fun vs H Q _ => ∃ (l : Int) (p : Addr) (e t n g : Int), vs = [.int l, .ref p, .int g] ∧ SqT K H p [.int e, .int t, .int n] ∧ 0 ≤ l ∧ l < 999999937 ∧ 0 ≤ e ∧ e < 10 ^ 60 ∧ 0 ≤ t ∧ t < 10 ^ 60 ∧ 0 ≤ g ∧ g < 999999937 ∧ ∀ H', Same H H' → Q (.bl true) H'
def sp_l_draws_right (K : PySem.W.Frag) : Sp := fun vs H Q _ => ∃ (d : Addr) (l : Int) (p : Addr) (e t n : Int), vs = [.ref d, .int l, .ref p] ∧ Dice d H ∧ SqT K H p [.int e, .int t, .int n] ∧ p ≠ d ∧ 0 ≤ l ∧ l < 999999937 ∧ 0 ≤ e ∧ e < 10 ^ 60 ∧ 0 ≤ t ∧ t < 10 ^ 60 ∧ 0 ≤ n ∧ n < 10 ^ 60 ∧ ∀ H', Dice d H' → Ext d H H' → Q (.bl true) H'
def sp_l_right (_ : PySem.W.Frag) : Sp := fun vs H Q _ => ∃ d, vs = [.ref d] ∧ Dice d H ∧ ∀ H', Dice d H' → Ext d H H' → Q (.bl true) H'
def sp_law (K : PySem.W.Frag) : Sp := fun vs H Q _ => ∃ (a : Addr) (ns : List Int), vs = [.ref a] ∧ SqL K H a (ns.map V.int) ∧ ns.length ≤ 63 ∧ ∀ H', Q (.bl true) H'

/-! ### set(xs) of a list of ints -/
section
variable {P : Program} {w : World} {A : Around} {E : Value → Shared → Prop} {s : Shared}
/-- an empty set as it is made -/
abbrev so (w : World) : Obj := { cls := .type "set", dict := none, data := .set #[] 0 (.fresh 0 0 (!w.params.followText "set-order")) }
/-- the loop that fills it, over a list -/
theorem fill_list {l : Addr} {items : Array Value} {ns : List Int} {A : Around} {s0 : Shared} {R : Result → Shared → Prop} (hh : A.handled = none)
    (hl : s0.heap.IsList l items) (hit : IntsAre items.toList ns) (hb : ns.length + 1 < scanBound)
    (hR : ∀ (h' : Heap) (tk c : Nat), SetR w h' s0.heap.objs.size (fun j => decide (j ∈ ns)) c → c ≤ ns.length → (∀ b o, s0.heap.get? b = some o → h'.get? b = some o) → R (.ok (.ret .none)) { s0 with heap := h', toks := tk }) :
    codeAny (model P w) A (.builtin "set.update.loop" ⟨[.ref s0.heap.objs.size, .ref (s0.heap.objs.size + 1)], []⟩) R
      { s0 with heap := (s0.heap.push (so w)).push { cls := .type "list_iterator", data := .fields #[.ref l, .int 0 0] } } := by
  have n0 : items.size = ns.length := by have q := IntsAre.length hit; rwa [Array.length_toList] at q
  have ll : l < s0.heap.objs.size := let ⟨_, e, _⟩ := hl; Heap.lt_size e
  have z1 : (s0.heap.push (so w)).objs.size = s0.heap.objs.size + 1 := Heap.size_push ..
  have l1 : (s0.heap.push (so w)).IsList l items := hl.push _
  have ne : l ≠ (s0.heap.push (so w)).objs.size := by rw [z1]; exact Nat.ne_of_lt (Nat.lt_succ_of_lt ll)
  have i1 : A.in1.handled = none := by simp [hh]
  have iv : ∀ (i : Nat) (v : Value), items[i]? = some v → ∃ k t, ns[i]? = some k ∧ v = .int k t := fun i v hv => by
    have hi : i < ns.length := n0 ▸ (Array.getElem?_eq_some_iff.mp hv).1
    obtain ⟨t, e⟩ := PyProof.Rows.IntsAre.int_at hit i v (by rw [Array.getElem?_toList, hv])
    have g := List.getElem?_eq_getElem hi
    exact ⟨ns[i], t, g, by rw [e, List.getD_eq_getElem?_getD, g]; rfl⟩
  have sf : s0.heap.objs.size ∉ [(s0.heap.push (so w)).objs.size, l] := fun m => by
    rw [z1] at m
    rcases List.mem_cons.mp m with e | m
    · exact absurd e (Nat.ne_of_lt (Nat.lt_succ_self _))
    · exact absurd (List.mem_singleton.mp m) (Nat.ne_of_gt ll)
  rw [← z1]
  refine set_update_ints (Walks.list i1 _ l ne items).toS s0.heap.objs.size sf ns n0 hb iv _ 0 _ rfl (Nat.zero_le _)
    ⟨⟨_, Heap.get?_push_size _ rfl, rfl, rfl⟩, l1.push _⟩ ⟨0, Nat.le_refl 0, setR_new_at (Heap.get?_push_of_some _ (Heap.get?_push_size _ rfl))⟩ fun s' c mv hc hS => ?_
  obtain ⟨h', g', d', tk, o'⟩ := s'
  obtain rfl : g' = s0.gens := mv.gens
  obtain rfl : d' = s0.drawn := mv.drawn
  obtain rfl : o' = s0.os := mv.os
  refine hR h' tk c hS (n0 ▸ hc) fun b o e => ?_
  have lb := Heap.lt_size e
  refine mv.heap b o (fun m => ?_) (Heap.get?_push_of_some _ (Heap.get?_push_of_some _ e))
  rcases List.mem_cons.mp m with q | m
  · exact absurd q (Nat.ne_of_lt lb)
  · exact absurd (List.mem_singleton.mp m) (by rw [z1]; exact Nat.ne_of_lt (Nat.lt_succ_of_lt lb))
set_option maxHeartbeats 16000000 in
theorem set_of_list {l : Addr} {items : Array Value} {ns : List Int} {Q : Value → Shared → Prop} (hh : A.handled = none) (hl : s.heap.IsList l items) (hit : IntsAre items.toList ns) (hb : ns.length + 1 < scanBound)
    (hQ : ∀ (h' : Heap) (tk c : Nat), SetR w h' s.heap.objs.size (fun j => decide (j ∈ ns)) c → c ≤ ns.length → (∀ b o, s.heap.get? b = some o → h'.get? b = some o) → Q (.ref s.heap.objs.size) { s with heap := h', toks := tk }) :
    wpAny (model P w) A (call (.type "set") [.ref l]) Q E s := by
  obtain ⟨c1, t1, mro⟩ := F.called_set.mro
  have q1 := F.called_set.made
  have q2 := F.called_set.sub
  refine wpAny_call (codeAny_of_tree (show wpAny _ _ (callAny (.type "set") _) _ _ _ from wpAny_pure ⟨Code.quiet_builtin _ (by decide +kernel), codeAny_builtin F.entry_type_call ?_⟩))
  rw [Around.under_plain (weight_type_call_type "set" [.ref l] []) rfl]
  have q3 := F.called_set.notType
  have q4 := F.called_set.canCreate
  have q5 := F.typeCall_set_1 (.ref l)
  repeat (any_goals (first | assumption | wp_step))
  have key := code_set_led1 (P := P) (A := A.in1) (s := s) (w := w) (.ref l) (E := E) (Q₁ := fun obj s₁ => obj = .ref s.heap.objs.size ∧ s₁ = { s with heap := s.heap.push (so w) }) ⟨rfl, rfl⟩
  refine codeAny_mono key fun r s1 hr => ?_
  rcases r with e | fl
  · exact hr
  rcases fl with _ | _ | _ | obj <;> try exact hr.elim
  obtain ⟨rfl, rfl⟩ := hr
  have at1 : (s.heap.push (so w)).get? s.heap.objs.size = some (so w) := Heap.get?_push_size _ rfl
  have ty1 : Shared.TypeIs { s with heap := s.heap.push (so w) } (.ref s.heap.objs.size) "set" := ⟨_, at1, rfl⟩
  have r1 := F.called_set.init.lookup
  have r2 := F.called_set.init.bind (.ref s.heap.objs.size)
  repeat (any_goals (first | assumption | wp_step))
  refine codeAny_mono (codeAny_call_builtin (R := wants (fun r s₂ => r = .none ∧ ∃ h' tk c, s₂ = { s with heap := h', toks := tk } ∧ SetR w h' s.heap.objs.size (fun j => decide (j ∈ ns)) c ∧ c ≤ ns.length ∧ ∀ b o, s.heap.get? b = some o → h'.get? b = some o) E)
    F.called_set.init.plain F.entry_set_init (check_set_init_1 ty1 ?_)) fun r s2 hr => ?_
  · have hl' := hl
    obtain ⟨⟨cl, di, da, sl⟩, ho, hc, n1, hd⟩ := hl
    simp only at hc hd
    subst hc hd
    have ho2 : (s.heap.push (so w)).get? l = some ⟨.type "list", di, .seq items n1, sl⟩ := Heap.get?_push_of_some _ ho
    have t2 := F.sub_list_set
    have t3 := F.sub_list_frozenset
    have t4 : (Value.type "list" == Value.type "dict") = false := by decide
    unfold Builtin.«set.__init__» noKeywords Builtin.Frozenset.updateFrom
    generalize epi : pyIter = pi
    wp_walk
    subst epi
    refine wpAny_pyIter_list (hl'.push (so w)) (wpAny_bind (wpAny_runValue ?_))
    have z1 : (s.heap.push (so w)).objs.size = s.heap.objs.size + 1 := Heap.size_push ..
    rw [z1]
    refine fill_list (by simp [hh]) hl' hit hb fun h' tk c a1 a2 a3 => ?_
    show wpAny _ _ _ _ _ _
    refine wpAny_pure (show wpAny _ _ (ret Value.none) _ _ _ from ?_)
    exact wpAny_pure ⟨rfl, h', tk, c, rfl, a1, a2, a3⟩
  · rcases r with e | fl
    · exact hr
    rcases fl with _ | _ | _ | obj <;> try exact hr.elim
    obtain ⟨rfl, h', tk, c, rfl, a1, a2, a3⟩ := hr
    repeat (any_goals (first | assumption | wp_step))
    exact hQ h' tk c a1 a2 a3
theorem setR_card {h : Heap} {a : Addr} {ns : List Int} {c : Nat} (R : SetR w h a (fun j => decide (j ∈ ns)) c) (N : Nat) (hN : ∀ k ∈ ns, 0 ≤ k ∧ k < (N : Int)) : c ≤ N := by
  obtain ⟨o, es, ep, t, _, _, _, _, nd, mem, _, _, hc, _⟩ := R
  have nd2 : ((es.toList.map keyOf).map Int.toNat).Nodup := by
    rw [List.nodup_iff_pairwise_ne, List.pairwise_map]
    rw [List.nodup_iff_pairwise_ne] at nd
    refine nd.imp_of_mem fun {x y} hx hy hxy z => hxy ?_
    have a1 := hN x (of_decide_eq_true ((mem x).mpr hx))
    have a2 := hN y (of_decide_eq_true ((mem y).mpr hy))
    omega
  have le := nodup_le N _ nd2 fun x hx => by
    obtain ⟨k, hk, rfl⟩ := List.mem_map.mp hx
    have a1 := hN k (of_decide_eq_true ((mem k).mpr hk))
    omega
  rw [List.length_map, List.length_map, Array.length_toList, hc] at le
  exact le
end
section
variable {X : Cx}
def rSetList (K : PySem.W.Frag) (w : World) : List V → Hp → VK → Prop := fun xs H Q => ∃ (l : Addr) (ns : List Int), xs = [.ref l] ∧ SqL K H l (ns.map V.int) ∧ ns.length ≤ 1000 ∧
  ∀ p c, H p = none → (∀ N : Nat, (∀ k ∈ ns, 0 ≤ k ∧ k < (N : Int)) → c ≤ N) → Q (.ref p) (upd H p (SetO w p (fun j => decide (j ∈ ns)) c))
theorem cr_setList (hc : X.calm = true) : CallR X (.type "set") (rSetList X.K X.w) := by
  intro pins s σ H xs us Q I r h
  obtain ⟨l, ns, rfl, hs, hl, q⟩ := h
  obtain ⟨its, rv, pl, _⟩ := I.list hs
  rw [Vals.ref1 r]
  refine set_of_list (I.ok.hd hc) pl.isList rv.ints (Nat.lt_of_le_of_lt (Nat.add_le_add_right hl 1) (by decide)) fun h' tk c R hc' k => ?_
  exact ⟨.ref s.heap.objs.size, upd H s.heap.objs.size (SetO X.w s.heap.objs.size (fun j => decide (j ∈ ns)) c), I.laid (t' := tk) k (Nat.le_refl _) (setO_new R), rfl, q _ c (I.hok.fresh (Nat.le_refl _)) (setR_card R)⟩
end

section
variable {P : Program} {w : World} {K : PySem.W.Frag} {mg : Str → Option Value} {base : Heap}
/-! ### short tactics -/
local macro_rules | `(tactic| walk_at "side") => `(tactic| first
  | with_reducible assumption | (exact ⟨by omega, by omega⟩) | exact True.intro | rfl | exact Nat.le_of_ble_eq_true rfl | with_reducible exact Int.natCast_nonneg _ | decide | omega
  | (exact Or.inl ⟨by omega, by omega⟩) | (exact Or.inr ⟨by omega, by omega⟩)
  | (exact ⟨by omega, by omega, by omega⟩) | (exact ⟨by decide, by decide, by decide⟩)
  | (exact wide_div (b := 250) (by omega) (by omega) (by decide) (by decide))
  | (exact wide_mul (a := 250) (b := 250) (by omega) (by omega) (by decide) (by decide) (by decide))
  | decide +kernel | (dsimp only; decide +kernel)
  | (exact wide_mul (a := 250) (b := 250) (by decide +kernel) (by decide +kernel) (by decide) (by decide) (by decide)))
local macro_rules | `(tactic| walk_at "idx") => `(tactic| first
  | assumption | exact atI_nat (j := 0) rfl | exact atI_nat (j := 1) rfl | exact atI_nat (j := 2) rfl | exact atI_nat (j := 3) rfl | exact atI_nat (j := 4) rfl | exact atI_nat (j := 5) rfl)
local macro_rules | `(tactic| walk_at "sq") => `(tactic| first
  | assumption | exact SqL.of upd_same | exact SqT.of upd_same | exact SqL.of (by assumption) | exact SqT.of (by assumption)
  | exact SqT.of (same_new (by assumption) _ _ upd_same) | exact SqL.of (same_new (by assumption) _ _ upd_same)
  | exact SqT.of (same_new (by assumption) _ _ (by assumption)) | exact SqL.of (same_new (by assumption) _ _ (by assumption))
  | exact SqT.of (same_new (by assumption) _ _ (same_new (by assumption) _ _ upd_same)) | exact SqL.of (same_new (by assumption) _ _ (same_new (by assumption) _ _ upd_same)))
local macro_rules | `(tactic| walk_at "dp") => `(tactic| first
  | exact .non | exact .bl _ | exact .int _ | exact .str _
  | (refine .tup (by walk_at "sq") ?_; walk_at "dps") | (refine .lst (by walk_at "sq") ?_; walk_at "dps"))
local macro_rules | `(tactic| walk_at "dps") => `(tactic| first
  | exact .nil | (refine .cons (by walk_at "dp") ?_; walk_at "dps"))
local macro_rules | `(tactic| walk_at "go") => `(tactic| repeat first
  | (show @ite _ _ _ _ _; with_reducible (first | refine iteT ?_ | refine iteF ?_ | refine iteNT ?_ | refine iteNF ?_))
  | ((fail_if_success (show @ite _ _ _ _ _)); first
    | refine And.intro (by walk_at "side") ?_
    | refine ⟨_, rfl, ?_⟩
    | refine ⟨_, _, rfl, rfl, ?_⟩
    | refine ⟨_, _, rfl, .inl (by walk_at "sq"), ?_⟩
    | refine ⟨_, _, rfl, .inr (by walk_at "sq"), ?_⟩
    | refine ⟨_, _, rfl, ?_⟩
    | refine ⟨_, _, _, rfl, ?_⟩
    | refine ⟨_, _, _, _, rfl, ?_⟩
    | refine ⟨_, _, _, _, _, rfl, ?_⟩
    | refine ⟨_, _, _, _, rfl, rfl, (by walk_at "sq"), (by walk_at "idx"), ?_⟩
    | refine ⟨_, _, _, _, _, rfl, .ty _, (by assumption), kit_ty (by assumption), ?_⟩
    | refine .inl ⟨_, rfl, ?_⟩
    | refine .inr ⟨_, rfl, ?_⟩))
local macro_rules | `(tactic| walk_at "unp2") => `(tactic| refine ⟨_, _, rfl, (by walk_at "sq"), rfl, _, _, rfl, _, _, rfl, rfl, ?_⟩)
local macro_rules | `(tactic| walk_at "unp3") => `(tactic| refine ⟨_, _, rfl, (by walk_at "sq"), rfl, _, _, rfl, _, _, rfl, _, _, rfl, rfl, ?_⟩)
local macro_rules | `(tactic| walk_at "pick") => `(tactic| refine ⟨_, _, _, rfl, SqL.of upd_same, Dice.ne (by assumption) (by assumption), Nat.zero_lt_succ _, Nat.le_of_ble_eq_true rfl, Dice.new (by assumption) (by assumption), ?_⟩)

theorem ok_l_roll (T : Tp K mg) : FnOk P w K mg base CX0 1 T.a_l_roll T.d_l_roll ["_law_dice_here", "_law_total"] (sp_l_roll K) := by
  refine T.F_l_roll.ok sc_l_roll ?len (fun cdv A outer s H vs Q E hr h => ?_)
  case len =>
    intro vs H Q E h
    obtain ⟨d, n, rfl, _⟩ := h
    rfl
  obtain ⟨d, n, rfl, h0, hn, ⟨x, y, z, hd⟩, q⟩ := h
  have hw : CDivW x n := wide_div (b := 250) h0 (by omega) (by decide) (by decide)
  refine ⟨_, (pss_cons (ps_if (pt_cmpR op_gt (pe_ix ix_list (pv 0) pe_int (fun _ _ => rfl)) pe_int (nomark _)) (pss_cons (ps_set (i := 4) sc_l_roll.nd rfl (Or.inl rfl) (pe_op op_mod (pe_callTy call_int1 (by rfl) T.m_int (by decide +kernel) (pa_cons (pe_ix ix_list (pv 0) pe_int (fun _ _ => rfl)) pa_nil)) (pv 1)))
      (pss_cons (ps_asg (pe_op op_fdivW (pe_ix ix_list (pv 0) pe_int (fun _ _ => rfl)) (pv 1)) (pg_sub (pv 0) pe_int set_list))
      (pss_one (ps_ret (pv 4))))) pss_nil)
    (pss_cons (ps_asg (pe_op op_add (pe_ix ix_list (pv 0) pe_int (fun _ _ => rfl)) pe_int) (pg_sub (pv 0) pe_int set_list))
    (pss_cons (ps_set (i := 2) sc_l_roll.nd rfl (Or.inl rfl) (pe_op op_mod (pe_callTy call_int1 (by rfl) T.m_int (by decide +kernel) (pa_cons (pe_op op_add (pe_ix ix_list (pv 0) pe_int (fun _ _ => rfl)) (pe_op op_mul pe_int (pe_ix ix_list (pv 0) pe_int (fun _ _ => rfl)))) pa_nil)) pe_int))
    (pss_cons (ps_set (i := 3) sc_l_roll.nd rfl (Or.inl rfl) (pe_op op_add (pe_op op_mul (pe_op op_mod (pe_callTy call_int1 (by rfl) T.m_int (by decide +kernel) (pa_cons (pe_op op_add (pe_op op_mul (pv 2) (pv 2)) (pe_op op_mul pe_int (pe_ix ix_list (pv 0) pe_int (fun _ _ => rfl)))) pa_nil)) pe_int) pe_int) (pv 2)))
    (pss_one (ps_ret (pe_op op_mod (pe_callTy call_int1 (by rfl) T.m_int (by decide +kernel) (pa_cons (pe_op op_fdivW (pv 3) pe_int) pa_nil)) (pv 1)))))))), ?_⟩
  walk_at "go"
  refine ite2 (fun e => ?_) (fun e => ?_)
  · walk_at "go"
    refine ⟨_, _, _, 0, rfl, rfl, hd, rfl, ?_⟩
    walk_at "go"
    exact q _ _ (Int.emod_nonneg _ (by omega)) (Int.emod_lt_of_pos _ h0) ⟨_, _, _, upd_same⟩ Ext.put
  · walk_at "go"
    refine ⟨_, _, _, 2, rfl, rfl, hd, rfl, ?_⟩
    have hd2 : upd H d (.lst [V.int x, V.int y, V.int (z + 1)]) d = some (.lst [V.int x, V.int y, V.int (z + 1)]) := upd_same
    walk_at "go"
    exact q _ _ (Int.emod_nonneg _ (by omega)) (Int.emod_lt_of_pos _ h0) ⟨_, _, _, upd_same⟩ Ext.put
theorem ok_l_pick (T : Tp K mg) : FnOk P w K mg base CX0 2 T.a_l_pick T.d_l_pick ["_law_dice_here", "_law_items"] (sp_l_pick K) := by
  refine T.F_l_pick.ok sc_l_pick ?len (fun cdv A outer s H vs Q E hr h => ?_)
  case len =>
    intro vs H Q E h
    obtain ⟨d, a, xs, rfl, _⟩ := h
    rfl
  obtain ⟨d, a, xs, rfl, hx, hne, h0, h1, D0, q⟩ := h
  refine ⟨_, (pss_one (ps_ret (pe_ix ix_list (pv 1) (pe_call (ok_l_roll T) (hr.mono (by decide)) (by rfl) T.g_l_roll T.F_l_roll.kp T.b_l_roll .nil pass0 (pa_cons (pv 0) (pa_cons (pe_callB call_len_seq (by rfl) T.m_len (by decide +kernel) (pa_cons (pv 1) pa_nil)) pa_nil))) (fun _ _ => rfl)))), ?_⟩
  walk_at "go"
  refine fun r H1 r0 r1 D1 X1 => ?_
  have hx1 : SqL K H1 a xs := X1.sql hne hx
  have hr : r.toNat < xs.length := by omega
  have hi : atI xs r = some xs[r.toNat] := at_of (j := r.toNat) (by omega) (List.getElem?_eq_getElem hr)
  walk_at "go"
  exact q _ _ (List.getElem_mem hr) D1 X1
theorem ok_l_dice (T : Tp K mg) : FnOk P w K mg base CX0 1 T.a_l_dice T.d_l_dice ["_law_script", "_law_spot_here"] (sp_l_dice K) := by
  refine T.F_l_dice.ok sc_l_dice ?len (fun cdv A outer s H vs Q E hr h => ?_)
  case len =>
    intro vs H Q E h
    obtain ⟨a, ns, k, rfl, _⟩ := h
    rfl
  obtain ⟨a, ns, k, rfl, hS, k0, k1, q⟩ := h
  refine ⟨_, (pss_cons (ps_set (i := 2) sc_l_dice.nd rfl (Or.inl rfl) (pe_ifExp (pt_cmpR op_lt (pv 1) (pe_callB call_len_seq (by rfl) T.m_len (by decide +kernel) (pa_cons (pv 0) pa_nil)) (nomark _)) (pe_callTy call_int1 (by rfl) T.m_int (by decide +kernel) (pa_cons (pe_ix ix_list (pv 0) (pv 1) (fun _ _ => rfl)) pa_nil)) (pe_op op_add (pe_op op_mul pe_int (pv 1)) pe_int)))
    (pss_cons (ps_set (i := 3) sc_l_dice.nd rfl (Or.inl rfl) (pe_op op_mod (pe_callB (call_max2 rfl) (by rfl) T.m_max (by decide +kernel) (pa_cons pe_int (pa_cons (pe_op op_sub (pe_callB call_abs (by rfl) T.m_abs (by decide +kernel) (pa_cons (pv 2) pa_nil)) (pe_op op_pow pe_int pe_int)) pa_nil))) (pe_op op_mulW (pe_op op_pow pe_int pe_int) (pe_op op_pow pe_int pe_int))))
    (pss_one (ps_ret (pe_lst (pa_cons (pv 3) (pa_cons (pe_op op_add (pe_op op_add (pe_op op_add (pe_op op_mul (pe_op op_mod (pe_callB call_abs (by rfl) T.m_abs (by decide +kernel) (pa_cons (pv 2) pa_nil)) pe_int) pe_int) (pe_op op_mul pe_int (pv 1))) (pe_op op_mul pe_int (pe_callTy call_int1 (by rfl) T.m_int (by decide +kernel) (pa_cons (pe_cmpR op_lt (pv 2) pe_int (nomark _)) pa_nil)))) pe_int) (pa_cons pe_int pa_nil)))))))), ?_⟩
  walk_at "go"
  refine ite2 (fun e => ?_) (fun e => ?_)
  · have hk : k.toNat < ns.length := by
      have := of_decide_eq_true e
      rw [List.length_map] at this
      omega
    have hi : atI (ns.map V.int) k = some (.int ns[k.toNat]) := at_of (j := k.toNat) (by omega) (by rw [List.getElem?_map, List.getElem?_eq_getElem hk]; rfl)
    walk_at "go"
    refine fun p np => ?_
    exact q p _ np ⟨_, _, _, upd_same⟩ (same_new np)
  · walk_at "go"
    refine fun p np => ?_
    exact q p _ np ⟨_, _, _, upd_same⟩ (same_new np)

theorem ok_is_whole (T : Tp K mg) : FnOk P w K mg base CX0 1 T.a_is_whole T.d_is_whole ["value"] (sp_is_whole K) := by
  refine T.F_is_whole.ok sc_is_whole ?len (fun cdv A outer s H vs Q E hr h => ?_)
  case len =>
    intro vs H Q E h
    obtain ⟨x, rfl, _⟩ := h
    rfl
  obtain ⟨x, rfl, j, q⟩ := h
  obtain ⟨n, t, hi, hb, hs⟩ := j.ty
  refine ⟨_, (pss_one (ps_ret (pe_and (pe_callB call_isi (by rfl) T.m_isinstance (by decide +kernel) (pa_cons (pv 0) (pa_cons (pe_bltn (v := .ty "int") (by rfl) T.m_int (by decide +kernel) rfl) pa_nil))) (pe_one (pe_not (pe_callB call_isi (by rfl) T.m_isinstance (by decide +kernel) (pa_cons (pv 0) (pa_cons (pe_bltn (v := .ty "bool") (by rfl) T.m_bool (by decide +kernel) rfl) pa_nil)))))))), ?_⟩
  walk_at "go"
  cases x <;> first
    | (refine iteF ?_; exact q)
    | (refine iteT ?_; walk_at "go"; exact q)
theorem ok_is_short (T : Tp K mg) : FnOk P w K mg base CX0 2 T.a_is_short T.d_is_short ["value"] (sp_is_short K) := by
  refine T.F_is_short.ok sc_is_short ?len (fun cdv A outer s H vs Q E hr h => ?_)
  case len =>
    intro vs H Q E h
    obtain ⟨x, rfl, _⟩ := h
    rfl
  obtain ⟨x, rfl, j, q⟩ := h
  refine ⟨_, (pss_one (ps_ret (pe_and (pe_call (ok_is_whole T) (hr.mono (by decide)) (by rfl) T.g_is_whole T.F_is_whole.kp T.b_is_whole .nil pass0 (pa_cons (pv 0) pa_nil)) (pe_one (pe_chain op_lt op_lt (pe_un un_neg (pe_glob (by rfl) T.c_GREATEST T.r_GREATEST)) (pv 0) (pe_glob (by rfl) T.c_GREATEST T.r_GREATEST)))))), ?_⟩
  walk_at "go"
  cases x with
  | int i =>
    walk_at "go"
    refine ite2 (fun e => ?_) (fun e => ?_)
    · walk_at "go"
      exact and_t (F := fun c => Q (.bl c) H) q e
    · exact and_f (F := fun c => Q (.bl c) H) q e
  | _ => refine iteF ?_; exact q
theorem ok_is_from (T : Tp K mg) : FnOk P w K mg base CX0 2 T.a_is_from T.d_is_from ["value", "least", "most"] (sp_is_from K) := by
  refine T.F_is_from.ok sc_is_from ?len (fun cdv A outer s H vs Q E hr h => ?_)
  case len =>
    intro vs H Q E h
    obtain ⟨x, a, b, rfl, _⟩ := h
    rfl
  obtain ⟨x, a, b, rfl, j, q⟩ := h
  refine ⟨_, (pss_one (ps_ret (pe_and (pe_call (ok_is_whole T) (hr.mono (by decide)) (by rfl) T.g_is_whole T.F_is_whole.kp T.b_is_whole .nil pass0 (pa_cons (pv 0) pa_nil)) (pe_one (pe_chain op_le op_le (pv 1) (pv 0) (pv 2)))))), ?_⟩
  walk_at "go"
  cases x with
  | int i =>
    walk_at "go"
    refine ite2 (fun e => ?_) (fun e => ?_)
    · walk_at "go"
      exact and_t (F := fun c => Q (.bl c) H) q e
    · exact and_f (F := fun c => Q (.bl c) H) q e
  | _ => refine iteF ?_; exact q

theorem ok_is_tick (T : Tp K mg) : FnOk P w K mg base CX0 3 T.a_is_tick T.d_is_tick ["value"] (sp_is_tick K) := by
  refine T.F_is_tick.ok sc_is_tick ?len (fun cdv A outer s H vs Q E hr h => ?_)
  case len => intro vs H Q E h; obtain ⟨x, rfl, _⟩ := h; rfl
  obtain ⟨x, rfl, j, q⟩ := h
  refine ⟨_, (pss_one (ps_ret (pe_and (pe_call (ok_is_short T) (hr.mono (by decide)) (by rfl) T.g_is_short T.F_is_short.kp T.b_is_short .nil pass0 (pa_cons (pv 0) pa_nil)) (pe_one (pe_cmpR op_ge (pv 0) pe_int (nomark _)))))), ?_⟩
  walk_at "go"
  cases x with
  | int i =>
    refine ite2 (fun e => ?_) (fun e => ?_)
    · walk_at "go"
      exact and_t (F := fun c => Q (.bl c) H) q e
    · exact and_f (F := fun c => Q (.bl c) H) q e
  | _ => refine iteF ?_; exact q
theorem ok_require_tick (T : Tp K mg) : FnOk P w K mg base CX0 4 T.a_require_tick T.d_require_tick ["value"] (sp_require_tick K) := by
  refine T.F_require_tick.ok sc_require_tick ?len (fun cdv A outer s H vs Q E hr h => ?_)
  case len => intro vs H Q E h; obtain ⟨x, rfl, _⟩ := h; rfl
  obtain ⟨i, rfl, h1, h2, q⟩ := h
  have j : Jd K H (.int i) := .int i
  have e : tickB (.int i) = true := by
    show ((decide _ && decide _) && decide _) = true
    rw [decide_eq_true h1, decide_eq_true h2, decide_eq_true (show -(10 ^ 60) < i by omega)]; rfl
  refine ⟨_, (pss_one (ps_if (pt_not (pt_val (pe_call (ok_is_tick T) (hr.mono (by decide)) (by rfl) T.g_is_tick T.F_is_tick.kp T.b_is_tick .nil pass0 (pa_cons (pv 0) pa_nil)))) (pss_one ps_never) pss_nil)), ?_⟩
  walk_at "go"
  rw [e]
  walk_at "go"
  exact q
theorem ok_is_luck_in (T : Tp K mg) : FnOk P w K mg base CX0 3 T.a_is_luck_in T.d_is_luck_in ["value"] (sp_is_luck_in K) := by
  refine T.F_is_luck_in.ok sc_is_luck_in ?len (fun cdv A outer s H vs Q E hr h => ?_)
  case len => intro vs H Q E h; obtain ⟨x, rfl, _⟩ := h; rfl
  obtain ⟨x, rfl, j, q⟩ := h
  refine ⟨_, (pss_one (ps_ret (pe_call (ok_is_from T) (hr.mono (by decide)) (by rfl) T.g_is_from T.F_is_from.kp T.b_is_from .nil pass0 (pa_cons (pv 0) (pa_cons pe_int (pa_cons (pe_op op_sub (pe_glob (by rfl) T.c_MODULUS T.r_MODULUS) pe_int) pa_nil)))))), ?_⟩
  walk_at "go"
  exact q
theorem ok_require_luck (T : Tp K mg) : FnOk P w K mg base CX0 4 T.a_require_luck T.d_require_luck ["value"] (sp_require_luck K) := by
  refine T.F_require_luck.ok sc_require_luck ?len (fun cdv A outer s H vs Q E hr h => ?_)
  case len => intro vs H Q E h; obtain ⟨x, rfl, _⟩ := h; rfl
  obtain ⟨i, rfl, h1, h2, q⟩ := h
  have j : Jd K H (.int i) := .int i
  have e : fromB (.int i) 0 999999936 = true := by
    show (decide _ && decide _) = true
    rw [decide_eq_true h1, decide_eq_true (show i ≤ 999999936 by omega)]; rfl
  refine ⟨_, (pss_one (ps_if (pt_not (pt_val (pe_call (ok_is_luck_in T) (hr.mono (by decide)) (by rfl) T.g_is_luck_in T.F_is_luck_in.kp T.b_is_luck_in .nil pass0 (pa_cons (pv 0) pa_nil)))) (pss_one ps_never) pss_nil)), ?_⟩
  walk_at "go"
  rw [e]
  walk_at "go"
  exact q
theorem ok_power (T : Tp K mg) : FnOk P w K mg base CX0 1 T.a_power T.d_power ["base", "many"] (sp_power K) := by
  refine T.F_power.ok sc_power ?len (fun cdv A outer s H vs Q E hr h => ?_)
  case len => intro vs H Q E h; obtain ⟨b, n, rfl, _⟩ := h; rfl
  obtain ⟨b, n, rfl, hb, hn, q⟩ := h
  refine ⟨_, (pss_cons (ps_set (i := 2) sc_power.nd rfl (Or.inl rfl) pe_int)
    (pss_cons (ps_while PassesOwn.never (pt_cmpR op_gt (pv 1) pe_int (nomark _)) (pss_cons (ps_if (pt_cmpR op_eq (pe_op op_mod (pv 1) pe_int) pe_int (nomark _)) (pss_one (ps_set (i := 2) sc_power.nd rfl (Or.inl rfl) (pe_op op_mod (pe_op op_mul (pv 2) (pv 0)) (pe_glob (by rfl) T.c_MODULUS T.r_MODULUS)))) pss_nil)
      (pss_one (ps_par (i := 0) (j := 1) (by rfl) sc_power.nd rfl rfl (by decide) rfl rfl (pa_cons (pe_op op_mod (pe_op op_mul (pv 0) (pv 0)) (pe_glob (by rfl) T.c_MODULUS T.r_MODULUS)) (pa_cons (pe_op op_fdivW (pv 1) pe_int) pa_nil)) (by rfl)))))
    (pss_one (ps_ret (pv 2))))), ?_⟩
  walk_at "go"
  refine ⟨fun m σ H' => ∃ f b' n', σ = [some (.int b'), some (.int n'), some (.int f)] ∧ H' = H ∧ 0 ≤ n' ∧ m = n'.toNat ∧ (-(2 ^ 64) < b' ∧ b' < 2 ^ 64) ∧ 0 ≤ f ∧ f < 999999937 ∧ f * b' ^ n'.toNat % 999999937 = pw b n.toNat, ⟨_, 1, b, n, rfl, rfl, hn, rfl, hb, by decide, by decide, ?_⟩, fun m σ H' hW => ?_⟩
  · rw [Int.one_mul]; unfold pw; rfl
  · obtain ⟨f, b', n', rfl, rfl, n0, rfl, hb', f0, f1, e0⟩ := hW
    walk_at "go"
    have tn : (if n'.toNat % 2 = 1 then f * b' % 999999937 else f) * (b' * b' % 999999937) ^ (n'.toNat / 2) % 999999937 = pw b n.toNat := by rw [pow_turn, e0]
    have hm0 : 0 ≤ f * b' % 999999937 := Int.emod_nonneg _ (by decide)
    have hm1 : f * b' % 999999937 < 999999937 := Int.emod_lt_of_pos _ (by decide)
    have hq0 : 0 ≤ b' * b' % 999999937 := Int.emod_nonneg _ (by decide)
    have hq1 : b' * b' % 999999937 < 999999937 := Int.emod_lt_of_pos _ (by decide)
    have en : (n' / 2).toNat = n'.toNat / 2 := by omega
    refine ite2 (fun e => ?_) (fun e => ?_)
    · have hp : 0 < n' := of_decide_eq_true e
      refine ⟨fun σ' H'' => ∃ m', m' < n'.toNat ∧ ∃ f b2 n2, σ' = [some (.int b2), some (.int n2), some (.int f)] ∧ H'' = H' ∧ 0 ≤ n2 ∧ m' = n2.toNat ∧ (-(2 ^ 64) < b2 ∧ b2 < 2 ^ 64) ∧ 0 ≤ f ∧ f < 999999937 ∧ f * b2 ^ n2.toNat % 999999937 = pw b n.toNat, fun σ' H'' h => h, ?_⟩
      walk_at "go"
      refine ite2 (fun e => ?_) (fun e => ?_)
      · walk_at "go"
        have e : n' % 2 = 1 := by simpa using e
        rw [if_pos (show n'.toNat % 2 = 1 by omega), ← en] at tn
        exact ⟨_, by omega, _, _, _, rfl, rfl, by omega, rfl, ⟨by omega, by omega⟩, hm0, hm1, tn⟩
      · walk_at "go"
        have e : ¬ n' % 2 = 1 := by simpa using e
        rw [if_neg (show ¬ n'.toNat % 2 = 1 by omega), ← en] at tn
        exact ⟨_, by omega, _, _, _, rfl, rfl, by omega, rfl, ⟨by omega, by omega⟩, f0, f1, tn⟩
    · have e : ¬ 0 < n' := fun z => e (decide_eq_true z)
      have e1 : n'.toNat = 0 := by omega
      rw [e1, Int.pow_zero, Int.mul_one, Int.emod_eq_of_lt f0 f1] at e0
      subst e0
      walk_at "go"
      exact q

theorem ok_require_from (T : Tp K mg) : FnOk P w K mg base CX0 3 T.a_require_from T.d_require_from ["value", "least", "most"] (sp_require_from K) := by
  refine T.F_require_from.ok sc_require_from ?len (fun cdv A outer s H vs Q E hr h => ?_)
  case len => intro vs H Q E h; obtain ⟨x, _, _, rfl, _⟩ := h; rfl
  obtain ⟨i, a, b, rfl, h1, h2, q⟩ := h
  have j : Jd K H (.int i) := .int i
  have e : fromB (.int i) a b = true := by
    show (decide _ && decide _) = true
    rw [decide_eq_true h1, decide_eq_true h2]; rfl
  refine ⟨_, (pss_one (ps_if (pt_not (pt_val (pe_call (ok_is_from T) (hr.mono (by decide)) (by rfl) T.g_is_from T.F_is_from.kp T.b_is_from .nil pass0 (pa_cons (pv 0) (pa_cons (pv 1) (pa_cons (pv 2) pa_nil)))))) (pss_one ps_never) pss_nil)), ?_⟩
  walk_at "go"
  rw [e]
  walk_at "go"
  exact q
theorem ok_require_spot (T : Tp K mg) : FnOk P w K mg base CX0 5 T.a_require_spot T.d_require_spot ["luck", "entry", "thing"] (sp_require_spot K) := by
  refine T.F_require_spot.ok sc_require_spot ?len (fun cdv A outer s H vs Q E hr h => ?_)
  case len => intro vs H Q E h; obtain ⟨x, _, _, rfl, _⟩ := h; rfl
  obtain ⟨l, e, t, rfl, l0, l1, e0, e1, t0, t1, q⟩ := h
  refine ⟨_, (pss_cons (ps_expr (pe_call (ok_require_luck T) (hr.mono (by decide)) (by rfl) T.g_require_luck T.F_require_luck.kp T.b_require_luck .nil pass0 (pa_cons (pv 0) pa_nil)))
    (pss_cons (ps_expr (pe_call (ok_require_tick T) (hr.mono (by decide)) (by rfl) T.g_require_tick T.F_require_tick.kp T.b_require_tick .nil pass0 (pa_cons (pv 1) pa_nil)))
    (pss_one (ps_expr (pe_call (ok_require_tick T) (hr.mono (by decide)) (by rfl) T.g_require_tick T.F_require_tick.kp T.b_require_tick .nil pass0 (pa_cons (pv 2) pa_nil)))))), ?_⟩
  walk_at "go"
  exact q
theorem ok_stirred_in (T : Tp K mg) : FnOk P w K mg base CX0 1 T.a_stirred_in T.d_stirred_in ["luck"] (sp_stirred_in K) := by
  refine T.F_stirred_in.ok sc_stirred_in ?len (fun cdv A outer s H vs Q E hr h => ?_)
  case len => intro vs H Q E h; obtain ⟨x, rfl, _⟩ := h; rfl
  obtain ⟨l, rfl, l0, l1, q⟩ := h
  refine ⟨_, (pss_one (ps_ret (pe_op op_mod (pe_op op_add (pe_op op_pow (pv 0) pe_int) (pe_glob (by rfl) T.c_SUMMAND T.r_SUMMAND)) (pe_glob (by rfl) T.c_MODULUS T.r_MODULUS)))), ?_⟩
  walk_at "go"
  exact q
theorem ok_stirred_at (T : Tp K mg) : FnOk P w K mg base CX0 2 T.a_stirred_at T.d_stirred_at ["luck", "entry", "thing"] (sp_stirred_at K) := by
  refine T.F_stirred_at.ok sc_stirred_at ?len (fun cdv A outer s H vs Q E hr h => ?_)
  case len => intro vs H Q E h; obtain ⟨x, _, _, rfl, _⟩ := h; rfl
  obtain ⟨l, e, t, rfl, l0, l1, q⟩ := h
  have a0 := stI_lo l
  have a1 := stI_hi l
  refine ⟨_, (pss_cons (ps_set (i := 3) sc_stirred_at.nd rfl (Or.inl rfl) (pe_call (ok_stirred_in T) (hr.mono (by decide)) (by rfl) T.g_stirred_in T.F_stirred_in.kp T.b_stirred_in .nil pass0 (pa_cons (pv 0) pa_nil)))
    (pss_cons (ps_for PassesOwn.never rfl (pi_tup (pe_tup (pa_cons (pv 1) (pa_cons (pv 2) pa_nil)))) (pg_name (i := 4) sc_stirred_at.nd rfl (Or.inl rfl)) (pss_one (ps_set (i := 3) sc_stirred_at.nd rfl (Or.inl rfl) (pe_call (ok_stirred_in T) (hr.mono (by decide)) (by rfl) T.g_stirred_in T.F_stirred_in.kp T.b_stirred_in .nil pass0 (pa_cons (pe_op op_mod (pe_op op_add (pv 3) (pv 4)) (pe_glob (by rfl) T.c_MODULUS T.r_MODULUS)) pa_nil)))))
    (pss_one (ps_ret (pv 3))))), ?_⟩
  walk_at "go"
  refine fun p np => ?_
  refine ⟨_, rfl, ⟨_, SqT.of upd_same⟩, for_tup (K := K) (xs := [.int e, .int t]) (fun i σ H' => Stp (∃ (f : Int) (y4 : Option V), σ = [some (.int l), some (.int e), some (.int t), some (.int f), y4] ∧ 0 ≤ f ∧ f < 999999937 ∧ f = (if i = 0 then stI l else if i = 1 then stA (stI l) e else atI2 l e t) ∧ Same H H' ∧ SqT K H' p [.int e, .int t])) (.of ⟨stI l, none, rfl, a0, a1, rfl, same_new np, SqT.of upd_same⟩) (fun i σ H' hi hW => ?_) (fun i x σ H' hx hW => ?_) (fun σ H' hW => ?_)⟩
  · obtain ⟨f, y4, rfl, f0, f1, ef, sm, hp⟩ := hW.get
    exact hp
  · obtain ⟨f, y4, rfl, f0, f1, ef, sm, hp⟩ := hW.get
    have hi : i = 0 ∨ i = 1 := by
      have : i < 2 := (List.getElem?_eq_some_iff.mp hx).1
      omega
    obtain ⟨n, rfl, en⟩ : ∃ n, x = V.int n ∧ n = (if i = 0 then e else t) := by
      rcases hi with rfl | rfl <;> exact ⟨_, (Option.some.inj hx).symm, rfl⟩
    have b0 : 0 ≤ (f + n) % 999999937 := Int.emod_nonneg _ (by decide)
    have b1 : (f + n) % 999999937 < 999999937 := Int.emod_lt_of_pos _ (by decide)
    walk_at "go"
    refine .of ⟨_, some (.int n), rfl, stI_lo _, stI_hi _, ?_, sm, hp⟩
    rcases hi with rfl | rfl
    · rw [ef, en]; rfl
    · rw [ef, en]; rfl
  · obtain ⟨f, y4, rfl, f0, f1, ef, sm, hp⟩ := hW.get
    walk_at "go"
    have := q H' sm
    rw [show f = atI2 l e t from ef]
    exact this
theorem ok_spot_in (T : Tp K mg) : FnOk P w K mg base CX0 3 T.a_spot_in T.d_spot_in ["luck", "entry", "thing", "turn"] (sp_spot_in K) := by
  refine T.F_spot_in.ok sc_spot_in ?len (fun cdv A outer s H vs Q E hr h => ?_)
  case len => intro vs H Q E h; obtain ⟨x, _, _, _, rfl, _⟩ := h; rfl
  obtain ⟨l, e, t, n, rfl, l0, l1, q⟩ := h
  refine ⟨_, (pss_one (ps_ret (pe_call (ok_stirred_in T) (hr.mono (by decide)) (by rfl) T.g_stirred_in T.F_stirred_in.kp T.b_stirred_in .nil pass0 (pa_cons (pe_op op_mod (pe_op op_add (pe_call (ok_stirred_at T) (hr.mono (by decide)) (by rfl) T.g_stirred_at T.F_stirred_at.kp T.b_stirred_at .nil pass0 (pa_cons (pv 0) (pa_cons (pv 1) (pa_cons (pv 2) pa_nil)))) (pv 3)) (pe_glob (by rfl) T.c_MODULUS T.r_MODULUS)) pa_nil)))), ?_⟩
  walk_at "go"
  refine fun H1 S1 => ?_
  walk_at "go"
  exact q _ S1
theorem ok_unstirred_in (T : Tp K mg) : FnOk P w K mg base CX0 2 T.a_unstirred_in T.d_unstirred_in ["luck"] (sp_unstirred_in K) := by
  refine T.F_unstirred_in.ok sc_unstirred_in ?len (fun cdv A outer s H vs Q E hr h => ?_)
  case len => intro vs H Q E h; obtain ⟨x, rfl, _⟩ := h; rfl
  obtain ⟨l, rfl, l0, l1, q⟩ := h
  refine ⟨_, (pss_one (ps_ret (pe_call (ok_power T) (hr.mono (by decide)) (by rfl) T.g_power T.F_power.kp T.b_power .nil pass0 (pa_cons (pe_op op_mod (pe_op op_sub (pv 0) (pe_glob (by rfl) T.c_SUMMAND T.r_SUMMAND)) (pe_glob (by rfl) T.c_MODULUS T.r_MODULUS)) (pa_cons (pe_glob (by rfl) T.c_ROOT_POWER T.r_ROOT_POWER) pa_nil))))), ?_⟩
  walk_at "go"
  exact q
theorem ok_drawn_in (T : Tp K mg) : FnOk P w K mg base CX0 4 T.a_drawn_in T.d_drawn_in ["luck", "entry", "thing", "turn", "sides"] (sp_drawn_in K) := by
  refine T.F_drawn_in.ok sc_drawn_in ?len (fun cdv A outer s H vs Q E hr h => ?_)
  case len => intro vs H Q E h; obtain ⟨x, _, _, _, _, rfl, _⟩ := h; rfl
  obtain ⟨l, e, t, n, c, rfl, l0, l1, c0, c1, q⟩ := h
  have a0 := spI_lo l e t n
  have a1 := spI_hi l e t n
  refine ⟨_, (pss_one (ps_ret (pe_op op_fdivW (pe_op op_mul (pe_call (ok_spot_in T) (hr.mono (by decide)) (by rfl) T.g_spot_in T.F_spot_in.kp T.b_spot_in .nil pass0 (pa_cons (pv 0) (pa_cons (pv 1) (pa_cons (pv 2) (pa_cons (pv 3) pa_nil))))) (pv 4)) (pe_glob (by rfl) T.c_MODULUS T.r_MODULUS)))), ?_⟩
  walk_at "go"
  refine fun H1 S1 => ?_
  walk_at "go"
  exact q _ S1
theorem ok_stirred (T : Tp K mg) : FnOk P w K mg base CX0 5 T.a_stirred T.d_stirred ["luck"] (sp_stirred K) := by
  refine T.F_stirred.ok sc_stirred ?len (fun cdv A outer s H vs Q E hr h => ?_)
  case len => intro vs H Q E h; obtain ⟨x, rfl, _⟩ := h; rfl
  obtain ⟨l, rfl, l0, l1, q⟩ := h
  refine ⟨_, (pss_cons (ps_expr (pe_call (ok_require_luck T) (hr.mono (by decide)) (by rfl) T.g_require_luck T.F_require_luck.kp T.b_require_luck .nil pass0 (pa_cons (pv 0) pa_nil)))
    (pss_one (ps_ret (pe_call (ok_stirred_in T) (hr.mono (by decide)) (by rfl) T.g_stirred_in T.F_stirred_in.kp T.b_stirred_in .nil pass0 (pa_cons (pv 0) pa_nil))))), ?_⟩
  walk_at "go"
  exact q
theorem ok_unstirred (T : Tp K mg) : FnOk P w K mg base CX0 5 T.a_unstirred T.d_unstirred ["luck"] (sp_unstirred K) := by
  refine T.F_unstirred.ok sc_unstirred ?len (fun cdv A outer s H vs Q E hr h => ?_)
  case len => intro vs H Q E h; obtain ⟨x, rfl, _⟩ := h; rfl
  obtain ⟨l, rfl, l0, l1, q⟩ := h
  refine ⟨_, (pss_cons (ps_expr (pe_call (ok_require_luck T) (hr.mono (by decide)) (by rfl) T.g_require_luck T.F_require_luck.kp T.b_require_luck .nil pass0 (pa_cons (pv 0) pa_nil)))
    (pss_one (ps_ret (pe_call (ok_unstirred_in T) (hr.mono (by decide)) (by rfl) T.g_unstirred_in T.F_unstirred_in.kp T.b_unstirred_in .nil pass0 (pa_cons (pv 0) pa_nil))))), ?_⟩
  walk_at "go"
  exact q
theorem ok_spot_number (T : Tp K mg) : FnOk P w K mg base CX0 6 T.a_spot_number T.d_spot_number ["luck", "entry", "thing", "turn"] (sp_spot_number K) := by
  refine T.F_spot_number.ok sc_spot_number ?len (fun cdv A outer s H vs Q E hr h => ?_)
  case len => intro vs H Q E h; obtain ⟨x, _, _, _, rfl, _⟩ := h; rfl
  obtain ⟨l, e, t, n, rfl, l0, l1, e0, e1, t0, t1, n0, n1, q⟩ := h
  refine ⟨_, (pss_cons (ps_expr (pe_call (ok_require_spot T) (hr.mono (by decide)) (by rfl) T.g_require_spot T.F_require_spot.kp T.b_require_spot .nil pass0 (pa_cons (pv 0) (pa_cons (pv 1) (pa_cons (pv 2) pa_nil)))))
    (pss_cons (ps_expr (pe_call (ok_require_tick T) (hr.mono (by decide)) (by rfl) T.g_require_tick T.F_require_tick.kp T.b_require_tick .nil pass0 (pa_cons (pv 3) pa_nil)))
    (pss_one (ps_ret (pe_call (ok_spot_in T) (hr.mono (by decide)) (by rfl) T.g_spot_in T.F_spot_in.kp T.b_spot_in .nil pass0 (pa_cons (pv 0) (pa_cons (pv 1) (pa_cons (pv 2) (pa_cons (pv 3) pa_nil))))))))), ?_⟩
  walk_at "go"
  refine fun H1 S1 => ?_
  exact q _ S1
theorem ok_turn_of (T : Tp K mg) : FnOk P w K mg base CX0 6 T.a_turn_of T.d_turn_of ["luck", "entry", "thing", "number"] (sp_turn_of K) := by
  refine T.F_turn_of.ok sc_turn_of ?len (fun cdv A outer s H vs Q E hr h => ?_)
  case len => intro vs H Q E h; obtain ⟨x, _, _, _, rfl, _⟩ := h; rfl
  obtain ⟨l, e, t, n, rfl, l0, l1, e0, e1, t0, t1, n0, n1, q⟩ := h
  refine ⟨_, (pss_cons (ps_expr (pe_call (ok_require_spot T) (hr.mono (by decide)) (by rfl) T.g_require_spot T.F_require_spot.kp T.b_require_spot .nil pass0 (pa_cons (pv 0) (pa_cons (pv 1) (pa_cons (pv 2) pa_nil)))))
    (pss_cons (ps_expr (pe_call (ok_require_luck T) (hr.mono (by decide)) (by rfl) T.g_require_luck T.F_require_luck.kp T.b_require_luck .nil pass0 (pa_cons (pv 3) pa_nil)))
    (pss_one (ps_ret (pe_op op_mod (pe_op op_sub (pe_call (ok_unstirred_in T) (hr.mono (by decide)) (by rfl) T.g_unstirred_in T.F_unstirred_in.kp T.b_unstirred_in .nil pass0 (pa_cons (pv 3) pa_nil)) (pe_call (ok_stirred_at T) (hr.mono (by decide)) (by rfl) T.g_stirred_at T.F_stirred_at.kp T.b_stirred_at .nil pass0 (pa_cons (pv 0) (pa_cons (pv 1) (pa_cons (pv 2) pa_nil))))) (pe_glob (by rfl) T.c_MODULUS T.r_MODULUS)))))), ?_⟩
  walk_at "go"
  refine fun H1 S1 => ?_
  walk_at "go"
  exact q _ S1
theorem ok_drawn (T : Tp K mg) : FnOk P w K mg base CX0 6 T.a_drawn T.d_drawn ["luck", "entry", "thing", "turn", "sides"] (sp_drawn K) := by
  refine T.F_drawn.ok sc_drawn ?len (fun cdv A outer s H vs Q E hr h => ?_)
  case len => intro vs H Q E h; obtain ⟨x, _, _, _, _, rfl, _⟩ := h; rfl
  obtain ⟨l, e, t, n, c, rfl, l0, l1, e0, e1, t0, t1, n0, n1, c0, c1, q⟩ := h
  refine ⟨_, (pss_cons (ps_expr (pe_call (ok_require_spot T) (hr.mono (by decide)) (by rfl) T.g_require_spot T.F_require_spot.kp T.b_require_spot .nil pass0 (pa_cons (pv 0) (pa_cons (pv 1) (pa_cons (pv 2) pa_nil)))))
    (pss_cons (ps_expr (pe_call (ok_require_tick T) (hr.mono (by decide)) (by rfl) T.g_require_tick T.F_require_tick.kp T.b_require_tick .nil pass0 (pa_cons (pv 3) pa_nil)))
    (pss_cons (ps_expr (pe_call (ok_require_from T) (hr.mono (by decide)) (by rfl) T.g_require_from T.F_require_from.kp T.b_require_from .nil pass0 (pa_cons (pv 4) (pa_cons pe_int (pa_cons (pe_glob (by rfl) T.c_MAX_SIDES T.r_MAX_SIDES) pa_nil)))))
    (pss_one (ps_ret (pe_call (ok_drawn_in T) (hr.mono (by decide)) (by rfl) T.g_drawn_in T.F_drawn_in.kp T.b_drawn_in .nil pass0 (pa_cons (pv 0) (pa_cons (pv 1) (pa_cons (pv 2) (pa_cons (pv 3) (pa_cons (pv 4) pa_nil))))))))))), ?_⟩
  walk_at "go"
  refine fun H1 S1 => ?_
  exact q _ S1

theorem ok_l_lk_stirred (T : Tp K mg) : FnOk P w K mg base CX0 1 T.a_l_lk_stirred T.d_l_lk_stirred ["_law_luck"] (sp_l_lk_stirred K) := by
  refine T.F_l_lk_stirred.ok sc_l_lk_stirred ?len (fun cdv A outer s H vs Q E hr h => ?_)
  case len => intro vs H Q E h; obtain ⟨x, rfl, _⟩ := h; rfl
  obtain ⟨l, rfl, l0, l1, q⟩ := h
  refine ⟨_, (pss_one (ps_ret (pe_op op_mod (pe_callTy call_int1 (by rfl) T.m_int (by decide +kernel) (pa_cons (pe_op op_add (pe_op op_mul (pe_op op_mul (pe_op op_mul (pe_op op_mul (pv 0) (pv 0)) (pv 0)) (pv 0)) (pv 0)) pe_int) pa_nil)) pe_int))), ?_⟩
  walk_at "go"
  have e : l * l * l * l * l = l ^ 5 := by
    rw [Int.pow_succ, Int.pow_succ, Int.pow_succ, Int.pow_succ, Int.pow_succ, Int.pow_zero, Int.one_mul]
  rw [e]
  exact q
theorem ok_l_luck_drawn (T : Tp K mg) : FnOk P w K mg base CX0 3 T.a_l_luck_drawn T.d_l_luck_drawn ["_law_dice_here"] (sp_l_luck_drawn K) := by
  refine T.F_l_luck_drawn.ok sc_l_luck_drawn ?len (fun cdv A outer s H vs Q E hr h => ?_)
  case len => intro vs H Q E h; obtain ⟨x, rfl, _⟩ := h; rfl
  obtain ⟨d, rfl, D0, q⟩ := h
  refine ⟨_, (pss_one (ps_ret (pe_ifExp (pt_cmpR op_eq (pe_call (ok_l_roll T) (hr.mono (by decide)) (by rfl) T.g_l_roll T.F_l_roll.kp T.b_l_roll .nil pass0 (pa_cons (pv 0) (pa_cons pe_int pa_nil))) pe_int (nomark _)) (pe_call (ok_l_pick T) (hr.mono (by decide)) (by rfl) T.g_l_pick T.F_l_pick.kp T.b_l_pick .nil pass0 (pa_cons (pv 0) (pa_cons (pe_lst (pa_cons pe_int (pa_cons pe_int (pa_cons pe_int (pa_cons pe_int pa_nil))))) pa_nil))) (pe_call (ok_l_roll T) (hr.mono (by decide)) (by rfl) T.g_l_roll T.F_l_roll.kp T.b_l_roll .nil pass0 (pa_cons (pv 0) (pa_cons pe_int pa_nil)))))), ?_⟩
  walk_at "go"
  refine fun r H1 r0 r1 D1 X1 => ?_
  walk_at "go"
  refine ite2 (fun e => ?_) (fun e => ?_)
  · walk_at "go"
    refine fun p np => ?_
    walk_at "pick"
    refine fun v H2 hv D2 X2 => ?_
    obtain ⟨i, rfl, i0, i1⟩ := inB_mem (lo := 0) (hi := 999999937) hv (by decide +kernel)
    exact q _ _ i0 i1 D2 (X1.trans ((Ext.new np).trans X2))
  · walk_at "go"
    exact fun r H2 r0 r1 D2 X2 => q _ _ r0 r1 D2 (X1.trans X2)
theorem ok_l_index_drawn (T : Tp K mg) : FnOk P w K mg base CX0 2 T.a_l_index_drawn T.d_l_index_drawn ["_law_dice_here"] (sp_l_index_drawn K) := by
  refine T.F_l_index_drawn.ok sc_l_index_drawn ?len (fun cdv A outer s H vs Q E hr h => ?_)
  case len => intro vs H Q E h; obtain ⟨x, rfl, _⟩ := h; rfl
  obtain ⟨d, rfl, D0, q⟩ := h
  have e30 : (10 : Int) ^ Int.toNat 30 = 10 ^ 30 := by decide +kernel
  have e29 : (10 : Int) ^ Int.toNat 29 = 10 ^ 29 := by decide +kernel
  have e58 : (10 : Int) ^ Int.toNat 58 = 10 ^ 58 := by decide +kernel
  refine ⟨_, (pss_cons (ps_set (i := 1) sc_l_index_drawn.nd rfl (Or.inl rfl) (pe_call (ok_l_roll T) (hr.mono (by decide)) (by rfl) T.g_l_roll T.F_l_roll.kp T.b_l_roll .nil pass0 (pa_cons (pv 0) (pa_cons pe_int pa_nil))))
    (pss_cons (ps_if (pt_cmpR op_eq (pv 1) pe_int (nomark _)) (pss_one (ps_ret (pe_op op_add (pe_op op_mulW (pe_call (ok_l_roll T) (hr.mono (by decide)) (by rfl) T.g_l_roll T.F_l_roll.kp T.b_l_roll .nil pass0 (pa_cons (pv 0) (pa_cons (pe_op op_pow pe_int pe_int) pa_nil))) (pe_op op_pow pe_int pe_int)) (pe_op op_pow pe_int pe_int)))) pss_nil)
    (pss_one (ps_ret (pe_ifExp (pt_cmpR op_eq (pv 1) pe_int (nomark _)) (pe_call (ok_l_roll T) (hr.mono (by decide)) (by rfl) T.g_l_roll T.F_l_roll.kp T.b_l_roll .nil pass0 (pa_cons (pv 0) (pa_cons pe_int pa_nil))) (pe_call (ok_l_roll T) (hr.mono (by decide)) (by rfl) T.g_l_roll T.F_l_roll.kp T.b_l_roll .nil pass0 (pa_cons (pv 0) (pa_cons pe_int pa_nil)))))))), ?_⟩
  walk_at "go"
  refine fun r H1 r0 r1 D1 X1 => ?_
  walk_at "go"
  refine ite2 (fun e => ?_) (fun e => ?_)
  · walk_at "go"
    refine fun s1 H2 s0 s1' D2 X2 => ?_
    rw [e30] at s1'
    walk_at "go"
    rw [e29]
    walk_at "go"
    rw [e58]
    exact q _ _ (by omega) (by omega) D2 (X1.trans X2)
  · walk_at "go"
    refine ite2 (fun e => ?_) (fun e => ?_)
    · walk_at "go"
      exact fun r H2 r0 r1 D2 X2 => q _ _ r0 (by omega) D2 (X1.trans X2)
    · walk_at "go"
      exact fun r H2 r0 r1 D2 X2 => q _ _ r0 (by omega) D2 (X1.trans X2)
theorem ok_l_spot (T : Tp K mg) : FnOk P w K mg base CX0 2 T.a_l_spot T.d_l_spot ["_law_luck", "_law_told"] (sp_l_spot K) := by
  refine T.F_l_spot.ok sc_l_spot ?len (fun cdv A outer s H vs Q E hr h => ?_)
  case len => intro vs H Q E h; obtain ⟨x, _, _, _, _, rfl, _⟩ := h; rfl
  obtain ⟨l, p, e, t, n, rfl, hp, l0, l1, q⟩ := h
  refine ⟨_, (pss_cons (ps_set (i := 2) sc_l_spot.nd rfl (Or.inl rfl) (pe_call (ok_l_lk_stirred T) (hr.mono (by decide)) (by rfl) T.g_l_lk_stirred T.F_l_lk_stirred.kp T.b_l_lk_stirred .nil pass0 (pa_cons (pv 0) pa_nil)))
    (pss_cons (ps_for PassesOwn.never rfl (pi_tup (pv 1)) (pg_name (i := 3) sc_l_spot.nd rfl (Or.inl rfl)) (pss_one (ps_set (i := 2) sc_l_spot.nd rfl (Or.inl rfl) (pe_call (ok_l_lk_stirred T) (hr.mono (by decide)) (by rfl) T.g_l_lk_stirred T.F_l_lk_stirred.kp T.b_l_lk_stirred .nil pass0 (pa_cons (pe_op op_mod (pe_callTy call_int1 (by rfl) T.m_int (by decide +kernel) (pa_cons (pe_op op_add (pv 2) (pv 3)) pa_nil)) pe_int) pa_nil)))))
    (pss_one (ps_ret (pv 2))))), ?_⟩
  walk_at "go"
  refine ⟨⟨_, hp⟩, for_tup (K := K) (xs := [.int e, .int t, .int n]) (fun i σ H' => Stp (∃ (f : Int) (y4 : Option V), σ = [some (.int l), some (.ref p), some (.int f), y4] ∧ 0 ≤ f ∧ f < 999999937 ∧ f = (if i = 0 then stI l else if i = 1 then stA (stI l) e else if i = 2 then atI2 l e t else spI l e t n) ∧ H' = H)) (.of ⟨stI l, none, rfl, stI_lo _, stI_hi _, rfl, rfl⟩) (fun i σ H' hi hW => ?_) (fun i x σ H' hx hW => ?_) (fun σ H' hW => ?_)⟩
  · obtain ⟨f, y4, rfl, f0, f1, ef, rfl⟩ := hW.get
    exact hp
  · obtain ⟨f, y4, rfl, f0, f1, ef, rfl⟩ := hW.get
    have hi : i = 0 ∨ i = 1 ∨ i = 2 := by
      have : i < 3 := (List.getElem?_eq_some_iff.mp hx).1
      omega
    obtain ⟨m, rfl, en⟩ : ∃ m, x = V.int m ∧ m = (if i = 0 then e else if i = 1 then t else n) := by
      rcases hi with rfl | rfl | rfl <;> exact ⟨_, (Option.some.inj hx).symm, rfl⟩
    have b0 : 0 ≤ (f + m) % 999999937 := Int.emod_nonneg _ (by decide)
    have b1 : (f + m) % 999999937 < 999999937 := Int.emod_lt_of_pos _ (by decide)
    walk_at "go"
    refine .of ⟨_, some (.int m), rfl, stI_lo _, stI_hi _, ?_, rfl⟩
    rcases hi with rfl | rfl | rfl <;> (rw [ef, en]; rfl)
  · obtain ⟨f, y4, rfl, f0, f1, ef, rfl⟩ := hW.get
    walk_at "go"
    rw [show f = spI l e t n from ef]
    exact q
theorem ok_l_stirred_right (T : Tp K mg) : FnOk P w K mg base CX0 6 T.a_l_stirred_right T.d_l_stirred_right ["_law_luck"] (sp_l_stirred_right K) := by
  refine T.F_l_stirred_right.ok sc_l_stirred_right ?len (fun cdv A outer s H vs Q E hr h => ?_)
  case len => intro vs H Q E h; obtain ⟨x, rfl, _⟩ := h; rfl
  obtain ⟨l, rfl, l0, l1, q⟩ := h
  have a0 := stI_lo l
  have a1 := stI_hi l
  have b0 := unI_lo l
  have b1 := unI_hi l
  have c := un_st l0 l1
  have c' := st_un l0 l1
  refine ⟨_, (pss_cons (ps_par (i := 1) (j := 2) (by rfl) sc_l_stirred_right.nd rfl rfl (by decide) rfl rfl (pa_cons (pe_call (ok_stirred T) (hr.mono (by decide)) (by rfl) T.g_stirred T.F_stirred.kp T.b_stirred .nil pass0 (pa_cons (pv 0) pa_nil)) (pa_cons (pe_call (ok_unstirred T) (hr.mono (by decide)) (by rfl) T.g_unstirred T.F_unstirred.kp T.b_unstirred .nil pass0 (pa_cons (pv 0) pa_nil)) pa_nil)) (by rfl))
    (pss_one (ps_ret (pe_and (pe_cmpR op_eq (pv 1) (pe_call (ok_l_lk_stirred T) (hr.mono (by decide)) (by rfl) T.g_l_lk_stirred T.F_l_lk_stirred.kp T.b_l_lk_stirred .nil pass0 (pa_cons (pv 0) pa_nil)) (nomark _)) (pe_and (pe_cmpR op_eq (pe_call (ok_unstirred T) (hr.mono (by decide)) (by rfl) T.g_unstirred T.F_unstirred.kp T.b_unstirred .nil pass0 (pa_cons (pv 1) pa_nil)) (pv 0) (nomark _)) (pe_and (pe_chain op_le op_lt pe_int (pv 2) pe_int) (pe_one (pe_cmpR op_eq (pe_call (ok_l_lk_stirred T) (hr.mono (by decide)) (by rfl) T.g_l_lk_stirred T.F_l_lk_stirred.kp T.b_l_lk_stirred .nil pass0 (pa_cons (pv 2) pa_nil)) (pv 0) (nomark _))))))))), ?_⟩
  walk_at "go"
  rw [decide_eq_true rfl]
  walk_at "go"
  rw [c, decide_eq_true rfl]
  walk_at "go"
  rw [decide_eq_true b0]
  walk_at "go"
  rw [decide_eq_true b1]
  walk_at "go"
  rw [c', decide_eq_true rfl]
  exact q
theorem ok_l_turn_right (T : Tp K mg) : FnOk P w K mg base CX0 7 T.a_l_turn_right T.d_l_turn_right ["_law_luck", "_law_told", "_law_goal"] (sp_l_turn_right K) := by
  refine T.F_l_turn_right.ok sc_l_turn_right ?len (fun cdv A outer s H vs Q E hr h => ?_)
  case len => intro vs H Q E h; obtain ⟨x, _, _, _, _, _, rfl, _⟩ := h; rfl
  obtain ⟨l, p, e, t, n, g, rfl, hp, l0, l1, e0, e1, t0, t1, g0, g1, q⟩ := h
  have b0 : 0 ≤ tuI l e t g := Int.emod_nonneg _ (by decide)
  have b1 : tuI l e t g < 999999937 := Int.emod_lt_of_pos _ (by decide)
  have c := sp_tu (l := l) (e := e) (t := t) g0 g1
  refine ⟨_, (pss_cons (ps_set (i := 3) sc_l_turn_right.nd rfl (Or.inl rfl) (pe_call (ok_turn_of T) (hr.mono (by decide)) (by rfl) T.g_turn_of T.F_turn_of.kp T.b_turn_of .nil pass0 (pa_cons (pv 0) (pa_cons (pe_ix ix_tup (pv 1) pe_int (fun _ _ => rfl)) (pa_cons (pe_ix ix_tup (pv 1) pe_int (fun _ _ => rfl)) (pa_cons (pv 2) pa_nil))))))
    (pss_one (ps_ret (pe_and (pe_chain op_le op_lt pe_int (pv 3) pe_int) (pe_one (pe_cmpR op_eq (pe_call (ok_l_spot T) (hr.mono (by decide)) (by rfl) T.g_l_spot T.F_l_spot.kp T.b_l_spot .nil pass0 (pa_cons (pv 0) (pa_cons (pe_tup (pa_cons (pe_ix ix_tup (pv 1) pe_int (fun _ _ => rfl)) (pa_cons (pe_ix ix_tup (pv 1) pe_int (fun _ _ => rfl)) (pa_cons (pv 3) pa_nil)))) pa_nil))) (pv 2) (nomark _))))))), ?_⟩
  walk_at "go"
  refine fun H1 S1 => ?_
  have hp1 := same_sqt S1 hp
  walk_at "go"
  rw [decide_eq_true b0]
  walk_at "go"
  rw [decide_eq_true b1]
  walk_at "go"
  refine fun p2 np2 => ?_
  walk_at "go"
  refine ⟨_, _, _, _, _, rfl, SqT.of upd_same, l0, l1, ?_⟩
  walk_at "go"
  rw [c, decide_eq_true rfl]
  exact q _ (S1.trans (same_new np2))
theorem ok_l_draws_right (T : Tp K mg) : FnOk P w K mg base CX0 7 T.a_l_draws_right T.d_l_draws_right ["_law_dice_here", "_law_luck", "_law_told"] (sp_l_draws_right K) := by
  refine T.F_l_draws_right.ok sc_l_draws_right ?len (fun cdv A outer s H vs Q E hr h => ?_)
  case len => intro vs H Q E h; obtain ⟨x, _, _, _, _, _, rfl, _⟩ := h; rfl
  obtain ⟨d, l, p, e, t, n, rfl, D0, hp, hne, l0, l1, e0, e1, t0, t1, n0, n1, q⟩ := h
  have s0 := spI_lo l e t n
  have s1 := spI_hi l e t n
  refine ⟨_, (pss_cons (ps_par (i := 3) (j := 4) (by rfl) sc_l_draws_right.nd rfl rfl (by decide) rfl rfl (pa_cons (pe_op op_add pe_int (pe_call (ok_l_roll T) (hr.mono (by decide)) (by rfl) T.g_l_roll T.F_l_roll.kp T.b_l_roll .nil pass0 (pa_cons (pv 0) (pa_cons pe_int pa_nil)))) (pa_cons (pe_op op_add pe_int (pe_call (ok_l_roll T) (hr.mono (by decide)) (by rfl) T.g_l_roll T.F_l_roll.kp T.b_l_roll .nil pass0 (pa_cons (pv 0) (pa_cons pe_int pa_nil)))) pa_nil)) (by rfl))
    (pss_cons (ps_for PassesOwn.never rfl (pi_tup (pe_tup (pa_cons (pv 3) (pa_cons (pv 4) (pa_cons (pe_op op_mul (pv 3) (pv 4)) (pa_cons pe_int (pa_cons pe_int pa_nil))))))) (pg_name (i := 5) sc_l_draws_right.nd rfl (Or.inl rfl)) (pss_one (ps_if (pt_cmpR op_ne (pe_call (ok_drawn T) (hr.mono (by decide)) (by rfl) T.g_drawn T.F_drawn.kp T.b_drawn .nil pass0 (pa_cons (pv 1) (pa_cons (pe_ix ix_tup (pv 2) pe_int (fun _ _ => rfl)) (pa_cons (pe_ix ix_tup (pv 2) pe_int (fun _ _ => rfl)) (pa_cons (pe_ix ix_tup (pv 2) pe_int (fun _ _ => rfl)) (pa_cons (pv 5) pa_nil)))))) (pe_op op_fdivW (pe_op op_mul (pe_call (ok_l_spot T) (hr.mono (by decide)) (by rfl) T.g_l_spot T.F_l_spot.kp T.b_l_spot .nil pass0 (pa_cons (pv 1) (pa_cons (pv 2) pa_nil))) (pv 5)) pe_int) (nomark _)) (pss_one (ps_ret pe_bl)) pss_nil)))
    (pss_one (ps_ret (pe_cmpR op_eq (pe_op op_fdivW (pe_call (ok_drawn T) (hr.mono (by decide)) (by rfl) T.g_drawn T.F_drawn.kp T.b_drawn .nil pass0 (pa_cons (pv 1) (pa_cons (pe_ix ix_tup (pv 2) pe_int (fun _ _ => rfl)) (pa_cons (pe_ix ix_tup (pv 2) pe_int (fun _ _ => rfl)) (pa_cons (pe_ix ix_tup (pv 2) pe_int (fun _ _ => rfl)) (pa_cons (pe_op op_mul (pv 3) (pv 4)) pa_nil)))))) (pv 4)) (pe_call (ok_drawn T) (hr.mono (by decide)) (by rfl) T.g_drawn T.F_drawn.kp T.b_drawn .nil pass0 (pa_cons (pv 1) (pa_cons (pe_ix ix_tup (pv 2) pe_int (fun _ _ => rfl)) (pa_cons (pe_ix ix_tup (pv 2) pe_int (fun _ _ => rfl)) (pa_cons (pe_ix ix_tup (pv 2) pe_int (fun _ _ => rfl)) (pa_cons (pv 3) pa_nil)))))) (nomark _)))))), ?_⟩
  walk_at "go"
  refine fun a H1 a0 a1 D1 X1 => ?_
  walk_at "go"
  refine fun b H2 b0 b1 D2 X2 => ?_
  have ab0 : 1 ≤ (1 + a) * (1 + b) := by
    have := Int.mul_le_mul (show 1 ≤ 1 + a by omega) (show 1 ≤ 1 + b by omega) (by decide) (by omega)
    omega
  have ab1 : (1 + a) * (1 + b) ≤ 990 := by
    have := Int.mul_le_mul (show 1 + a ≤ 30 by omega) (show 1 + b ≤ 33 by omega) (by omega) (by decide)
    omega
  walk_at "go"
  refine fun p5 np5 => ?_
  have X5 : Ext d H (upd H2 p5 (.tup [.int (1 + a), .int (1 + b), .int ((1 + a) * (1 + b)), .int 1, .int 1000])) := (X1.trans X2).trans (Ext.new np5)
  refine ⟨_, rfl, ⟨_, SqT.of upd_same⟩, for_tup (K := K) (xs := [.int (1 + a), .int (1 + b), .int ((1 + a) * (1 + b)), .int 1, .int 1000]) (fun i σ H' => Stp (∃ (y5 : Option V), σ = [some (.ref d), some (.int l), some (.ref p), some (.int (1 + a)), some (.int (1 + b)), y5] ∧ Dice d H' ∧ Ext d H H' ∧ SqT K H' p5 [.int (1 + a), .int (1 + b), .int ((1 + a) * (1 + b)), .int 1, .int 1000])) (.of ⟨none, rfl, D2.new np5, X5, SqT.of upd_same⟩) (fun i σ H' hi hW => ?_) (fun i x σ H' hx hW => ?_) (fun σ H' hW => ?_)⟩
  · obtain ⟨y5, rfl, D', X', h5⟩ := hW.get
    exact h5
  · obtain ⟨y5, rfl, D', X', h5⟩ := hW.get
    have hp' := X'.sqt hne hp
    obtain ⟨c, rfl, c0, c1⟩ : ∃ c, x = V.int c ∧ 1 ≤ c ∧ c ≤ 1000 := by
      have := List.mem_of_getElem? hx
      simp only [List.mem_cons, List.not_mem_nil, or_false] at this
      rcases this with rfl | rfl | rfl | rfl | rfl <;> exact ⟨_, rfl, by omega, by omega⟩
    walk_at "go"
    refine fun H3 S3 => ?_
    have hp3 := same_sqt S3 hp'
    walk_at "go"
    refine ⟨_, _, _, _, _, rfl, hp3, l0, l1, ?_⟩
    walk_at "go"
    refine iteNS rfl ?_
    exact .of ⟨some (.int c), rfl, D'.same S3, X'.trans (.of S3), same_sqt S3 h5⟩
  · obtain ⟨y5, rfl, D', X', h5⟩ := hW.get
    have hp' := X'.sqt hne hp
    walk_at "go"
    refine fun H3 S3 => ?_
    have hp3 := same_sqt S3 hp'
    walk_at "go"
    refine fun H4 S4 => ?_
    walk_at "go"
    have ed : V.int (spI l e t n * ((1 + a) * (1 + b)) / 999999937 / (1 + b)) = V.int (spI l e t n * (1 + a) / 999999937) := by rw [draw_less (show 0 < 1 + b by omega)]
    rw [decide_eq_true ed]
    exact q _ ((D'.same S3).same S4) ((X'.trans (.of S3)).trans (.of S4))
theorem ok_l_right (T : Tp K mg) : FnOk P w K mg base CX0 8 T.a_l_right T.d_l_right ["_law_dice_here"] (sp_l_right K) := by
  refine T.F_l_right.ok sc_l_right ?len (fun cdv A outer s H vs Q E hr h => ?_)
  case len => intro vs H Q E h; obtain ⟨x, rfl, _⟩ := h; rfl
  obtain ⟨d, rfl, D0, q⟩ := h
  refine ⟨_, (pss_cons (ps_par (i := 1) (j := 2) (by rfl) sc_l_right.nd rfl rfl (by decide) rfl rfl (pa_cons (pe_call (ok_l_luck_drawn T) (hr.mono (by decide)) (by rfl) T.g_l_luck_drawn T.F_l_luck_drawn.kp T.b_l_luck_drawn .nil pass0 (pa_cons (pv 0) pa_nil)) (pa_cons (pe_callTy call_tuple_of (by rfl) T.m_tuple (by decide +kernel) (pa_cons (pe_lc (own := [("_law_place", 8)]) (g := gName 8) (tt := tYes) (by rfl) sc_l_right.nd (pi_range1 rfl T.m_range (pa_cons pe_int pa_nil)) (blkOk_by (own := [("_law_place", 8)]) (N := N_l_right) (sc := defScope s_l_right) (by decide +kernel)) (fun _ _ _ _ _ => pg_name (i := 8) sc_l_right.nd rfl (Or.inl rfl)) (fun _ _ _ _ _ => pts_nil) (fun _ _ _ _ _ => (pe_call (ok_l_index_drawn T) (hr.mono (by decide)) (by rfl) T.g_l_index_drawn T.F_l_index_drawn.kp T.b_l_index_drawn .nil pass0 (pa_cons (pv 0) pa_nil)))) pa_nil)) pa_nil)) (by rfl))
    (pss_cons (ps_set (i := 3) sc_l_right.nd rfl (Or.inl rfl) (pe_call (ok_spot_number T) (hr.mono (by decide)) (by rfl) T.g_spot_number T.F_spot_number.kp T.b_spot_number .nil pass0 (pa_cons (pv 1) (pa_cons (pe_ix ix_tup (pv 2) pe_int (fun _ _ => rfl)) (pa_cons (pe_ix ix_tup (pv 2) pe_int (fun _ _ => rfl)) (pa_cons (pe_ix ix_tup (pv 2) pe_int (fun _ _ => rfl)) pa_nil))))))
    (pss_cons (ps_if (PW.pt (pw_or (pt_cmpR op_ne (pv 3) (pe_call (ok_l_spot T) (hr.mono (by decide)) (by rfl) T.g_l_spot T.F_l_spot.kp T.b_l_spot .nil pass0 (pa_cons (pv 1) (pa_cons (pv 2) pa_nil))) (nomark _)) (pw_or (pt_not (pt_val (pe_call (ok_l_stirred_right T) (hr.mono (by decide)) (by rfl) T.g_l_stirred_right T.F_l_stirred_right.kp T.b_l_stirred_right .nil pass0 (pa_cons (pv 1) pa_nil)))) (pw_or1 (pt_not (pt_val (pe_call (ok_l_draws_right T) (hr.mono (by decide)) (by rfl) T.g_l_draws_right T.F_l_draws_right.kp T.b_l_draws_right .nil pass0 (pa_cons (pv 0) (pa_cons (pv 1) (pa_cons (pv 2) pa_nil)))))))))) (pss_one (ps_ret pe_bl)) pss_nil)
    (pss_cons (ps_par (i := 4) (j := 5) (by rfl) sc_l_right.nd rfl rfl (by decide) rfl rfl (pa_cons (pe_call (ok_l_roll T) (hr.mono (by decide)) (by rfl) T.g_l_roll T.F_l_roll.kp T.b_l_roll .nil pass0 (pa_cons (pv 0) (pa_cons pe_int pa_nil))) (pa_cons (pe_op op_add pe_int (pe_call (ok_l_roll T) (hr.mono (by decide)) (by rfl) T.g_l_roll T.F_l_roll.kp T.b_l_roll .nil pass0 (pa_cons (pv 0) (pa_cons pe_int pa_nil)))) pa_nil)) (by rfl))
    (pss_cons (ps_set (i := 6) sc_l_right.nd rfl (Or.inl rfl) (pe_op op_catA (pe_op op_catA (pe_slice sl_tupA (pv 2) po_none (po_some (pv 4))) (pe_tup (pa_cons (pe_op op_add (pe_ix ix_tup (pv 2) (pv 4) (fun _ _ => rfl)) (pe_call (ok_l_pick T) (hr.mono (by decide)) (by rfl) T.g_l_pick T.F_l_pick.kp T.b_l_pick .nil pass0 (pa_cons (pv 0) (pa_cons (pe_lst (pa_cons pe_int (pa_cons pe_int (pa_cons (pv 5) pa_nil)))) pa_nil)))) pa_nil))) (pe_slice sl_tupA (pv 2) (po_some (pe_op op_add (pv 4) pe_int)) po_none)))
    (pss_cons (ps_if (pt_cmpR op_eq (pe_call (ok_spot_number T) (hr.mono (by decide)) (by rfl) T.g_spot_number T.F_spot_number.kp T.b_spot_number .nil pass0 (pa_cons (pv 1) (pa_cons (pe_ix ix_tup (pv 6) pe_int (fun _ _ => rfl)) (pa_cons (pe_ix ix_tup (pv 6) pe_int (fun _ _ => rfl)) (pa_cons (pe_ix ix_tup (pv 6) pe_int (fun _ _ => rfl)) pa_nil))))) (pv 3) (nomark _)) (pss_one (ps_ret pe_bl)) pss_nil)
    (pss_cons (ps_set (i := 7) sc_l_right.nd rfl (Or.inl rfl) (pe_op op_mod (pe_callTy call_int1 (by rfl) T.m_int (by decide +kernel) (pa_cons (pe_op op_add (pv 1) (pv 5)) pa_nil)) pe_int))
    (pss_cons (ps_if (PW.pt (pw_or (pt_cmpR op_eq (pe_call (ok_spot_number T) (hr.mono (by decide)) (by rfl) T.g_spot_number T.F_spot_number.kp T.b_spot_number .nil pass0 (pa_cons (pv 7) (pa_cons (pe_ix ix_tup (pv 2) pe_int (fun _ _ => rfl)) (pa_cons (pe_ix ix_tup (pv 2) pe_int (fun _ _ => rfl)) (pa_cons (pe_ix ix_tup (pv 2) pe_int (fun _ _ => rfl)) pa_nil))))) (pv 3) (nomark _)) (pw_or1 (pt_cmpR op_eq (pe_call (ok_stirred T) (hr.mono (by decide)) (by rfl) T.g_stirred T.F_stirred.kp T.b_stirred .nil pass0 (pa_cons (pv 7) pa_nil)) (pe_call (ok_stirred T) (hr.mono (by decide)) (by rfl) T.g_stirred T.F_stirred.kp T.b_stirred .nil pass0 (pa_cons (pv 1) pa_nil)) (nomark _))))) (pss_one (ps_ret pe_bl)) pss_nil)
    (pss_cons (ps_if (pt_cmpR op_ne (pe_call (ok_turn_of T) (hr.mono (by decide)) (by rfl) T.g_turn_of T.F_turn_of.kp T.b_turn_of .nil pass0 (pa_cons (pv 1) (pa_cons (pe_ix ix_tup (pv 2) pe_int (fun _ _ => rfl)) (pa_cons (pe_ix ix_tup (pv 2) pe_int (fun _ _ => rfl)) (pa_cons (pv 3) pa_nil))))) (pe_op op_mod (pe_callTy call_int1 (by rfl) T.m_int (by decide +kernel) (pa_cons (pe_ix ix_tup (pv 2) pe_int (fun _ _ => rfl)) pa_nil)) pe_int) (nomark _)) (pss_one (ps_ret pe_bl)) pss_nil)
    (pss_one (ps_ret (pe_call (ok_l_turn_right T) (hr.mono (by decide)) (by rfl) T.g_l_turn_right T.F_l_turn_right.kp T.b_l_turn_right .nil pass0 (pa_cons (pv 1) (pa_cons (pv 2) (pa_cons (pe_call (ok_l_luck_drawn T) (hr.mono (by decide)) (by rfl) T.g_l_luck_drawn T.F_l_luck_drawn.kp T.b_l_luck_drawn .nil pass0 (pa_cons (pv 0) pa_nil)) pa_nil))))))))))))))), ?_⟩
  walk_at "go"
  refine fun l H1 l0 l1 D1 X1 => ?_
  walk_at "go"
  refine fun D nD => lc_range (lo := 0) (n := 3) (fun i H' => Stp (∃ ns : List Int, H' D = some (.lst (ns.map V.int)) ∧ ns.length = i ∧ (∀ x ∈ ns, 0 ≤ x ∧ x < 5 * 10 ^ 59) ∧ Dice d H' ∧ Ext d H1 H' ∧ D ≠ d)) (.of ⟨[], upd_same, rfl, (fun x hx => nomatch hx), D1.new nD, Ext.new nD, D1.ne nD⟩) (fun i H' hi hW => ?_) (fun H' hW => ?_)
  · obtain ⟨ns, hD, hn, hb, D', X', ne⟩ := hW.get
    walk_at "go"
    refine fun r H4 r0 r1 D4 X4 => ⟨_, X4 D _ ne hD, ?_, .of ⟨ns ++ [r], ?_, ?_, ?_, D4.put ne, (X'.trans X4).mut nD, ne⟩⟩
    · rw [List.length_map, hn]
      exact small1000 (by omega)
    · rw [upd_same, List.map_append]; rfl
    · rw [List.length_append, hn]; rfl
    · intro x hx
      rcases List.mem_append.mp hx with z | z
      · exact hb x z
      · rw [List.mem_singleton.mp z]; exact ⟨r0, r1⟩
  · obtain ⟨ns, hD, hn, hb, D', X', ne⟩ := hW.get
    obtain ⟨e, t, n, rfl⟩ : ∃ e t n, ns = [e, t, n] := by
      match ns, hn with
      | [e, t, n], _ => exact ⟨e, t, n, rfl⟩
    obtain ⟨e0, e1⟩ := hb e (by simp)
    obtain ⟨t0, t1⟩ := hb t (by simp)
    obtain ⟨n0, n1⟩ := hb n (by simp)
    walk_at "go"
    refine ⟨_, _, rfl, .inl ⟨SqL.of hD, fun tp ntp => ?_⟩⟩
    have hne : tp ≠ d := D'.ne ntp
    have D5 : Dice d (upd H' tp (.tup ([e, t, n].map V.int))) := D'.new ntp
    have X5 : Ext d H (upd H' tp (.tup ([e, t, n].map V.int))) := (X1.trans X').trans (Ext.new ntp)
    have h5 : SqT K (upd H' tp (.tup ([e, t, n].map V.int))) tp [.int e, .int t, .int n] := SqT.of upd_same
    generalize upd H' tp (HO.tup ([e, t, n].map V.int)) = H5 at *
    walk_at "go"
    refine fun H6 S6 => ?_
    have D6 := D5.same S6
    have X6 := X5.trans (.of S6)
    have h6 := same_sqt S6 h5
    walk_at "go"
    refine ⟨_, _, _, _, _, rfl, h6, l0, l1, ?_⟩
    walk_at "go"
    refine iteNS rfl ?_
    walk_at "go"
    refine ⟨_, _, _, _, _, _, rfl, D6, h6, hne, l0, l1, e0, by omega, t0, by omega, n0, by omega, fun H7 D7 X7' => ?_⟩
    have X7 := X6.trans X7'
    have h7 := X7'.sqt hne h6
    walk_at "go"
    refine fun a H8 a0 a1 D8 X8' => ?_
    have X8 := X7.trans X8'
    have h8 := X8'.sqt hne h7
    walk_at "go"
    refine fun m H9 m0 m1 D9 X9' => ?_
    have X9 := X8.trans X9'
    have h9 := X9'.sqt hne h8
    walk_at "go"
    have ha : a = 0 ∨ a = 1 ∨ a = 2 := by omega
    rcases ha with rfl | rfl | rfl
    · walk_at "go"
      refine ⟨_, _, rfl, h9, fun z => absurd z.2 (show ¬ HT.sIx 3 3 (some (0 : Int)) = 3 by decide), fun _ p0 np0 => ?_⟩
      have k0 : SqT K (upd H9 p0 (.tup [])) p0 [] := SqT.of upd_same
      have h0 := same_sqt (same_new (o := .tup []) np0) h9
      have e0' : p0 ≠ d := D9.ne np0
      have D10 : Dice d (upd H9 p0 (.tup [])) := D9.new np0
      have X10 : Ext d H (upd H9 p0 (.tup [])) := X9.trans (Ext.new np0)
      show tTup _ _ (upd H9 p0 (.tup [])) _
      generalize upd H9 p0 (.tup []) = H10 at *
      walk_at "go"
      refine fun p1 np1 => ?_
      walk_at "pick"
      refine fun v H11 hv D11 X11' => ?_
      obtain ⟨x, rfl, x0, x1⟩ : ∃ x, v = V.int x ∧ 1 ≤ x ∧ x < 999999937 := by
        simp only [List.mem_cons, List.not_mem_nil, or_false] at hv
        rcases hv with rfl | rfl | rfl <;> exact ⟨_, rfl, by omega, by omega⟩
      have Y11 : Ext d H10 H11 := (Ext.new np1).trans X11'
      have k1 := Y11.sqt e0' k0
      have h11 := Y11.sqt hne h0
      have X11 := X10.trans Y11
      walk_at "go"
      refine fun p2 np2 => ?_
      have m2 : Same H11 (upd H11 p2 (.tup [.int (e + x)])) := same_new np2
      have D12 := D11.same m2
      have X12 := X11.trans (.of m2)
      have h12 := same_sqt m2 h11
      have k12 := same_sqt m2 k1
      have j12 : SqT K (upd H11 p2 (.tup [.int (e + x)])) p2 [.int (e + x)] := SqT.of upd_same
      show rCatA _ _ _ (upd H11 p2 (.tup [.int (e + x)])) _
      generalize upd H11 p2 (.tup [.int (e + x)]) = H12 at *
      refine ⟨_, _, _, _, rfl, rfl, k12, j12, Nat.le_of_ble_eq_true rfl, fun _ => ?_, fun z => absurd rfl z, fun z => absurd rfl z⟩
      walk_at "go"
      refine ⟨_, _, rfl, h12, fun z => absurd z.1 (show ¬ HT.sIx 3 0 (some (0 + 1 : Int)) = 0 by decide), fun _ p4 np4 => ?_⟩
      have m4 : Same H12 (upd H12 p4 (.tup [.int t, .int n])) := same_new np4
      refine ⟨_, _, _, _, rfl, rfl, same_sqt m4 j12, SqT.of (xs := [.int t, .int n]) upd_same, Nat.le_of_ble_eq_true rfl, (fun z => nomatch z), (fun _ z => nomatch z), fun _ _ p5 np5 => ?_⟩
      have m5 := m4.trans (same_new (o := .tup [.int (e + x), .int t, .int n]) np5)
      have D13 := D12.same m5
      have X13 := X12.trans (.of m5)
      have h13 := same_sqt m5 h12
      have hnear : SqT K (upd (upd H12 p4 (.tup [.int t, .int n])) p5 (.tup [.int (e + x), .int t, .int n])) p5 [.int (e + x), .int t, .int n] := SqT.of upd_same
      have hneq : spI l (e + x) t n ≠ spI l e t n := sp_ne_e x0 x1
      show gName 6 (.ref p5) _ (upd (upd H12 p4 (.tup [.int t, .int n])) p5 (.tup [.int (e + x), .int t, .int n])) _
      generalize upd (upd H12 p4 (.tup [.int t, .int n])) p5 (.tup [.int (e + x), .int t, .int n]) = H13 at *
      walk_at "go"
      refine fun H14 S14 => ?_
      have h14 := same_sqt S14 h13
      walk_at "go"
      refine iteN (by simpa using hneq) ?_
      have o0 : 0 ≤ (l + (1 + m)) % 999999937 := Int.emod_nonneg _ (by decide)
      have o1 : (l + (1 + m)) % 999999937 < 999999937 := Int.emod_lt_of_pos _ (by decide)
      have on : (l + (1 + m)) % 999999937 ≠ l := by omega
      have oneq := sp_ne_l (e := e) (t := t) (n := n) l0 l1 o0 o1 on
      have sneq : stI ((l + (1 + m)) % 999999937) ≠ stI l := fun z => on (st_inj o0 o1 l0 l1 z)
      walk_at "go"
      refine fun H15 S15 => ?_
      have h15 := same_sqt S15 h14
      walk_at "go"
      refine iteN (by simpa using oneq) ?_
      walk_at "go"
      refine iteN (by simpa using sneq) ?_
      have g0 := spI_lo l e t n
      have g1 := spI_hi l e t n
      walk_at "go"
      refine fun H16 S16 => ?_
      have h16 := same_sqt S16 h15
      have D16 := ((D13.same S14).same S15).same S16
      walk_at "go"
      rw [tu_sp]
      refine iteNS rfl ?_
      walk_at "go"
      refine fun g H17 g0 g1 D17 X17 => ?_
      have h17 := X17.sqt hne h16
      walk_at "go"
      refine ⟨_, _, _, _, _, _, rfl, h17, l0, l1, e0, by omega, t0, by omega, g0, g1, fun H18 S18 => ?_⟩
      exact q _ (D17.same S18) (((((X13.trans (.of S14)).trans (.of S15)).trans (.of S16)).trans X17).trans (.of S18))
    · walk_at "go"
      refine ⟨_, _, rfl, h9, fun z => absurd z.2 (show ¬ HT.sIx 3 3 (some (1 : Int)) = 3 by decide), fun _ p0 np0 => ?_⟩
      have k0 : SqT K (upd H9 p0 (.tup [.int e])) p0 [.int e] := SqT.of upd_same
      have h0 := same_sqt (same_new (o := .tup [.int e]) np0) h9
      have e0' : p0 ≠ d := D9.ne np0
      have D10 : Dice d (upd H9 p0 (.tup [.int e])) := D9.new np0
      have X10 : Ext d H (upd H9 p0 (.tup [.int e])) := X9.trans (Ext.new np0)
      show tTup _ _ (upd H9 p0 (.tup [.int e])) _
      generalize upd H9 p0 (.tup [.int e]) = H10 at *
      walk_at "go"
      refine fun p1 np1 => ?_
      walk_at "pick"
      refine fun v H11 hv D11 X11' => ?_
      obtain ⟨x, rfl, x0, x1⟩ : ∃ x, v = V.int x ∧ 1 ≤ x ∧ x < 999999937 := by
        simp only [List.mem_cons, List.not_mem_nil, or_false] at hv
        rcases hv with rfl | rfl | rfl <;> exact ⟨_, rfl, by omega, by omega⟩
      have Y11 : Ext d H10 H11 := (Ext.new np1).trans X11'
      have k1 := Y11.sqt e0' k0
      have h11 := Y11.sqt hne h0
      have X11 := X10.trans Y11
      walk_at "go"
      refine fun p2 np2 => ?_
      have m2 : Same H11 (upd H11 p2 (.tup [.int (t + x)])) := same_new np2
      have D12 := D11.same m2
      have X12 := X11.trans (.of m2)
      have h12 := same_sqt m2 h11
      have k12 := same_sqt m2 k1
      have j12 : SqT K (upd H11 p2 (.tup [.int (t + x)])) p2 [.int (t + x)] := SqT.of upd_same
      show rCatA _ _ _ (upd H11 p2 (.tup [.int (t + x)])) _
      generalize upd H11 p2 (.tup [.int (t + x)]) = H12 at *
      refine ⟨_, _, _, _, rfl, rfl, k12, j12, Nat.le_of_ble_eq_true rfl, (fun z => nomatch z), (fun _ z => nomatch z), fun _ _ p3 np3 => ?_⟩
      have m3 : Same H12 (upd H12 p3 (.tup [.int e, .int (t + x)])) := same_new np3
      walk_at "go"
      refine ⟨_, _, rfl, same_sqt m3 h12, fun z => absurd z.1 (show ¬ HT.sIx 3 0 (some (1 + 1 : Int)) = 0 by decide), fun _ p4 np4 => ?_⟩
      have m4 : Same (upd H12 p3 (.tup [.int e, .int (t + x)])) (upd (upd H12 p3 (.tup [.int e, .int (t + x)])) p4 (.tup [.int n])) := same_new np4
      refine ⟨_, _, _, _, rfl, rfl, SqT.of (xs := [.int e, .int (t + x)]) (m4 _ _ upd_same), SqT.of (xs := [.int n]) upd_same, Nat.le_of_ble_eq_true rfl, (fun z => nomatch z), (fun _ z => nomatch z), fun _ _ p5 np5 => ?_⟩
      have m5 := (m3.trans m4).trans (same_new (o := .tup [.int e, .int (t + x), .int n]) np5)
      have D13 := D12.same m5
      have X13 := X12.trans (.of m5)
      have h13 := same_sqt m5 h12
      have hnear : SqT K (upd (upd (upd H12 p3 (.tup [.int e, .int (t + x)])) p4 (.tup [.int n])) p5 (.tup [.int e, .int (t + x), .int n])) p5 [.int e, .int (t + x), .int n] := SqT.of upd_same
      have hneq : spI l e (t + x) n ≠ spI l e t n := sp_ne_t x0 x1
      show gName 6 (.ref p5) _ (upd (upd (upd H12 p3 (.tup [.int e, .int (t + x)])) p4 (.tup [.int n])) p5 (.tup [.int e, .int (t + x), .int n])) _
      generalize upd (upd (upd H12 p3 (.tup [.int e, .int (t + x)])) p4 (.tup [.int n])) p5 (.tup [.int e, .int (t + x), .int n]) = H13 at *
      walk_at "go"
      refine fun H14 S14 => ?_
      have h14 := same_sqt S14 h13
      walk_at "go"
      refine iteN (by simpa using hneq) ?_
      have o0 : 0 ≤ (l + (1 + m)) % 999999937 := Int.emod_nonneg _ (by decide)
      have o1 : (l + (1 + m)) % 999999937 < 999999937 := Int.emod_lt_of_pos _ (by decide)
      have on : (l + (1 + m)) % 999999937 ≠ l := by omega
      have oneq := sp_ne_l (e := e) (t := t) (n := n) l0 l1 o0 o1 on
      have sneq : stI ((l + (1 + m)) % 999999937) ≠ stI l := fun z => on (st_inj o0 o1 l0 l1 z)
      walk_at "go"
      refine fun H15 S15 => ?_
      have h15 := same_sqt S15 h14
      walk_at "go"
      refine iteN (by simpa using oneq) ?_
      walk_at "go"
      refine iteN (by simpa using sneq) ?_
      have g0 := spI_lo l e t n
      have g1 := spI_hi l e t n
      walk_at "go"
      refine fun H16 S16 => ?_
      have h16 := same_sqt S16 h15
      have D16 := ((D13.same S14).same S15).same S16
      walk_at "go"
      rw [tu_sp]
      refine iteNS rfl ?_
      walk_at "go"
      refine fun g H17 g0 g1 D17 X17 => ?_
      have h17 := X17.sqt hne h16
      walk_at "go"
      refine ⟨_, _, _, _, _, _, rfl, h17, l0, l1, e0, by omega, t0, by omega, g0, g1, fun H18 S18 => ?_⟩
      exact q _ (D17.same S18) (((((X13.trans (.of S14)).trans (.of S15)).trans (.of S16)).trans X17).trans (.of S18))
    · walk_at "go"
      refine ⟨_, _, rfl, h9, fun z => absurd z.2 (show ¬ HT.sIx 3 3 (some (2 : Int)) = 3 by decide), fun _ p0 np0 => ?_⟩
      have k0 : SqT K (upd H9 p0 (.tup [.int e, .int t])) p0 [.int e, .int t] := SqT.of upd_same
      have h0 := same_sqt (same_new (o := .tup [.int e, .int t]) np0) h9
      have e0' : p0 ≠ d := D9.ne np0
      have D10 : Dice d (upd H9 p0 (.tup [.int e, .int t])) := D9.new np0
      have X10 : Ext d H (upd H9 p0 (.tup [.int e, .int t])) := X9.trans (Ext.new np0)
      show tTup _ _ (upd H9 p0 (.tup [.int e, .int t])) _
      generalize upd H9 p0 (.tup [.int e, .int t]) = H10 at *
      walk_at "go"
      refine fun p1 np1 => ?_
      walk_at "pick"
      refine fun v H11 hv D11 X11' => ?_
      obtain ⟨x, rfl, x0, x1⟩ : ∃ x, v = V.int x ∧ 1 ≤ x ∧ x < 999999937 := by
        simp only [List.mem_cons, List.not_mem_nil, or_false] at hv
        rcases hv with rfl | rfl | rfl <;> exact ⟨_, rfl, by omega, by omega⟩
      have Y11 : Ext d H10 H11 := (Ext.new np1).trans X11'
      have k1 := Y11.sqt e0' k0
      have h11 := Y11.sqt hne h0
      have X11 := X10.trans Y11
      walk_at "go"
      refine fun p2 np2 => ?_
      have m2 : Same H11 (upd H11 p2 (.tup [.int (n + x)])) := same_new np2
      have D12 := D11.same m2
      have X12 := X11.trans (.of m2)
      have h12 := same_sqt m2 h11
      have k12 := same_sqt m2 k1
      have j12 : SqT K (upd H11 p2 (.tup [.int (n + x)])) p2 [.int (n + x)] := SqT.of upd_same
      show rCatA _ _ _ (upd H11 p2 (.tup [.int (n + x)])) _
      generalize upd H11 p2 (.tup [.int (n + x)]) = H12 at *
      refine ⟨_, _, _, _, rfl, rfl, k12, j12, Nat.le_of_ble_eq_true rfl, (fun z => nomatch z), (fun _ z => nomatch z), fun _ _ p5 np5 => ?_⟩
      have m3 : Same H12 (upd H12 p5 (.tup [.int e, .int t, .int (n + x)])) := same_new np5
      walk_at "go"
      refine ⟨_, _, rfl, same_sqt m3 h12, fun z => absurd z.1 (show ¬ HT.sIx 3 0 (some (2 + 1 : Int)) = 0 by decide), fun _ p4 np4 => ?_⟩
      have m4 : Same (upd H12 p5 (.tup [.int e, .int t, .int (n + x)])) (upd (upd H12 p5 (.tup [.int e, .int t, .int (n + x)])) p4 (.tup [])) := same_new np4
      refine ⟨_, _, _, _, rfl, rfl, SqT.of (xs := [.int e, .int t, .int (n + x)]) (m4 _ _ upd_same), SqT.of (xs := []) upd_same, Nat.le_of_ble_eq_true rfl, (fun z => nomatch z), fun _ _ => ?_, fun _ z => absurd rfl z⟩
      have m5 := m3.trans m4
      have D13 := D12.same m5
      have X13 := X12.trans (.of m5)
      have h13 := same_sqt m5 h12
      have hnear : SqT K (upd (upd H12 p5 (.tup [.int e, .int t, .int (n + x)])) p4 (.tup [])) p5 [.int e, .int t, .int (n + x)] := SqT.of (m4 _ _ upd_same)
      have hneq : spI l e t (n + x) ≠ spI l e t n := sp_ne_n x0 x1
      show gName 6 (.ref p5) _ (upd (upd H12 p5 (.tup [.int e, .int t, .int (n + x)])) p4 (.tup [])) _
      generalize upd (upd H12 p5 (.tup [.int e, .int t, .int (n + x)])) p4 (.tup []) = H13 at *
      walk_at "go"
      refine fun H14 S14 => ?_
      have h14 := same_sqt S14 h13
      walk_at "go"
      refine iteN (by simpa using hneq) ?_
      have o0 : 0 ≤ (l + (1 + m)) % 999999937 := Int.emod_nonneg _ (by decide)
      have o1 : (l + (1 + m)) % 999999937 < 999999937 := Int.emod_lt_of_pos _ (by decide)
      have on : (l + (1 + m)) % 999999937 ≠ l := by omega
      have oneq := sp_ne_l (e := e) (t := t) (n := n) l0 l1 o0 o1 on
      have sneq : stI ((l + (1 + m)) % 999999937) ≠ stI l := fun z => on (st_inj o0 o1 l0 l1 z)
      walk_at "go"
      refine fun H15 S15 => ?_
      have h15 := same_sqt S15 h14
      walk_at "go"
      refine iteN (by simpa using oneq) ?_
      walk_at "go"
      refine iteN (by simpa using sneq) ?_
      have g0 := spI_lo l e t n
      have g1 := spI_hi l e t n
      walk_at "go"
      refine fun H16 S16 => ?_
      have h16 := same_sqt S16 h15
      have D16 := ((D13.same S14).same S15).same S16
      walk_at "go"
      rw [tu_sp]
      refine iteNS rfl ?_
      walk_at "go"
      refine fun g H17 g0 g1 D17 X17 => ?_
      have h17 := X17.sqt hne h16
      walk_at "go"
      refine ⟨_, _, _, _, _, _, rfl, h17, l0, l1, e0, by omega, t0, by omega, g0, g1, fun H18 S18 => ?_⟩
      exact q _ (D17.same S18) (((((X13.trans (.of S14)).trans (.of S15)).trans (.of S16)).trans X17).trans (.of S18))

theorem ok_law (T : Tp K mg) : FnOk P w K mg base CX0 9 T.a_law T.d_law ["_law_script"] (sp_law K) := by
  refine T.F_law.ok sc_law ?len (fun cdv A outer s H vs Q E hr h => ?_)
  case len => intro vs H Q E h; obtain ⟨x, y, rfl, _⟩ := h; rfl
  obtain ⟨a, ns, rfl, hS, hl, q⟩ := h
  refine ⟨_, (pss_cons (ps_for PassesOwn.never rfl (pi_range1 rfl T.m_range (pa_cons (pe_callB (call_max2 rfl) (by rfl) T.m_max (by decide +kernel) (pa_cons pe_int (pa_cons (pe_callB (call_min2 rfl) (by rfl) T.m_min (by decide +kernel) (pa_cons pe_int (pa_cons (pe_callB call_len_seq (by rfl) T.m_len (by decide +kernel) (pa_cons (pv 0) pa_nil)) pa_nil))) pa_nil))) pa_nil)) (pg_name (i := 1) sc_law.nd rfl (Or.inl rfl)) (pss_cons (ps_set (i := 3) sc_law.nd rfl (Or.inl rfl) (pe_call (ok_l_dice T) (hr.mono (by decide)) (by rfl) T.g_l_dice T.F_l_dice.kp T.b_l_dice .nil pass0 (pa_cons (pv 0) (pa_cons (pv 1) pa_nil))))
      (pss_one (ps_if (PW.pt (pw_or (pt_not (pt_val (pe_call (ok_l_right T) (hr.mono (by decide)) (by rfl) T.g_l_right T.F_l_right.kp T.b_l_right .nil pass0 (pa_cons (pv 3) pa_nil)))) (pw_or1 (pt_not (pt_val (pe_call (ok_l_right T) (hr.mono (by decide)) (by rfl) T.g_l_right T.F_l_right.kp T.b_l_right .nil pass0 (pa_cons (pv 3) pa_nil))))))) (pss_one (ps_ret pe_bl)) pss_nil))))
    (pss_cons (ps_if (pt_cmpR (op_neD hr.units) (pe_lst (pa_cons (pe_call (ok_stirred T) (hr.mono (by decide)) (by rfl) T.g_stirred T.F_stirred.kp T.b_stirred .nil pass0 (pa_cons pe_int pa_nil)) (pa_cons (pe_call (ok_unstirred T) (hr.mono (by decide)) (by rfl) T.g_unstirred T.F_unstirred.kp T.b_unstirred .nil pass0 (pa_cons pe_int pa_nil)) (pa_cons (pe_call (ok_spot_number T) (hr.mono (by decide)) (by rfl) T.g_spot_number T.F_spot_number.kp T.b_spot_number .nil pass0 (pa_cons pe_int (pa_cons pe_int (pa_cons pe_int (pa_cons pe_int pa_nil))))) (pa_cons (pe_call (ok_spot_number T) (hr.mono (by decide)) (by rfl) T.g_spot_number T.F_spot_number.kp T.b_spot_number .nil pass0 (pa_cons pe_int (pa_cons pe_int (pa_cons pe_int (pa_cons pe_int pa_nil))))) (pa_cons (pe_call (ok_turn_of T) (hr.mono (by decide)) (by rfl) T.g_turn_of T.F_turn_of.kp T.b_turn_of .nil pass0 (pa_cons pe_int (pa_cons pe_int (pa_cons pe_int (pa_cons pe_int pa_nil))))) pa_nil)))))) (pe_lst (pa_cons pe_int (pa_cons pe_int (pa_cons pe_int (pa_cons pe_int (pa_cons pe_int pa_nil)))))) (nomark _)) (pss_one (ps_ret pe_bl)) pss_nil)
    (pss_cons (ps_setLc (i := 2) (own := [("_law_turn", 4)]) (g := gName 4) (tt := tYes) (by rfl) sc_law.nd rfl rfl (sw_true rfl rfl rfl (by decide +kernel)) (pi_range1 rfl T.m_range (pa_cons pe_int pa_nil)) (blkOk_by (own := [("_law_turn", 4)]) (N := N_law) (sc := defScope s_law) (by decide +kernel)) (fun _ _ _ _ _ => pg_name (i := 4) sc_law.nd rfl (Or.inl rfl)) (fun _ _ _ _ _ => pts_nil) (fun _ _ _ _ _ => (pe_call (ok_drawn T) (hr.mono (by decide)) (by rfl) T.g_drawn T.F_drawn.kp T.b_drawn .nil pass0 (pa_cons pe_int (pa_cons pe_int (pa_cons pe_int (pa_cons (pv 4) (pa_cons pe_int pa_nil))))))))
    (pss_one (ps_ret (pe_and (pe_cmpR (op_eqD hr.units) (pe_callB (cr_sortedSet rfl) (by rfl) T.m_sorted (by decide +kernel) (pa_cons (pe_callTy (cr_setList rfl) (by rfl) T.m_set (by decide +kernel) (pa_cons (pv 2) pa_nil)) pa_nil)) (pe_lst (pa_cons pe_int (pa_cons pe_int (pa_cons pe_int (pa_cons pe_int (pa_cons pe_int (pa_cons pe_int pa_nil))))))) (nomark _)) (pe_one (pe_cmpR (op_eqD hr.units) (pe_lst (pa_cons (pe_call (ok_drawn T) (hr.mono (by decide)) (by rfl) T.g_drawn T.F_drawn.kp T.b_drawn .nil pass0 (pa_cons pe_int (pa_cons pe_int (pa_cons pe_int (pa_cons pe_int (pa_cons pe_int pa_nil)))))) (pa_cons (pe_call (ok_drawn T) (hr.mono (by decide)) (by rfl) T.g_drawn T.F_drawn.kp T.b_drawn .nil pass0 (pa_cons pe_int (pa_cons pe_int (pa_cons pe_int (pa_cons pe_int (pa_cons pe_int pa_nil)))))) (pa_cons (pe_call (ok_drawn T) (hr.mono (by decide)) (by rfl) T.g_drawn T.F_drawn.kp T.b_drawn .nil pass0 (pa_cons pe_int (pa_cons pe_int (pa_cons pe_int (pa_cons pe_int (pa_cons pe_int pa_nil)))))) pa_nil)))) (pe_lst (pa_cons pe_int (pa_cons pe_int (pa_cons pe_int pa_nil)))) (nomark _))))))))), ?_⟩
  walk_at "go"
  refine for_range (lo := 0) (n := _) (fun i σ H' => Stp (∃ y1 y2 y3 y4, σ = [some (.ref a), y1, y2, y3, y4] ∧ SqL K H' a (ns.map V.int))) (.of ⟨none, none, none, none, rfl, hS⟩) (fun i σ H' hi hW => ?_) (fun σ H' hW => ?_)
  · obtain ⟨y1, y2, y3, y4, rfl, hS'⟩ := hW.get
    have hi3 : (i : Int) < 1000 := by
      revert hi
      rw [List.length_map]
      split <;> (try split) <;> intro hi <;> omega
    walk_at "go"
    refine ⟨_, _, _, rfl, hS', by omega, by omega, fun d H1 nd D1 S1 => ?_⟩
    walk_at "go"
    refine fun H2 D2 X2 => ?_
    walk_at "go"
    refine fun H3 D3 X3 => ?_
    walk_at "go"
    exact .of ⟨_, _, _, _, rfl, (((Ext.of S1).trans (X2.trans X3)).same nd).seq hS'⟩
  · obtain ⟨y1, y2, y3, y4, rfl, hS'⟩ := hW.get
    walk_at "go"
    have e1 : stI 2 = 271861 := by decide +kernel
    have e2 : unI 271861 = 2 := by rw [← e1]; exact un_st (by decide) (by decide)
    have e3 : spI 0 0 0 0 = 754833868 := by decide +kernel
    have e4 : spI 0 0 0 1 = 941293244 := by decide +kernel
    have e5 : tuI 0 0 0 941293244 = 1 := by rw [← e4, tu_sp]; rfl
    have e6 : spI 0 0 0 0 * 6 / 999999937 = 4 := by decide +kernel
    have e7 : spI 0 0 0 1 * 6 / 999999937 = 5 := by decide +kernel
    have e8 : spI 7 1 3 1 * 100 / 999999937 = 99 := by decide +kernel
    refine fun H2 S2 => ?_
    walk_at "go"
    refine fun H3 S3 => ?_
    walk_at "go"
    refine fun H4 S4 => ?_
    walk_at "go"
    refine fun p1 np1 => ?_
    walk_at "go"
    refine fun p2 np2 => ?_
    refine ⟨.list [.int (stI 2), .int (unI 271861), .int (spI 0 0 0 0), .int (spI 0 0 0 1), .int (tuI 0 0 0 941293244)], .list [.int 271861, .int 2, .int 754833868, .int 941293244, .int 1], by walk_at "dp", by walk_at "dp", rfl, rfl, ?_⟩
    rw [e1, e2, e3, e4, e5]
    walk_at "go"
    refine iteN (by decide +kernel) ?_
    walk_at "go"
    refine fun D nD => lc_range (lo := 0) (n := 300) (fun i H' => Stp (H' D = some (.lst ((List.range i).map fun k => V.int (drI k))))) (.of upd_same) (fun i H5 hi hW => ?_) (fun H5 hW => ?_)
    · have hD := hW.get
      walk_at "go"
      refine fun H6 S6 => ⟨_, S6 _ _ hD, ?_, .of ?_⟩
      · rw [List.length_map, List.length_range]
        exact small1000 (by omega)
      · rw [upd_same, List.range_succ, List.map_append]
        show some (HO.lst (_ ++ [V.int (spI 12345 0 0 (0 + (i : Int)) * 6 / 999999937)])) = _
        rw [Int.zero_add]
        rfl
    · have hD := hW.get
      have hD2 : SqL K H5 D (rollsI.map V.int) := SqL.of (by rw [hD]; unfold rollsI; rw [List.map_map]; rfl)
      walk_at "go"
      refine ⟨_, rollsI, rfl, hD2, by decide +kernel, fun p5 c np5 hc => ?_⟩
      walk_at "go"
      refine ⟨_, _, _, rfl, upd_same, Nat.lt_of_le_of_lt (hc 6 rolls_in) (by decide), fun out p6 hs hm hl6 np6 => ?_⟩
      have eo := rolls_sorted hs hm
      subst eo
      walk_at "go"
      refine fun p7 np7 => ?_
      refine ⟨.list [.int 0, .int 1, .int 2, .int 3, .int 4, .int 5], .list [.int 0, .int 1, .int 2, .int 3, .int 4, .int 5], by walk_at "dp", by walk_at "dp", rfl, rfl, ?_⟩
      walk_at "go"
      refine iteY (by decide +kernel) ?_
      walk_at "go"
      refine fun H6 S6 => ?_
      walk_at "go"
      refine fun H7 S7 => ?_
      walk_at "go"
      refine fun H8 S8 => ?_
      walk_at "go"
      refine fun p8 np8 => ?_
      walk_at "go"
      refine fun p9 np9 => ?_
      refine ⟨.list [.int (spI 0 0 0 0 * 6 / 999999937), .int (spI 0 0 0 1 * 6 / 999999937), .int (spI 7 1 3 1 * 100 / 999999937)], .list [.int 4, .int 5, .int 99], by walk_at "dp", by walk_at "dp", rfl, rfl, ?_⟩
      rw [e6, e7, e8]
      exact q _

end
theorem all_mk {l : PySem.W.OpenLaw} {w : World} {K : PySem.W.Frag} {h : Heap} {mg : Str → Option Value} {fa : Addr} (X : K.In h) (G : h.Ns mainGlobals mg) (hfa : mg "law" = some (.ref fa))
  {f0 : Addr} {od0 an0 : Option Addr} {sl0 : Array (Option Value)} {oc0 kV0 dc0 pm0 cd0 ct0 : Value}
  {f1 : Addr} {od1 an1 : Option Addr} {sl1 : Array (Option Value)} {oc1 kV1 dc1 pm1 cd1 ct1 : Value}
  {f2 : Addr} {od2 an2 : Option Addr} {sl2 : Array (Option Value)} {oc2 kV2 dc2 pm2 cd2 ct2 : Value}
  {f3 : Addr} {od3 an3 : Option Addr} {sl3 : Array (Option Value)} {oc3 kV3 dc3 pm3 cd3 ct3 : Value}
  {f4 : Addr} {od4 an4 : Option Addr} {sl4 : Array (Option Value)} {oc4 kV4 dc4 pm4 cd4 ct4 : Value}
  {f5 : Addr} {od5 an5 : Option Addr} {sl5 : Array (Option Value)} {oc5 kV5 dc5 pm5 cd5 ct5 : Value}
  {f6 : Addr} {od6 an6 : Option Addr} {sl6 : Array (Option Value)} {oc6 kV6 dc6 pm6 cd6 ct6 : Value}
  {f7 : Addr} {od7 an7 : Option Addr} {sl7 : Array (Option Value)} {oc7 kV7 dc7 pm7 cd7 ct7 : Value}
  {f8 : Addr} {od8 an8 : Option Addr} {sl8 : Array (Option Value)} {oc8 kV8 dc8 pm8 cd8 ct8 : Value}
  {f9 : Addr} {od9 an9 : Option Addr} {sl9 : Array (Option Value)} {oc9 kV9 dc9 pm9 cd9 ct9 : Value}
  {f10 : Addr} {od10 an10 : Option Addr} {sl10 : Array (Option Value)} {oc10 kV10 dc10 pm10 cd10 ct10 : Value}
  {f11 : Addr} {od11 an11 : Option Addr} {sl11 : Array (Option Value)} {oc11 kV11 dc11 pm11 cd11 ct11 : Value}
  {f12 : Addr} {od12 an12 : Option Addr} {sl12 : Array (Option Value)} {oc12 kV12 dc12 pm12 cd12 ct12 : Value}
  {f13 : Addr} {od13 an13 : Option Addr} {sl13 : Array (Option Value)} {oc13 kV13 dc13 pm13 cd13 ct13 : Value}
  {f14 : Addr} {od14 an14 : Option Addr} {sl14 : Array (Option Value)} {oc14 kV14 dc14 pm14 cd14 ct14 : Value}
  {f15 : Addr} {od15 an15 : Option Addr} {sl15 : Array (Option Value)} {oc15 kV15 dc15 pm15 cd15 ct15 : Value}
  {f16 : Addr} {od16 an16 : Option Addr} {sl16 : Array (Option Value)} {oc16 kV16 dc16 pm16 cd16 ct16 : Value}
  {f17 : Addr} {od17 an17 : Option Addr} {sl17 : Array (Option Value)} {oc17 kV17 dc17 pm17 cd17 ct17 : Value}
  {f18 : Addr} {od18 an18 : Option Addr} {sl18 : Array (Option Value)} {oc18 kV18 dc18 pm18 cd18 ct18 : Value}
  {f19 : Addr} {od19 an19 : Option Addr} {sl19 : Array (Option Value)} {oc19 kV19 dc19 pm19 cd19 ct19 : Value}
  {f20 : Addr} {od20 an20 : Option Addr} {sl20 : Array (Option Value)} {oc20 kV20 dc20 pm20 cd20 ct20 : Value}
  {f21 : Addr} {od21 an21 : Option Addr} {sl21 : Array (Option Value)} {oc21 kV21 dc21 pm21 cd21 ct21 : Value}
  {f22 : Addr} {od22 an22 : Option Addr} {sl22 : Array (Option Value)} {oc22 kV22 dc22 pm22 cd22 ct22 : Value}
  {f23 : Addr} {od23 an23 : Option Addr} {sl23 : Array (Option Value)} {oc23 kV23 dc23 pm23 cd23 ct23 : Value}
  {f24 : Addr} {od24 an24 : Option Addr} {sl24 : Array (Option Value)} {oc24 kV24 dc24 pm24 cd24 ct24 : Value}
  {f25 : Addr} {od25 an25 : Option Addr} {sl25 : Array (Option Value)} {oc25 kV25 dc25 pm25 cd25 ct25 : Value}
  {f26 : Addr} {od26 an26 : Option Addr} {sl26 : Array (Option Value)} {oc26 kV26 dc26 pm26 cd26 ct26 : Value}
  {f27 : Addr} {od27 an27 : Option Addr} {sl27 : Array (Option Value)} {oc27 kV27 dc27 pm27 cd27 ct27 : Value}
  {f28 : Addr} {od28 an28 : Option Addr} {sl28 : Array (Option Value)} {oc28 kV28 dc28 pm28 cd28 ct28 : Value}
  {f29 : Addr} {od29 an29 : Option Addr} {sl29 : Array (Option Value)} {oc29 kV29 dc29 pm29 cd29 ct29 : Value}
  {f30 : Addr} {od30 an30 : Option Addr} {sl30 : Array (Option Value)} {oc30 kV30 dc30 pm30 cd30 ct30 : Value}
  {f31 : Addr} {od31 an31 : Option Addr} {sl31 : Array (Option Value)} {oc31 kV31 dc31 pm31 cd31 ct31 : Value}
  {t_GREATEST : Tok}
  {t_MODULUS : Tok}
  {t_SUMMAND : Tok}
  {t_MAX_SIDES : Tok}
  {t_ROOT_POWER : Tok}
  (a0 : PySem.W.nsIn K mainGlobals "is_whole" = some (some (.ref f0))) (l0 : K.lookup f0 = some ⟨oc0, od0, .func (PySem.W.fnOf "is_whole" "is_whole" (defArgs s_is_whole) (defBody s_is_whole) (defScope s_is_whole) .none kV0 dc0 pm0 an0 cd0 ct0), sl0⟩) (c0 : PySem.W.codeIn K cd0 "is_whole" = true) (k0 : PySem.W.keepIn K (.ref f0) = true)
  (a1 : PySem.W.nsIn K mainGlobals "is_short" = some (some (.ref f1))) (l1 : K.lookup f1 = some ⟨oc1, od1, .func (PySem.W.fnOf "is_short" "is_short" (defArgs s_is_short) (defBody s_is_short) (defScope s_is_short) .none kV1 dc1 pm1 an1 cd1 ct1), sl1⟩) (c1 : PySem.W.codeIn K cd1 "is_short" = true) (k1 : PySem.W.keepIn K (.ref f1) = true)
  (a2 : PySem.W.nsIn K mainGlobals "is_from" = some (some (.ref f2))) (l2 : K.lookup f2 = some ⟨oc2, od2, .func (PySem.W.fnOf "is_from" "is_from" (defArgs s_is_from) (defBody s_is_from) (defScope s_is_from) .none kV2 dc2 pm2 an2 cd2 ct2), sl2⟩) (c2 : PySem.W.codeIn K cd2 "is_from" = true) (k2 : PySem.W.keepIn K (.ref f2) = true)
  (a3 : PySem.W.nsIn K mainGlobals "is_tick" = some (some (.ref f3))) (l3 : K.lookup f3 = some ⟨oc3, od3, .func (PySem.W.fnOf "is_tick" "is_tick" (defArgs s_is_tick) (defBody s_is_tick) (defScope s_is_tick) .none kV3 dc3 pm3 an3 cd3 ct3), sl3⟩) (c3 : PySem.W.codeIn K cd3 "is_tick" = true) (k3 : PySem.W.keepIn K (.ref f3) = true)
  (a4 : PySem.W.nsIn K mainGlobals "require_from" = some (some (.ref f4))) (l4 : K.lookup f4 = some ⟨oc4, od4, .func (PySem.W.fnOf "require_from" "require_from" (defArgs s_require_from) (defBody s_require_from) (defScope s_require_from) .none kV4 dc4 pm4 an4 cd4 ct4), sl4⟩) (c4 : PySem.W.codeIn K cd4 "require_from" = true) (k4 : PySem.W.keepIn K (.ref f4) = true)
  (a5 : PySem.W.nsIn K mainGlobals "require_tick" = some (some (.ref f5))) (l5 : K.lookup f5 = some ⟨oc5, od5, .func (PySem.W.fnOf "require_tick" "require_tick" (defArgs s_require_tick) (defBody s_require_tick) (defScope s_require_tick) .none kV5 dc5 pm5 an5 cd5 ct5), sl5⟩) (c5 : PySem.W.codeIn K cd5 "require_tick" = true) (k5 : PySem.W.keepIn K (.ref f5) = true)
  (a6 : PySem.W.nsIn K mainGlobals "power" = some (some (.ref f6))) (l6 : K.lookup f6 = some ⟨oc6, od6, .func (PySem.W.fnOf "power" "power" (defArgs s_power) (defBody s_power) (defScope s_power) .none kV6 dc6 pm6 an6 cd6 ct6), sl6⟩) (c6 : PySem.W.codeIn K cd6 "power" = true) (k6 : PySem.W.keepIn K (.ref f6) = true)
  (a7 : PySem.W.nsIn K mainGlobals "stirred_in" = some (some (.ref f7))) (l7 : K.lookup f7 = some ⟨oc7, od7, .func (PySem.W.fnOf "stirred_in" "stirred_in" (defArgs s_stirred_in) (defBody s_stirred_in) (defScope s_stirred_in) .none kV7 dc7 pm7 an7 cd7 ct7), sl7⟩) (c7 : PySem.W.codeIn K cd7 "stirred_in" = true) (k7 : PySem.W.keepIn K (.ref f7) = true)
  (a8 : PySem.W.nsIn K mainGlobals "stirred_at" = some (some (.ref f8))) (l8 : K.lookup f8 = some ⟨oc8, od8, .func (PySem.W.fnOf "stirred_at" "stirred_at" (defArgs s_stirred_at) (defBody s_stirred_at) (defScope s_stirred_at) .none kV8 dc8 pm8 an8 cd8 ct8), sl8⟩) (c8 : PySem.W.codeIn K cd8 "stirred_at" = true) (k8 : PySem.W.keepIn K (.ref f8) = true)
  (a9 : PySem.W.nsIn K mainGlobals "spot_in" = some (some (.ref f9))) (l9 : K.lookup f9 = some ⟨oc9, od9, .func (PySem.W.fnOf "spot_in" "spot_in" (defArgs s_spot_in) (defBody s_spot_in) (defScope s_spot_in) .none kV9 dc9 pm9 an9 cd9 ct9), sl9⟩) (c9 : PySem.W.codeIn K cd9 "spot_in" = true) (k9 : PySem.W.keepIn K (.ref f9) = true)
  (a10 : PySem.W.nsIn K mainGlobals "unstirred_in" = some (some (.ref f10))) (l10 : K.lookup f10 = some ⟨oc10, od10, .func (PySem.W.fnOf "unstirred_in" "unstirred_in" (defArgs s_unstirred_in) (defBody s_unstirred_in) (defScope s_unstirred_in) .none kV10 dc10 pm10 an10 cd10 ct10), sl10⟩) (c10 : PySem.W.codeIn K cd10 "unstirred_in" = true) (k10 : PySem.W.keepIn K (.ref f10) = true)
  (a11 : PySem.W.nsIn K mainGlobals "drawn_in" = some (some (.ref f11))) (l11 : K.lookup f11 = some ⟨oc11, od11, .func (PySem.W.fnOf "drawn_in" "drawn_in" (defArgs s_drawn_in) (defBody s_drawn_in) (defScope s_drawn_in) .none kV11 dc11 pm11 an11 cd11 ct11), sl11⟩) (c11 : PySem.W.codeIn K cd11 "drawn_in" = true) (k11 : PySem.W.keepIn K (.ref f11) = true)
  (a12 : PySem.W.nsIn K mainGlobals "is_luck_in" = some (some (.ref f12))) (l12 : K.lookup f12 = some ⟨oc12, od12, .func (PySem.W.fnOf "is_luck_in" "is_luck_in" (defArgs s_is_luck_in) (defBody s_is_luck_in) (defScope s_is_luck_in) .none kV12 dc12 pm12 an12 cd12 ct12), sl12⟩) (c12 : PySem.W.codeIn K cd12 "is_luck_in" = true) (k12 : PySem.W.keepIn K (.ref f12) = true)
  (a13 : PySem.W.nsIn K mainGlobals "require_luck" = some (some (.ref f13))) (l13 : K.lookup f13 = some ⟨oc13, od13, .func (PySem.W.fnOf "require_luck" "require_luck" (defArgs s_require_luck) (defBody s_require_luck) (defScope s_require_luck) .none kV13 dc13 pm13 an13 cd13 ct13), sl13⟩) (c13 : PySem.W.codeIn K cd13 "require_luck" = true) (k13 : PySem.W.keepIn K (.ref f13) = true)
  (a14 : PySem.W.nsIn K mainGlobals "require_spot" = some (some (.ref f14))) (l14 : K.lookup f14 = some ⟨oc14, od14, .func (PySem.W.fnOf "require_spot" "require_spot" (defArgs s_require_spot) (defBody s_require_spot) (defScope s_require_spot) .none kV14 dc14 pm14 an14 cd14 ct14), sl14⟩) (c14 : PySem.W.codeIn K cd14 "require_spot" = true) (k14 : PySem.W.keepIn K (.ref f14) = true)
  (a15 : PySem.W.nsIn K mainGlobals "stirred" = some (some (.ref f15))) (l15 : K.lookup f15 = some ⟨oc15, od15, .func (PySem.W.fnOf "stirred" "stirred" (defArgs s_stirred) (defBody s_stirred) (defScope s_stirred) .none kV15 dc15 pm15 an15 cd15 ct15), sl15⟩) (c15 : PySem.W.codeIn K cd15 "stirred" = true) (k15 : PySem.W.keepIn K (.ref f15) = true)
  (a16 : PySem.W.nsIn K mainGlobals "unstirred" = some (some (.ref f16))) (l16 : K.lookup f16 = some ⟨oc16, od16, .func (PySem.W.fnOf "unstirred" "unstirred" (defArgs s_unstirred) (defBody s_unstirred) (defScope s_unstirred) .none kV16 dc16 pm16 an16 cd16 ct16), sl16⟩) (c16 : PySem.W.codeIn K cd16 "unstirred" = true) (k16 : PySem.W.keepIn K (.ref f16) = true)
  (a17 : PySem.W.nsIn K mainGlobals "spot_number" = some (some (.ref f17))) (l17 : K.lookup f17 = some ⟨oc17, od17, .func (PySem.W.fnOf "spot_number" "spot_number" (defArgs s_spot_number) (defBody s_spot_number) (defScope s_spot_number) .none kV17 dc17 pm17 an17 cd17 ct17), sl17⟩) (c17 : PySem.W.codeIn K cd17 "spot_number" = true) (k17 : PySem.W.keepIn K (.ref f17) = true)
  (a18 : PySem.W.nsIn K mainGlobals "turn_of" = some (some (.ref f18))) (l18 : K.lookup f18 = some ⟨oc18, od18, .func (PySem.W.fnOf "turn_of" "turn_of" (defArgs s_turn_of) (defBody s_turn_of) (defScope s_turn_of) .none kV18 dc18 pm18 an18 cd18 ct18), sl18⟩) (c18 : PySem.W.codeIn K cd18 "turn_of" = true) (k18 : PySem.W.keepIn K (.ref f18) = true)
  (a19 : PySem.W.nsIn K mainGlobals "drawn" = some (some (.ref f19))) (l19 : K.lookup f19 = some ⟨oc19, od19, .func (PySem.W.fnOf "drawn" "drawn" (defArgs s_drawn) (defBody s_drawn) (defScope s_drawn) .none kV19 dc19 pm19 an19 cd19 ct19), sl19⟩) (c19 : PySem.W.codeIn K cd19 "drawn" = true) (k19 : PySem.W.keepIn K (.ref f19) = true)
  (a20 : PySem.W.nsIn K mainGlobals "_law_dice" = some (some (.ref f20))) (l20 : K.lookup f20 = some ⟨oc20, od20, .func (PySem.W.fnOf "_law_dice" "_law_dice" (defArgs s_l_dice) (defBody s_l_dice) (defScope s_l_dice) .none kV20 dc20 pm20 an20 cd20 ct20), sl20⟩) (c20 : PySem.W.codeIn K cd20 "_law_dice" = true) (k20 : PySem.W.keepIn K (.ref f20) = true)
  (a21 : PySem.W.nsIn K mainGlobals "_law_roll" = some (some (.ref f21))) (l21 : K.lookup f21 = some ⟨oc21, od21, .func (PySem.W.fnOf "_law_roll" "_law_roll" (defArgs s_l_roll) (defBody s_l_roll) (defScope s_l_roll) .none kV21 dc21 pm21 an21 cd21 ct21), sl21⟩) (c21 : PySem.W.codeIn K cd21 "_law_roll" = true) (k21 : PySem.W.keepIn K (.ref f21) = true)
  (a22 : PySem.W.nsIn K mainGlobals "_law_pick" = some (some (.ref f22))) (l22 : K.lookup f22 = some ⟨oc22, od22, .func (PySem.W.fnOf "_law_pick" "_law_pick" (defArgs s_l_pick) (defBody s_l_pick) (defScope s_l_pick) .none kV22 dc22 pm22 an22 cd22 ct22), sl22⟩) (c22 : PySem.W.codeIn K cd22 "_law_pick" = true) (k22 : PySem.W.keepIn K (.ref f22) = true)
  (a23 : PySem.W.nsIn K mainGlobals "_law_lk_stirred" = some (some (.ref f23))) (l23 : K.lookup f23 = some ⟨oc23, od23, .func (PySem.W.fnOf "_law_lk_stirred" "_law_lk_stirred" (defArgs s_l_lk_stirred) (defBody s_l_lk_stirred) (defScope s_l_lk_stirred) .none kV23 dc23 pm23 an23 cd23 ct23), sl23⟩) (c23 : PySem.W.codeIn K cd23 "_law_lk_stirred" = true) (k23 : PySem.W.keepIn K (.ref f23) = true)
  (a24 : PySem.W.nsIn K mainGlobals "_law_luck_drawn" = some (some (.ref f24))) (l24 : K.lookup f24 = some ⟨oc24, od24, .func (PySem.W.fnOf "_law_luck_drawn" "_law_luck_drawn" (defArgs s_l_luck_drawn) (defBody s_l_luck_drawn) (defScope s_l_luck_drawn) .none kV24 dc24 pm24 an24 cd24 ct24), sl24⟩) (c24 : PySem.W.codeIn K cd24 "_law_luck_drawn" = true) (k24 : PySem.W.keepIn K (.ref f24) = true)
  (a25 : PySem.W.nsIn K mainGlobals "_law_index_drawn" = some (some (.ref f25))) (l25 : K.lookup f25 = some ⟨oc25, od25, .func (PySem.W.fnOf "_law_index_drawn" "_law_index_drawn" (defArgs s_l_index_drawn) (defBody s_l_index_drawn) (defScope s_l_index_drawn) .none kV25 dc25 pm25 an25 cd25 ct25), sl25⟩) (c25 : PySem.W.codeIn K cd25 "_law_index_drawn" = true) (k25 : PySem.W.keepIn K (.ref f25) = true)
  (a26 : PySem.W.nsIn K mainGlobals "_law_spot" = some (some (.ref f26))) (l26 : K.lookup f26 = some ⟨oc26, od26, .func (PySem.W.fnOf "_law_spot" "_law_spot" (defArgs s_l_spot) (defBody s_l_spot) (defScope s_l_spot) .none kV26 dc26 pm26 an26 cd26 ct26), sl26⟩) (c26 : PySem.W.codeIn K cd26 "_law_spot" = true) (k26 : PySem.W.keepIn K (.ref f26) = true)
  (a27 : PySem.W.nsIn K mainGlobals "_law_stirred_right" = some (some (.ref f27))) (l27 : K.lookup f27 = some ⟨oc27, od27, .func (PySem.W.fnOf "_law_stirred_right" "_law_stirred_right" (defArgs s_l_stirred_right) (defBody s_l_stirred_right) (defScope s_l_stirred_right) .none kV27 dc27 pm27 an27 cd27 ct27), sl27⟩) (c27 : PySem.W.codeIn K cd27 "_law_stirred_right" = true) (k27 : PySem.W.keepIn K (.ref f27) = true)
  (a28 : PySem.W.nsIn K mainGlobals "_law_turn_right" = some (some (.ref f28))) (l28 : K.lookup f28 = some ⟨oc28, od28, .func (PySem.W.fnOf "_law_turn_right" "_law_turn_right" (defArgs s_l_turn_right) (defBody s_l_turn_right) (defScope s_l_turn_right) .none kV28 dc28 pm28 an28 cd28 ct28), sl28⟩) (c28 : PySem.W.codeIn K cd28 "_law_turn_right" = true) (k28 : PySem.W.keepIn K (.ref f28) = true)
  (a29 : PySem.W.nsIn K mainGlobals "_law_draws_right" = some (some (.ref f29))) (l29 : K.lookup f29 = some ⟨oc29, od29, .func (PySem.W.fnOf "_law_draws_right" "_law_draws_right" (defArgs s_l_draws_right) (defBody s_l_draws_right) (defScope s_l_draws_right) .none kV29 dc29 pm29 an29 cd29 ct29), sl29⟩) (c29 : PySem.W.codeIn K cd29 "_law_draws_right" = true) (k29 : PySem.W.keepIn K (.ref f29) = true)
  (a30 : PySem.W.nsIn K mainGlobals "_law_right" = some (some (.ref f30))) (l30 : K.lookup f30 = some ⟨oc30, od30, .func (PySem.W.fnOf "_law_right" "_law_right" (defArgs s_l_right) (defBody s_l_right) (defScope s_l_right) .none kV30 dc30 pm30 an30 cd30 ct30), sl30⟩) (c30 : PySem.W.codeIn K cd30 "_law_right" = true) (k30 : PySem.W.keepIn K (.ref f30) = true)
  (a31 : PySem.W.nsIn K mainGlobals "law" = some (some (.ref f31))) (l31 : K.lookup f31 = some ⟨oc31, od31, .func (PySem.W.fnOf "law" "law" (defArgs s_law) (defBody s_law) (defScope s_law) .none kV31 dc31 pm31 an31 cd31 ct31), sl31⟩) (c31 : PySem.W.codeIn K cd31 "law" = true) (k31 : PySem.W.keepIn K (.ref f31) = true)
  (z_abs : PySem.W.nsIn K mainGlobals "abs" = some none)
  (z_bool : PySem.W.nsIn K mainGlobals "bool" = some none)
  (z_int : PySem.W.nsIn K mainGlobals "int" = some none)
  (z_isinstance : PySem.W.nsIn K mainGlobals "isinstance" = some none)
  (z_len : PySem.W.nsIn K mainGlobals "len" = some none)
  (z_max : PySem.W.nsIn K mainGlobals "max" = some none)
  (z_min : PySem.W.nsIn K mainGlobals "min" = some none)
  (z_range : PySem.W.nsIn K mainGlobals "range" = some none)
  (z_set : PySem.W.nsIn K mainGlobals "set" = some none)
  (z_sorted : PySem.W.nsIn K mainGlobals "sorted" = some none)
  (z_tuple : PySem.W.nsIn K mainGlobals "tuple" = some none)
  (z_GREATEST : PySem.W.nsIn K mainGlobals "GREATEST" = some (some (.int 1000000000000000000000000000000000000000000000000000000000000 t_GREATEST)))
  (z_MODULUS : PySem.W.nsIn K mainGlobals "MODULUS" = some (some (.int 999999937 t_MODULUS)))
  (z_SUMMAND : PySem.W.nsIn K mainGlobals "SUMMAND" = some (some (.int 271829 t_SUMMAND)))
  (z_MAX_SIDES : PySem.W.nsIn K mainGlobals "MAX_SIDES" = some (some (.int 1000 t_MAX_SIDES)))
  (z_ROOT_POWER : PySem.W.nsIn K mainGlobals "ROOT_POWER" = some (some (.int 799999949 t_ROOT_POWER))) :
  ∃ fd : FuncData, (∀ (s : Shared) (v : Value), BindsTo s fd ⟨[v], []⟩ [("_law_script", v)]) ∧ ∀ base : Heap, K.In base → base.Ns mainGlobals mg → FnOk l.prog w K mg base CX0 9 fa fd ["_law_script"] (sp_law K) := by
  have e := hfa.symm.trans (PySem.W.mg_of X G a31)
  have e2 : f31 = fa := by cases e; rfl
  subst e2
  let T : Tp K mg := {
    a_is_whole := f0, d_is_whole := _, F_is_whole := fun_mk (st := s_is_whole) l0 c0 k0, g_is_whole := PySem.W.mg_of X G a0, b_is_whole := (fun_mk (st := s_is_whole) l0 c0 k0).binds fun _ _ _ _ _ _ us hl => match us, hl with | [_], _ => rfl,
    a_is_short := f1, d_is_short := _, F_is_short := fun_mk (st := s_is_short) l1 c1 k1, g_is_short := PySem.W.mg_of X G a1, b_is_short := (fun_mk (st := s_is_short) l1 c1 k1).binds fun _ _ _ _ _ _ us hl => match us, hl with | [_], _ => rfl,
    a_is_from := f2, d_is_from := _, F_is_from := fun_mk (st := s_is_from) l2 c2 k2, g_is_from := PySem.W.mg_of X G a2, b_is_from := (fun_mk (st := s_is_from) l2 c2 k2).binds fun _ _ _ _ _ _ us hl => match us, hl with | [_, _, _], _ => rfl,
    a_is_tick := f3, d_is_tick := _, F_is_tick := fun_mk (st := s_is_tick) l3 c3 k3, g_is_tick := PySem.W.mg_of X G a3, b_is_tick := (fun_mk (st := s_is_tick) l3 c3 k3).binds fun _ _ _ _ _ _ us hl => match us, hl with | [_], _ => rfl,
    a_require_from := f4, d_require_from := _, F_require_from := fun_mk (st := s_require_from) l4 c4 k4, g_require_from := PySem.W.mg_of X G a4, b_require_from := (fun_mk (st := s_require_from) l4 c4 k4).binds fun _ _ _ _ _ _ us hl => match us, hl with | [_, _, _], _ => rfl,
    a_require_tick := f5, d_require_tick := _, F_require_tick := fun_mk (st := s_require_tick) l5 c5 k5, g_require_tick := PySem.W.mg_of X G a5, b_require_tick := (fun_mk (st := s_require_tick) l5 c5 k5).binds fun _ _ _ _ _ _ us hl => match us, hl with | [_], _ => rfl,
    a_power := f6, d_power := _, F_power := fun_mk (st := s_power) l6 c6 k6, g_power := PySem.W.mg_of X G a6, b_power := (fun_mk (st := s_power) l6 c6 k6).binds fun _ _ _ _ _ _ us hl => match us, hl with | [_, _], _ => rfl,
    a_stirred_in := f7, d_stirred_in := _, F_stirred_in := fun_mk (st := s_stirred_in) l7 c7 k7, g_stirred_in := PySem.W.mg_of X G a7, b_stirred_in := (fun_mk (st := s_stirred_in) l7 c7 k7).binds fun _ _ _ _ _ _ us hl => match us, hl with | [_], _ => rfl,
    a_stirred_at := f8, d_stirred_at := _, F_stirred_at := fun_mk (st := s_stirred_at) l8 c8 k8, g_stirred_at := PySem.W.mg_of X G a8, b_stirred_at := (fun_mk (st := s_stirred_at) l8 c8 k8).binds fun _ _ _ _ _ _ us hl => match us, hl with | [_, _, _], _ => rfl,
    a_spot_in := f9, d_spot_in := _, F_spot_in := fun_mk (st := s_spot_in) l9 c9 k9, g_spot_in := PySem.W.mg_of X G a9, b_spot_in := (fun_mk (st := s_spot_in) l9 c9 k9).binds fun _ _ _ _ _ _ us hl => match us, hl with | [_, _, _, _], _ => rfl,
    a_unstirred_in := f10, d_unstirred_in := _, F_unstirred_in := fun_mk (st := s_unstirred_in) l10 c10 k10, g_unstirred_in := PySem.W.mg_of X G a10, b_unstirred_in := (fun_mk (st := s_unstirred_in) l10 c10 k10).binds fun _ _ _ _ _ _ us hl => match us, hl with | [_], _ => rfl,
    a_drawn_in := f11, d_drawn_in := _, F_drawn_in := fun_mk (st := s_drawn_in) l11 c11 k11, g_drawn_in := PySem.W.mg_of X G a11, b_drawn_in := (fun_mk (st := s_drawn_in) l11 c11 k11).binds fun _ _ _ _ _ _ us hl => match us, hl with | [_, _, _, _, _], _ => rfl,
    a_is_luck_in := f12, d_is_luck_in := _, F_is_luck_in := fun_mk (st := s_is_luck_in) l12 c12 k12, g_is_luck_in := PySem.W.mg_of X G a12, b_is_luck_in := (fun_mk (st := s_is_luck_in) l12 c12 k12).binds fun _ _ _ _ _ _ us hl => match us, hl with | [_], _ => rfl,
    a_require_luck := f13, d_require_luck := _, F_require_luck := fun_mk (st := s_require_luck) l13 c13 k13, g_require_luck := PySem.W.mg_of X G a13, b_require_luck := (fun_mk (st := s_require_luck) l13 c13 k13).binds fun _ _ _ _ _ _ us hl => match us, hl with | [_], _ => rfl,
    a_require_spot := f14, d_require_spot := _, F_require_spot := fun_mk (st := s_require_spot) l14 c14 k14, g_require_spot := PySem.W.mg_of X G a14, b_require_spot := (fun_mk (st := s_require_spot) l14 c14 k14).binds fun _ _ _ _ _ _ us hl => match us, hl with | [_, _, _], _ => rfl,
    a_stirred := f15, d_stirred := _, F_stirred := fun_mk (st := s_stirred) l15 c15 k15, g_stirred := PySem.W.mg_of X G a15, b_stirred := (fun_mk (st := s_stirred) l15 c15 k15).binds fun _ _ _ _ _ _ us hl => match us, hl with | [_], _ => rfl,
    a_unstirred := f16, d_unstirred := _, F_unstirred := fun_mk (st := s_unstirred) l16 c16 k16, g_unstirred := PySem.W.mg_of X G a16, b_unstirred := (fun_mk (st := s_unstirred) l16 c16 k16).binds fun _ _ _ _ _ _ us hl => match us, hl with | [_], _ => rfl,
    a_spot_number := f17, d_spot_number := _, F_spot_number := fun_mk (st := s_spot_number) l17 c17 k17, g_spot_number := PySem.W.mg_of X G a17, b_spot_number := (fun_mk (st := s_spot_number) l17 c17 k17).binds fun _ _ _ _ _ _ us hl => match us, hl with | [_, _, _, _], _ => rfl,
    a_turn_of := f18, d_turn_of := _, F_turn_of := fun_mk (st := s_turn_of) l18 c18 k18, g_turn_of := PySem.W.mg_of X G a18, b_turn_of := (fun_mk (st := s_turn_of) l18 c18 k18).binds fun _ _ _ _ _ _ us hl => match us, hl with | [_, _, _, _], _ => rfl,
    a_drawn := f19, d_drawn := _, F_drawn := fun_mk (st := s_drawn) l19 c19 k19, g_drawn := PySem.W.mg_of X G a19, b_drawn := (fun_mk (st := s_drawn) l19 c19 k19).binds fun _ _ _ _ _ _ us hl => match us, hl with | [_, _, _, _, _], _ => rfl,
    a_l_dice := f20, d_l_dice := _, F_l_dice := fun_mk (st := s_l_dice) l20 c20 k20, g_l_dice := PySem.W.mg_of X G a20, b_l_dice := (fun_mk (st := s_l_dice) l20 c20 k20).binds fun _ _ _ _ _ _ us hl => match us, hl with | [_, _], _ => rfl,
    a_l_roll := f21, d_l_roll := _, F_l_roll := fun_mk (st := s_l_roll) l21 c21 k21, g_l_roll := PySem.W.mg_of X G a21, b_l_roll := (fun_mk (st := s_l_roll) l21 c21 k21).binds fun _ _ _ _ _ _ us hl => match us, hl with | [_, _], _ => rfl,
    a_l_pick := f22, d_l_pick := _, F_l_pick := fun_mk (st := s_l_pick) l22 c22 k22, g_l_pick := PySem.W.mg_of X G a22, b_l_pick := (fun_mk (st := s_l_pick) l22 c22 k22).binds fun _ _ _ _ _ _ us hl => match us, hl with | [_, _], _ => rfl,
    a_l_lk_stirred := f23, d_l_lk_stirred := _, F_l_lk_stirred := fun_mk (st := s_l_lk_stirred) l23 c23 k23, g_l_lk_stirred := PySem.W.mg_of X G a23, b_l_lk_stirred := (fun_mk (st := s_l_lk_stirred) l23 c23 k23).binds fun _ _ _ _ _ _ us hl => match us, hl with | [_], _ => rfl,
    a_l_luck_drawn := f24, d_l_luck_drawn := _, F_l_luck_drawn := fun_mk (st := s_l_luck_drawn) l24 c24 k24, g_l_luck_drawn := PySem.W.mg_of X G a24, b_l_luck_drawn := (fun_mk (st := s_l_luck_drawn) l24 c24 k24).binds fun _ _ _ _ _ _ us hl => match us, hl with | [_], _ => rfl,
    a_l_index_drawn := f25, d_l_index_drawn := _, F_l_index_drawn := fun_mk (st := s_l_index_drawn) l25 c25 k25, g_l_index_drawn := PySem.W.mg_of X G a25, b_l_index_drawn := (fun_mk (st := s_l_index_drawn) l25 c25 k25).binds fun _ _ _ _ _ _ us hl => match us, hl with | [_], _ => rfl,
    a_l_spot := f26, d_l_spot := _, F_l_spot := fun_mk (st := s_l_spot) l26 c26 k26, g_l_spot := PySem.W.mg_of X G a26, b_l_spot := (fun_mk (st := s_l_spot) l26 c26 k26).binds fun _ _ _ _ _ _ us hl => match us, hl with | [_, _], _ => rfl,
    a_l_stirred_right := f27, d_l_stirred_right := _, F_l_stirred_right := fun_mk (st := s_l_stirred_right) l27 c27 k27, g_l_stirred_right := PySem.W.mg_of X G a27, b_l_stirred_right := (fun_mk (st := s_l_stirred_right) l27 c27 k27).binds fun _ _ _ _ _ _ us hl => match us, hl with | [_], _ => rfl,
    a_l_turn_right := f28, d_l_turn_right := _, F_l_turn_right := fun_mk (st := s_l_turn_right) l28 c28 k28, g_l_turn_right := PySem.W.mg_of X G a28, b_l_turn_right := (fun_mk (st := s_l_turn_right) l28 c28 k28).binds fun _ _ _ _ _ _ us hl => match us, hl with | [_, _, _], _ => rfl,
    a_l_draws_right := f29, d_l_draws_right := _, F_l_draws_right := fun_mk (st := s_l_draws_right) l29 c29 k29, g_l_draws_right := PySem.W.mg_of X G a29, b_l_draws_right := (fun_mk (st := s_l_draws_right) l29 c29 k29).binds fun _ _ _ _ _ _ us hl => match us, hl with | [_, _, _], _ => rfl,
    a_l_right := f30, d_l_right := _, F_l_right := fun_mk (st := s_l_right) l30 c30 k30, g_l_right := PySem.W.mg_of X G a30, b_l_right := (fun_mk (st := s_l_right) l30 c30 k30).binds fun _ _ _ _ _ _ us hl => match us, hl with | [_], _ => rfl,
    a_law := f31, d_law := _, F_law := fun_mk (st := s_law) l31 c31 k31, g_law := PySem.W.mg_of X G a31, b_law := (fun_mk (st := s_law) l31 c31 k31).binds fun _ _ _ _ _ _ us hl => match us, hl with | [_], _ => rfl,
    m_abs := PySem.W.mg_none_of X G z_abs,
    m_bool := PySem.W.mg_none_of X G z_bool,
    m_int := PySem.W.mg_none_of X G z_int,
    m_isinstance := PySem.W.mg_none_of X G z_isinstance,
    m_len := PySem.W.mg_none_of X G z_len,
    m_max := PySem.W.mg_none_of X G z_max,
    m_min := PySem.W.mg_none_of X G z_min,
    m_range := PySem.W.mg_none_of X G z_range,
    m_set := PySem.W.mg_none_of X G z_set,
    m_sorted := PySem.W.mg_none_of X G z_sorted,
    m_tuple := PySem.W.mg_none_of X G z_tuple,
    t_GREATEST := t_GREATEST, c_GREATEST := PySem.W.mg_of X G z_GREATEST,
    t_MODULUS := t_MODULUS, c_MODULUS := PySem.W.mg_of X G z_MODULUS,
    t_SUMMAND := t_SUMMAND, c_SUMMAND := PySem.W.mg_of X G z_SUMMAND,
    t_MAX_SIDES := t_MAX_SIDES, c_MAX_SIDES := PySem.W.mg_of X G z_MAX_SIDES,
    t_ROOT_POWER := t_ROOT_POWER, c_ROOT_POWER := PySem.W.mg_of X G z_ROOT_POWER }
  exact ⟨_, fun s v => .of_eq rfl, fun base _ _ => ok_law T⟩
end K04
open PySem PySem.W PyProof.Rows
set_option maxHeartbeats 0 in
theorem PySem.Challenge.cw_settledplay_k04_whole_stirred_lucks_and_holds : PySem.Challenge.rw_settledplay_k04_whole_stirred_lucks_and.Holds := by
  w_on; o_law; k_head; (case hw => w_witness2)
  k_fill
  refine L2.walk_of (l := PySem.Challenge.rw_settledplay_k04_whole_stirred_lucks_and) (n := 63) (k := 9) (x := "_law_script") (CX := fun _ => L2.CX0) (sp := fun w => K04.sp_law _) rfl (by decide) rfl ⟨rfl, by decide, by decide⟩ (fun w h Y => PySem.W.kIn_of Y) ?F (fun _ _ a ns hl _ hS => ⟨a, ns, rfl, hS, hl, fun _ => rfl⟩) (fun _ _ _ _ _ h => h)
  case F =>
    intro w mg fa h KX G hmg
    refine' K04.all_mk KX G hmg ?a0 ?l0 ?c0 ?k0 ?a1 ?l1 ?c1 ?k1 ?a2 ?l2 ?c2 ?k2 ?a3 ?l3 ?c3 ?k3 ?a4 ?l4 ?c4 ?k4 ?a5 ?l5 ?c5 ?k5 ?a6 ?l6 ?c6 ?k6 ?a7 ?l7 ?c7 ?k7 ?a8 ?l8 ?c8 ?k8 ?a9 ?l9 ?c9 ?k9 ?a10 ?l10 ?c10 ?k10 ?a11 ?l11 ?c11 ?k11 ?a12 ?l12 ?c12 ?k12 ?a13 ?l13 ?c13 ?k13 ?a14 ?l14 ?c14 ?k14 ?a15 ?l15 ?c15 ?k15 ?a16 ?l16 ?c16 ?k16 ?a17 ?l17 ?c17 ?k17 ?a18 ?l18 ?c18 ?k18 ?a19 ?l19 ?c19 ?k19 ?a20 ?l20 ?c20 ?k20 ?a21 ?l21 ?c21 ?k21 ?a22 ?l22 ?c22 ?k22 ?a23 ?l23 ?c23 ?k23 ?a24 ?l24 ?c24 ?k24 ?a25 ?l25 ?c25 ?k25 ?a26 ?l26 ?c26 ?k26 ?a27 ?l27 ?c27 ?k27 ?a28 ?l28 ?c28 ?k28 ?a29 ?l29 ?c29 ?k29 ?a30 ?l30 ?c30 ?k30 ?a31 ?l31 ?c31 ?k31 ?z_abs ?z_bool ?z_int ?z_isinstance ?z_len ?z_max ?z_min ?z_range ?z_set ?z_sorted ?z_tuple ?z_GREATEST ?z_MODULUS ?z_SUMMAND ?z_MAX_SIDES ?z_ROOT_POWER
    (case a0 => k_is)
    (case l0 => k_is)
    (case c0 => k_is)
    (case k0 => k_is)
    (case a1 => k_is)
    (case l1 => k_is)
    (case c1 => k_is)
    (case k1 => k_is)
    (case a2 => k_is)
    (case l2 => k_is)
    (case c2 => k_is)
    (case k2 => k_is)
    (case a3 => k_is)
    (case l3 => k_is)
    (case c3 => k_is)
    (case k3 => k_is)
    (case a4 => k_is)
    (case l4 => k_is)
    (case c4 => k_is)
    (case k4 => k_is)
    (case a5 => k_is)
    (case l5 => k_is)
    (case c5 => k_is)
    (case k5 => k_is)
    (case a6 => k_is)
    (case l6 => k_is)
    (case c6 => k_is)
    (case k6 => k_is)
    (case a7 => k_is)
    (case l7 => k_is)
    (case c7 => k_is)
    (case k7 => k_is)
    (case a8 => k_is)
    (case l8 => k_is)
    (case c8 => k_is)
    (case k8 => k_is)
    (case a9 => k_is)
    (case l9 => k_is)
    (case c9 => k_is)
    (case k9 => k_is)
    (case a10 => k_is)
    (case l10 => k_is)
    (case c10 => k_is)
    (case k10 => k_is)
    (case a11 => k_is)
    (case l11 => k_is)
    (case c11 => k_is)
    (case k11 => k_is)
    (case a12 => k_is)
    (case l12 => k_is)
    (case c12 => k_is)
    (case k12 => k_is)
    (case a13 => k_is)
    (case l13 => k_is)
    (case c13 => k_is)
    (case k13 => k_is)
    (case a14 => k_is)
    (case l14 => k_is)
    (case c14 => k_is)
    (case k14 => k_is)
    (case a15 => k_is)
    (case l15 => k_is)
    (case c15 => k_is)
    (case k15 => k_is)
    (case a16 => k_is)
    (case l16 => k_is)
    (case c16 => k_is)
    (case k16 => k_is)
    (case a17 => k_is)
    (case l17 => k_is)
    (case c17 => k_is)
    (case k17 => k_is)
    (case a18 => k_is)
    (case l18 => k_is)
    (case c18 => k_is)
    (case k18 => k_is)
    (case a19 => k_is)
    (case l19 => k_is)
    (case c19 => k_is)
    (case k19 => k_is)
    (case a20 => k_is)
    (case l20 => k_is)
    (case c20 => k_is)
    (case k20 => k_is)
    (case a21 => k_is)
    (case l21 => k_is)
    (case c21 => k_is)
    (case k21 => k_is)
    (case a22 => k_is)
    (case l22 => k_is)
    (case c22 => k_is)
    (case k22 => k_is)
    (case a23 => k_is)
    (case l23 => k_is)
    (case c23 => k_is)
    (case k23 => k_is)
    (case a24 => k_is)
    (case l24 => k_is)
    (case c24 => k_is)
    (case k24 => k_is)
    (case a25 => k_is)
    (case l25 => k_is)
    (case c25 => k_is)
    (case k25 => k_is)
    (case a26 => k_is)
    (case l26 => k_is)
    (case c26 => k_is)
    (case k26 => k_is)
    (case a27 => k_is)
    (case l27 => k_is)
    (case c27 => k_is)
    (case k27 => k_is)
    (case a28 => k_is)
    (case l28 => k_is)
    (case c28 => k_is)
    (case k28 => k_is)
    (case a29 => k_is)
    (case l29 => k_is)
    (case c29 => k_is)
    (case k29 => k_is)
    (case a30 => k_is)
    (case l30 => k_is)
    (case c30 => k_is)
    (case k30 => k_is)
    (case a31 => k_is)
    (case l31 => k_is)
    (case c31 => k_is)
    (case k31 => k_is)
    (case z_abs => k_is)
    (case z_bool => k_is)
    (case z_int => k_is)
    (case z_isinstance => k_is)
    (case z_len => k_is)
    (case z_max => k_is)
    (case z_min => k_is)
    (case z_range => k_is)
    (case z_set => k_is)
    (case z_sorted => k_is)
    (case z_tuple => k_is)
    (case z_GREATEST => k_is)
    (case z_MODULUS => k_is)
    (case z_SUMMAND => k_is)
    (case z_MAX_SIDES => k_is)
    (case z_ROOT_POWER => k_is)
