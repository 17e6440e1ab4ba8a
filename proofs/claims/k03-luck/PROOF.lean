import PyProof.Rows.All
import Wide.All
import OpenK.AllK
import Wide.FinOn
import HandS.ForMost
import HandS.Wide
import HandS.IsInst
import HandS.Style
import HandS.RaiseMore
import PySem.Challenge.RW_settledplay_k03_whole_luck_goes_round
set_option Elab.async false
set_option linter.all false
set_option maxRecDepth 100000
set_option maxHeartbeats 4000000

namespace K03
open PySem PySem.Spec PyProof.Rows L2 SkE
def topS (i : Nat) : Stmt := PySem.Challenge.pw_settledplay_k03_whole_luck_goes_round.main.body.getD i (.Pass ⟨0, 0, 0, 0⟩)
abbrev s_is_whole : Stmt := topS 6
abbrev N_is_whole : List Str := ["value"] -- 0:value
theorem sc_is_whole : FnScope N_is_whole ["value"] (defScope s_is_whole) := ⟨rfl, rfl, rfl, by decide +kernel, rfl, by decide +kernel, by decide +kernel⟩
abbrev s_is_short : Stmt := topS 7
abbrev N_is_short : List Str := ["value"] -- 0:value
theorem sc_is_short : FnScope N_is_short ["value"] (defScope s_is_short) := ⟨rfl, rfl, rfl, by decide +kernel, rfl, by decide +kernel, by decide +kernel⟩
abbrev s_is_from : Stmt := topS 8
abbrev N_is_from : List Str := ["value", "least", "most"] -- 0:value 1:least 2:most
theorem sc_is_from : FnScope N_is_from ["value", "least", "most"] (defScope s_is_from) := ⟨rfl, rfl, rfl, by decide +kernel, rfl, by decide +kernel, by decide +kernel⟩
abbrev s_is_tick : Stmt := topS 9
abbrev N_is_tick : List Str := ["value"] -- 0:value
theorem sc_is_tick : FnScope N_is_tick ["value"] (defScope s_is_tick) := ⟨rfl, rfl, rfl, by decide +kernel, rfl, by decide +kernel, by decide +kernel⟩
abbrev s_require_tick : Stmt := topS 10
abbrev N_require_tick : List Str := ["value"] -- 0:value
theorem sc_require_tick : FnScope N_require_tick ["value"] (defScope s_require_tick) := ⟨rfl, rfl, rfl, by decide +kernel, rfl, by decide +kernel, by decide +kernel⟩
abbrev s_next_in : Stmt := topS 17
abbrev N_next_in : List Str := ["luck"] -- 0:luck
theorem sc_next_in : FnScope N_next_in ["luck"] (defScope s_next_in) := ⟨rfl, rfl, rfl, by decide +kernel, rfl, by decide +kernel, by decide +kernel⟩
abbrev s_power : Stmt := topS 18
abbrev N_power : List Str := ["base", "many", "found"] -- 0:base 1:many 2:found
theorem sc_power : FnScope N_power ["base", "many"] (defScope s_power) := ⟨rfl, rfl, rfl, by decide +kernel, rfl, by decide +kernel, by decide +kernel⟩
abbrev s_over : Stmt := topS 19
abbrev N_over : List Str := ["one", "other"] -- 0:one 1:other
theorem sc_over : FnScope N_over ["one", "other"] (defScope s_over) := ⟨rfl, rfl, rfl, by decide +kernel, rfl, by decide +kernel, by decide +kernel⟩
abbrev s_led : Stmt := topS 20
abbrev N_led : List Str := ["luck", "factor"] -- 0:luck 1:factor
theorem sc_led : FnScope N_led ["luck", "factor"] (defScope s_led) := ⟨rfl, rfl, rfl, by decide +kernel, rfl, by decide +kernel, by decide +kernel⟩
abbrev s_digit_of : Stmt := topS 21
abbrev N_digit_of : List Str := ["told", "prime", "root", "found", "here"] -- 0:told 1:prime 2:root 3:found 4:here
theorem sc_digit_of : FnScope N_digit_of ["told", "prime"] (defScope s_digit_of) := ⟨rfl, rfl, rfl, by decide +kernel, rfl, by decide +kernel, by decide +kernel⟩
abbrev s_times_modulo : Stmt := topS 22
abbrev N_times_modulo : List Str := ["goal", "prime", "many", "found", "scale", "turn", "rest", "told"] -- 0:goal 1:prime 2:many 3:found 4:scale 5:turn 6:rest 7:told
theorem sc_times_modulo : FnScope N_times_modulo ["goal", "prime", "many"] (defScope s_times_modulo) := ⟨rfl, rfl, rfl, by decide +kernel, rfl, by decide +kernel, by decide +kernel⟩
abbrev s_times_of : Stmt := topS 23
abbrev N_times_of : List Str := ["goal", "found", "modulus", "prime", "many", "rest", "scale"] -- 0:goal 1:found 2:modulus 3:prime 4:many 5:rest 6:scale
theorem sc_times_of : FnScope N_times_of ["goal"] (defScope s_times_of) := ⟨rfl, rfl, rfl, by decide +kernel, rfl, by decide +kernel, by decide +kernel⟩
abbrev s_is_luck_in : Stmt := topS 24
abbrev N_is_luck_in : List Str := ["value"] -- 0:value
theorem sc_is_luck_in : FnScope N_is_luck_in ["value"] (defScope s_is_luck_in) := ⟨rfl, rfl, rfl, by decide +kernel, rfl, by decide +kernel, by decide +kernel⟩
abbrev s_require_luck : Stmt := topS 25
abbrev N_require_luck : List Str := ["value"] -- 0:value
theorem sc_require_luck : FnScope N_require_luck ["value"] (defScope s_require_luck) := ⟨rfl, rfl, rfl, by decide +kernel, rfl, by decide +kernel, by decide +kernel⟩
abbrev s_next_luck : Stmt := topS 26
abbrev N_next_luck : List Str := ["luck"] -- 0:luck
theorem sc_next_luck : FnScope N_next_luck ["luck"] (defScope s_next_luck) := ⟨rfl, rfl, rfl, by decide +kernel, rfl, by decide +kernel, by decide +kernel⟩
abbrev s_luck_ahead : Stmt := topS 27
abbrev N_luck_ahead : List Str := ["luck"] -- 0:luck
theorem sc_luck_ahead : FnScope N_luck_ahead ["luck"] (defScope s_luck_ahead) := ⟨rfl, rfl, rfl, by decide +kernel, rfl, by decide +kernel, by decide +kernel⟩
abbrev s_luck_after : Stmt := topS 28
abbrev N_luck_after : List Str := ["luck", "many"] -- 0:luck 1:many
theorem sc_luck_after : FnScope N_luck_after ["luck", "many"] (defScope s_luck_after) := ⟨rfl, rfl, rfl, by decide +kernel, rfl, by decide +kernel, by decide +kernel⟩
abbrev s_luck_before : Stmt := topS 29
abbrev N_luck_before : List Str := ["luck", "many"] -- 0:luck 1:many
theorem sc_luck_before : FnScope N_luck_before ["luck", "many"] (defScope s_luck_before) := ⟨rfl, rfl, rfl, by decide +kernel, rfl, by decide +kernel, by decide +kernel⟩
abbrev s_lucks_between : Stmt := topS 30
abbrev N_lucks_between : List Str := ["one", "other"] -- 0:one 1:other
theorem sc_lucks_between : FnScope N_lucks_between ["one", "other"] (defScope s_lucks_between) := ⟨rfl, rfl, rfl, by decide +kernel, rfl, by decide +kernel, by decide +kernel⟩
abbrev s_l_dice : Stmt := topS 32
abbrev N_l_dice : List Str := ["_law_script", "_law_spot", "_law_cell", "_law_left"] -- 0:_law_script 1:_law_spot 2:_law_cell 3:_law_left
theorem sc_l_dice : FnScope N_l_dice ["_law_script", "_law_spot"] (defScope s_l_dice) := ⟨rfl, rfl, rfl, by decide +kernel, rfl, by decide +kernel, by decide +kernel⟩
abbrev s_l_roll : Stmt := topS 33
abbrev N_l_roll : List Str := ["_law_dice_here", "_law_total", "_law_one", "_law_two", "_law_found"] -- 0:_law_dice_here 1:_law_total 2:_law_one 3:_law_two 4:_law_found
theorem sc_l_roll : FnScope N_l_roll ["_law_dice_here", "_law_total"] (defScope s_l_roll) := ⟨rfl, rfl, rfl, by decide +kernel, rfl, by decide +kernel, by decide +kernel⟩
abbrev s_l_pick : Stmt := topS 34
abbrev N_l_pick : List Str := ["_law_dice_here", "_law_items"] -- 0:_law_dice_here 1:_law_items
theorem sc_l_pick : FnScope N_l_pick ["_law_dice_here", "_law_items"] (defScope s_l_pick) := ⟨rfl, rfl, rfl, by decide +kernel, rfl, by decide +kernel, by decide +kernel⟩
abbrev s_l_behind : Stmt := topS 35
abbrev N_l_behind : List Str := ["_law_one", "_law_other"] -- 0:_law_one 1:_law_other
theorem sc_l_behind : FnScope N_l_behind ["_law_one", "_law_other"] (defScope s_l_behind) := ⟨rfl, rfl, rfl, by decide +kernel, rfl, by decide +kernel, by decide +kernel⟩
abbrev s_l_line : Stmt := topS 36
abbrev N_l_line : List Str := ["_law_many", "_law_found", "_law_here", "_law_left", "_law_lap"] -- 0:_law_many 1:_law_found 2:_law_here 3:_law_left 4:_law_lap
theorem sc_l_line : FnScope N_l_line ["_law_many"] (defScope s_l_line) := ⟨rfl, rfl, rfl, by decide +kernel, rfl, by decide +kernel, by decide +kernel⟩
abbrev s_l_led : Stmt := topS 37
abbrev N_l_led : List Str := ["_law_luck", "_law_many", "_law_line_here"] -- 0:_law_luck 1:_law_many 2:_law_line_here
theorem sc_l_led : FnScope N_l_led ["_law_luck", "_law_many"] (defScope s_l_led) := ⟨rfl, rfl, rfl, by decide +kernel, rfl, by decide +kernel, by decide +kernel⟩
abbrev s_l_luck_drawn : Stmt := topS 38
abbrev N_l_luck_drawn : List Str := ["_law_dice_here"] -- 0:_law_dice_here
theorem sc_l_luck_drawn : FnScope N_l_luck_drawn ["_law_dice_here"] (defScope s_l_luck_drawn) := ⟨rfl, rfl, rfl, by decide +kernel, rfl, by decide +kernel, by decide +kernel⟩
abbrev s_l_turns_drawn : Stmt := topS 39
abbrev N_l_turns_drawn : List Str := ["_law_dice_here", "_law_way"] -- 0:_law_dice_here 1:_law_way
theorem sc_l_turns_drawn : FnScope N_l_turns_drawn ["_law_dice_here"] (defScope s_l_turns_drawn) := ⟨rfl, rfl, rfl, by decide +kernel, rfl, by decide +kernel, by decide +kernel⟩
abbrev s_l_steps_right : Stmt := topS 40
abbrev N_l_steps_right : List Str := ["_law_luck", "_law_few", "_law_here", "_law_turn", "_law_later"] -- 0:_law_luck 1:_law_few 2:_law_here 3:_law_turn 4:_law_later
theorem sc_l_steps_right : FnScope N_l_steps_right ["_law_luck", "_law_few"] (defScope s_l_steps_right) := ⟨rfl, rfl, rfl, by decide +kernel, rfl, by decide +kernel, by decide +kernel⟩
abbrev s_l_between_right : Stmt := topS 41
abbrev N_l_between_right : List Str := ["_law_one", "_law_other", "_law_told"] -- 0:_law_one 1:_law_other 2:_law_told
theorem sc_l_between_right : FnScope N_l_between_right ["_law_one", "_law_other"] (defScope s_l_between_right) := ⟨rfl, rfl, rfl, by decide +kernel, rfl, by decide +kernel, by decide +kernel⟩
abbrev s_l_right : Stmt := topS 42
abbrev N_l_right : List Str := ["_law_dice_here", "_law_one", "_law_other", "_law_many", "_law_there"] -- 0:_law_dice_here 1:_law_one 2:_law_other 3:_law_many 4:_law_there
theorem sc_l_right : FnScope N_l_right ["_law_dice_here"] (defScope s_l_right) := ⟨rfl, rfl, rfl, by decide +kernel, rfl, by decide +kernel, by decide +kernel⟩
abbrev s_law : Stmt := topS 43
abbrev N_law : List Str := ["_law_script", "_law_spot", "_law_dice_here", "_law_part"] -- 0:_law_script 1:_law_spot 2:_law_dice_here 3:_law_part
theorem sc_law : FnScope N_law ["_law_script"] (defScope s_law) := ⟨rfl, rfl, rfl, by decide +kernel, rfl, by decide +kernel, by decide +kernel⟩
structure Tp (K : PySem.W.Frag) (mg : Str → Option Value) where
  a_is_whole : Addr
  d_is_whole : FuncData
  F_is_whole : Fun K "is_whole" "is_whole" s_is_whole a_is_whole d_is_whole
  g_is_whole : mg "is_whole" = some (.ref a_is_whole)
  b_is_whole : Binds K d_is_whole ["value"] []
  a_is_short : Addr
  d_is_short : FuncData
  F_is_short : Fun K "is_short" "is_short" s_is_short a_is_short d_is_short
  g_is_short : mg "is_short" = some (.ref a_is_short)
  b_is_short : Binds K d_is_short ["value"] []
  a_is_from : Addr
  d_is_from : FuncData
  F_is_from : Fun K "is_from" "is_from" s_is_from a_is_from d_is_from
  g_is_from : mg "is_from" = some (.ref a_is_from)
  b_is_from : Binds K d_is_from ["value", "least", "most"] []
  a_is_tick : Addr
  d_is_tick : FuncData
  F_is_tick : Fun K "is_tick" "is_tick" s_is_tick a_is_tick d_is_tick
  g_is_tick : mg "is_tick" = some (.ref a_is_tick)
  b_is_tick : Binds K d_is_tick ["value"] []
  a_require_tick : Addr
  d_require_tick : FuncData
  F_require_tick : Fun K "require_tick" "require_tick" s_require_tick a_require_tick d_require_tick
  g_require_tick : mg "require_tick" = some (.ref a_require_tick)
  b_require_tick : Binds K d_require_tick ["value"] []
  a_next_in : Addr
  d_next_in : FuncData
  F_next_in : Fun K "next_in" "next_in" s_next_in a_next_in d_next_in
  g_next_in : mg "next_in" = some (.ref a_next_in)
  b_next_in : Binds K d_next_in ["luck"] []
  a_power : Addr
  d_power : FuncData
  F_power : Fun K "power" "power" s_power a_power d_power
  g_power : mg "power" = some (.ref a_power)
  b_power : Binds K d_power ["base", "many"] []
  a_over : Addr
  d_over : FuncData
  F_over : Fun K "over" "over" s_over a_over d_over
  g_over : mg "over" = some (.ref a_over)
  b_over : Binds K d_over ["one", "other"] []
  a_led : Addr
  d_led : FuncData
  F_led : Fun K "led" "led" s_led a_led d_led
  g_led : mg "led" = some (.ref a_led)
  b_led : Binds K d_led ["luck", "factor"] []
  a_digit_of : Addr
  d_digit_of : FuncData
  F_digit_of : Fun K "digit_of" "digit_of" s_digit_of a_digit_of d_digit_of
  g_digit_of : mg "digit_of" = some (.ref a_digit_of)
  b_digit_of : Binds K d_digit_of ["told", "prime"] []
  a_times_modulo : Addr
  d_times_modulo : FuncData
  F_times_modulo : Fun K "times_modulo" "times_modulo" s_times_modulo a_times_modulo d_times_modulo
  g_times_modulo : mg "times_modulo" = some (.ref a_times_modulo)
  b_times_modulo : Binds K d_times_modulo ["goal", "prime", "many"] []
  a_times_of : Addr
  d_times_of : FuncData
  F_times_of : Fun K "times_of" "times_of" s_times_of a_times_of d_times_of
  g_times_of : mg "times_of" = some (.ref a_times_of)
  b_times_of : Binds K d_times_of ["goal"] []
  a_is_luck_in : Addr
  d_is_luck_in : FuncData
  F_is_luck_in : Fun K "is_luck_in" "is_luck_in" s_is_luck_in a_is_luck_in d_is_luck_in
  g_is_luck_in : mg "is_luck_in" = some (.ref a_is_luck_in)
  b_is_luck_in : Binds K d_is_luck_in ["value"] []
  a_require_luck : Addr
  d_require_luck : FuncData
  F_require_luck : Fun K "require_luck" "require_luck" s_require_luck a_require_luck d_require_luck
  g_require_luck : mg "require_luck" = some (.ref a_require_luck)
  b_require_luck : Binds K d_require_luck ["value"] []
  a_next_luck : Addr
  d_next_luck : FuncData
  F_next_luck : Fun K "next_luck" "next_luck" s_next_luck a_next_luck d_next_luck
  g_next_luck : mg "next_luck" = some (.ref a_next_luck)
  b_next_luck : Binds K d_next_luck ["luck"] []
  a_luck_ahead : Addr
  d_luck_ahead : FuncData
  F_luck_ahead : Fun K "luck_ahead" "luck_ahead" s_luck_ahead a_luck_ahead d_luck_ahead
  g_luck_ahead : mg "luck_ahead" = some (.ref a_luck_ahead)
  b_luck_ahead : Binds K d_luck_ahead ["luck"] []
  a_luck_after : Addr
  d_luck_after : FuncData
  F_luck_after : Fun K "luck_after" "luck_after" s_luck_after a_luck_after d_luck_after
  g_luck_after : mg "luck_after" = some (.ref a_luck_after)
  b_luck_after : Binds K d_luck_after ["luck", "many"] []
  a_luck_before : Addr
  d_luck_before : FuncData
  F_luck_before : Fun K "luck_before" "luck_before" s_luck_before a_luck_before d_luck_before
  g_luck_before : mg "luck_before" = some (.ref a_luck_before)
  b_luck_before : Binds K d_luck_before ["luck", "many"] []
  a_lucks_between : Addr
  d_lucks_between : FuncData
  F_lucks_between : Fun K "lucks_between" "lucks_between" s_lucks_between a_lucks_between d_lucks_between
  g_lucks_between : mg "lucks_between" = some (.ref a_lucks_between)
  b_lucks_between : Binds K d_lucks_between ["one", "other"] []
  a_l_dice : Addr
  d_l_dice : FuncData
  F_l_dice : Fun K "_law_dice" "_law_dice" s_l_dice a_l_dice d_l_dice
  g_l_dice : mg "_law_dice" = some (.ref a_l_dice)
  b_l_dice : Binds K d_l_dice ["_law_script", "_law_spot"] []
  a_l_roll : Addr
  d_l_roll : FuncData
  F_l_roll : Fun K "_law_roll" "_law_roll" s_l_roll a_l_roll d_l_roll
  g_l_roll : mg "_law_roll" = some (.ref a_l_roll)
  b_l_roll : Binds K d_l_roll ["_law_dice_here", "_law_total"] []
  a_l_pick : Addr
  d_l_pick : FuncData
  F_l_pick : Fun K "_law_pick" "_law_pick" s_l_pick a_l_pick d_l_pick
  g_l_pick : mg "_law_pick" = some (.ref a_l_pick)
  b_l_pick : Binds K d_l_pick ["_law_dice_here", "_law_items"] []
  a_l_behind : Addr
  d_l_behind : FuncData
  F_l_behind : Fun K "_law_behind" "_law_behind" s_l_behind a_l_behind d_l_behind
  g_l_behind : mg "_law_behind" = some (.ref a_l_behind)
  b_l_behind : Binds K d_l_behind ["_law_one", "_law_other"] []
  a_l_line : Addr
  d_l_line : FuncData
  F_l_line : Fun K "_law_line" "_law_line" s_l_line a_l_line d_l_line
  g_l_line : mg "_law_line" = some (.ref a_l_line)
  b_l_line : Binds K d_l_line ["_law_many"] []
  a_l_led : Addr
  d_l_led : FuncData
  F_l_led : Fun K "_law_led" "_law_led" s_l_led a_l_led d_l_led
  g_l_led : mg "_law_led" = some (.ref a_l_led)
  b_l_led : Binds K d_l_led ["_law_luck", "_law_many"] []
  a_l_luck_drawn : Addr
  d_l_luck_drawn : FuncData
  F_l_luck_drawn : Fun K "_law_luck_drawn" "_law_luck_drawn" s_l_luck_drawn a_l_luck_drawn d_l_luck_drawn
  g_l_luck_drawn : mg "_law_luck_drawn" = some (.ref a_l_luck_drawn)
  b_l_luck_drawn : Binds K d_l_luck_drawn ["_law_dice_here"] []
  a_l_turns_drawn : Addr
  d_l_turns_drawn : FuncData
  F_l_turns_drawn : Fun K "_law_turns_drawn" "_law_turns_drawn" s_l_turns_drawn a_l_turns_drawn d_l_turns_drawn
  g_l_turns_drawn : mg "_law_turns_drawn" = some (.ref a_l_turns_drawn)
  b_l_turns_drawn : Binds K d_l_turns_drawn ["_law_dice_here"] []
  a_l_steps_right : Addr
  d_l_steps_right : FuncData
  F_l_steps_right : Fun K "_law_steps_right" "_law_steps_right" s_l_steps_right a_l_steps_right d_l_steps_right
  g_l_steps_right : mg "_law_steps_right" = some (.ref a_l_steps_right)
  b_l_steps_right : Binds K d_l_steps_right ["_law_luck", "_law_few"] []
  a_l_between_right : Addr
  d_l_between_right : FuncData
  F_l_between_right : Fun K "_law_between_right" "_law_between_right" s_l_between_right a_l_between_right d_l_between_right
  g_l_between_right : mg "_law_between_right" = some (.ref a_l_between_right)
  b_l_between_right : Binds K d_l_between_right ["_law_one", "_law_other"] []
  a_l_right : Addr
  d_l_right : FuncData
  F_l_right : Fun K "_law_right" "_law_right" s_l_right a_l_right d_l_right
  g_l_right : mg "_law_right" = some (.ref a_l_right)
  b_l_right : Binds K d_l_right ["_law_dice_here"] []
  a_law : Addr
  d_law : FuncData
  F_law : Fun K "law" "law" s_law a_law d_law
  g_law : mg "law" = some (.ref a_law)
  b_law : Binds K d_law ["_law_script"] []
  m_abs : mg "abs" = none
  m_bool : mg "bool" = none
  m_int : mg "int" = none
  m_isinstance : mg "isinstance" = none
  m_len : mg "len" = none
  m_max : mg "max" = none
  m_min : mg "min" = none
  m_range : mg "range" = none
  m_repr : mg "repr" = none
  t_GREATEST : Tok
  c_GREATEST : mg "GREATEST" = some (.int 1000000000000000000000000000000000000000000000000000000000000 t_GREATEST)
  t_MODULUS : Tok
  c_MODULUS : mg "MODULUS" = some (.int 999999937 t_MODULUS)
  t_FACTOR : Tok
  c_FACTOR : mg "FACTOR" = some (.int 48274 t_FACTOR)
  t_SUMMAND : Tok
  c_SUMMAND : mg "SUMMAND" = some (.int 271829 t_SUMMAND)
  t_STILL : Tok
  c_STILL : mg "STILL" = some (.int 949019055 t_STILL)
  p_PRIME_POWERS : Addr
  c_PRIME_POWERS : mg "PRIME_POWERS" = some (.ref p_PRIME_POWERS)
  p0_PRIME_POWERS : Addr
  s0_PRIME_POWERS : ∀ H, SqT K H p0_PRIME_POWERS [.int 2, .int 6]
  p1_PRIME_POWERS : Addr
  s1_PRIME_POWERS : ∀ H, SqT K H p1_PRIME_POWERS [.int 3, .int 2]
  p2_PRIME_POWERS : Addr
  s2_PRIME_POWERS : ∀ H, SqT K H p2_PRIME_POWERS [.int 13, .int 1]
  p3_PRIME_POWERS : Addr
  s3_PRIME_POWERS : ∀ H, SqT K H p3_PRIME_POWERS [.int 83, .int 1]
  p4_PRIME_POWERS : Addr
  s4_PRIME_POWERS : ∀ H, SqT K H p4_PRIME_POWERS [.int 1609, .int 1]
  s_PRIME_POWERS : ∀ H, SqT K H p_PRIME_POWERS [.ref p0_PRIME_POWERS, .ref p1_PRIME_POWERS, .ref p2_PRIME_POWERS, .ref p3_PRIME_POWERS, .ref p4_PRIME_POWERS]
namespace Tp
variable {K : PySem.W.Frag} {mg : Str → Option Value} (T : Tp K mg)
theorem r_GREATEST : RelV (.int 1000000000000000000000000000000000000000000000000000000000000) (.int 1000000000000000000000000000000000000000000000000000000000000 T.t_GREATEST) := ⟨_, rfl⟩
theorem r_MODULUS : RelV (.int 999999937) (.int 999999937 T.t_MODULUS) := ⟨_, rfl⟩
theorem r_FACTOR : RelV (.int 48274) (.int 48274 T.t_FACTOR) := ⟨_, rfl⟩
theorem r_SUMMAND : RelV (.int 271829) (.int 271829 T.t_SUMMAND) := ⟨_, rfl⟩
theorem r_STILL : RelV (.int 949019055) (.int 949019055 T.t_STILL) := ⟨_, rfl⟩
theorem r_PRIME_POWERS : RelV (.ref T.p_PRIME_POWERS) (.ref T.p_PRIME_POWERS) := rfl
end Tp
/-! ### the ring of lucks: 48274 is a primitive root modulo 999999937 -/
@[irreducible] def fp (k : Nat) : Nat := 48274 ^ k % 999999937
@[irreducible] def pw (b : Int) (n : Nat) : Int := b ^ n % 999999937
theorem fp_zero : fp 0 = 1 := by unfold fp; rfl
theorem fp_one : fp 1 = 48274 := by unfold fp; rfl
theorem fp_lt (k : Nat) : fp k < 999999937 := by unfold fp; exact Nat.mod_lt _ (by decide)
theorem fp_add (a b : Nat) : fp (a + b) = fp a * fp b % 999999937 := by
  unfold fp
  rw [Nat.pow_add, Nat.mul_mod]
theorem fp_mul (a b : Nat) : fp a ^ b % 999999937 = fp (a * b) := by
  unfold fp
  rw [← Nat.pow_mod, Nat.pow_mul]
/-- powers by squaring, to be reckoned -/
def sq (fuel : Nat) (b n acc : Nat) : Nat := match fuel with
  | 0 => acc
  | f + 1 => if n = 0 then acc else sq f (b * b % 999999937) (n / 2) (if n % 2 = 1 then acc * b % 999999937 else acc)
theorem sq_eq : ∀ (fuel b n acc : Nat), n < 2 ^ fuel → sq fuel b n acc % 999999937 = acc * b ^ n % 999999937
  | 0, b, n, acc, h => by
    have e : n = 0 := by have : n < 1 := h; omega
    subst e
    show acc % _ = acc * b ^ 0 % _
    rw [Nat.pow_zero, Nat.mul_one]
  | f + 1, b, n, acc, h => by
    unfold sq
    by_cases e : n = 0
    · rw [if_pos e, e, Nat.pow_zero, Nat.mul_one]
    · rw [if_neg e, sq_eq f _ _ _ (by rw [Nat.pow_succ] at h; omega)]
      have e2 : n = 2 * (n / 2) + n % 2 := by omega
      have e3 : (b * b % 999999937) ^ (n / 2) % 999999937 = b ^ (2 * (n / 2)) % 999999937 := by
        rw [← Nat.pow_mod, Nat.pow_mul, Nat.pow_two]
      rw [Nat.mul_mod, e3, ← Nat.mul_mod]
      by_cases h1 : n % 2 = 1
      · rw [if_pos h1]
        rw [Nat.mul_mod, Nat.mod_mod, ← Nat.mul_mod]
        conv => rhs; rw [e2, h1, Nat.pow_add, Nat.pow_one]
        rw [Nat.mul_assoc, Nat.mul_comm b]
      · rw [if_neg h1]
        conv => rhs; rw [e2, show n % 2 = 0 by omega, Nat.add_zero]
theorem fp_sq (n : Nat) (h : n < 2 ^ 32) : fp n = sq 32 48274 n 1 % 999999937 := by
  rw [sq_eq 32 48274 n 1 h, Nat.one_mul]
  unfold fp
  rfl
theorem fp_n : fp 999999936 = 1 := by rw [fp_sq _ (by decide)]; decide +kernel
theorem fp_mul_n (t : Nat) : fp (999999936 * t) = 1 := by
  rw [← fp_mul, fp_n, Nat.one_pow]
theorem fp_mod (k : Nat) : fp (k % 999999936) = fp k := by
  have h : fp k = fp (999999936 * (k / 999999936) + k % 999999936) := by rw [Nat.div_add_mod]
  rw [h, fp_add, fp_mul_n, Nat.one_mul, Nat.mod_eq_of_lt (fp_lt _)]
theorem least_of {p : Nat → Prop} : ∀ e, 0 < e → p e → ∃ d, 0 < d ∧ p d ∧ ∀ c, 0 < c → c < d → ¬ p c := by
  intro e
  induction e using Nat.strongRecOn with
  | _ e ih =>
    intro h0 h1
    by_cases h : ∃ c, 0 < c ∧ c < e ∧ p c
    · obtain ⟨c, c0, c1, c2⟩ := h
      exact ih c c1 c0 c2
    · exact ⟨e, h0, h1, fun c c0 c1 c2 => h ⟨c, c0, c1, c2⟩⟩
theorem divs (q : Nat) (hq : ∀ d, d < q + 1 → d ∣ q → d = 1 ∨ d = q) (h0 : 0 < q) (m : Nat) (h : ¬ q ∣ m) : Nat.Coprime m q := by
  have h1 : Nat.gcd m q ∣ q := Nat.gcd_dvd_right m q
  rcases hq _ (Nat.lt_succ_of_le (Nat.le_of_dvd h0 h1)) h1 with e | e
  · exact e
  · exact absurd (e ▸ Nat.gcd_dvd_left m q) h
theorem p2 : ∀ d, d < 2 + 1 → d ∣ 2 → d = 1 ∨ d = 2 := by decide +kernel
theorem p3 : ∀ d, d < 3 + 1 → d ∣ 3 → d = 1 ∨ d = 3 := by decide +kernel
theorem p13 : ∀ d, d < 13 + 1 → d ∣ 13 → d = 1 ∨ d = 13 := by decide +kernel
theorem p83 : ∀ d, d < 83 + 1 → d ∣ 83 → d = 1 ∨ d = 83 := by decide +kernel
theorem p1609 : ∀ d, d < 1609 + 1 → d ∣ 1609 → d = 1 ∨ d = 1609 := by decide +kernel
theorem some_prime (m : Nat) (h : m ∣ 999999936) (h1 : m ≠ 1) : 2 ∣ m ∨ 3 ∣ m ∨ 13 ∣ m ∨ 83 ∣ m ∨ 1609 ∣ m := by
  by_cases a2 : 2 ∣ m
  · exact .inl a2
  by_cases a3 : 3 ∣ m
  · exact .inr (.inl a3)
  by_cases a13 : 13 ∣ m
  · exact .inr (.inr (.inl a13))
  by_cases a83 : 83 ∣ m
  · exact .inr (.inr (.inr (.inl a83)))
  by_cases a1609 : 1609 ∣ m
  · exact .inr (.inr (.inr (.inr a1609)))
  exfalso
  have c2 := divs 2 p2 (by decide) m a2
  have c3 := divs 3 p3 (by decide) m a3
  have c13 := divs 13 p13 (by decide) m a13
  have c83 := divs 83 p83 (by decide) m a83
  have c1609 := divs 1609 p1609 (by decide) m a1609
  have e1 : m ∣ 2 * 499999968 := h
  have e2 : m ∣ 2 * 249999984 := c2.dvd_of_dvd_mul_left e1
  have e3 : m ∣ 2 * 124999992 := c2.dvd_of_dvd_mul_left e2
  have e4 : m ∣ 2 * 62499996 := c2.dvd_of_dvd_mul_left e3
  have e5 : m ∣ 2 * 31249998 := c2.dvd_of_dvd_mul_left e4
  have e6 : m ∣ 2 * 15624999 := c2.dvd_of_dvd_mul_left e5
  have e7 : m ∣ 3 * 5208333 := c2.dvd_of_dvd_mul_left e6
  have e8 : m ∣ 3 * 1736111 := c3.dvd_of_dvd_mul_left e7
  have e9 : m ∣ 13 * 133547 := c3.dvd_of_dvd_mul_left e8
  have e10 : m ∣ 83 * 1609 := c13.dvd_of_dvd_mul_left e9
  have e11 : m ∣ 1609 * 1 := c83.dvd_of_dvd_mul_left e10
  have e12 : m ∣ 1 := c1609.dvd_of_dvd_mul_left e11
  exact h1 (Nat.dvd_one.mp e12)
theorem fp_order (e : Nat) (h0 : 0 < e) (h : e < 999999936) : fp e ≠ 1 := by
  intro he
  obtain ⟨d, d0, d1, d2⟩ := least_of (p := fun k => fp k = 1) e h0 he
  have dl : d < 999999936 := by
    by_cases c : e < d
    · exact absurd he (d2 e h0 c)
    · omega
  have dt : ∀ t, fp (d * t) = 1 := fun t => by rw [← fp_mul, d1, Nat.one_pow]
  have dd : d ∣ 999999936 := by
    have r : fp (999999936 % d) = 1 := by
      have z : fp 999999936 = fp (d * (999999936 / d) + 999999936 % d) := by rw [Nat.div_add_mod]
      rw [fp_n, fp_add, dt, Nat.one_mul, Nat.mod_eq_of_lt (fp_lt _)] at z
      exact z.symm
    have : 999999936 % d < d := Nat.mod_lt _ d0
    have : ¬ 0 < 999999936 % d := fun c => d2 _ c this r
    exact Nat.dvd_of_mod_eq_zero (by omega)
  obtain ⟨m, em⟩ := dd
  have m1 : m ≠ 1 := fun z => by subst z; omega
  have key : ∀ q r, 999999936 = q * r → fp r ≠ 1 → 0 < q → ¬ q ∣ m := fun q r eq hr q0 ⟨t, et⟩ => by
    apply hr
    have : q * r = q * (d * t) := by rw [← eq, em, et, Nat.mul_left_comm]
    rw [Nat.eq_of_mul_eq_mul_left q0 this]
    exact dt t
  rcases some_prime m ⟨d, by rw [em, Nat.mul_comm]⟩ m1 with k | k | k | k | k
  · exact key 2 499999968 rfl (by rw [fp_sq _ (by decide)]; decide +kernel) (by decide) k
  · exact key 3 333333312 rfl (by rw [fp_sq _ (by decide)]; decide +kernel) (by decide) k
  · exact key 13 76923072 rfl (by rw [fp_sq _ (by decide)]; decide +kernel) (by decide) k
  · exact key 83 12048192 rfl (by rw [fp_sq _ (by decide)]; decide +kernel) (by decide) k
  · exact key 1609 621504 rfl (by rw [fp_sq _ (by decide)]; decide +kernel) (by decide) k
/-- what leads from a to b -/
theorem fp_sub {i j : Nat} (h : i ≤ j) (e : fp i = fp j) (hj : j < 999999936) : i = j := by
  by_cases c : i = j
  · exact c
  · exfalso
    have hi : i < 999999936 := by omega
    refine fp_order (j - i) (by omega) (by omega) ?_
    have z1 : fp (j - i + i + (999999936 - i)) = fp (i + (999999936 - i)) := by
      rw [show j - i + i = j by omega, fp_add j, ← e, ← fp_add]
    rw [show i + (999999936 - i) = 999999936 by omega, fp_n, show j - i + i + (999999936 - i) = 999999936 + (j - i) by omega, fp_add, fp_n, Nat.one_mul, Nat.mod_eq_of_lt (fp_lt _)] at z1
    exact z1
theorem fp_inj {i j : Nat} (hi : i < 999999936) (hj : j < 999999936) (e : fp i = fp j) : i = j := by
  rcases Nat.le_total i j with h | h
  · exact fp_sub h e hj
  · exact (fp_sub h e.symm hi).symm
theorem fp_pos (k : Nat) : 0 < fp k := by
  rcases Nat.eq_zero_or_pos (fp k) with h | h
  · exfalso
    have z : fp (k + k * 999999935) = 1 := by
      rw [show k + k * 999999935 = 999999936 * k by omega]
      exact fp_mul_n k
    rw [fp_add, h, Nat.zero_mul] at z
    exact absurd z (by decide)
  · exact h
/-! ### a one-to-one row of n numbers below n has them all -/
theorem nodup_le : ∀ (N : Nat) (l : List Nat), l.Nodup → (∀ x ∈ l, x < N) → l.length ≤ N
  | 0, [], _, _ => Nat.le_refl 0
  | 0, x :: r, _, h => absurd (h x (List.mem_cons_self)) (Nat.not_lt_zero x)
  | N + 1, l, hn, h => by
    have h1 : (l.erase N).Nodup := hn.erase N
    have h2 : ∀ x ∈ l.erase N, x < N := fun x hx => by
      have a1 := h x (List.mem_of_mem_erase hx)
      have a2 : x ≠ N := fun z => by
        subst z
        exact hn.not_mem_erase hx
      omega
    have h3 := nodup_le N _ h1 h2
    have h4 : l.length ≤ (l.erase N).length + 1 := by
      rw [List.length_erase]
      split <;> omega
    omega
theorem inj_surj (n : Nat) (f : Nat → Nat) (hf : ∀ i, i < n → f i < n) (inj : ∀ i j, i < n → j < n → f i = f j → i = j) (y : Nat) (hy : y < n) : ∃ i, i < n ∧ f i = y := by
  by_cases c : ∃ i, i < n ∧ f i = y
  · exact c
  exfalso
  have nd : ((List.range n).map f).Nodup := by
    rw [List.nodup_iff_pairwise_ne, List.pairwise_map]
    refine (List.nodup_range (n := n)).imp_of_mem ?_
    intro a b ha hb hab z
    exact hab (inj a b (List.mem_range.mp ha) (List.mem_range.mp hb) z)
  have nd2 : (y :: (List.range n).map f).Nodup := List.nodup_cons.mpr ⟨fun m => by
    obtain ⟨i, hi, e⟩ := List.mem_map.mp m
    exact c ⟨i, List.mem_range.mp hi, e⟩, nd⟩
  have le := nodup_le n _ nd2 (fun x hx => by
    rcases List.mem_cons.mp hx with rfl | hx
    · exact hy
    · obtain ⟨i, hi, e⟩ := List.mem_map.mp hx
      rw [← e]
      exact hf i (List.mem_range.mp hi))
  rw [List.length_cons, List.length_map, List.length_range] at le
  omega
theorem fp_surj (y : Nat) (h0 : 0 < y) (h1 : y < 999999937) : ∃ k, k < 999999936 ∧ fp k = y := by
  obtain ⟨i, hi, e⟩ := inj_surj 999999936 (fun k => fp k - 1) (fun i _ => by
    have a := fp_lt i
    have b := fp_pos i
    show fp i - 1 < 999999936
    omega) (fun i j hi hj e => by
    have a := fp_pos i
    have b := fp_pos j
    have e : fp i - 1 = fp j - 1 := e
    exact fp_inj hi hj (by omega)) (y - 1) (by omega)
  refine ⟨i, hi, ?_⟩
  have a := fp_pos i
  have e : fp i - 1 = y - 1 := e
  omega
/-! ### over whole numbers -/
theorem pw_zero (b : Int) : pw b 0 = 1 := by unfold pw; rw [Int.pow_zero]; rfl
theorem emod_pow (b : Int) : ∀ n : Nat, (b % 999999937) ^ n % 999999937 = b ^ n % 999999937
  | 0 => by rw [Int.pow_zero, Int.pow_zero]
  | n + 1 => by rw [Int.pow_succ, Int.pow_succ, Int.mul_emod, emod_pow b n, Int.emod_emod, ← Int.mul_emod]
theorem pw_lo (b : Int) (n : Nat) : 0 ≤ pw b n := by unfold pw; exact Int.emod_nonneg _ (by decide)
theorem pw_hi (b : Int) (n : Nat) : pw b n < 999999937 := by unfold pw; exact Int.emod_lt_of_pos _ (by decide)
theorem pw_fp {b : Int} {k : Nat} (h : b % 999999937 = (fp k : Int)) (n : Nat) : pw b n = (fp (k * n) : Int) := by
  have e : pw b n = (b % 999999937) ^ n % 999999937 := by
    unfold pw
    rw [emod_pow]
  rw [e, h, ← fp_mul, Int.natCast_emod, Int.natCast_pow]
  rfl
theorem res_fp {b : Int} (h : b % 999999937 ≠ 0) : ∃ k, k < 999999936 ∧ b % 999999937 = (fp k : Int) := by
  have h0 : 0 ≤ b % 999999937 := Int.emod_nonneg _ (by decide)
  have h1 : b % 999999937 < 999999937 := Int.emod_lt_of_pos _ (by decide)
  obtain ⟨k, hk, e⟩ := fp_surj (b % 999999937).toNat (by omega) (by omega)
  exact ⟨k, hk, by omega⟩

/-! ### general: frames of the heap, the dice -/
/-- all that was tracked is as it was, but d -/
def Ext (d : Addr) (H H' : Hp) : Prop := ∀ b o, b ≠ d → H b = some o → H' b = some o
theorem Ext.refl (d : Addr) (H : Hp) : Ext d H H := fun _ _ _ h => h
theorem Ext.trans {d : Addr} {H H1 H2 : Hp} (a : Ext d H H1) (b : Ext d H1 H2) : Ext d H H2 := fun c o n h => b c o n (a c o n h)
theorem Ext.of {d : Addr} {H H' : Hp} (s : Same H H') : Ext d H H' := fun b o _ h => s b o h
theorem Ext.new {d p : Addr} {o : HO} {H : Hp} (h : H p = none) : Ext d H (upd H p o) := fun b u _ e => by
  rw [upd_ne (ne_of_none e h)]; exact e
theorem Ext.put {d : Addr} {o : HO} {H : Hp} : Ext d H (upd H d o) := fun b u n e => by
  rw [upd_ne n]; exact e
/-- d was not tracked ahead -/
theorem Ext.same {d : Addr} {H H' : Hp} (e : Ext d H H') (h : H d = none) : Same H H' := fun b o q => e b o (ne_of_none q h) q
theorem same_new {H : Hp} {p : Addr} {o : HO} (h : H p = none) : Same H (upd H p o) := fun b x e => by
  rw [upd_ne (ne_of_none e h)]; exact e
theorem Ext.at' {d a : Addr} {H H' : Hp} {o : HO} (e : Ext d H H') (n : a ≠ d) (h : H a = some o) : H' a = some o := e a o n h
theorem Ext.rd {d a : Addr} {H H' : Hp} {o : HO} (e : Ext d H H') (n : a ≠ d) (h : Rd H a o) : Rd H' a o := by
  rcases h with h | ⟨u, h⟩
  · exact .inl (e _ _ n h)
  · exact .inr ⟨u, e _ _ n h⟩
theorem Ext.sql {K : PySem.W.Frag} {d a : Addr} {H H' : Hp} {xs : List V} (e : Ext d H H') (n : a ≠ d) (h : SqL K H a xs) : SqL K H' a xs := by
  rcases h with h | h
  · exact .inl (e.rd n h)
  · exact .inr h
theorem same_sqt {K : PySem.W.Frag} {H H' : Hp} {a : Addr} {xs : List V} (e : Same H H') (h : SqT K H a xs) : SqT K H' a xs := by
  rcases h with (h | ⟨o, h⟩) | h
  · exact .inl (.inl (e _ _ h))
  · exact .inl (.inr ⟨o, e _ _ h⟩)
  · exact .inr h
theorem sql_ne {K : PySem.W.Frag} {d a : Addr} {H : Hp} {xs : List V} (h : Rd H a (.lst xs)) (n : H d = none) : a ≠ d := by
  rcases h with h | ⟨u, h⟩ <;> exact ne_of_none h n
theorem iteY {c A B : Prop} [Decidable c] (hc : c) (h : A) : if c then A else B := by rw [if_pos hc]; exact h
theorem iteN {c A B : Prop} [Decidable c] (hc : ¬ c) (h : B) : if c then A else B := by rw [if_neg hc]; exact h
theorem iteNT {A B : Prop} (h : B) : if (!true) = true then A else B := h
theorem iteNF {A B : Prop} (h : A) : if (!false) = true then A else B := h
/-- the dice: three ints -/
def Dice (d : Addr) (H : Hp) : Prop := ∃ x y z : Int, H d = some (.lst [.int x, .int y, .int z])
theorem Dice.same {d : Addr} {H H' : Hp} (h : Dice d H) (s : Same H H') : Dice d H' := by
  obtain ⟨x, y, z, e⟩ := h
  exact ⟨x, y, z, s _ _ e⟩
theorem Dice.ne {d p : Addr} {H : Hp} (h : Dice d H) (n : H p = none) : p ≠ d := by
  obtain ⟨x, y, z, e⟩ := h
  exact (ne_of_none e n).symm
theorem Dice.new {d p : Addr} {o : HO} {H : Hp} (h : Dice d H) (n : H p = none) : Dice d (upd H p o) := h.same (same_new n)
theorem Dice.eq {d : Addr} {H : Hp} (x y z : Int) (h : H d = some (.lst [.int x, .int y, .int z])) : Dice d H := ⟨x, y, z, h⟩
theorem nn {x y : Int} (h : 0 ≤ x) (k : x < y) : -y < x ∧ x < y := ⟨by omega, k⟩
/-- an int within bounds -/
def inB (lo hi : Int) : V → Bool
  | .int i => decide (lo ≤ i) && decide (i < hi)
  | _ => false
theorem inB_of {lo hi : Int} {v : V} (h : inB lo hi v = true) : ∃ i, v = .int i ∧ lo ≤ i ∧ i < hi := by
  cases v with
  | int i =>
    have h : (decide (lo ≤ i) && decide (i < hi)) = true := h
    rw [Bool.and_eq_true] at h
    exact ⟨i, rfl, of_decide_eq_true h.1, of_decide_eq_true h.2⟩
  | _ => exact absurd h (by intro z; cases z)
theorem inB_mem {lo hi : Int} {v : V} {xs : List V} (hv : v ∈ xs) (h : xs.all (inB lo hi) = true) : ∃ i, v = .int i ∧ lo ≤ i ∧ i < hi := inB_of (List.all_eq_true.mp h v hv)
/-! ### the dice's defs -/
def sp_l_dice (K : PySem.W.Frag) : Sp := fun vs H Q _ => ∃ (a : Addr) (ns : List Int) (k : Int), vs = [.ref a, .int k] ∧ SqL K H a (ns.map V.int) ∧ 0 ≤ k ∧ k < 1000 ∧
  ∀ d H', H d = none → Dice d H' → Same H H' → Q (.ref d) H'
def sp_l_roll (_ : PySem.W.Frag) : Sp := fun vs H Q _ => ∃ (d : Addr) (n : Int), vs = [.ref d, .int n] ∧ 0 < n ∧ n < 2 ^ 250 ∧ Dice d H ∧
  ∀ r H', 0 ≤ r → r < n → Dice d H' → Ext d H H' → Q (.int r) H'
def sp_l_pick (K : PySem.W.Frag) : Sp := fun vs H Q _ => ∃ (d a : Addr) (xs : List V), vs = [.ref d, .ref a] ∧ SqL K H a xs ∧ a ≠ d ∧ 0 < xs.length ∧ xs.length < 1000 ∧ Dice d H ∧
  ∀ v H', v ∈ xs → Dice d H' → Ext d H H' → Q v H'
def sp_l_near (_ : PySem.W.Frag) : Sp := fun vs H Q _ => ∃ (d : Addr) (m : Int), vs = [.ref d, .int m] ∧ 0 ≤ m ∧ m < 2 ^ 240 ∧ Dice d H ∧
  ∀ r H', -m ≤ r → r ≤ m → Dice d H' → Ext d H H' → Q (.int r) H'

/-! ### judged values -/
inductive Jd (K : PySem.W.Frag) (H : Hp) : V → Prop where
  | non : Jd K H .non
  | bl (b : Bool) : Jd K H (.bl b)
  | int (i : Int) : Jd K H (.int i)
  | str (x : Str) : Jd K H (.str x)
  | lst {a : Addr} {xs : List V} (e : H a = some (.lst xs)) : Jd K H (.ref a)
  | tup {a : Addr} {xs : List V} (e : H a = some (.tup xs)) : Jd K H (.ref a)
  | dK {a : Addr} {kvs : List (Key × V)} (e : H a = some (.dK kvs)) : Jd K H (.ref a)
@[reducible] def isI : V → Bool
  | .int _ => true
  | _ => false
@[reducible] def isB : V → Bool
  | .bl _ => true
  | _ => false
@[reducible] def isS : V → Bool
  | .str _ => true
  | _ => false
theorem Jd.ty {K : PySem.W.Frag} {H : Hp} {x : V} (j : Jd K H x) : ∃ n, TyX K H x (.type n) ∧ kitB n "int" = some (isI x || isB x) ∧ kitB n "bool" = some (isB x) ∧ kitB n "str" = some (isS x) := by
  cases j with
  | non => exact ⟨_, .base .non, by decide +kernel, by decide +kernel, by decide +kernel⟩
  | bl b => exact ⟨_, .base (.bl b), by show kitB "bool" "int" = some true; decide +kernel, by show kitB "bool" "bool" = some true; decide +kernel, by show kitB "bool" "str" = some false; decide +kernel⟩
  | int i => exact ⟨_, .base (.int i), by show kitB "int" "int" = some true; decide +kernel, by show kitB "int" "bool" = some false; decide +kernel, by show kitB "int" "str" = some false; decide +kernel⟩
  | str x => exact ⟨_, .base (.str x), by show kitB "str" "int" = some false; decide +kernel, by show kitB "str" "bool" = some false; decide +kernel, by show kitB "str" "str" = some true; decide +kernel⟩
  | lst e => exact ⟨_, .base (.lst e), by show kitB "list" "int" = some false; decide +kernel, by show kitB "list" "bool" = some false; decide +kernel, by show kitB "list" "str" = some false; decide +kernel⟩
  | tup e => exact ⟨_, .base (.tup e), by show kitB "tuple" "int" = some false; decide +kernel, by show kitB "tuple" "bool" = some false; decide +kernel, by show kitB "tuple" "str" = some false; decide +kernel⟩
  | dK e => exact ⟨_, .base (.dK e), by show kitB "dict" "int" = some false; decide +kernel, by show kitB "dict" "bool" = some false; decide +kernel, by show kitB "dict" "str" = some false; decide +kernel⟩
theorem Jd.same {K : PySem.W.Frag} {H H' : Hp} {x : V} (j : Jd K H x) (s : Same H H') : Jd K H' x := by
  cases j with
  | non => exact .non
  | bl b => exact .bl b
  | int i => exact .int i
  | str x => exact .str x
  | lst e => exact .lst (s _ _ e)
  | tup e => exact .tup (s _ _ e)
  | dK e => exact .dK (s _ _ e)
def shortB : V → Bool
  | .int i => decide (-(10 ^ 60) < i) && decide (i < 10 ^ 60)
  | _ => false
def fromB : V → Int → Int → Bool
  | .int i, a, b => decide (a ≤ i) && decide (i ≤ b)
  | _, _, _ => false
def sp_is_whole (K : PySem.W.Frag) : Sp := fun vs H Q _ => ∃ x, vs = [x] ∧ Jd K H x ∧ Q (.bl (isI x)) H
def sp_is_short (K : PySem.W.Frag) : Sp := fun vs H Q _ => ∃ x, vs = [x] ∧ Jd K H x ∧ Q (.bl (shortB x)) H
def sp_is_from (K : PySem.W.Frag) : Sp := fun vs H Q _ => ∃ x a b, vs = [x, .int a, .int b] ∧ Jd K H x ∧ Q (.bl (fromB x a b)) H
theorem and_t {a b : Bool} {F : Bool → Prop} (q : F (a && b)) (e : a = true) : F b := by
  subst e
  exact q
theorem and_f {a b : Bool} {F : Bool → Prop} (q : F (a && b)) (e : ¬ a = true) : F false := by
  have e := eq_false_of_ne_true e
  subst e
  exact q

/-! ### further rules -/
section
variable {X : Cx} {pos : Pos}
def tIfT (t ta tb : TT) : TT := fun σ H Q => t σ H fun c H1 => if c = true then ta σ H1 Q else tb σ H1 Q
theorem pt_ifE {c a b : Expr} {tc ta tb : TT} (hc : PT X c tc) (ha : PT X a ta) (hb : PT X b tb) : PT X (.IfExp c a b pos) (tIfT tc ta tb) := by
  refine ⟨fun pins s σ H Q I h => ?_⟩
  refine isTrue_IfExp (thn (hc.run pins s σ H _ I h) fun d s1 ⟨H1, I1, q1⟩ => ?_)
  cases d with
  | true => exact ha.run pins s1 σ H1 Q I1 q1
  | false => exact hb.run pins s1 σ H1 Q I1 q1
end

/-! ### lucks -/
def tickB : V → Bool
  | .int i => (decide (-(10 ^ 60) < i) && decide (i < 10 ^ 60)) && decide (0 ≤ i)
  | _ => false
def sp_is_tick (K : PySem.W.Frag) : Sp := fun vs H Q _ => ∃ x, vs = [x] ∧ Jd K H x ∧ Q (.bl (tickB x)) H
def sp_require_tick (_ : PySem.W.Frag) : Sp := fun vs H Q _ => ∃ i, vs = [.int i] ∧ 0 ≤ i ∧ i < 10 ^ 60 ∧ Q .non H
def sp_is_luck_in (K : PySem.W.Frag) : Sp := fun vs H Q _ => ∃ x, vs = [x] ∧ Jd K H x ∧ Q (.bl (fromB x 0 999999936)) H
def sp_require_luck (_ : PySem.W.Frag) : Sp := fun vs H Q _ => ∃ i, vs = [.int i] ∧ 0 ≤ i ∧ i < 999999937 ∧ Q .non H
def sp_next_in (_ : PySem.W.Frag) : Sp := fun vs H Q _ => ∃ l, vs = [.int l] ∧ Q (.int ((48274 * l + 271829) % 999999937)) H
def sp_power (_ : PySem.W.Frag) : Sp := fun vs H Q _ => ∃ b n, vs = [.int b, .int n] ∧ (-(2 ^ 64) < b ∧ b < 2 ^ 64) ∧ 0 ≤ n ∧ Q (.int (pw b n.toNat)) H
def sp_over (_ : PySem.W.Frag) : Sp := fun vs H Q _ => ∃ x y, vs = [.int x, .int y] ∧ (-(2 ^ 64) < y ∧ y < 2 ^ 64) ∧ Q (.int (x * pw y 999999935 % 999999937)) H
def sp_led (_ : PySem.W.Frag) : Sp := fun vs H Q _ => ∃ l f, vs = [.int l, .int f] ∧ (-(2 ^ 64) < f ∧ f < 2 ^ 64) ∧ Q (.int (((l - 949019055) * f + 949019055) % 999999937)) H
/-- a power of the loop, one turn -/
theorem pow_turn (f b : Int) (n : Nat) : (if n % 2 = 1 then f * b % 999999937 else f) * (b * b % 999999937) ^ (n / 2) % 999999937 = f * b ^ n % 999999937 := by
  have e2 : n = 2 * (n / 2) + n % 2 := by omega
  have e3 : (b * b % 999999937) ^ (n / 2) % 999999937 = b ^ (2 * (n / 2)) % 999999937 := by
    rw [emod_pow, Int.pow_mul]
    congr 2
    rw [Int.pow_succ, Int.pow_succ, Int.pow_zero, Int.one_mul]
  rw [Int.mul_emod, e3]
  by_cases h1 : n % 2 = 1
  · rw [if_pos h1, Int.emod_emod, ← Int.mul_emod]
    conv => rhs; rw [e2, h1, Int.pow_add]
    rw [Int.pow_succ b 0, Int.pow_zero, Int.one_mul, Int.mul_assoc, Int.mul_comm b]
  · rw [if_neg h1, ← Int.mul_emod]
    conv => rhs; rw [e2, show n % 2 = 0 by omega, Nat.add_zero]

theorem pwF (n : Nat) : pw 48274 n = (fp n : Int) := by
  rw [pw_fp (k := 1) (by rw [fp_one]; rfl), Nat.one_mul]
theorem fpI_mod (k : Nat) : (fp k : Int) % 999999937 = (fp k : Int) := Int.emod_eq_of_lt (Int.natCast_nonneg _) (by have := fp_lt k; omega)
theorem pwfp (k n : Nat) : pw (fp k : Int) n = (fp (k * n) : Int) := pw_fp (fpI_mod k) n
theorem fpI_add (a b : Nat) : (fp a : Int) * (fp b : Int) % 999999937 = (fp (a + b) : Int) := by
  rw [fp_add, Int.natCast_emod, Int.natCast_mul]; rfl
/-- exponents alike modulo the order -/
theorem fp_cong {a b s t : Nat} (h : a + 999999936 * s = b + 999999936 * t) : fp a = fp b := by
  have x : fp (a + 999999936 * s) = fp a := by rw [fp_add, fp_mul_n, Nat.mul_one, Nat.mod_eq_of_lt (fp_lt _)]
  have y : fp (b + 999999936 * t) = fp b := by rw [fp_add, fp_mul_n, Nat.mul_one, Nat.mod_eq_of_lt (fp_lt _)]
  rw [← x, h, y]
/-- a prime's part of the order: q * c is the order -/
structure Pr (q c : Nat) : Prop where
  h : q * c = 999999936
  two : 2 ≤ q
  small : q ≤ 1609
theorem Pr.inj {q c i j : Nat} (p : Pr q c) (hi : i < q) (hj : j < q) (e : fp (c * i) = fp (c * j)) : i = j := by
  have h := p.h
  have c0 : 0 < c := by
    rcases Nat.eq_zero_or_pos c with z | z
    · subst z; omega
    · exact z
  have m : ∀ i, i < q → c * i < 999999936 := fun i hi => by
    rw [← h, Nat.mul_comm q]
    exact Nat.mul_lt_mul_of_pos_left hi c0
  exact Nat.eq_of_mul_eq_mul_left c0 (fp_inj (m i hi) (m j hj) e)
def sp_digit_of (_ : PySem.W.Frag) : Sp := fun vs H Q _ => ∃ (x y : Int) (q c j : Nat), vs = [.int x, .int y] ∧ x = (fp (c * j) : Int) ∧ y = (q : Int) ∧ Pr q c ∧ j < q ∧ Q (.int (j : Int)) H
def sp_times_modulo (_ : PySem.W.Frag) : Sp := fun vs H Q _ => ∃ (x y z : Int) (k q e u : Nat), vs = [.int x, .int y, .int z] ∧ x = (fp k : Int) ∧ y = (q : Int) ∧ z = (e : Int) ∧ 2 ≤ q ∧ q ≤ 1609 ∧ e ≤ 6 ∧ q ^ e * u = 999999936 ∧
  ∀ p H', H p = none → Same H H' → H' p = some (.tup [.int ((k % q ^ e : Nat) : Int), .int ((q ^ e : Nat) : Int)]) → Q (.ref p) H'
def sp_times_of (K : PySem.W.Frag) : Sp := fun vs H Q _ => ∃ (x : Int) (k : Nat), vs = [.int x] ∧ x = (fp k : Int) ∧ k < 999999936 ∧ ∀ H', Same H H' → Q (.int (k : Int)) H'
/-- what a turn of times_modulo tells -/
theorem told_eq {k q i u c : Nat} (h : q ^ i * (q * u) = 999999936) (hc : q * c = 999999936) : fp ((k + k % q ^ i * 999999935) * u) = fp (c * (k / q ^ i % q)) := by
  have q0 : 0 < q := by
    rcases Nat.eq_zero_or_pos q with z | z
    · subst z; omega
    · exact z
  have e1 : q ^ i * u = c := by
    refine Nat.eq_of_mul_eq_mul_left q0 ?_
    rw [hc, ← h]
    rw [Nat.mul_left_comm]
  have e2 : q ^ i * (k / q ^ i) + k % q ^ i = k := Nat.div_add_mod _ _
  have e3 : q * (k / q ^ i / q) + k / q ^ i % q = k / q ^ i := Nat.div_add_mod _ _
  have a1 : (k + k % q ^ i * 999999935) * u = c * (k / q ^ i) + 999999936 * (k % q ^ i * u) := by
    have : k + k % q ^ i * 999999935 = q ^ i * (k / q ^ i) + k % q ^ i * 999999936 := by omega
    rw [this, Nat.add_mul, ← e1, Nat.mul_right_comm, Nat.mul_comm (k % q ^ i) 999999936, Nat.mul_assoc 999999936]
  have a2 : c * (k / q ^ i) = c * (k / q ^ i % q) + 999999936 * (k / q ^ i / q) := by
    conv => lhs; rw [← e3, Nat.mul_add, ← Nat.mul_assoc, Nat.mul_comm c q, hc]
    rw [Nat.add_comm]
  refine fp_cong (s := 0) (t := k / q ^ i / q + k % q ^ i * u) ?_
  rw [a1, a2]
  omega
/-- the moduli found so far -/
theorem crt {k D s t : Nat} (D0 : 0 < D) (s0 : 0 < s) (co : Nat.Coprime s D) (ht : t ≤ k / D % s) (e : (k % D + D * t) % s = k % s) : t = k / D % s := by
  have e1 : k % (D * s) = k % D + D * (k / D % s) := Nat.mod_mul
  have e2 : k % (D * s) % s = k % s := Nat.mod_mul_left_mod k D s
  have e3 : (k % D + D * (k / D % s)) % s = (k % D + D * t) % s := by rw [← e1, e2, e]
  have e4 : s ∣ D * (k / D % s - t) := by
    have : k % D + D * (k / D % s) = k % D + D * t + D * (k / D % s - t) := by
      rw [Nat.mul_sub]
      have : D * t ≤ D * (k / D % s) := Nat.mul_le_mul_left D ht
      omega
    rw [this] at e3
    have z := Nat.sub_mod_eq_zero_of_mod_eq e3
    rw [Nat.add_sub_cancel_left] at z
    exact Nat.dvd_of_mod_eq_zero z
  have e5 : s ∣ (k / D % s - t) := co.dvd_of_dvd_mul_left e4
  have lt : k / D % s < s := Nat.mod_lt _ s0
  have := Nat.eq_zero_of_dvd_of_lt e5 (by omega)
  omega

/-- the moduli of times_of, turn by turn: modulus, prime, power -/
def DQ : List (Nat × Nat × Nat) := [(1, 2, 6), (64, 3, 2), (576, 13, 1), (7488, 83, 1), (621504, 1609, 1), (999999936, 1, 0)]
structure Dk (i : Nat) (D q e : Nat) : Prop where
  at' : DQ[i]? = some (D, q, e)
theorem inner_step {k D s t : Nat} (ht : t < k / D % s) : k % D + D * t < k % (D * s) := by
  have e1 : k % (D * s) = k % D + D * (k / D % s) := Nat.mod_mul
  have D0 : 0 < D := by
    rcases Nat.eq_zero_or_pos D with z | z
    · subst z; rw [Nat.div_zero, Nat.zero_mod] at ht; omega
    · exact z
  have := Nat.mul_lt_mul_of_pos_left ht D0
  omega
def LB (a b : Int) (v : V) : Prop := (a = b ∧ v = .int 0) ∨ (a ≠ b ∧ (a = 949019055 ∨ b = 949019055) ∧ v = .non) ∨
  (a ≠ b ∧ a ≠ 949019055 ∧ b ≠ 949019055 ∧ ∃ k : Nat, 0 < k ∧ k < 999999936 ∧ v = .int (k : Int) ∧ ((a - 949019055) * (fp k : Int) + 949019055) % 999999937 = b)
def ledI (l : Int) (k : Nat) : Int := ((l - 949019055) * (fp k : Int) + 949019055) % 999999937
theorem ledI_lo (l : Int) (k : Nat) : 0 ≤ ledI l k := Int.emod_nonneg _ (by decide)
theorem ledI_hi (l : Int) (k : Nat) : ledI l k < 999999937 := Int.emod_lt_of_pos _ (by decide)
theorem ledI_zero {l : Int} (h0 : 0 ≤ l) (h1 : l < 999999937) : ledI l 0 = l := by
  unfold ledI; rw [fp_zero]; omega
theorem ledI_add (l : Int) (a b : Nat) : ledI (ledI l a) b = ledI l (a + b) := by
  unfold ledI
  rw [← fpI_add]
  rw [Int.add_emod, Int.mul_emod, ← Int.emod_sub_emod, Int.emod_emod, Int.emod_sub_emod, Int.add_sub_cancel, ← Int.mul_emod, ← Int.add_emod]
  rw [Int.mul_assoc]
  conv => rhs; rw [Int.add_emod, Int.mul_emod, Int.emod_emod, ← Int.mul_emod, ← Int.add_emod]
theorem ledI_mod (l : Int) (k : Nat) : ledI l (k % 999999936) = ledI l k := by unfold ledI; rw [fp_mod]
theorem ledI_back {l : Int} (h0 : 0 ≤ l) (h1 : l < 999999937) (n : Nat) : ledI (ledI l n) (999999935 * n) = l := by
  rw [ledI_add, ← ledI_mod, show n + 999999935 * n = 999999936 * n by omega, Nat.mul_mod_right, ledI_zero h0 h1]
theorem ledI_inj {l : Int} {a b : Nat} (h : (l - 949019055) % 999999937 ≠ 0) (e : ledI l a = ledI l b) (ha : a < 999999936) (hb : b < 999999936) : a = b := by
  obtain ⟨k, hk, ek⟩ := res_fp h
  have z : ∀ n, (ledI l n - 949019055) % 999999937 = (fp (k + n) : Int) := fun n => by
    unfold ledI
    rw [Int.emod_sub_emod, Int.add_sub_cancel, Int.mul_emod, ek, Int.emod_eq_of_lt (Int.natCast_nonneg (fp n)) (by have := fp_lt n; omega), fpI_add]
  have e2 : fp (k + a) = fp (k + b) := by
    have := (z a).symm.trans ((congrArg (fun x => (x - 949019055) % 999999937) e).trans (z b))
    omega
  have e3 : fp (a + 999999936 * k) = fp (b + 999999936 * k) := by
    rw [show a + 999999936 * k = (k + a) + 999999935 * k by omega, show b + 999999936 * k = (k + b) + 999999935 * k by omega, fp_add (k + a), fp_add (k + b), e2]
  have : fp a = fp b := (fp_cong (s := k) (t := 0) rfl).trans (e3.trans (fp_cong (s := 0) (t := k) rfl))
  exact fp_inj ha hb this
def MD (i : Nat) : Nat := ([1, 64, 576, 7488, 621504, 999999936] : List Nat).getD i 0
def sp_next_luck (_ : PySem.W.Frag) : Sp := fun vs H Q _ => ∃ l, vs = [.int l] ∧ 0 ≤ l ∧ l < 999999937 ∧ Q (.int ((48274 * l + 271829) % 999999937)) H
def sp_luck_ahead (_ : PySem.W.Frag) : Sp := fun vs H Q _ => ∃ l, vs = [.int l] ∧ 0 ≤ l ∧ l < 999999937 ∧ Q (.int ((l - 271829) * pw 48274 999999935 % 999999937)) H
def sp_luck_after (_ : PySem.W.Frag) : Sp := fun vs H Q _ => ∃ l n, vs = [.int l, .int n] ∧ 0 ≤ l ∧ l < 999999937 ∧ 0 ≤ n ∧ n < 10 ^ 60 ∧ Q (.int (ledI l n.toNat)) H
def sp_luck_before (_ : PySem.W.Frag) : Sp := fun vs H Q _ => ∃ l n, vs = [.int l, .int n] ∧ 0 ≤ l ∧ l < 999999937 ∧ 0 ≤ n ∧ n < 10 ^ 60 ∧ Q (.int (ledI l (999999935 * n.toNat))) H
def sp_lucks_between (_ : PySem.W.Frag) : Sp := fun vs H Q _ => ∃ a b, vs = [.int a, .int b] ∧ 0 ≤ a ∧ a < 999999937 ∧ 0 ≤ b ∧ b < 999999937 ∧ ∀ v H', Same H H' → LB a b v → Q v H'
theorem lb_of {a b : Int} (a0 : 0 ≤ a) (a1 : a < 999999937) (b0 : 0 ≤ b) (b1 : b < 999999937) (e : a ≠ b) (ea : a ≠ 949019055) (eb : b ≠ 949019055) :
    ∃ k : Nat, k < 999999936 ∧ (b - 949019055) * pw (a - 949019055) 999999935 % 999999937 = (fp k : Int) ∧ LB a b (.int (k : Int)) := by
  obtain ⟨ka, ha, ka'⟩ := res_fp (b := a - 949019055) (by omega)
  obtain ⟨kb, hb, kb'⟩ := res_fp (b := b - 949019055) (by omega)
  have ev : (b - 949019055) * pw (a - 949019055) 999999935 % 999999937 = (fp ((kb + ka * 999999935) % 999999936) : Int) := by
    rw [pw_fp ka', Int.mul_emod, kb', fpI_mod, fpI_add, fp_mod]
  have back : ((a - 949019055) * (fp ((kb + ka * 999999935) % 999999936) : Int) + 949019055) % 999999937 = b := by
    rw [fp_mod, Int.add_emod, Int.mul_emod, ka', fpI_mod, fpI_add, show ka + (kb + ka * 999999935) = kb + 999999936 * ka by omega]
    rw [fp_cong (a := kb + 999999936 * ka) (b := kb) (s := 0) (t := ka) rfl, ← kb']
    omega
  refine ⟨_, Nat.mod_lt _ (by decide), ev, .inr (.inr ⟨e, ea, eb, _, ?_, Nat.mod_lt _ (by decide), rfl, back⟩)⟩
  rcases Nat.eq_zero_or_pos ((kb + ka * 999999935) % 999999936) with z | z
  · rw [z, fp_zero] at back
    exfalso
    omega
  · exact z

def lbI (n : Nat) : Int := (949019055 - 949019055 * (fp n : Int)) % 999999937
theorem lbI_lo (n : Nat) : 0 ≤ lbI n := Int.emod_nonneg _ (by decide)
theorem lbI_hi (n : Nat) : lbI n < 999999937 := Int.emod_lt_of_pos _ (by decide)
theorem lbI_comp (a b : Nat) : (lbI a * (fp b : Int) + lbI b) % 999999937 = lbI (a + b) := by
  unfold lbI
  rw [← fpI_add, Int.add_emod, Int.mul_emod, Int.emod_emod, ← Int.mul_emod, ← Int.add_emod, Int.add_emod_emod]
  rw [show (949019055 - 949019055 * (fp a : Int)) * (fp b : Int) + (949019055 - 949019055 * (fp b : Int)) = 949019055 - 949019055 * ((fp a : Int) * (fp b : Int)) by
    rw [Int.sub_mul, Int.mul_assoc]; omega]
  rw [Int.sub_emod, Int.mul_emod, ← Int.emod_emod_of_dvd ((fp a : Int) * (fp b : Int)) (Int.dvd_refl 999999937), ← Int.mul_emod, ← Int.sub_emod]
  simp only [Int.emod_emod]
theorem led_line (l : Int) (n : Nat) : ((fp n : Int) * l + lbI n) % 999999937 = ledI l n := by
  unfold lbI ledI
  rw [Int.add_emod_emod]
  congr 1
  rw [Int.sub_mul, Int.mul_comm (fp n : Int)]
  omega
theorem ledI_one (l : Int) : ledI l 1 = (48274 * l + 271829) % 999999937 := by
  unfold ledI
  rw [fp_one]
  omega
theorem lbI_zero : lbI 0 = 0 := by unfold lbI; rw [fp_zero]; rfl
theorem lbI_one : lbI 1 = 271829 := by unfold lbI; rw [fp_one]; rfl
theorem ahead_eq {x : Int} (h0 : 0 ≤ x) (h1 : x < 999999937) : ((48274 * x + 271829) % 999999937 - 271829) * pw 48274 999999935 % 999999937 = x := by
  have e : (48274 : Int) * pw 48274 999999935 % 999999937 = 1 := by
    have := fpI_add 1 999999935
    rw [fp_one, show 1 + 999999935 = 999999936 from rfl, fp_n] at this
    rw [pwF]
    exact this
  rw [Int.mul_emod, Int.emod_sub_emod, Int.add_sub_cancel, ← Int.mul_emod, Int.mul_comm 48274, Int.mul_assoc, Int.mul_emod, e, Int.mul_one, Int.emod_emod, Int.emod_eq_of_lt h0 h1]
def sp_l_behind (K : PySem.W.Frag) : Sp := fun vs H Q _ => ∃ (p q : Addr) (i j : Nat), vs = [.ref p, .ref q] ∧ SqT K H p [.int (fp i : Int), .int (lbI i)] ∧ SqT K H q [.int (fp j : Int), .int (lbI j)] ∧
  ∀ r H', Same H H' → SqT K H' r [.int (fp (i + j) : Int), .int (lbI (i + j))] → Q (.ref r) H'
def sp_l_line (K : PySem.W.Frag) : Sp := fun vs H Q _ => ∃ (n : Int), vs = [.int n] ∧ 0 ≤ n ∧ n < 2 ^ 229 ∧
  ∀ r H', Same H H' → SqT K H' r [.int (fp n.toNat : Int), .int (lbI n.toNat)] → Q (.ref r) H'
def sp_l_led (_ : PySem.W.Frag) : Sp := fun vs H Q _ => ∃ l n, vs = [.int l, .int n] ∧ 0 ≤ l ∧ l < 999999937 ∧ 0 ≤ n ∧ n < 2 ^ 229 ∧ ∀ H', Same H H' → Q (.int (ledI l n.toNat)) H'
def sp_l_luck_drawn (_ : PySem.W.Frag) : Sp := fun vs H Q _ => ∃ d, vs = [.ref d] ∧ Dice d H ∧ ∀ r H', 0 ≤ r → r < 999999937 → Dice d H' → Ext d H H' → Q (.int r) H'
def sp_l_turns_drawn (_ : PySem.W.Frag) : Sp := fun vs H Q _ => ∃ d, vs = [.ref d] ∧ Dice d H ∧ ∀ r H', 0 ≤ r → r < 10 ^ 60 → Dice d H' → Ext d H H' → Q (.int r) H'
def sp_l_steps_right (_ : PySem.W.Frag) : Sp := fun vs H Q _ => ∃ l n, vs = [.int l, .int n] ∧ 0 ≤ l ∧ l < 999999937 ∧ 0 ≤ n ∧ n < 1000 ∧ Q (.bl true) H
def sp_l_between_right (_ : PySem.W.Frag) : Sp := fun vs H Q _ => ∃ a b, vs = [.int a, .int b] ∧ 0 ≤ a ∧ a < 999999937 ∧ 0 ≤ b ∧ b < 999999937 ∧ ∀ H', Same H H' → Q (.bl true) H'
def sp_l_right (_ : PySem.W.Frag) : Sp := fun vs H Q _ => ∃ d, vs = [.ref d] ∧ Dice d H ∧ ∀ H', Dice d H' → Ext d H H' → Q (.bl true) H'
def sp_law (K : PySem.W.Frag) : Sp := fun vs H Q _ => ∃ (a : Addr) (ns : List Int), vs = [.ref a] ∧ SqL K H a (ns.map V.int) ∧ ns.length ≤ 63 ∧ ∀ H', Q (.bl true) H'
theorem lb_led {a m : Int} (a0 : 0 ≤ a) (a1 : a < 999999937) (m0 : 0 ≤ m) (ha : a ≠ 949019055) {v : V} (h : LB a (ledI a m.toNat) v) : v = .int (m % 999999936) := by
  have hr : (a - 949019055) % 999999937 ≠ 0 := by omega
  have em : ((m.toNat % 999999936 : Nat) : Int) = m % 999999936 := by omega
  have ml : m.toNat % 999999936 < 999999936 := Nat.mod_lt _ (by decide)
  rcases h with ⟨e, rfl⟩ | ⟨_, e | e, _⟩ | ⟨_, _, _, k, k0, k1, rfl, hk⟩
  · have : ledI a 0 = ledI a (m.toNat % 999999936) := by rw [ledI_zero a0 a1, ledI_mod]; exact e
    have := ledI_inj hr this (by decide) ml
    rw [← em, ← this]; rfl
  · exact absurd e ha
  · exfalso
    obtain ⟨i, hi, ei⟩ := res_fp hr
    have z : (ledI a m.toNat - 949019055) % 999999937 = (fp (i + m.toNat) : Int) := by
      unfold ledI
      rw [Int.emod_sub_emod, Int.add_sub_cancel, Int.mul_emod, ei, fpI_mod, fpI_add]
    rw [e] at z
    have := fp_pos (i + m.toNat)
    omega
  · have : ledI a k = ledI a (m.toNat % 999999936) := by rw [ledI_mod]; exact hk
    have := ledI_inj hr this k1 ml
    rw [← em, ← this]
theorem ledI_still (n : Nat) : ledI 949019055 n = 949019055 := by unfold ledI; rw [Int.sub_self, Int.zero_mul]; rfl
theorem led5 (q : Int) (h : q = 2 ∨ q = 3 ∨ q = 13 ∨ q = 83 ∨ q = 1609) : ledI 5 (999999936 / q).toNat ≠ 5 := by
  rcases h with rfl | rfl | rfl | rfl | rfl <;> (unfold ledI; rw [fp_sq _ (by decide +kernel)]; decide +kernel)
theorem led5n : ledI 5 (999999936 : Int).toNat = 5 := by
  unfold ledI; rw [show (999999936 : Int).toNat = 999999936 from rfl, fp_n]; rfl
theorem lb01 {v : V} (h : LB 0 1 v) : v = .int 433376679 := by
  rcases h with ⟨e, _⟩ | ⟨_, e | e, _⟩ | ⟨_, _, _, k, k0, k1, rfl, hk⟩
  · omega
  · omega
  · omega
  · have z : ledI 0 433376679 = 1 := by unfold ledI; rw [fp_sq _ (by decide +kernel)]; decide +kernel
    have hk : ledI 0 k = 1 := hk
    have := ledI_inj (by decide) (hk.trans z.symm) k1 (by decide)
    rw [this]; rfl
theorem lb10 {v : V} (h : LB 1 0 v) : v = .int 566623257 := by
  rcases h with ⟨e, _⟩ | ⟨_, e | e, _⟩ | ⟨_, _, _, k, k0, k1, rfl, hk⟩
  · omega
  · omega
  · omega
  · have z : ledI 1 566623257 = 0 := by unfold ledI; rw [fp_sq _ (by decide +kernel)]; decide +kernel
    have hk : ledI 1 k = 0 := hk
    have := ledI_inj (by decide) (hk.trans z.symm) k1 (by decide)
    rw [this]; rfl
theorem lb0s {v : V} (h : LB 0 949019055 v) : v = .non := by
  rcases h with ⟨e, _⟩ | ⟨_, _, e⟩ | ⟨_, _, e, _⟩
  · omega
  · exact e
  · exact absurd rfl e
theorem lbss {v : V} (h : LB 949019055 949019055 v) : v = .int 0 := by
  rcases h with ⟨_, e⟩ | ⟨e, _⟩ | ⟨e, _⟩
  · exact e
  · exact absurd rfl e
  · exact absurd rfl e

section
variable {P : Program} {w : World} {K : PySem.W.Frag} {mg : Str → Option Value} {base : Heap}
/-! ### short tactics -/
local macro_rules | `(tactic| walk_at "side") => `(tactic| first
  | with_reducible assumption | (exact ⟨by omega, by omega⟩) | exact True.intro | rfl | with_reducible exact Int.natCast_nonneg _ | decide | omega
  | (exact Or.inl ⟨by omega, by omega⟩) | (exact Or.inr ⟨by omega, by omega⟩)
  | (exact ⟨by omega, by omega, by omega⟩) | (exact ⟨by decide, by decide, by decide⟩)
  | (exact wide_div (b := 250) (by omega) (by omega) (by decide) (by decide))
  | (exact wide_mul (a := 250) (b := 250) (by omega) (by omega) (by decide) (by decide) (by decide))
  | decide +kernel | (dsimp only; decide +kernel)
  | (exact wide_mul (a := 250) (b := 250) (by decide +kernel) (by decide +kernel) (by decide) (by decide) (by decide)))
local macro_rules | `(tactic| walk_at "idx") => `(tactic| first
  | assumption | exact atI_nat (j := 0) rfl | exact atI_nat (j := 1) rfl | exact atI_nat (j := 2) rfl | exact atI_nat (j := 3) rfl | exact atI_nat (j := 4) rfl | exact atI_nat (j := 5) rfl)
local macro_rules | `(tactic| walk_at "sq") => `(tactic| first
  | assumption | exact SqL.of upd_same | exact SqT.of upd_same | exact SqL.of (by assumption) | exact SqT.of (by assumption)
  | exact SqT.of (same_new (by assumption) _ _ upd_same) | exact SqL.of (same_new (by assumption) _ _ upd_same)
  | exact SqT.of (same_new (by assumption) _ _ (by assumption)) | exact SqL.of (same_new (by assumption) _ _ (by assumption))
  | exact SqT.of (same_new (by assumption) _ _ (same_new (by assumption) _ _ upd_same)) | exact SqL.of (same_new (by assumption) _ _ (same_new (by assumption) _ _ upd_same)))
local macro_rules | `(tactic| walk_at "dp") => `(tactic| first
  | exact .non | exact .bl _ | exact .int _ | exact .str _
  | (refine .tup (by walk_at "sq") ?_; walk_at "dps") | (refine .lst (by walk_at "sq") ?_; walk_at "dps"))
local macro_rules | `(tactic| walk_at "dps") => `(tactic| first
  | exact .nil | (refine .cons (by walk_at "dp") ?_; walk_at "dps"))
local macro_rules | `(tactic| walk_at "go") => `(tactic| repeat first
  | (show @ite _ _ _ _ _; with_reducible (first | refine iteT ?_ | refine iteF ?_ | refine iteNT ?_ | refine iteNF ?_))
  | ((fail_if_success (show @ite _ _ _ _ _)); first
    | refine And.intro (by walk_at "side") ?_
    | refine ⟨_, rfl, ?_⟩
    | refine ⟨_, _, rfl, rfl, ?_⟩
    | refine ⟨_, _, rfl, .inl (by walk_at "sq"), ?_⟩
    | refine ⟨_, _, rfl, .inr (by walk_at "sq"), ?_⟩
    | refine ⟨_, _, rfl, ?_⟩
    | refine ⟨_, _, _, rfl, ?_⟩
    | refine ⟨_, _, _, _, rfl, rfl, (by walk_at "sq"), (by walk_at "idx"), ?_⟩
    | refine ⟨_, _, _, _, _, rfl, .ty _, (by assumption), kit_ty (by assumption), ?_⟩
    | refine .inl ⟨_, rfl, ?_⟩
    | refine .inr ⟨_, rfl, ?_⟩))
local macro_rules | `(tactic| walk_at "unp2") => `(tactic| refine ⟨_, _, rfl, (by walk_at "sq"), rfl, _, _, rfl, _, _, rfl, rfl, ?_⟩)
local macro_rules | `(tactic| walk_at "unp3") => `(tactic| refine ⟨_, _, rfl, (by walk_at "sq"), rfl, _, _, rfl, _, _, rfl, _, _, rfl, rfl, ?_⟩)
local macro_rules | `(tactic| walk_at "pick") => `(tactic| refine ⟨_, _, _, rfl, SqL.of upd_same, Dice.ne (by assumption) (by assumption), Nat.zero_lt_succ _, Nat.le_of_ble_eq_true rfl, Dice.new (by assumption) (by assumption), ?_⟩)

theorem ok_l_roll (T : Tp K mg) : FnOk P w K mg base CX0 1 T.a_l_roll T.d_l_roll ["_law_dice_here", "_law_total"] (sp_l_roll K) := by
  refine T.F_l_roll.ok sc_l_roll ?len (fun cdv A outer s H vs Q E hr h => ?_)
  case len =>
    intro vs H Q E h
    obtain ⟨d, n, rfl, _⟩ := h
    rfl
  obtain ⟨d, n, rfl, h0, hn, ⟨x, y, z, hd⟩, q⟩ := h
  have hw : CDivW x n := wide_div (b := 250) h0 (by omega) (by decide) (by decide)
  refine ⟨_, (pss_cons (ps_if (pt_cmpR op_gt (pe_ix ix_list (pv 0) pe_int (fun _ _ => rfl)) pe_int (nomark _)) (pss_cons (ps_set (i := 4) sc_l_roll.nd rfl (Or.inl rfl) (pe_op op_mod (pe_callTy call_int1 (by rfl) T.m_int (by decide +kernel) (pa_cons (pe_ix ix_list (pv 0) pe_int (fun _ _ => rfl)) pa_nil)) (pv 1)))
      (pss_cons (ps_asg (pe_op op_fdivW (pe_ix ix_list (pv 0) pe_int (fun _ _ => rfl)) (pv 1)) (pg_sub (pv 0) pe_int set_list))
      (pss_one (ps_ret (pv 4))))) pss_nil)
    (pss_cons (ps_asg (pe_op op_add (pe_ix ix_list (pv 0) pe_int (fun _ _ => rfl)) pe_int) (pg_sub (pv 0) pe_int set_list))
    (pss_cons (ps_set (i := 2) sc_l_roll.nd rfl (Or.inl rfl) (pe_op op_mod (pe_callTy call_int1 (by rfl) T.m_int (by decide +kernel) (pa_cons (pe_op op_add (pe_ix ix_list (pv 0) pe_int (fun _ _ => rfl)) (pe_op op_mul pe_int (pe_ix ix_list (pv 0) pe_int (fun _ _ => rfl)))) pa_nil)) pe_int))
    (pss_cons (ps_set (i := 3) sc_l_roll.nd rfl (Or.inl rfl) (pe_op op_add (pe_op op_mul (pe_op op_mod (pe_callTy call_int1 (by rfl) T.m_int (by decide +kernel) (pa_cons (pe_op op_add (pe_op op_mul (pv 2) (pv 2)) (pe_op op_mul pe_int (pe_ix ix_list (pv 0) pe_int (fun _ _ => rfl)))) pa_nil)) pe_int) pe_int) (pv 2)))
    (pss_one (ps_ret (pe_op op_mod (pe_callTy call_int1 (by rfl) T.m_int (by decide +kernel) (pa_cons (pe_op op_fdivW (pv 3) pe_int) pa_nil)) (pv 1)))))))), ?_⟩
  walk_at "go"
  refine ite2 (fun e => ?_) (fun e => ?_)
  · walk_at "go"
    refine ⟨_, _, _, 0, rfl, rfl, hd, rfl, ?_⟩
    walk_at "go"
    exact q _ _ (Int.emod_nonneg _ (by omega)) (Int.emod_lt_of_pos _ h0) ⟨_, _, _, upd_same⟩ Ext.put
  · walk_at "go"
    refine ⟨_, _, _, 2, rfl, rfl, hd, rfl, ?_⟩
    have hd2 : upd H d (.lst [V.int x, V.int y, V.int (z + 1)]) d = some (.lst [V.int x, V.int y, V.int (z + 1)]) := upd_same
    walk_at "go"
    exact q _ _ (Int.emod_nonneg _ (by omega)) (Int.emod_lt_of_pos _ h0) ⟨_, _, _, upd_same⟩ Ext.put
theorem ok_l_pick (T : Tp K mg) : FnOk P w K mg base CX0 2 T.a_l_pick T.d_l_pick ["_law_dice_here", "_law_items"] (sp_l_pick K) := by
  refine T.F_l_pick.ok sc_l_pick ?len (fun cdv A outer s H vs Q E hr h => ?_)
  case len =>
    intro vs H Q E h
    obtain ⟨d, a, xs, rfl, _⟩ := h
    rfl
  obtain ⟨d, a, xs, rfl, hx, hne, h0, h1, D0, q⟩ := h
  refine ⟨_, (pss_one (ps_ret (pe_ix ix_list (pv 1) (pe_call (ok_l_roll T) (hr.mono (by decide)) (by rfl) T.g_l_roll T.F_l_roll.kp T.b_l_roll .nil pass0 (pa_cons (pv 0) (pa_cons (pe_callB call_len_seq (by rfl) T.m_len (by decide +kernel) (pa_cons (pv 1) pa_nil)) pa_nil))) (fun _ _ => rfl)))), ?_⟩
  walk_at "go"
  refine fun r H1 r0 r1 D1 X1 => ?_
  have hx1 : SqL K H1 a xs := X1.sql hne hx
  have hr : r.toNat < xs.length := by omega
  have hi : atI xs r = some xs[r.toNat] := at_of (j := r.toNat) (by omega) (List.getElem?_eq_getElem hr)
  walk_at "go"
  exact q _ _ (List.getElem_mem hr) D1 X1
theorem ok_l_dice (T : Tp K mg) : FnOk P w K mg base CX0 1 T.a_l_dice T.d_l_dice ["_law_script", "_law_spot"] (sp_l_dice K) := by
  refine T.F_l_dice.ok sc_l_dice ?len (fun cdv A outer s H vs Q E hr h => ?_)
  case len =>
    intro vs H Q E h
    obtain ⟨a, ns, k, rfl, _⟩ := h
    rfl
  obtain ⟨a, ns, k, rfl, hS, k0, k1, q⟩ := h
  refine ⟨_, (pss_cons (ps_set (i := 2) sc_l_dice.nd rfl (Or.inl rfl) (pe_ifExp (pt_cmpR op_lt (pv 1) (pe_callB call_len_seq (by rfl) T.m_len (by decide +kernel) (pa_cons (pv 0) pa_nil)) (nomark _)) (pe_callTy call_int1 (by rfl) T.m_int (by decide +kernel) (pa_cons (pe_ix ix_list (pv 0) (pv 1) (fun _ _ => rfl)) pa_nil)) (pe_op op_add (pe_op op_mul pe_int (pv 1)) pe_int)))
    (pss_cons (ps_set (i := 3) sc_l_dice.nd rfl (Or.inl rfl) (pe_op op_mod (pe_callB (call_max2 rfl) (by rfl) T.m_max (by decide +kernel) (pa_cons pe_int (pa_cons (pe_op op_sub (pe_callB call_abs (by rfl) T.m_abs (by decide +kernel) (pa_cons (pv 2) pa_nil)) (pe_op op_pow pe_int pe_int)) pa_nil))) (pe_op op_mulW (pe_op op_pow pe_int pe_int) (pe_op op_pow pe_int pe_int))))
    (pss_one (ps_ret (pe_lst (pa_cons (pv 3) (pa_cons (pe_op op_add (pe_op op_add (pe_op op_add (pe_op op_mul (pe_op op_mod (pe_callB call_abs (by rfl) T.m_abs (by decide +kernel) (pa_cons (pv 2) pa_nil)) pe_int) pe_int) (pe_op op_mul pe_int (pv 1))) (pe_op op_mul pe_int (pe_callTy call_int1 (by rfl) T.m_int (by decide +kernel) (pa_cons (pe_cmpR op_lt (pv 2) pe_int (nomark _)) pa_nil)))) pe_int) (pa_cons pe_int pa_nil)))))))), ?_⟩
  walk_at "go"
  refine ite2 (fun e => ?_) (fun e => ?_)
  · have hk : k.toNat < ns.length := by
      have := of_decide_eq_true e
      rw [List.length_map] at this
      omega
    have hi : atI (ns.map V.int) k = some (.int ns[k.toNat]) := at_of (j := k.toNat) (by omega) (by rw [List.getElem?_map, List.getElem?_eq_getElem hk]; rfl)
    walk_at "go"
    refine ⟨Nat.le_of_ble_eq_true rfl, fun p np => ?_⟩
    exact q p _ np ⟨_, _, _, upd_same⟩ (same_new np)
  · walk_at "go"
    refine ⟨Nat.le_of_ble_eq_true rfl, fun p np => ?_⟩
    exact q p _ np ⟨_, _, _, upd_same⟩ (same_new np)

theorem ok_is_whole (T : Tp K mg) : FnOk P w K mg base CX0 1 T.a_is_whole T.d_is_whole ["value"] (sp_is_whole K) := by
  refine T.F_is_whole.ok sc_is_whole ?len (fun cdv A outer s H vs Q E hr h => ?_)
  case len =>
    intro vs H Q E h
    obtain ⟨x, rfl, _⟩ := h
    rfl
  obtain ⟨x, rfl, j, q⟩ := h
  obtain ⟨n, t, hi, hb, hs⟩ := j.ty
  refine ⟨_, (pss_one (ps_ret (pe_and (pe_callB call_isi (by rfl) T.m_isinstance (by decide +kernel) (pa_cons (pv 0) (pa_cons (pe_bltn (v := .ty "int") (by rfl) T.m_int (by decide +kernel) rfl) pa_nil))) (pe_one (pe_not (pe_callB call_isi (by rfl) T.m_isinstance (by decide +kernel) (pa_cons (pv 0) (pa_cons (pe_bltn (v := .ty "bool") (by rfl) T.m_bool (by decide +kernel) rfl) pa_nil)))))))), ?_⟩
  walk_at "go"
  cases x <;> first
    | (refine iteF ?_; exact q)
    | (refine iteT ?_; walk_at "go"; exact q)
theorem ok_is_short (T : Tp K mg) : FnOk P w K mg base CX0 2 T.a_is_short T.d_is_short ["value"] (sp_is_short K) := by
  refine T.F_is_short.ok sc_is_short ?len (fun cdv A outer s H vs Q E hr h => ?_)
  case len =>
    intro vs H Q E h
    obtain ⟨x, rfl, _⟩ := h
    rfl
  obtain ⟨x, rfl, j, q⟩ := h
  refine ⟨_, (pss_one (ps_ret (pe_and (pe_call (ok_is_whole T) (hr.mono (by decide)) (by rfl) T.g_is_whole T.F_is_whole.kp T.b_is_whole .nil pass0 (pa_cons (pv 0) pa_nil)) (pe_one (pe_chain op_lt op_lt (pe_un un_neg (pe_glob (by rfl) T.c_GREATEST T.r_GREATEST)) (pv 0) (pe_glob (by rfl) T.c_GREATEST T.r_GREATEST)))))), ?_⟩
  walk_at "go"
  cases x with
  | int i =>
    walk_at "go"
    refine ite2 (fun e => ?_) (fun e => ?_)
    · walk_at "go"
      exact and_t (F := fun c => Q (.bl c) H) q e
    · exact and_f (F := fun c => Q (.bl c) H) q e
  | _ => refine iteF ?_; exact q
theorem ok_is_from (T : Tp K mg) : FnOk P w K mg base CX0 2 T.a_is_from T.d_is_from ["value", "least", "most"] (sp_is_from K) := by
  refine T.F_is_from.ok sc_is_from ?len (fun cdv A outer s H vs Q E hr h => ?_)
  case len =>
    intro vs H Q E h
    obtain ⟨x, a, b, rfl, _⟩ := h
    rfl
  obtain ⟨x, a, b, rfl, j, q⟩ := h
  refine ⟨_, (pss_one (ps_ret (pe_and (pe_call (ok_is_whole T) (hr.mono (by decide)) (by rfl) T.g_is_whole T.F_is_whole.kp T.b_is_whole .nil pass0 (pa_cons (pv 0) pa_nil)) (pe_one (pe_chain op_le op_le (pv 1) (pv 0) (pv 2)))))), ?_⟩
  walk_at "go"
  cases x with
  | int i =>
    walk_at "go"
    refine ite2 (fun e => ?_) (fun e => ?_)
    · walk_at "go"
      exact and_t (F := fun c => Q (.bl c) H) q e
    · exact and_f (F := fun c => Q (.bl c) H) q e
  | _ => refine iteF ?_; exact q

theorem ok_is_tick (T : Tp K mg) : FnOk P w K mg base CX0 3 T.a_is_tick T.d_is_tick ["value"] (sp_is_tick K) := by
  refine T.F_is_tick.ok sc_is_tick ?len (fun cdv A outer s H vs Q E hr h => ?_)
  case len => intro vs H Q E h; obtain ⟨x, rfl, _⟩ := h; rfl
  obtain ⟨x, rfl, j, q⟩ := h
  refine ⟨_, (pss_one (ps_ret (pe_and (pe_call (ok_is_short T) (hr.mono (by decide)) (by rfl) T.g_is_short T.F_is_short.kp T.b_is_short .nil pass0 (pa_cons (pv 0) pa_nil)) (pe_one (pe_cmpR op_ge (pv 0) pe_int (nomark _)))))), ?_⟩
  walk_at "go"
  cases x with
  | int i =>
    refine ite2 (fun e => ?_) (fun e => ?_)
    · walk_at "go"
      exact and_t (F := fun c => Q (.bl c) H) q e
    · exact and_f (F := fun c => Q (.bl c) H) q e
  | _ => refine iteF ?_; exact q
theorem ok_require_tick (T : Tp K mg) : FnOk P w K mg base CX0 4 T.a_require_tick T.d_require_tick ["value"] (sp_require_tick K) := by
  refine T.F_require_tick.ok sc_require_tick ?len (fun cdv A outer s H vs Q E hr h => ?_)
  case len => intro vs H Q E h; obtain ⟨x, rfl, _⟩ := h; rfl
  obtain ⟨i, rfl, h1, h2, q⟩ := h
  have j : Jd K H (.int i) := .int i
  have e : tickB (.int i) = true := by
    show ((decide _ && decide _) && decide _) = true
    rw [decide_eq_true h1, decide_eq_true h2, decide_eq_true (show -(10 ^ 60) < i by omega)]; rfl
  refine ⟨_, (pss_one (ps_if (pt_not (pt_val (pe_call (ok_is_tick T) (hr.mono (by decide)) (by rfl) T.g_is_tick T.F_is_tick.kp T.b_is_tick .nil pass0 (pa_cons (pv 0) pa_nil)))) (pss_one ps_never) pss_nil)), ?_⟩
  walk_at "go"
  rw [e]
  walk_at "go"
  exact q
theorem ok_is_luck_in (T : Tp K mg) : FnOk P w K mg base CX0 3 T.a_is_luck_in T.d_is_luck_in ["value"] (sp_is_luck_in K) := by
  refine T.F_is_luck_in.ok sc_is_luck_in ?len (fun cdv A outer s H vs Q E hr h => ?_)
  case len => intro vs H Q E h; obtain ⟨x, rfl, _⟩ := h; rfl
  obtain ⟨x, rfl, j, q⟩ := h
  refine ⟨_, (pss_one (ps_ret (pe_call (ok_is_from T) (hr.mono (by decide)) (by rfl) T.g_is_from T.F_is_from.kp T.b_is_from .nil pass0 (pa_cons (pv 0) (pa_cons pe_int (pa_cons (pe_op op_sub (pe_glob (by rfl) T.c_MODULUS T.r_MODULUS) pe_int) pa_nil)))))), ?_⟩
  walk_at "go"
  exact q
theorem ok_require_luck (T : Tp K mg) : FnOk P w K mg base CX0 4 T.a_require_luck T.d_require_luck ["value"] (sp_require_luck K) := by
  refine T.F_require_luck.ok sc_require_luck ?len (fun cdv A outer s H vs Q E hr h => ?_)
  case len => intro vs H Q E h; obtain ⟨x, rfl, _⟩ := h; rfl
  obtain ⟨i, rfl, h1, h2, q⟩ := h
  have j : Jd K H (.int i) := .int i
  have e : fromB (.int i) 0 999999936 = true := by
    show (decide _ && decide _) = true
    rw [decide_eq_true h1, decide_eq_true (show i ≤ 999999936 by omega)]; rfl
  refine ⟨_, (pss_one (ps_if (pt_not (pt_val (pe_call (ok_is_luck_in T) (hr.mono (by decide)) (by rfl) T.g_is_luck_in T.F_is_luck_in.kp T.b_is_luck_in .nil pass0 (pa_cons (pv 0) pa_nil)))) (pss_one ps_never) pss_nil)), ?_⟩
  walk_at "go"
  rw [e]
  walk_at "go"
  exact q
theorem ok_next_in (T : Tp K mg) : FnOk P w K mg base CX0 1 T.a_next_in T.d_next_in ["luck"] (sp_next_in K) := by
  refine T.F_next_in.ok sc_next_in ?len (fun cdv A outer s H vs Q E hr h => ?_)
  case len => intro vs H Q E h; obtain ⟨x, rfl, _⟩ := h; rfl
  obtain ⟨l, rfl, q⟩ := h
  refine ⟨_, (pss_one (ps_ret (pe_op op_mod (pe_op op_add (pe_op op_mul (pe_glob (by rfl) T.c_FACTOR T.r_FACTOR) (pv 0)) (pe_glob (by rfl) T.c_SUMMAND T.r_SUMMAND)) (pe_glob (by rfl) T.c_MODULUS T.r_MODULUS)))), ?_⟩
  walk_at "go"
  exact q
theorem ok_power (T : Tp K mg) : FnOk P w K mg base CX0 1 T.a_power T.d_power ["base", "many"] (sp_power K) := by
  refine T.F_power.ok sc_power ?len (fun cdv A outer s H vs Q E hr h => ?_)
  case len => intro vs H Q E h; obtain ⟨b, n, rfl, _⟩ := h; rfl
  obtain ⟨b, n, rfl, hb, hn, q⟩ := h
  refine ⟨_, (pss_cons (ps_set (i := 2) sc_power.nd rfl (Or.inl rfl) pe_int)
    (pss_cons (ps_while PassesOwn.never (pt_cmpR op_gt (pv 1) pe_int (nomark _)) (pss_cons (ps_if (pt_cmpR op_eq (pe_op op_mod (pv 1) pe_int) pe_int (nomark _)) (pss_one (ps_set (i := 2) sc_power.nd rfl (Or.inl rfl) (pe_op op_mod (pe_op op_mul (pv 2) (pv 0)) (pe_glob (by rfl) T.c_MODULUS T.r_MODULUS)))) pss_nil)
      (pss_one (ps_par (i := 0) (j := 1) (by rfl) sc_power.nd rfl rfl (by decide) rfl rfl (pa_cons (pe_op op_mod (pe_op op_mul (pv 0) (pv 0)) (pe_glob (by rfl) T.c_MODULUS T.r_MODULUS)) (pa_cons (pe_op op_fdivW (pv 1) pe_int) pa_nil)) (by rfl)))))
    (pss_one (ps_ret (pv 2))))), ?_⟩
  walk_at "go"
  refine ⟨fun m σ H' => ∃ f b' n', σ = [some (.int b'), some (.int n'), some (.int f)] ∧ H' = H ∧ 0 ≤ n' ∧ m = n'.toNat ∧ (-(2 ^ 64) < b' ∧ b' < 2 ^ 64) ∧ 0 ≤ f ∧ f < 999999937 ∧ f * b' ^ n'.toNat % 999999937 = pw b n.toNat, ⟨_, 1, b, n, rfl, rfl, hn, rfl, hb, by decide, by decide, ?_⟩, fun m σ H' hW => ?_⟩
  · rw [Int.one_mul]; unfold pw; rfl
  · obtain ⟨f, b', n', rfl, rfl, n0, rfl, hb', f0, f1, e0⟩ := hW
    walk_at "go"
    have tn : (if n'.toNat % 2 = 1 then f * b' % 999999937 else f) * (b' * b' % 999999937) ^ (n'.toNat / 2) % 999999937 = pw b n.toNat := by rw [pow_turn, e0]
    have hm0 : 0 ≤ f * b' % 999999937 := Int.emod_nonneg _ (by decide)
    have hm1 : f * b' % 999999937 < 999999937 := Int.emod_lt_of_pos _ (by decide)
    have hq0 : 0 ≤ b' * b' % 999999937 := Int.emod_nonneg _ (by decide)
    have hq1 : b' * b' % 999999937 < 999999937 := Int.emod_lt_of_pos _ (by decide)
    have en : (n' / 2).toNat = n'.toNat / 2 := by omega
    refine ite2 (fun e => ?_) (fun e => ?_)
    · have hp : 0 < n' := of_decide_eq_true e
      refine ⟨fun σ' H'' => ∃ m', m' < n'.toNat ∧ ∃ f b2 n2, σ' = [some (.int b2), some (.int n2), some (.int f)] ∧ H'' = H' ∧ 0 ≤ n2 ∧ m' = n2.toNat ∧ (-(2 ^ 64) < b2 ∧ b2 < 2 ^ 64) ∧ 0 ≤ f ∧ f < 999999937 ∧ f * b2 ^ n2.toNat % 999999937 = pw b n.toNat, fun σ' H'' h => h, ?_⟩
      walk_at "go"
      refine ite2 (fun e => ?_) (fun e => ?_)
      · walk_at "go"
        have e : n' % 2 = 1 := by simpa using e
        rw [if_pos (show n'.toNat % 2 = 1 by omega), ← en] at tn
        exact ⟨_, by omega, _, _, _, rfl, rfl, by omega, rfl, ⟨by omega, by omega⟩, hm0, hm1, tn⟩
      · walk_at "go"
        have e : ¬ n' % 2 = 1 := by simpa using e
        rw [if_neg (show ¬ n'.toNat % 2 = 1 by omega), ← en] at tn
        exact ⟨_, by omega, _, _, _, rfl, rfl, by omega, rfl, ⟨by omega, by omega⟩, f0, f1, tn⟩
    · have e : ¬ 0 < n' := fun z => e (decide_eq_true z)
      have e1 : n'.toNat = 0 := by omega
      rw [e1, Int.pow_zero, Int.mul_one, Int.emod_eq_of_lt f0 f1] at e0
      subst e0
      walk_at "go"
      exact q
theorem ok_over (T : Tp K mg) : FnOk P w K mg base CX0 2 T.a_over T.d_over ["one", "other"] (sp_over K) := by
  refine T.F_over.ok sc_over ?len (fun cdv A outer s H vs Q E hr h => ?_)
  case len => intro vs H Q E h; obtain ⟨x, y, rfl, _⟩ := h; rfl
  obtain ⟨x, y, rfl, hy, q⟩ := h
  have l0 := pw_lo y 999999935
  have l1 := pw_hi y 999999935
  refine ⟨_, (pss_one (ps_ret (pe_op op_mod (pe_op op_mul (pv 0) (pe_call (ok_power T) (hr.mono (by decide)) (by rfl) T.g_power T.F_power.kp T.b_power .nil pass0 (pa_cons (pv 1) (pa_cons (pe_op op_sub (pe_glob (by rfl) T.c_MODULUS T.r_MODULUS) pe_int) pa_nil)))) (pe_glob (by rfl) T.c_MODULUS T.r_MODULUS)))), ?_⟩
  walk_at "go"
  refine And.intro (Or.inr ⟨by show _ < pw y 999999935; omega, by show pw y 999999935 < _; omega⟩) ?_
  walk_at "go"
  exact q
theorem ok_led (T : Tp K mg) : FnOk P w K mg base CX0 1 T.a_led T.d_led ["luck", "factor"] (sp_led K) := by
  refine T.F_led.ok sc_led ?len (fun cdv A outer s H vs Q E hr h => ?_)
  case len => intro vs H Q E h; obtain ⟨x, y, rfl, _⟩ := h; rfl
  obtain ⟨l, f, rfl, hf, q⟩ := h
  refine ⟨_, (pss_one (ps_ret (pe_op op_mod (pe_op op_add (pe_op op_mul (pe_op op_sub (pv 0) (pe_glob (by rfl) T.c_STILL T.r_STILL)) (pv 1)) (pe_glob (by rfl) T.c_STILL T.r_STILL)) (pe_glob (by rfl) T.c_MODULUS T.r_MODULUS)))), ?_⟩
  walk_at "go"
  exact q

theorem ok_digit_of (T : Tp K mg) : FnOk P w K mg base CX0 2 T.a_digit_of T.d_digit_of ["told", "prime"] (sp_digit_of K) := by
  refine T.F_digit_of.ok sc_digit_of ?len (fun cdv A outer s H vs Q E hr h => ?_)
  case len => intro vs H Q E h; obtain ⟨x, y, _, _, _, rfl, _⟩ := h; rfl
  obtain ⟨x, y, q', c, j, rfl, rfl, rfl, p, hj, q⟩ := h
  have hq2 := p.two
  have hq3 := p.small
  have ec : (999999936 : Int) / (q' : Int) = (c : Int) := by
    rw [show (999999936 : Int) = ((q' * c : Nat) : Int) by rw [p.h]; rfl, Int.natCast_mul]
    exact Int.mul_ediv_cancel_left _ (by omega)
  have ec2 : ((999999937 - 1) / (q' : Int)).toNat = c := by
    rw [show (999999937 - 1 : Int) = 999999936 from rfl, ec]; rfl
  have hc0 : 0 ≤ (999999937 - 1) / (q' : Int) := by
    rw [show (999999937 - 1 : Int) = 999999936 from rfl, ec]; omega
  refine ⟨_, (pss_cons (ps_par3 (i := 2) (j := 3) (l := 4) (by rfl) sc_digit_of.nd rfl rfl rfl (by decide) (by decide) (by decide) rfl rfl rfl (pa_cons (pe_call (ok_power T) (hr.mono (by decide)) (by rfl) T.g_power T.F_power.kp T.b_power .nil pass0 (pa_cons (pe_glob (by rfl) T.c_FACTOR T.r_FACTOR) (pa_cons (pe_op op_fdivW (pe_op op_sub (pe_glob (by rfl) T.c_MODULUS T.r_MODULUS) pe_int) (pv 1)) pa_nil))) (pa_cons pe_int (pa_cons pe_int pa_nil))) (by rfl))
    (pss_cons (ps_while PassesOwn.never (pt_cmpR op_ne (pv 4) (pv 0) (nomark _)) (pss_one (ps_par (i := 4) (j := 3) (by rfl) sc_digit_of.nd rfl rfl (by decide) rfl rfl (pa_cons (pe_op op_mod (pe_op op_mul (pv 4) (pv 2)) (pe_glob (by rfl) T.c_MODULUS T.r_MODULUS)) (pa_cons (pe_op op_add (pv 3) pe_int) pa_nil)) (by rfl))))
    (pss_one (ps_ret (pv 3))))), ?_⟩
  walk_at "go"
  rw [ec2, pwF]
  walk_at "go"
  refine ⟨fun m σ H' => ∃ i : Nat, σ = [some (.int (fp (c * j) : Int)), some (.int (q' : Int)), some (.int (fp c : Int)), some (.int (i : Int)), some (.int (fp (c * i) : Int))] ∧ i ≤ j ∧ m = j - i ∧ H' = H, ⟨_, 0, ?_, Nat.zero_le _, rfl, rfl⟩, fun m σ H' hW => ?_⟩
  · rw [Nat.mul_zero, fp_zero]; rfl
  · obtain ⟨i, rfl, hi, rfl, rfl⟩ := hW
    walk_at "go"
    refine ite2 (fun e => ?_) (fun e => ?_)
    · have ne : fp (c * i) ≠ fp (c * j) := by
        intro z
        rw [z] at e
        simp at e
      have ij : i < j := by
        rcases Nat.lt_or_ge i j with z | z
        · exact z
        · exact absurd (by rw [show i = j by omega]) ne
      refine ⟨fun σ' H'' => σ' = [some (.int (fp (c * j) : Int)), some (.int (q' : Int)), some (.int (fp c : Int)), some (.int ((i + 1 : Nat) : Int)), some (.int (fp (c * (i + 1)) : Int))] ∧ H'' = H', fun σ' H'' hN => ⟨j - (i + 1), by omega, i + 1, hN.1, ij, rfl, hN.2⟩, ?_⟩
      have l1 := fp_lt (c * i)
      have hv : (fp (c * i) : Int) * (fp c : Int) % 999999937 = (fp (c * (i + 1)) : Int) := by rw [fpI_add, ← Nat.mul_succ]
      walk_at "go"
      refine ⟨?_, rfl⟩
      show [_, _, _, some (V.int ((i : Int) + 1)), some (V.int ((fp (c * i) : Int) * (fp c : Int) % 999999937))] = _
      rw [hv]
      rfl
    · have eq : fp (c * i) = fp (c * j) := by
        have : ¬ (¬ (fp (c * i) : Int) = (fp (c * j) : Int)) := by simpa using e
        have := Classical.not_not.mp this
        omega
      have := p.inj (by omega) hj eq
      subst this
      walk_at "go"
      exact q
theorem ok_times_modulo (T : Tp K mg) : FnOk P w K mg base CX0 3 T.a_times_modulo T.d_times_modulo ["goal", "prime", "many"] (sp_times_modulo K) := by
  refine T.F_times_modulo.ok sc_times_modulo ?len (fun cdv A outer s H vs Q E hr h => ?_)
  case len => intro vs H Q E h; obtain ⟨x, y, z, _, _, _, _, rfl, _⟩ := h; rfl
  obtain ⟨x, y, z, k, q', e, u, rfl, rfl, rfl, rfl, hq2, hq3, he, hu, q⟩ := h
  refine ⟨_, (pss_cons (ps_asg (pe_tup (pa_cons pe_int (pa_cons pe_int pa_nil))) (pg_tup (by rfl) (pgs_cons (pg_name (i := 3) sc_times_modulo.nd rfl (Or.inl rfl)) (pgs_cons (pg_name (i := 4) sc_times_modulo.nd rfl (Or.inl rfl)) pgs_nil))))
    (pss_cons (ps_for PassesOwn.never rfl (pi_range1 rfl T.m_range (pa_cons (pv 2) pa_nil)) (pg_name (i := 5) sc_times_modulo.nd rfl (Or.inl rfl)) (pss_cons (ps_set (i := 6) sc_times_modulo.nd rfl (Or.inl rfl) (pe_call (ok_over T) (hr.mono (by decide)) (by rfl) T.g_over T.F_over.kp T.b_over .nil pass0 (pa_cons (pv 0) (pa_cons (pe_call (ok_power T) (hr.mono (by decide)) (by rfl) T.g_power T.F_power.kp T.b_power .nil pass0 (pa_cons (pe_glob (by rfl) T.c_FACTOR T.r_FACTOR) (pa_cons (pv 3) pa_nil))) pa_nil))))
      (pss_cons (ps_set (i := 7) sc_times_modulo.nd rfl (Or.inl rfl) (pe_call (ok_power T) (hr.mono (by decide)) (by rfl) T.g_power T.F_power.kp T.b_power .nil pass0 (pa_cons (pv 6) (pa_cons (pe_op op_fdivW (pe_op op_sub (pe_glob (by rfl) T.c_MODULUS T.r_MODULUS) pe_int) (pe_op op_mul (pv 4) (pv 1))) pa_nil))))
      (pss_one (ps_par (i := 3) (j := 4) (by rfl) sc_times_modulo.nd rfl rfl (by decide) rfl rfl (pa_cons (pe_op op_add (pv 3) (pe_op op_mul (pv 4) (pe_call (ok_digit_of T) (hr.mono (by decide)) (by rfl) T.g_digit_of T.F_digit_of.kp T.b_digit_of .nil pass0 (pa_cons (pv 7) (pa_cons (pv 1) pa_nil))))) (pa_cons (pe_op op_mul (pv 4) (pv 1)) pa_nil)) (by rfl))))))
    (pss_one (ps_ret (pe_tup (pa_cons (pv 3) (pa_cons (pv 4) pa_nil))))))), ?_⟩
  walk_at "go"
  refine fun p0 np0 => ?_
  walk_at "unp2"
  walk_at "go"
  refine for_range (lo := 0) (n := e) (fun i σ H' => ∃ y5 y6 y7, σ = [some (.int (fp k : Int)), some (.int (q' : Int)), some (.int (e : Int)), some (.int ((k % q' ^ i : Nat) : Int)), some (.int ((q' ^ i : Nat) : Int)), y5, y6, y7] ∧ Same H H') ⟨none, none, none, ?_, same_new np0⟩ (fun i σ H' hi hW => ?_) (fun σ H' hW => ?_)
  · rw [Nat.pow_zero, Nat.mod_one]; rfl
  · obtain ⟨y5, y6, y7, rfl, sm⟩ := hW
    obtain ⟨u', hu'⟩ : ∃ u', q' ^ i * (q' * u') = 999999936 := ⟨q' ^ (e - i - 1) * u, by
      rw [← hu, ← Nat.mul_assoc, ← Nat.mul_assoc, ← Nat.pow_succ, ← Nat.pow_add]
      rw [show i + 1 + (e - i - 1) = e by omega]⟩
    obtain ⟨c, hc⟩ : ∃ c, q' * c = 999999936 := ⟨q' ^ i * u', by rw [← hu', Nat.mul_left_comm]⟩
    have te := told_eq (k := k) hu' hc
    have dl : k / q' ^ i % q' < q' := Nat.mod_lt _ (by omega)
    have nx1 : k % q' ^ (i + 1) = k % q' ^ i + q' ^ i * (k / q' ^ i % q') := by rw [Nat.pow_succ]; exact Nat.mod_mul
    have nx2 : q' ^ (i + 1) = q' ^ i * q' := Nat.pow_succ ..
    have hi0 : 0 < q' ^ i := Nat.pos_of_ne_zero fun z => by rw [z] at hu'; omega
    have hf : k % q' ^ i < q' ^ i := Nat.mod_lt _ hi0
    rw [nx1, nx2]
    generalize q' ^ i = s at *
    generalize k % s = f at *
    generalize k / s % q' = t at *
    have hsm : s * q' ≤ 999999936 := by
      rw [← hu', Nat.mul_comm q' u', ← Nat.mul_assoc, Nat.mul_right_comm]
      exact Nat.le_mul_of_pos_right _ (Nat.pos_of_ne_zero fun z => by rw [z] at hu'; omega)
    have hs1 : s ≤ 999999936 := Nat.le_trans (Nat.le_mul_of_pos_right _ (by omega)) hsm
    have hsp : 0 < s * q' := Nat.mul_pos hi0 (by omega)
    have lk := fp_lt k
    have hsI : ((s : Int) * (q' : Int)) = ((s * q' : Nat) : Int) := (Int.natCast_mul ..).symm
    have eu : (999999937 - 1 : Int) / ((s : Int) * (q' : Int)) = (u' : Int) := by
      rw [hsI, show (999999937 - 1 : Int) = ((s * q' * u' : Nat) : Int) by rw [Nat.mul_assoc, hu']; rfl, Int.natCast_mul (s * q')]
      exact Int.mul_ediv_cancel_left _ (by omega)
    have eu1 : 0 ≤ (999999937 - 1 : Int) / ((s : Int) * (q' : Int)) := by rw [eu]; exact Int.natCast_nonneg _
    have cdw : CDivW (999999937 - 1) ((s : Int) * (q' : Int)) := wide_div (b := 250) (by rw [hsI]; omega) (by rw [hsI]; omega) (by decide) (by decide)
    have lff := fp_lt f
    have hrest : (fp k : Int) * pw (fp f : Int) 999999935 % 999999937 = (fp (k + f * 999999935) : Int) := by rw [pwfp, fpI_add]
    have lr := fp_lt (k + f * 999999935)
    have htold : pw (fp (k + f * 999999935) : Int) ((999999937 - 1 : Int) / ((s : Int) * (q' : Int))).toNat = (fp (c * t) : Int) := by rw [eu, pwfp]; exact congrArg _ te
    walk_at "go"
    rw [pwF, show ((f : Int).toNat) = f from rfl]
    walk_at "go"
    refine ⟨_, _, q', c, t, rfl, by rw [hrest, htold], rfl, ⟨hc, hq2, hq3⟩, dl, ?_⟩
    walk_at "go"
    exact sm
  · obtain ⟨y5, y6, y7, rfl, sm⟩ := hW
    walk_at "go"
    refine ⟨Nat.le_of_ble_eq_true rfl, fun p np => ?_⟩
    exact q p _ (sm.free np) (sm.trans (same_new np)) upd_same

theorem ok_times_of (T : Tp K mg) : FnOk P w K mg base CX0 4 T.a_times_of T.d_times_of ["goal"] (sp_times_of K) := by
  refine T.F_times_of.ok sc_times_of ?len (fun cdv A outer s H vs Q E hr h => ?_)
  case len => intro vs H Q E h; obtain ⟨x, _, rfl, _⟩ := h; rfl
  obtain ⟨x, k, rfl, rfl, hk, q⟩ := h
  refine ⟨_, (pss_cons (ps_asg (pe_tup (pa_cons pe_int (pa_cons pe_int pa_nil))) (pg_tup (by rfl) (pgs_cons (pg_name (i := 1) sc_times_of.nd rfl (Or.inl rfl)) (pgs_cons (pg_name (i := 2) sc_times_of.nd rfl (Or.inl rfl)) pgs_nil))))
    (pss_cons (ps_for PassesOwn.never rfl (pi_tup (pe_glob (by rfl) T.c_PRIME_POWERS T.r_PRIME_POWERS)) (pg_tup (by rfl) (pgs_cons (pg_name (i := 3) sc_times_of.nd rfl (Or.inl rfl)) (pgs_cons (pg_name (i := 4) sc_times_of.nd rfl (Or.inl rfl)) pgs_nil))) (pss_cons (ps_asg (pe_call (ok_times_modulo T) (hr.mono (by decide)) (by rfl) T.g_times_modulo T.F_times_modulo.kp T.b_times_modulo .nil pass0 (pa_cons (pv 0) (pa_cons (pv 3) (pa_cons (pv 4) pa_nil)))) (pg_tup (by rfl) (pgs_cons (pg_name (i := 5) sc_times_of.nd rfl (Or.inl rfl)) (pgs_cons (pg_name (i := 6) sc_times_of.nd rfl (Or.inl rfl)) pgs_nil))))
      (pss_cons (ps_while PassesOwn.never (pt_cmpR op_ne (pe_op op_mod (pv 1) (pv 6)) (pv 5) (nomark _)) (pss_one (ps_aug (i := 1) sc_times_of.nd rfl (Or.inl rfl) (pv 2) ip_add)))
      (pss_one (ps_aug (i := 2) sc_times_of.nd rfl (Or.inl rfl) (pv 6) iop_mul)))))
    (pss_one (ps_ret (pv 1))))), ?_⟩
  walk_at "go"
  refine fun p0 np0 => ?_
  walk_at "unp2"
  walk_at "go"
  refine ⟨⟨_, T.s_PRIME_POWERS _⟩, for_tup (K := K) (xs := _) (fun i σ H' => ∃ y3 y4 y5 y6, σ = [some (.int (fp k : Int)), some (.int ((k % MD i : Nat) : Int)), some (.int (MD i : Int)), y3, y4, y5, y6] ∧ Same H H') ⟨none, none, none, none, ?_, same_new np0⟩ (fun i σ H' hi hW => T.s_PRIME_POWERS _) (fun i x σ H' hx hW => ?_) (fun σ H' hW => ?_)⟩
  · rw [show MD 0 = 1 from rfl, Nat.mod_one]; rfl
  · obtain ⟨y3, y4, y5, y6, rfl, sm⟩ := hW
    obtain ⟨pj, D, q', e0, u, rfl, hS, hD, hD', co, D0, hq2, hq3, he, hu, hDs⟩ : ∃ (pj : Addr) (D q e u : Nat), x = .ref pj ∧ (∀ H, SqT K H pj [.int (q : Int), .int (e : Int)]) ∧ MD i = D ∧ MD (i + 1) = D * q ^ e ∧ Nat.Coprime (q ^ e) D ∧ 0 < D ∧ 2 ≤ q ∧ q ≤ 1609 ∧ e ≤ 6 ∧ q ^ e * u = 999999936 ∧ D * q ^ e ≤ 999999936 := by
      have hl := (List.getElem?_eq_some_iff.mp hx).1
      have : i = 0 ∨ i = 1 ∨ i = 2 ∨ i = 3 ∨ i = 4 := by
        have : i < 5 := hl
        omega
      rcases this with rfl | rfl | rfl | rfl | rfl <;> (have e := Option.some.inj hx; subst e)
      · exact ⟨_, 1, 2, 6, 15624999, rfl, T.s0_PRIME_POWERS, rfl, rfl, by decide, by decide, by decide, by decide, by decide, rfl, by decide⟩
      · exact ⟨_, 64, 3, 2, 111111104, rfl, T.s1_PRIME_POWERS, rfl, rfl, by decide +kernel, by decide, by decide, by decide, by decide, rfl, by decide⟩
      · exact ⟨_, 576, 13, 1, 76923072, rfl, T.s2_PRIME_POWERS, rfl, rfl, by decide +kernel, by decide, by decide, by decide, by decide, rfl, by decide⟩
      · exact ⟨_, 7488, 83, 1, 12048192, rfl, T.s3_PRIME_POWERS, rfl, rfl, by decide +kernel, by decide, by decide, by decide, by decide, rfl, by decide⟩
      · exact ⟨_, 621504, 1609, 1, 621504, rfl, T.s4_PRIME_POWERS, rfl, rfl, by decide +kernel, by decide, by decide, by decide, by decide, rfl, by decide⟩
    rw [hD, hD']
    have hs0 : 0 < q' ^ e0 := Nat.pos_of_ne_zero fun z => by rw [z] at hu; omega
    refine ⟨_, _, rfl, hS _, rfl, _, _, rfl, _, _, rfl, rfl, ?_⟩
    walk_at "go"
    refine ⟨_, _, _, k, q', e0, u, rfl, rfl, rfl, rfl, hq2, hq3, he, hu, fun p1 H1 np1 sm1 hp1 => ?_⟩
    generalize q' ^ e0 = s at *
    have hsb : s ≤ 999999936 := by
      have := Nat.le_mul_of_pos_left s D0
      omega
    have hDb : D ≤ 999999936 := by
      have := Nat.le_mul_of_pos_right D hs0
      omega
    walk_at "unp2"
    refine ⟨fun m σ H' => ∃ t, σ = [some (.int (fp k : Int)), some (.int ((k % D + D * t : Nat) : Int)), some (.int (D : Int)), some (.int (q' : Int)), some (.int (e0 : Int)), some (.int ((k % s : Nat) : Int)), some (.int (s : Int))] ∧ t ≤ k / D % s ∧ m = k / D % s - t ∧ H' = H1, ⟨_, 0, rfl, Nat.zero_le _, rfl, rfl⟩, fun m σ H2 hW => ?_⟩
    obtain ⟨t, rfl, ht, rfl, rfl⟩ := hW
    walk_at "go"
    have ec : (((k % D + D * t : Nat) : Int) % (s : Int)) = (((k % D + D * t) % s : Nat) : Int) := (Int.natCast_emod ..).symm
    have e1 : k % (D * s) = k % D + D * (k / D % s) := Nat.mod_mul
    have e2 : k % (D * s) % s = k % s := Nat.mod_mul_left_mod k D s
    refine ite2 (fun e => ?_) (fun e => ?_)
    · have ne : (k % D + D * t) % s ≠ k % s := by
        intro z
        have e : (!decide (V.int (((k % D + D * t : Nat) : Int) % (s : Int)) = V.int ((k % s : Nat) : Int))) = true := e
        rw [show V.int (((k % D + D * t : Nat) : Int) % (s : Int)) = V.int ((k % s : Nat) : Int) by rw [ec, z]] at e
        simp at e
      have lt : t < k / D % s := by
        rcases Nat.lt_or_ge t (k / D % s) with z | z
        · exact z
        · rw [show t = k / D % s by omega, ← e1, e2] at ne
          exact absurd rfl ne
      refine ⟨fun σ' H3 => σ' = [some (.int (fp k : Int)), some (.int ((k % D + D * (t + 1) : Nat) : Int)), some (.int (D : Int)), some (.int (q' : Int)), some (.int (e0 : Int)), some (.int ((k % s : Nat) : Int)), some (.int (s : Int))] ∧ H3 = H2, fun σ' H3 hN => ⟨k / D % s - (t + 1), by omega, t + 1, hN.1, lt, rfl, hN.2⟩, ?_⟩
      have hv : ((k % D + D * t : Nat) : Int) + (D : Int) = ((k % D + D * (t + 1) : Nat) : Int) := by
        rw [Nat.mul_succ, ← Nat.add_assoc, ← Int.natCast_add]
      walk_at "go"
      refine ⟨?_, rfl⟩
      show [_, some (V.int (((k % D + D * t : Nat) : Int) + (D : Int))), _, _, _, _, _] = _
      rw [hv]
    · have eq : (k % D + D * t) % s = k % s := by
        have z : ((k % D + D * t : Nat) : Int) % (s : Int) = ((k % s : Nat) : Int) := by simpa using e
        rw [ec] at z
        omega
      have := crt D0 hs0 co ht eq
      subst this
      walk_at "go"
      refine ⟨some (.int (q' : Int)), some (.int (e0 : Int)), some (.int ((k % s : Nat) : Int)), some (.int (s : Int)), ?_, sm.trans sm1⟩
      rw [e1]
      rfl
  · obtain ⟨y3, y4, y5, y6, rfl, sm⟩ := hW
    walk_at "go"
    have := q H' sm
    rw [← Nat.mod_eq_of_lt hk] at this
    exact this
theorem ok_next_luck (T : Tp K mg) : FnOk P w K mg base CX0 5 T.a_next_luck T.d_next_luck ["luck"] (sp_next_luck K) := by
  refine T.F_next_luck.ok sc_next_luck ?len (fun cdv A outer s H vs Q E hr h => ?_)
  case len => intro vs H Q E h; obtain ⟨x, rfl, _⟩ := h; rfl
  obtain ⟨l, rfl, h0, h1, q⟩ := h
  refine ⟨_, (pss_cons (ps_expr (pe_call (ok_require_luck T) (hr.mono (by decide)) (by rfl) T.g_require_luck T.F_require_luck.kp T.b_require_luck .nil pass0 (pa_cons (pv 0) pa_nil)))
    (pss_one (ps_ret (pe_call (ok_next_in T) (hr.mono (by decide)) (by rfl) T.g_next_in T.F_next_in.kp T.b_next_in .nil pass0 (pa_cons (pv 0) pa_nil))))), ?_⟩
  walk_at "go"
  exact q
theorem ok_luck_ahead (T : Tp K mg) : FnOk P w K mg base CX0 5 T.a_luck_ahead T.d_luck_ahead ["luck"] (sp_luck_ahead K) := by
  refine T.F_luck_ahead.ok sc_luck_ahead ?len (fun cdv A outer s H vs Q E hr h => ?_)
  case len => intro vs H Q E h; obtain ⟨x, rfl, _⟩ := h; rfl
  obtain ⟨l, rfl, h0, h1, q⟩ := h
  refine ⟨_, (pss_cons (ps_expr (pe_call (ok_require_luck T) (hr.mono (by decide)) (by rfl) T.g_require_luck T.F_require_luck.kp T.b_require_luck .nil pass0 (pa_cons (pv 0) pa_nil)))
    (pss_one (ps_ret (pe_call (ok_over T) (hr.mono (by decide)) (by rfl) T.g_over T.F_over.kp T.b_over .nil pass0 (pa_cons (pe_op op_sub (pv 0) (pe_glob (by rfl) T.c_SUMMAND T.r_SUMMAND)) (pa_cons (pe_glob (by rfl) T.c_FACTOR T.r_FACTOR) pa_nil)))))), ?_⟩
  walk_at "go"
  exact q
theorem ok_luck_after (T : Tp K mg) : FnOk P w K mg base CX0 5 T.a_luck_after T.d_luck_after ["luck", "many"] (sp_luck_after K) := by
  refine T.F_luck_after.ok sc_luck_after ?len (fun cdv A outer s H vs Q E hr h => ?_)
  case len => intro vs H Q E h; obtain ⟨x, y, rfl, _⟩ := h; rfl
  obtain ⟨l, n, rfl, h0, h1, n0, n1, q⟩ := h
  refine ⟨_, (pss_cons (ps_expr (pe_call (ok_require_luck T) (hr.mono (by decide)) (by rfl) T.g_require_luck T.F_require_luck.kp T.b_require_luck .nil pass0 (pa_cons (pv 0) pa_nil)))
    (pss_cons (ps_expr (pe_call (ok_require_tick T) (hr.mono (by decide)) (by rfl) T.g_require_tick T.F_require_tick.kp T.b_require_tick .nil pass0 (pa_cons (pv 1) pa_nil)))
    (pss_one (ps_ret (pe_call (ok_led T) (hr.mono (by decide)) (by rfl) T.g_led T.F_led.kp T.b_led .nil pass0 (pa_cons (pv 0) (pa_cons (pe_call (ok_power T) (hr.mono (by decide)) (by rfl) T.g_power T.F_power.kp T.b_power .nil pass0 (pa_cons (pe_glob (by rfl) T.c_FACTOR T.r_FACTOR) (pa_cons (pv 1) pa_nil))) pa_nil))))))), ?_⟩
  walk_at "go"
  rw [pwF]
  have := fp_lt n.toNat
  walk_at "go"
  exact q
theorem ok_luck_before (T : Tp K mg) : FnOk P w K mg base CX0 5 T.a_luck_before T.d_luck_before ["luck", "many"] (sp_luck_before K) := by
  refine T.F_luck_before.ok sc_luck_before ?len (fun cdv A outer s H vs Q E hr h => ?_)
  case len => intro vs H Q E h; obtain ⟨x, y, rfl, _⟩ := h; rfl
  obtain ⟨l, n, rfl, h0, h1, n0, n1, q⟩ := h
  refine ⟨_, (pss_cons (ps_expr (pe_call (ok_require_luck T) (hr.mono (by decide)) (by rfl) T.g_require_luck T.F_require_luck.kp T.b_require_luck .nil pass0 (pa_cons (pv 0) pa_nil)))
    (pss_cons (ps_expr (pe_call (ok_require_tick T) (hr.mono (by decide)) (by rfl) T.g_require_tick T.F_require_tick.kp T.b_require_tick .nil pass0 (pa_cons (pv 1) pa_nil)))
    (pss_one (ps_ret (pe_call (ok_led T) (hr.mono (by decide)) (by rfl) T.g_led T.F_led.kp T.b_led .nil pass0 (pa_cons (pv 0) (pa_cons (pe_call (ok_power T) (hr.mono (by decide)) (by rfl) T.g_power T.F_power.kp T.b_power .nil pass0 (pa_cons (pe_call (ok_over T) (hr.mono (by decide)) (by rfl) T.g_over T.F_over.kp T.b_over .nil pass0 (pa_cons pe_int (pa_cons (pe_glob (by rfl) T.c_FACTOR T.r_FACTOR) pa_nil))) (pa_cons (pv 1) pa_nil))) pa_nil))))))), ?_⟩
  walk_at "go"
  rw [pwF, Int.one_mul, fpI_mod]
  have := fp_lt 999999935
  walk_at "go"
  rw [pwfp]
  have := fp_lt (999999935 * n.toNat)
  walk_at "go"
  exact q
theorem ok_lucks_between (T : Tp K mg) : FnOk P w K mg base CX0 5 T.a_lucks_between T.d_lucks_between ["one", "other"] (sp_lucks_between K) := by
  refine T.F_lucks_between.ok sc_lucks_between ?len (fun cdv A outer s H vs Q E hr h => ?_)
  case len => intro vs H Q E h; obtain ⟨x, y, rfl, _⟩ := h; rfl
  obtain ⟨a, b, rfl, a0, a1, b0, b1, q⟩ := h
  refine ⟨_, (pss_cons (ps_expr (pe_call (ok_require_luck T) (hr.mono (by decide)) (by rfl) T.g_require_luck T.F_require_luck.kp T.b_require_luck .nil pass0 (pa_cons (pv 0) pa_nil)))
    (pss_cons (ps_expr (pe_call (ok_require_luck T) (hr.mono (by decide)) (by rfl) T.g_require_luck T.F_require_luck.kp T.b_require_luck .nil pass0 (pa_cons (pv 1) pa_nil)))
    (pss_cons (ps_if (pt_cmpR op_eq (pv 0) (pv 1) (nomark _)) (pss_one (ps_ret pe_int)) pss_nil)
    (pss_cons (ps_if (pt_cmpR op_in_seq (pe_glob (by rfl) T.c_STILL T.r_STILL) (pe_tup (pa_cons (pv 0) (pa_cons (pv 1) pa_nil))) (by rfl)) (pss_one (ps_ret pe_non)) pss_nil)
    (pss_one (ps_ret (pe_call (ok_times_of T) (hr.mono (by decide)) (by rfl) T.g_times_of T.F_times_of.kp T.b_times_of .nil pass0 (pa_cons (pe_call (ok_over T) (hr.mono (by decide)) (by rfl) T.g_over T.F_over.kp T.b_over .nil pass0 (pa_cons (pe_op op_sub (pv 1) (pe_glob (by rfl) T.c_STILL T.r_STILL)) (pa_cons (pe_op op_sub (pv 0) (pe_glob (by rfl) T.c_STILL T.r_STILL)) pa_nil))) pa_nil)))))))), ?_⟩
  walk_at "go"
  refine ite2 (fun e => ?_) (fun e => ?_)
  · have e : a = b := by simpa using e
    walk_at "go"
    exact q _ _ (Same.refl H) (.inl ⟨e, rfl⟩)
  · have e : a ≠ b := by simpa using e
    walk_at "go"
    refine ⟨Nat.le_of_ble_eq_true rfl, fun p np => ?_⟩
    refine ⟨_, _, rfl, .inr (SqT.of upd_same), rfl, rfl, ?_⟩
    walk_at "go"
    have hv : inV (.int 949019055) [.int a, .int b] = (decide (a = 949019055) || decide (b = 949019055)) := by
      show ((a == 949019055) || ((b == 949019055) || false)) = _
      rw [Bool.or_false, Bool.beq_eq_decide_eq, Bool.beq_eq_decide_eq]
    by_cases hs : a = 949019055 ∨ b = 949019055
    · refine iteY ?_ ?_
      · show inV (.int 949019055) [.int a, .int b] = true
        rw [hv]
        simpa using hs
      · exact q _ _ (same_new np) (.inr (.inl ⟨e, hs, rfl⟩))
    · have ha : a ≠ 949019055 := fun z => hs (.inl z)
      have hb : b ≠ 949019055 := fun z => hs (.inr z)
      refine iteN ?_ ?_
      · show ¬ inV (.int 949019055) [.int a, .int b] = true
        rw [hv]
        simpa using hs
      · obtain ⟨k, hk, ek, lb⟩ := lb_of a0 a1 b0 b1 e ha hb
        walk_at "go"
        exact ⟨_, k, rfl, ek, hk, fun H' sm => q _ _ ((same_new np).trans sm) lb⟩

theorem ok_l_behind (T : Tp K mg) : FnOk P w K mg base CX0 1 T.a_l_behind T.d_l_behind ["_law_one", "_law_other"] (sp_l_behind K) := by
  refine T.F_l_behind.ok sc_l_behind ?len (fun cdv A outer s H vs Q E hr h => ?_)
  case len => intro vs H Q E h; obtain ⟨x, y, _, _, rfl, _⟩ := h; rfl
  obtain ⟨p, q', i, j, rfl, hp, hq, q⟩ := h
  have a0 := fp_lt i
  have b0 := fp_lt j
  have a1 := lbI_lo i
  have a2 := lbI_hi i
  have b1 := lbI_lo j
  have b2 := lbI_hi j
  refine ⟨_, (pss_one (ps_ret (pe_tup (pa_cons (pe_op op_mod (pe_callTy call_int1 (by rfl) T.m_int (by decide +kernel) (pa_cons (pe_op op_mul (pe_ix ix_tup (pv 0) pe_int (fun _ _ => rfl)) (pe_ix ix_tup (pv 1) pe_int (fun _ _ => rfl))) pa_nil)) pe_int) (pa_cons (pe_op op_mod (pe_callTy call_int1 (by rfl) T.m_int (by decide +kernel) (pa_cons (pe_op op_add (pe_op op_mul (pe_ix ix_tup (pv 0) pe_int (fun _ _ => rfl)) (pe_ix ix_tup (pv 1) pe_int (fun _ _ => rfl))) (pe_ix ix_tup (pv 1) pe_int (fun _ _ => rfl))) pa_nil)) pe_int) pa_nil))))), ?_⟩
  walk_at "go"
  refine ⟨Nat.le_of_ble_eq_true rfl, fun r nr => ?_⟩
  refine q r _ (same_new nr) (SqT.of ?_)
  rw [upd_same]
  show some (HO.tup [.int ((fp i : Int) * (fp j : Int) % 999999937), .int ((lbI i * (fp j : Int) + lbI j) % 999999937)]) = _
  rw [fpI_add, lbI_comp]
theorem ok_l_line (T : Tp K mg) : FnOk P w K mg base CX0 2 T.a_l_line T.d_l_line ["_law_many"] (sp_l_line K) := by
  refine T.F_l_line.ok sc_l_line ?len (fun cdv A outer s H vs Q E hr h => ?_)
  case len => intro vs H Q E h; obtain ⟨x, rfl, _⟩ := h; rfl
  obtain ⟨n, rfl, n0, n1, q⟩ := h
  refine ⟨_, (pss_cons (ps_par3 (i := 1) (j := 2) (l := 3) (by rfl) sc_l_line.nd rfl rfl rfl (by decide) (by decide) (by decide) rfl rfl rfl (pa_cons (pe_tup (pa_cons pe_int (pa_cons pe_int pa_nil))) (pa_cons (pe_tup (pa_cons pe_int (pa_cons pe_int pa_nil))) (pa_cons (pv 0) pa_nil))) (by rfl))
    (pss_cons (ps_for PassesOwn.never rfl (pi_range1 rfl T.m_range (pa_cons pe_int pa_nil)) (pg_name (i := 4) sc_l_line.nd rfl (Or.inl rfl)) (pss_cons (ps_if (pt_cmpR op_eq (pv 3) pe_int (nomark _)) (pss_one ps_break) pss_nil)
      (pss_cons (ps_if (pt_cmpR op_eq (pe_op op_mod (pe_callTy call_int1 (by rfl) T.m_int (by decide +kernel) (pa_cons (pv 3) pa_nil)) pe_int) pe_int (nomark _)) (pss_one (ps_set (i := 1) sc_l_line.nd rfl (Or.inl rfl) (pe_call (ok_l_behind T) (hr.mono (by decide)) (by rfl) T.g_l_behind T.F_l_behind.kp T.b_l_behind .nil pass0 (pa_cons (pv 1) (pa_cons (pv 2) pa_nil))))) pss_nil)
      (pss_one (ps_par (i := 2) (j := 3) (by rfl) sc_l_line.nd rfl rfl (by decide) rfl rfl (pa_cons (pe_call (ok_l_behind T) (hr.mono (by decide)) (by rfl) T.g_l_behind T.F_l_behind.kp T.b_l_behind .nil pass0 (pa_cons (pv 2) (pa_cons (pv 2) pa_nil))) (pa_cons (pe_op op_fdivW (pv 3) pe_int) pa_nil)) (by rfl))))))
    (pss_one (ps_ret (pv 1))))), ?_⟩
  walk_at "go"
  refine fun p1 np1 => ?_
  walk_at "go"
  refine fun p2 np2 => ?_
  walk_at "go"
  refine for_range (lo := 0) (n := 230) (fun i σ H' => ∃ (pf ph : Addr) (j : Nat) (left : Int) (y4 : Option V), σ = [some (.int n), some (.ref pf), some (.ref ph), some (.int left), y4] ∧ Same H H' ∧ SqT K H' pf [.int (fp j : Int), .int (lbI j)] ∧ SqT K H' ph [.int (fp (2 ^ i) : Int), .int (lbI (2 ^ i))] ∧ 0 ≤ left ∧ left.toNat < 2 ^ (229 - i) ∧ j + 2 ^ i * left.toNat = n.toNat)
    ⟨p1, p2, 0, n, none, rfl, (same_new np1).trans (same_new np2), ?_, ?_, n0, by omega, by omega⟩ (fun i σ H' hi hW => ?_) (fun σ H' hW => ?_)
  · rw [fp_zero, lbI_zero]
    exact same_sqt (same_new np2) (SqT.of upd_same)
  · rw [Nat.pow_zero, fp_one, lbI_one]
    exact SqT.of upd_same
  · obtain ⟨pf, ph, j, left, y4, rfl, sm, hf, hh, l0, l1, e0⟩ := hW
    walk_at "go"
    refine ite2 (fun e => ?_) (fun e => ?_)
    · have e : left = 0 := by simpa using e
      subst e
      rw [show (0 : Int).toNat = 0 from rfl, Nat.mul_zero, Nat.add_zero] at e0
      subst e0
      walk_at "go"
      exact q _ _ sm hf
    · have e : left ≠ 0 := by simpa using e
      have hi9 : i < 229 := by
        rcases Nat.lt_or_ge i 229 with z | z
        · exact z
        · rw [show 229 - i = 0 by omega, Nat.pow_zero] at l1
          omega
      have hp : 2 ^ (229 - i) = 2 * 2 ^ (229 - (i + 1)) := by
        rw [show 229 - i = (229 - (i + 1)) + 1 by omega, Nat.pow_succ, Nat.mul_comm]
      have hl : (left / 2).toNat = left.toNat / 2 := by omega
      have hd : left.toNat = 2 * (left.toNat / 2) + left.toNat % 2 := by omega
      have hm : 2 ^ (i + 1) * (left.toNat / 2) = 2 ^ i * (2 * (left.toNat / 2)) := by rw [Nat.pow_succ, Nat.mul_assoc]
      have ht : 2 ^ i + 2 ^ i = 2 ^ (i + 1) := by rw [Nat.pow_succ]; omega
      rw [hd, Nat.mul_add] at e0
      walk_at "go"
      refine ite2 (fun e => ?_) (fun e => ?_)
      · have e : left % 2 = 1 := by simpa using e
        walk_at "go"
        refine ⟨_, _, j, 2 ^ i, rfl, hf, hh, fun r1 H1 sm1 hr1 => ?_⟩
        walk_at "go"
        refine ⟨_, _, 2 ^ i, 2 ^ i, rfl, same_sqt sm1 hh, same_sqt sm1 hh, fun r2 H2 sm2 hr2 => ?_⟩
        walk_at "go"
        refine ⟨r1, r2, j + 2 ^ i, left / 2, some (.int (0 + (i : Int))), rfl, (sm.trans sm1).trans sm2, same_sqt sm2 hr1, ?_, by omega, by omega, ?_⟩
        · rw [← ht]
          exact hr2
        · rw [hl, hm]
          rw [show left.toNat % 2 = 1 by omega] at e0
          omega
      · have e : ¬ left % 2 = 1 := by simpa using e
        walk_at "go"
        refine ⟨_, _, 2 ^ i, 2 ^ i, rfl, hh, hh, fun r2 H2 sm2 hr2 => ?_⟩
        walk_at "go"
        refine ⟨pf, r2, j, left / 2, some (.int (0 + (i : Int))), rfl, sm.trans sm2, same_sqt sm2 hf, ?_, by omega, by omega, ?_⟩
        · rw [← ht]
          exact hr2
        · rw [hl, hm]
          rw [show left.toNat % 2 = 0 by omega] at e0
          omega
  · obtain ⟨pf, ph, j, left, y4, rfl, sm, hf, hh, l0, l1, e0⟩ := hW
    have e : left.toNat = 0 := by
      have : left.toNat < 1 := l1
      omega
    rw [e, Nat.mul_zero, Nat.add_zero] at e0
    subst e0
    walk_at "go"
    exact q _ _ sm hf
theorem ok_l_led (T : Tp K mg) : FnOk P w K mg base CX0 3 T.a_l_led T.d_l_led ["_law_luck", "_law_many"] (sp_l_led K) := by
  refine T.F_l_led.ok sc_l_led ?len (fun cdv A outer s H vs Q E hr h => ?_)
  case len => intro vs H Q E h; obtain ⟨x, y, rfl, _⟩ := h; rfl
  obtain ⟨l, n, rfl, l0, l1, n0, n1, q⟩ := h
  have a0 := fp_lt n.toNat
  have a1 := lbI_lo n.toNat
  have a2 := lbI_hi n.toNat
  refine ⟨_, (pss_cons (ps_set (i := 2) sc_l_led.nd rfl (Or.inl rfl) (pe_call (ok_l_line T) (hr.mono (by decide)) (by rfl) T.g_l_line T.F_l_line.kp T.b_l_line .nil pass0 (pa_cons (pv 1) pa_nil)))
    (pss_one (ps_ret (pe_op op_mod (pe_callTy call_int1 (by rfl) T.m_int (by decide +kernel) (pa_cons (pe_op op_add (pe_op op_mul (pe_ix ix_tup (pv 2) pe_int (fun _ _ => rfl)) (pv 0)) (pe_ix ix_tup (pv 2) pe_int (fun _ _ => rfl))) pa_nil)) pe_int)))), ?_⟩
  walk_at "go"
  refine fun r H1 sm hr => ?_
  walk_at "go"
  show Q (.int (((fp n.toNat : Int) * l + lbI n.toNat) % 999999937)) H1
  rw [led_line]
  exact q _ sm
theorem ok_l_luck_drawn (T : Tp K mg) : FnOk P w K mg base CX0 3 T.a_l_luck_drawn T.d_l_luck_drawn ["_law_dice_here"] (sp_l_luck_drawn K) := by
  refine T.F_l_luck_drawn.ok sc_l_luck_drawn ?len (fun cdv A outer s H vs Q E hr h => ?_)
  case len => intro vs H Q E h; obtain ⟨x, rfl, _⟩ := h; rfl
  obtain ⟨d, rfl, D0, q⟩ := h
  refine ⟨_, (pss_cons (ps_if (pt_cmpR op_eq (pe_call (ok_l_roll T) (hr.mono (by decide)) (by rfl) T.g_l_roll T.F_l_roll.kp T.b_l_roll .nil pass0 (pa_cons (pv 0) (pa_cons pe_int pa_nil))) pe_int (nomark _)) (pss_one (ps_ret (pe_call (ok_l_pick T) (hr.mono (by decide)) (by rfl) T.g_l_pick T.F_l_pick.kp T.b_l_pick .nil pass0 (pa_cons (pv 0) (pa_cons (pe_lst (pa_cons pe_int (pa_cons pe_int (pa_cons pe_int (pa_cons pe_int (pa_cons pe_int (pa_cons pe_int pa_nil))))))) pa_nil))))) pss_nil)
    (pss_one (ps_ret (pe_call (ok_l_roll T) (hr.mono (by decide)) (by rfl) T.g_l_roll T.F_l_roll.kp T.b_l_roll .nil pass0 (pa_cons (pv 0) (pa_cons pe_int pa_nil)))))), ?_⟩
  walk_at "go"
  refine fun r H1 r0 r1 D1 X1 => ?_
  walk_at "go"
  refine ite2 (fun e => ?_) (fun e => ?_)
  · walk_at "go"
    refine fun p np => ?_
    walk_at "pick"
    refine fun v H2 hv D2 X2 => ?_
    obtain ⟨i, rfl, i0, i1⟩ := inB_mem (lo := 0) (hi := 999999937) hv (by decide +kernel)
    exact q _ _ i0 i1 D2 (X1.trans ((Ext.new np).trans X2))
  · walk_at "go"
    exact fun r H2 r0 r1 D2 X2 => q _ _ r0 r1 D2 (X1.trans X2)
theorem ok_l_turns_drawn (T : Tp K mg) : FnOk P w K mg base CX0 3 T.a_l_turns_drawn T.d_l_turns_drawn ["_law_dice_here"] (sp_l_turns_drawn K) := by
  refine T.F_l_turns_drawn.ok sc_l_turns_drawn ?len (fun cdv A outer s H vs Q E hr h => ?_)
  case len => intro vs H Q E h; obtain ⟨x, rfl, _⟩ := h; rfl
  obtain ⟨d, rfl, D0, q⟩ := h
  refine ⟨_, (pss_cons (ps_set (i := 1) sc_l_turns_drawn.nd rfl (Or.inl rfl) (pe_call (ok_l_roll T) (hr.mono (by decide)) (by rfl) T.g_l_roll T.F_l_roll.kp T.b_l_roll .nil pass0 (pa_cons (pv 0) (pa_cons pe_int pa_nil))))
    (pss_cons (ps_if (pt_cmpR op_eq (pv 1) pe_int (nomark _)) (pss_one (ps_ret (pe_call (ok_l_pick T) (hr.mono (by decide)) (by rfl) T.g_l_pick T.F_l_pick.kp T.b_l_pick .nil pass0 (pa_cons (pv 0) (pa_cons (pe_lst (pa_cons pe_int (pa_cons pe_int (pa_cons pe_int (pa_cons pe_int (pa_cons pe_int (pa_cons pe_int (pa_cons pe_int pa_nil)))))))) pa_nil))))) pss_nil)
    (pss_cons (ps_if (pt_cmpR op_eq (pv 1) pe_int (nomark _)) (pss_one (ps_ret (pe_op op_add (pe_op op_mulW (pe_call (ok_l_roll T) (hr.mono (by decide)) (by rfl) T.g_l_roll T.F_l_roll.kp T.b_l_roll .nil pass0 (pa_cons (pv 0) (pa_cons (pe_op op_pow pe_int pe_int) pa_nil))) (pe_op op_pow pe_int pe_int)) (pe_call (ok_l_roll T) (hr.mono (by decide)) (by rfl) T.g_l_roll T.F_l_roll.kp T.b_l_roll .nil pass0 (pa_cons (pv 0) (pa_cons (pe_op op_pow pe_int pe_int) pa_nil)))))) pss_nil)
    (pss_one (ps_ret (pe_ifExp (pt_cmpR op_lt (pv 1) pe_int (nomark _)) (pe_call (ok_l_roll T) (hr.mono (by decide)) (by rfl) T.g_l_roll T.F_l_roll.kp T.b_l_roll .nil pass0 (pa_cons (pv 0) (pa_cons pe_int pa_nil))) (pe_call (ok_l_roll T) (hr.mono (by decide)) (by rfl) T.g_l_roll T.F_l_roll.kp T.b_l_roll .nil pass0 (pa_cons (pv 0) (pa_cons pe_int pa_nil))))))))), ?_⟩
  walk_at "go"
  refine fun r H1 r0 r1 D1 X1 => ?_
  walk_at "go"
  refine ite2 (fun e => ?_) (fun e => ?_)
  · walk_at "go"
    refine fun p np => ?_
    walk_at "pick"
    refine fun v H2 hv D2 X2 => ?_
    obtain ⟨i, rfl, i0, i1⟩ := inB_mem (lo := 0) (hi := 10 ^ 60) hv (by decide +kernel)
    exact q _ _ i0 i1 D2 (X1.trans ((Ext.new np).trans X2))
  · walk_at "go"
    refine ite2 (fun e => ?_) (fun e => ?_)
    · walk_at "go"
      refine fun s1 H2 s0 s1' D2 X2 => ?_
      have e30 : (10 : Int) ^ Int.toNat 30 = 10 ^ 30 := by decide +kernel
      have e29 : (10 : Int) ^ Int.toNat 29 = 10 ^ 29 := by decide +kernel
      rw [e30] at s1'
      walk_at "go"
      rw [e29]
      walk_at "go"
      refine fun s2 H3 s3 s3' D3 X3 => ?_
      walk_at "go"
      exact q _ _ (by omega) (by omega) D3 ((X1.trans X2).trans X3)
    · walk_at "go"
      refine ite2 (fun e => ?_) (fun e => ?_)
      · walk_at "go"
        exact fun r H2 r0 r1 D2 X2 => q _ _ r0 (by omega) D2 (X1.trans X2)
      · walk_at "go"
        exact fun r H2 r0 r1 D2 X2 => q _ _ r0 (by omega) D2 (X1.trans X2)
theorem ok_l_steps_right (T : Tp K mg) : FnOk P w K mg base CX0 6 T.a_l_steps_right T.d_l_steps_right ["_law_luck", "_law_few"] (sp_l_steps_right K) := by
  refine T.F_l_steps_right.ok sc_l_steps_right ?len (fun cdv A outer s H vs Q E hr h => ?_)
  case len => intro vs H Q E h; obtain ⟨x, y, rfl, _⟩ := h; rfl
  obtain ⟨l, n, rfl, l0, l1, n0, n1, q⟩ := h
  refine ⟨_, (pss_cons (ps_set (i := 2) sc_l_steps_right.nd rfl (Or.inl rfl) (pv 0))
    (pss_cons (ps_for PassesOwn.never rfl (pi_range1 rfl T.m_range (pa_cons (pv 1) pa_nil)) (pg_name (i := 3) sc_l_steps_right.nd rfl (Or.inl rfl)) (pss_cons (ps_set (i := 4) sc_l_steps_right.nd rfl (Or.inl rfl) (pe_op op_mod (pe_callTy call_int1 (by rfl) T.m_int (by decide +kernel) (pa_cons (pe_op op_add (pe_op op_mul pe_int (pv 2)) pe_int) pa_nil)) pe_int))
      (pss_cons (ps_if (PW.pt (pw_or (pt_cmpR op_ne (pe_call (ok_next_luck T) (hr.mono (by decide)) (by rfl) T.g_next_luck T.F_next_luck.kp T.b_next_luck .nil pass0 (pa_cons (pv 2) pa_nil)) (pv 4) (nomark _)) (pw_or1 (pt_cmpR op_ne (pe_call (ok_luck_ahead T) (hr.mono (by decide)) (by rfl) T.g_luck_ahead T.F_luck_ahead.kp T.b_luck_ahead .nil pass0 (pa_cons (pv 4) pa_nil)) (pv 2) (nomark _))))) (pss_one (ps_ret pe_bl)) pss_nil)
      (pss_one (ps_set (i := 2) sc_l_steps_right.nd rfl (Or.inl rfl) (pv 4))))))
    (pss_one (ps_ret (pe_and (pe_cmpR op_eq (pe_call (ok_luck_after T) (hr.mono (by decide)) (by rfl) T.g_luck_after T.F_luck_after.kp T.b_luck_after .nil pass0 (pa_cons (pv 0) (pa_cons (pv 1) pa_nil))) (pv 2) (nomark _)) (pe_one (pe_cmpR op_eq (pe_call (ok_luck_before T) (hr.mono (by decide)) (by rfl) T.g_luck_before T.F_luck_before.kp T.b_luck_before .nil pass0 (pa_cons (pv 2) (pa_cons (pv 1) pa_nil))) (pv 0) (nomark _)))))))), ?_⟩
  walk_at "go"
  refine for_range (lo := 0) (n := n.toNat) (fun i σ H' => ∃ y3 y4, σ = [some (.int l), some (.int n), some (.int (ledI l i)), y3, y4] ∧ H' = H) ⟨none, none, ?_, rfl⟩ (fun i σ H' hi hW => ?_) (fun σ H' hW => ?_)
  · rw [ledI_zero l0 l1]; rfl
  · obtain ⟨y3, y4, rfl, rfl⟩ := hW
    have a0 := ledI_lo l i
    have a1 := ledI_hi l i
    have b0 : 0 ≤ (48274 * ledI l i + 271829) % 999999937 := Int.emod_nonneg _ (by decide)
    have b1 : (48274 * ledI l i + 271829) % 999999937 < 999999937 := Int.emod_lt_of_pos _ (by decide)
    have en : (48274 * ledI l i + 271829) % 999999937 = ledI l (i + 1) := by rw [← ledI_add, ledI_one]
    walk_at "go"
    refine iteNS rfl ?_
    walk_at "go"
    rw [ahead_eq a0 a1]
    refine iteNS rfl ?_
    walk_at "go"
    refine ⟨some (.int (0 + (i : Int))), some (.int (ledI l (i + 1))), ?_, rfl⟩
    rw [← en]
    rfl
  · obtain ⟨y3, y4, rfl, rfl⟩ := hW
    have a0 := ledI_lo l n.toNat
    have a1 := ledI_hi l n.toNat
    walk_at "go"
    refine iteY (decide_eq_true rfl) ?_
    walk_at "go"
    rw [ledI_back l0 l1, decide_eq_true rfl]
    exact q
theorem ok_l_between_right (T : Tp K mg) : FnOk P w K mg base CX0 6 T.a_l_between_right T.d_l_between_right ["_law_one", "_law_other"] (sp_l_between_right K) := by
  refine T.F_l_between_right.ok sc_l_between_right ?len (fun cdv A outer s H vs Q E hr h => ?_)
  case len => intro vs H Q E h; obtain ⟨x, y, rfl, _⟩ := h; rfl
  obtain ⟨a, b, rfl, a0, a1, b0, b1, q⟩ := h
  refine ⟨_, (pss_cons (ps_set (i := 2) sc_l_between_right.nd rfl (Or.inl rfl) (pe_call (ok_lucks_between T) (hr.mono (by decide)) (by rfl) T.g_lucks_between T.F_lucks_between.kp T.b_lucks_between .nil pass0 (pa_cons (pv 0) (pa_cons (pv 1) pa_nil))))
    (pss_cons (ps_if (pt_cmpR op_eq (pv 0) (pv 1) (nomark _)) (pss_one (ps_ret (pe_cmpR op_eq (pe_callB call_repr_int (by rfl) T.m_repr (by decide +kernel) (pa_cons (pv 2) pa_nil)) pe_str (nomark _)))) pss_nil)
    (pss_cons (ps_if (PW.pt (pw_or (pt_cmpR op_eq (pv 0) pe_int (nomark _)) (pw_or1 (pt_cmpR op_eq (pv 1) pe_int (nomark _))))) (pss_one (ps_ret (pe_cmp (pc_isN (pv 2)) rfl))) pss_nil)
    (pss_cons (ps_if (PW.pt (pw_or (pt_val (pe_callB call_isi (by rfl) T.m_isinstance (by decide +kernel) (pa_cons (pv 2) (pa_cons (pe_bltn (v := .ty "bool") (by rfl) T.m_bool (by decide +kernel) rfl) pa_nil)))) (pw_or (pt_not (pt_val (pe_callB call_isi (by rfl) T.m_isinstance (by decide +kernel) (pa_cons (pv 2) (pa_cons (pe_bltn (v := .ty "int") (by rfl) T.m_int (by decide +kernel) rfl) pa_nil))))) (pw_or1 (pt_not (pt_chain op_lt op_lt pe_int (pv 2) pe_int)))))) (pss_one (ps_ret pe_bl)) pss_nil)
    (pss_one (ps_ret (pe_cmpR op_eq (pe_call (ok_l_led T) (hr.mono (by decide)) (by rfl) T.g_l_led T.F_l_led.kp T.b_l_led .nil pass0 (pa_cons (pv 0) (pa_cons (pv 2) pa_nil))) (pv 1) (nomark _)))))))), ?_⟩
  walk_at "go"
  refine fun v H1 sm lb => ?_
  walk_at "go"
  refine ite2 (fun e => ?_) (fun e => ?_)
  · have e : a = b := by simpa using e
    rcases lb with ⟨_, rfl⟩ | ⟨h, _⟩ | ⟨h, _⟩
    · walk_at "go"
      exact q _ sm
    · exact absurd e h
    · exact absurd e h
  · have e : a ≠ b := by simpa using e
    walk_at "go"
    rcases lb with ⟨h, _⟩ | ⟨_, hs, rfl⟩ | ⟨_, h1, h2, k, k0, k1, rfl, hk⟩
    · exact absurd h e
    · by_cases ha : a = 949019055
      · refine iteY (decide_eq_true (by rw [ha])) ?_
        walk_at "go"
        exact q _ sm
      · have hb : b = 949019055 := hs.resolve_left ha
        refine iteN (by simpa using ha) ?_
        walk_at "go"
        refine iteY (decide_eq_true (by rw [hb])) ?_
        walk_at "go"
        exact q _ sm
    · obtain ⟨n, t, hi, hb, hs⟩ := (Jd.int (K := K) (H := H1) (k : Int)).ty
      refine iteN (by simpa using h1) ?_
      walk_at "go"
      refine iteN (by simpa using h2) ?_
      walk_at "go"
      refine iteNT ?_
      walk_at "go"
      refine iteY (decide_eq_true (show (0 : Int) < (k : Int) by omega)) ?_
      walk_at "go"
      have kI : (k : Int) < 999999936 := by omega
      rw [decide_eq_true kI]
      walk_at "go"
      refine fun H2 sm2 => ?_
      walk_at "go"
      have hk : ledI a (k : Int).toNat = b := hk
      rw [hk, decide_eq_true rfl]
      exact q _ (sm.trans sm2)
theorem ok_l_right (T : Tp K mg) : FnOk P w K mg base CX0 7 T.a_l_right T.d_l_right ["_law_dice_here"] (sp_l_right K) := by
  refine T.F_l_right.ok sc_l_right ?len (fun cdv A outer s H vs Q E hr h => ?_)
  case len => intro vs H Q E h; obtain ⟨x, rfl, _⟩ := h; rfl
  obtain ⟨d, rfl, D0, q⟩ := h
  refine ⟨_, (pss_cons (ps_par (i := 1) (j := 2) (by rfl) sc_l_right.nd rfl rfl (by decide) rfl rfl (pa_cons (pe_call (ok_l_luck_drawn T) (hr.mono (by decide)) (by rfl) T.g_l_luck_drawn T.F_l_luck_drawn.kp T.b_l_luck_drawn .nil pass0 (pa_cons (pv 0) pa_nil)) (pa_cons (pe_call (ok_l_luck_drawn T) (hr.mono (by decide)) (by rfl) T.g_l_luck_drawn T.F_l_luck_drawn.kp T.b_l_luck_drawn .nil pass0 (pa_cons (pv 0) pa_nil)) pa_nil)) (by rfl))
    (pss_cons (ps_set (i := 3) sc_l_right.nd rfl (Or.inl rfl) (pe_call (ok_l_turns_drawn T) (hr.mono (by decide)) (by rfl) T.g_l_turns_drawn T.F_l_turns_drawn.kp T.b_l_turns_drawn .nil pass0 (pa_cons (pv 0) pa_nil)))
    (pss_cons (ps_set (i := 4) sc_l_right.nd rfl (Or.inl rfl) (pe_call (ok_l_led T) (hr.mono (by decide)) (by rfl) T.g_l_led T.F_l_led.kp T.b_l_led .nil pass0 (pa_cons (pv 1) (pa_cons (pv 3) pa_nil))))
    (pss_cons (ps_if (PW.pt (pw_or (pt_cmpR op_ne (pe_call (ok_luck_after T) (hr.mono (by decide)) (by rfl) T.g_luck_after T.F_luck_after.kp T.b_luck_after .nil pass0 (pa_cons (pv 1) (pa_cons (pv 3) pa_nil))) (pv 4) (nomark _)) (pw_or1 (pt_cmpR op_ne (pe_call (ok_luck_before T) (hr.mono (by decide)) (by rfl) T.g_luck_before T.F_luck_before.kp T.b_luck_before .nil pass0 (pa_cons (pv 4) (pa_cons (pv 3) pa_nil))) (pv 1) (nomark _))))) (pss_one (ps_ret pe_bl)) pss_nil)
    (pss_cons (ps_if (PW.pt (pw_and (pt_cmpR op_ne (pv 1) pe_int (nomark _)) (pw_and1 (pt_cmpR op_ne (pe_call (ok_lucks_between T) (hr.mono (by decide)) (by rfl) T.g_lucks_between T.F_lucks_between.kp T.b_lucks_between .nil pass0 (pa_cons (pv 1) (pa_cons (pv 4) pa_nil))) (pe_op op_mod (pe_callTy call_int1 (by rfl) T.m_int (by decide +kernel) (pa_cons (pv 3) pa_nil)) pe_int) (nomark _))))) (pss_one (ps_ret pe_bl)) pss_nil)
    (pss_one (ps_ret (pe_and (pe_call (ok_l_steps_right T) (hr.mono (by decide)) (by rfl) T.g_l_steps_right T.F_l_steps_right.kp T.b_l_steps_right .nil pass0 (pa_cons (pv 1) (pa_cons (pe_call (ok_l_roll T) (hr.mono (by decide)) (by rfl) T.g_l_roll T.F_l_roll.kp T.b_l_roll .nil pass0 (pa_cons (pv 0) (pa_cons pe_int pa_nil))) pa_nil))) (pe_and (pe_call (ok_l_between_right T) (hr.mono (by decide)) (by rfl) T.g_l_between_right T.F_l_between_right.kp T.b_l_between_right .nil pass0 (pa_cons (pv 1) (pa_cons (pv 2) pa_nil))) (pe_one (pe_call (ok_l_between_right T) (hr.mono (by decide)) (by rfl) T.g_l_between_right T.F_l_between_right.kp T.b_l_between_right .nil pass0 (pa_cons (pv 2) (pa_cons (pv 1) pa_nil))))))))))))), ?_⟩
  walk_at "go"
  refine fun a H1 a0 a1 D1 X1 => ?_
  walk_at "go"
  refine fun b H2 b0 b1 D2 X2 => ?_
  walk_at "go"
  refine fun m H3 m0 m1 D3 X3 => ?_
  walk_at "go"
  refine fun H4 S4 => ?_
  have l0 := ledI_lo a m.toNat
  have l1 := ledI_hi a m.toNat
  have D4 := D3.same S4
  walk_at "go"
  refine iteNS rfl ?_
  walk_at "go"
  rw [ledI_back a0 a1]
  refine iteNS rfl ?_
  walk_at "go"
  have fin : ∀ H5, Same H4 H5 → tRet (tAndV (tCall (sp_l_steps_right K) [] E0 (tCons (tVar 1) (tCons (tCall (sp_l_roll K) [] E0 (tCons (tVar 0) (tCons (tC (V.int 20)) tNil))) tNil)))
      (tAndV (tCall (sp_l_between_right K) [] E0 (tCons (tVar 1) (tCons (tVar 2) tNil))) (tCall (sp_l_between_right K) [] E0 (tCons (tVar 2) (tCons (tVar 1) tNil)))))
      { nx := fun x H' => Q V.non H', rt := Q } [some (V.ref d), some (.int a), some (.int b), some (.int m), some (.int (ledI a m.toNat))] H5 := by
    intro H5 S5
    have D5 := D4.same S5
    walk_at "go"
    refine fun r H6 r0 r1 D6 X6 => ?_
    walk_at "go"
    refine fun H7 S7 => ?_
    walk_at "go"
    refine fun H8 S8 => ?_
    exact q _ ((D6.same S7).same S8) (((((((X1.trans X2).trans X3).trans (.of S4)).trans (.of S5)).trans X6).trans (.of S7)).trans (.of S8))
  refine ite2 (fun e => ?_) (fun e => ?_)
  · have ha : a ≠ 949019055 := by simpa using e
    walk_at "go"
    refine fun v H5 S5 lb => ?_
    have ev := lb_led a0 a1 m0 ha lb
    subst ev
    walk_at "go"
    refine iteNS rfl ?_
    exact fin H5 S5
  · exact fin H4 (Same.refl _)
theorem ok_law (T : Tp K mg) : FnOk P w K mg base CX0 8 T.a_law T.d_law ["_law_script"] (sp_law K) := by
  refine T.F_law.ok sc_law ?len (fun cdv A outer s H vs Q E hr h => ?_)
  case len => intro vs H Q E h; obtain ⟨x, y, rfl, _⟩ := h; rfl
  obtain ⟨a, ns, rfl, hS, hl, q⟩ := h
  refine ⟨_, (pss_cons (ps_for PassesOwn.never rfl (pi_range1 rfl T.m_range (pa_cons (pe_callB (call_max2 rfl) (by rfl) T.m_max (by decide +kernel) (pa_cons pe_int (pa_cons (pe_callB (call_min2 rfl) (by rfl) T.m_min (by decide +kernel) (pa_cons pe_int (pa_cons (pe_callB call_len_seq (by rfl) T.m_len (by decide +kernel) (pa_cons (pv 0) pa_nil)) pa_nil))) pa_nil))) pa_nil)) (pg_name (i := 1) sc_law.nd rfl (Or.inl rfl)) (pss_cons (ps_set (i := 2) sc_law.nd rfl (Or.inl rfl) (pe_call (ok_l_dice T) (hr.mono (by decide)) (by rfl) T.g_l_dice T.F_l_dice.kp T.b_l_dice .nil pass0 (pa_cons (pv 0) (pa_cons (pv 1) pa_nil))))
      (pss_one (ps_if (PW.pt (pw_or (pt_not (pt_val (pe_call (ok_l_right T) (hr.mono (by decide)) (by rfl) T.g_l_right T.F_l_right.kp T.b_l_right .nil pass0 (pa_cons (pv 2) pa_nil)))) (pw_or1 (pt_not (pt_val (pe_call (ok_l_right T) (hr.mono (by decide)) (by rfl) T.g_l_right T.F_l_right.kp T.b_l_right .nil pass0 (pa_cons (pv 2) pa_nil))))))) (pss_one (ps_ret pe_bl)) pss_nil))))
    (pss_cons (ps_if (PW.pt (pw_or (pt_cmpR (op_neD hr.units) (pe_tup (pa_cons (pe_glob (by rfl) T.c_MODULUS T.r_MODULUS) (pa_cons (pe_glob (by rfl) T.c_STILL T.r_STILL) pa_nil))) (pe_tup (pa_cons pe_int (pa_cons pe_int pa_nil))) (nomark _)) (pw_or (pt_cmpR op_ne (pe_call (ok_next_luck T) (hr.mono (by decide)) (by rfl) T.g_next_luck T.F_next_luck.kp T.b_next_luck .nil pass0 (pa_cons pe_int pa_nil)) pe_int (nomark _)) (pw_or1 (pt_cmpR op_ne (pe_call (ok_luck_after T) (hr.mono (by decide)) (by rfl) T.g_luck_after T.F_luck_after.kp T.b_luck_after .nil pass0 (pa_cons pe_int (pa_cons (pe_op op_pow pe_int pe_int) pa_nil))) pe_int (nomark _)))))) (pss_one (ps_ret pe_bl)) pss_nil)
    (pss_cons (ps_if (PW.pt (pw_or (pt_cmpR (op_neD hr.units) (pe_lc (own := [("_law_part", 3)]) (g := gName 3)  (by rfl) sc_law.nd (pi_tup (pe_tup (pa_cons pe_int (pa_cons pe_int (pa_cons pe_int (pa_cons pe_int (pa_cons pe_int pa_nil))))))) (blkOk_by (own := [("_law_part", 3)]) (N := N_law) (sc := defScope s_law) (by decide +kernel)) (fun _ _ _ _ _ => pg_name (i := 3) sc_law.nd rfl (Or.inl rfl)) (fun _ _ _ _ _ => (pts_one (pt_cmpR op_eq (pe_call (ok_luck_after T) (hr.mono (by decide)) (by rfl) T.g_luck_after T.F_luck_after.kp T.b_luck_after .nil pass0 (pa_cons pe_int (pa_cons (pe_op op_fdivW pe_int (pv 3)) pa_nil))) pe_int (nomark _)))) (fun _ _ _ _ _ => (pv 3))) (pe_lst pa_nil) (nomark _)) (pw_or1 (pt_cmpR op_ne (pe_call (ok_luck_after T) (hr.mono (by decide)) (by rfl) T.g_luck_after T.F_luck_after.kp T.b_luck_after .nil pass0 (pa_cons pe_int (pa_cons pe_int pa_nil))) pe_int (nomark _))))) (pss_one (ps_ret pe_bl)) pss_nil)
    (pss_one (ps_ret (pe_cmpR (op_eqD hr.units) (pe_lst (pa_cons (pe_call (ok_lucks_between T) (hr.mono (by decide)) (by rfl) T.g_lucks_between T.F_lucks_between.kp T.b_lucks_between .nil pass0 (pa_cons pe_int (pa_cons pe_int pa_nil))) (pa_cons (pe_call (ok_lucks_between T) (hr.mono (by decide)) (by rfl) T.g_lucks_between T.F_lucks_between.kp T.b_lucks_between .nil pass0 (pa_cons pe_int (pa_cons pe_int pa_nil))) (pa_cons (pe_call (ok_lucks_between T) (hr.mono (by decide)) (by rfl) T.g_lucks_between T.F_lucks_between.kp T.b_lucks_between .nil pass0 (pa_cons pe_int (pa_cons pe_int pa_nil))) (pa_cons (pe_call (ok_lucks_between T) (hr.mono (by decide)) (by rfl) T.g_lucks_between T.F_lucks_between.kp T.b_lucks_between .nil pass0 (pa_cons pe_int (pa_cons pe_int pa_nil))) pa_nil))))) (pe_lst (pa_cons pe_int (pa_cons pe_int (pa_cons pe_non (pa_cons pe_int pa_nil))))) (nomark _))))))), ?_⟩
  walk_at "go"
  refine for_range (lo := 0) (n := _) (fun i σ H' => ∃ y1 y2 y3, σ = [some (.ref a), y1, y2, y3] ∧ SqL K H' a (ns.map V.int)) ⟨none, none, none, rfl, hS⟩ (fun i σ H' hi hW => ?_) (fun σ H' hW => ?_)
  · obtain ⟨y1, y2, y3, rfl, hS'⟩ := hW
    have hi3 : (i : Int) < 1000 := by
      revert hi
      rw [List.length_map]
      split <;> (try split) <;> intro hi <;> omega
    walk_at "go"
    refine ⟨_, _, _, rfl, hS', by omega, by omega, fun d H1 nd D1 S1 => ?_⟩
    have hS1 := S1.seq hS'
    walk_at "go"
    refine fun H2 D2 X2 => ?_
    walk_at "go"
    refine fun H3 D3 X3 => ?_
    walk_at "go"
    exact (((Ext.of S1).trans (X2.trans X3)).same nd).seq hS'
  · obtain ⟨y1, y2, y3, rfl, hS'⟩ := hW
    walk_at "go"
    refine fun p1 np1 => ?_
    walk_at "go"
    refine fun p2 np2 => ?_
    refine ⟨.tuple [.int 999999937, .int 949019055], .tuple [.int 999999937, .int 949019055], by walk_at "dp", by walk_at "dp", rfl, rfl, ?_⟩
    walk_at "go"
    refine iteN (by decide +kernel) ?_
    walk_at "go"
    refine iteN (by decide +kernel) ?_
    walk_at "go"
    rw [ledI_still]
    refine iteN (by decide +kernel) ?_
    walk_at "go"
    refine fun p3 np3 => ?_
    refine ⟨_, rfl, ⟨_, SqT.of upd_same⟩, fun D nD => lc_tup (K := K) (xs := [.int 2, .int 3, .int 13, .int 83, .int 1609]) (fun i H' => H' D = some (.lst []) ∧ SqT K H' p3 [.int 2, .int 3, .int 13, .int 83, .int 1609]) ⟨upd_same, same_sqt (same_new nD) (SqT.of upd_same)⟩ (fun i H5 hi hW => hW.2) (fun i x H5 hx hW => ?_) (fun H5 hW => ?_)⟩
    · obtain ⟨x', rfl, hx'⟩ : ∃ q : Int, x = .int q ∧ (q = 2 ∨ q = 3 ∨ q = 13 ∨ q = 83 ∨ q = 1609) := by
        have := List.mem_of_getElem? hx
        simp only [List.mem_cons, List.not_mem_nil, or_false] at this
        rcases this with rfl | rfl | rfl | rfl | rfl <;> exact ⟨_, rfl, by decide⟩
      have h5 := led5 x' hx'
      have hq0 : 0 ≤ 999999936 / x' := Int.ediv_nonneg (by decide) (by omega)
      have hq1 : 999999936 / x' < 10 ^ 60 := by
        have : 999999936 / x' ≤ 999999936 := Int.ediv_le_self _ (by decide)
        omega
      walk_at "go"
      rw [decide_eq_false (fun z => h5 (V.int.inj z) : ¬ V.int (ledI 5 (999999936 / x').toNat) = V.int 5)]
      walk_at "go"
      exact hW
    · obtain ⟨hD, _⟩ := hW
      walk_at "go"
      refine fun p4 np4 => ?_
      refine ⟨.list [], .list [], by walk_at "dp", by walk_at "dp", rfl, rfl, ?_⟩
      walk_at "go"
      refine iteN (by decide +kernel) ?_
      walk_at "go"
      rw [led5n]
      refine iteN (by decide +kernel) ?_
      walk_at "go"
      refine fun v1 H6 S6 lb1 => ?_
      walk_at "go"
      refine fun v2 H7 S7 lb2 => ?_
      walk_at "go"
      refine fun v3 H8 S8 lb3 => ?_
      walk_at "go"
      refine fun v4 H9 S9 lb4 => ?_
      rw [lb01 lb1, lb10 lb2, lb0s lb3, lbss lb4]
      walk_at "go"
      refine fun p5 np5 => ?_
      walk_at "go"
      refine fun p6 np6 => ?_
      refine ⟨.list [.int 433376679, .int 566623257, .none, .int 0], .list [.int 433376679, .int 566623257, .none, .int 0], by walk_at "dp", by walk_at "dp", rfl, rfl, ?_⟩
      exact q _

end
theorem all_mk {l : PySem.W.OpenLaw} {w : World} {K : PySem.W.Frag} {h : Heap} {mg : Str → Option Value} {fa : Addr} (X : K.In h) (G : h.Ns mainGlobals mg) (hfa : mg "law" = some (.ref fa))
  {f0 : Addr} {od0 an0 : Option Addr} {sl0 : Array (Option Value)} {oc0 kV0 dc0 pm0 cd0 ct0 : Value}
  {f1 : Addr} {od1 an1 : Option Addr} {sl1 : Array (Option Value)} {oc1 kV1 dc1 pm1 cd1 ct1 : Value}
  {f2 : Addr} {od2 an2 : Option Addr} {sl2 : Array (Option Value)} {oc2 kV2 dc2 pm2 cd2 ct2 : Value}
  {f3 : Addr} {od3 an3 : Option Addr} {sl3 : Array (Option Value)} {oc3 kV3 dc3 pm3 cd3 ct3 : Value}
  {f4 : Addr} {od4 an4 : Option Addr} {sl4 : Array (Option Value)} {oc4 kV4 dc4 pm4 cd4 ct4 : Value}
  {f5 : Addr} {od5 an5 : Option Addr} {sl5 : Array (Option Value)} {oc5 kV5 dc5 pm5 cd5 ct5 : Value}
  {f6 : Addr} {od6 an6 : Option Addr} {sl6 : Array (Option Value)} {oc6 kV6 dc6 pm6 cd6 ct6 : Value}
  {f7 : Addr} {od7 an7 : Option Addr} {sl7 : Array (Option Value)} {oc7 kV7 dc7 pm7 cd7 ct7 : Value}
  {f8 : Addr} {od8 an8 : Option Addr} {sl8 : Array (Option Value)} {oc8 kV8 dc8 pm8 cd8 ct8 : Value}
  {f9 : Addr} {od9 an9 : Option Addr} {sl9 : Array (Option Value)} {oc9 kV9 dc9 pm9 cd9 ct9 : Value}
  {f10 : Addr} {od10 an10 : Option Addr} {sl10 : Array (Option Value)} {oc10 kV10 dc10 pm10 cd10 ct10 : Value}
  {f11 : Addr} {od11 an11 : Option Addr} {sl11 : Array (Option Value)} {oc11 kV11 dc11 pm11 cd11 ct11 : Value}
  {f12 : Addr} {od12 an12 : Option Addr} {sl12 : Array (Option Value)} {oc12 kV12 dc12 pm12 cd12 ct12 : Value}
  {f13 : Addr} {od13 an13 : Option Addr} {sl13 : Array (Option Value)} {oc13 kV13 dc13 pm13 cd13 ct13 : Value}
  {f14 : Addr} {od14 an14 : Option Addr} {sl14 : Array (Option Value)} {oc14 kV14 dc14 pm14 cd14 ct14 : Value}
  {f15 : Addr} {od15 an15 : Option Addr} {sl15 : Array (Option Value)} {oc15 kV15 dc15 pm15 cd15 ct15 : Value}
  {f16 : Addr} {od16 an16 : Option Addr} {sl16 : Array (Option Value)} {oc16 kV16 dc16 pm16 cd16 ct16 : Value}
  {f17 : Addr} {od17 an17 : Option Addr} {sl17 : Array (Option Value)} {oc17 kV17 dc17 pm17 cd17 ct17 : Value}
  {f18 : Addr} {od18 an18 : Option Addr} {sl18 : Array (Option Value)} {oc18 kV18 dc18 pm18 cd18 ct18 : Value}
  {f19 : Addr} {od19 an19 : Option Addr} {sl19 : Array (Option Value)} {oc19 kV19 dc19 pm19 cd19 ct19 : Value}
  {f20 : Addr} {od20 an20 : Option Addr} {sl20 : Array (Option Value)} {oc20 kV20 dc20 pm20 cd20 ct20 : Value}
  {f21 : Addr} {od21 an21 : Option Addr} {sl21 : Array (Option Value)} {oc21 kV21 dc21 pm21 cd21 ct21 : Value}
  {f22 : Addr} {od22 an22 : Option Addr} {sl22 : Array (Option Value)} {oc22 kV22 dc22 pm22 cd22 ct22 : Value}
  {f23 : Addr} {od23 an23 : Option Addr} {sl23 : Array (Option Value)} {oc23 kV23 dc23 pm23 cd23 ct23 : Value}
  {f24 : Addr} {od24 an24 : Option Addr} {sl24 : Array (Option Value)} {oc24 kV24 dc24 pm24 cd24 ct24 : Value}
  {f25 : Addr} {od25 an25 : Option Addr} {sl25 : Array (Option Value)} {oc25 kV25 dc25 pm25 cd25 ct25 : Value}
  {f26 : Addr} {od26 an26 : Option Addr} {sl26 : Array (Option Value)} {oc26 kV26 dc26 pm26 cd26 ct26 : Value}
  {f27 : Addr} {od27 an27 : Option Addr} {sl27 : Array (Option Value)} {oc27 kV27 dc27 pm27 cd27 ct27 : Value}
  {f28 : Addr} {od28 an28 : Option Addr} {sl28 : Array (Option Value)} {oc28 kV28 dc28 pm28 cd28 ct28 : Value}
  {f29 : Addr} {od29 an29 : Option Addr} {sl29 : Array (Option Value)} {oc29 kV29 dc29 pm29 cd29 ct29 : Value}
  {f30 : Addr} {od30 an30 : Option Addr} {sl30 : Array (Option Value)} {oc30 kV30 dc30 pm30 cd30 ct30 : Value}
  {t_GREATEST : Tok}
  {t_MODULUS : Tok}
  {t_FACTOR : Tok}
  {t_SUMMAND : Tok}
  {t_STILL : Tok}
  {p_PRIME_POWERS : Addr} {o_PRIME_POWERS : Obj} {i_PRIME_POWERS : Array Value} {n_PRIME_POWERS : Nat} {p0_PRIME_POWERS : Addr} {o0_PRIME_POWERS : Obj} {i0_PRIME_POWERS : Array Value} {n0_PRIME_POWERS : Nat} {p1_PRIME_POWERS : Addr} {o1_PRIME_POWERS : Obj} {i1_PRIME_POWERS : Array Value} {n1_PRIME_POWERS : Nat} {p2_PRIME_POWERS : Addr} {o2_PRIME_POWERS : Obj} {i2_PRIME_POWERS : Array Value} {n2_PRIME_POWERS : Nat} {p3_PRIME_POWERS : Addr} {o3_PRIME_POWERS : Obj} {i3_PRIME_POWERS : Array Value} {n3_PRIME_POWERS : Nat} {p4_PRIME_POWERS : Addr} {o4_PRIME_POWERS : Obj} {i4_PRIME_POWERS : Array Value} {n4_PRIME_POWERS : Nat}
  (a0 : PySem.W.nsIn K mainGlobals "is_whole" = some (some (.ref f0))) (l0 : K.lookup f0 = some ⟨oc0, od0, .func (PySem.W.fnOf "is_whole" "is_whole" (defArgs s_is_whole) (defBody s_is_whole) (defScope s_is_whole) .none kV0 dc0 pm0 an0 cd0 ct0), sl0⟩) (c0 : PySem.W.codeIn K cd0 "is_whole" = true) (k0 : PySem.W.keepIn K (.ref f0) = true)
  (a1 : PySem.W.nsIn K mainGlobals "is_short" = some (some (.ref f1))) (l1 : K.lookup f1 = some ⟨oc1, od1, .func (PySem.W.fnOf "is_short" "is_short" (defArgs s_is_short) (defBody s_is_short) (defScope s_is_short) .none kV1 dc1 pm1 an1 cd1 ct1), sl1⟩) (c1 : PySem.W.codeIn K cd1 "is_short" = true) (k1 : PySem.W.keepIn K (.ref f1) = true)
  (a2 : PySem.W.nsIn K mainGlobals "is_from" = some (some (.ref f2))) (l2 : K.lookup f2 = some ⟨oc2, od2, .func (PySem.W.fnOf "is_from" "is_from" (defArgs s_is_from) (defBody s_is_from) (defScope s_is_from) .none kV2 dc2 pm2 an2 cd2 ct2), sl2⟩) (c2 : PySem.W.codeIn K cd2 "is_from" = true) (k2 : PySem.W.keepIn K (.ref f2) = true)
  (a3 : PySem.W.nsIn K mainGlobals "is_tick" = some (some (.ref f3))) (l3 : K.lookup f3 = some ⟨oc3, od3, .func (PySem.W.fnOf "is_tick" "is_tick" (defArgs s_is_tick) (defBody s_is_tick) (defScope s_is_tick) .none kV3 dc3 pm3 an3 cd3 ct3), sl3⟩) (c3 : PySem.W.codeIn K cd3 "is_tick" = true) (k3 : PySem.W.keepIn K (.ref f3) = true)
  (a4 : PySem.W.nsIn K mainGlobals "require_tick" = some (some (.ref f4))) (l4 : K.lookup f4 = some ⟨oc4, od4, .func (PySem.W.fnOf "require_tick" "require_tick" (defArgs s_require_tick) (defBody s_require_tick) (defScope s_require_tick) .none kV4 dc4 pm4 an4 cd4 ct4), sl4⟩) (c4 : PySem.W.codeIn K cd4 "require_tick" = true) (k4 : PySem.W.keepIn K (.ref f4) = true)
  (a5 : PySem.W.nsIn K mainGlobals "next_in" = some (some (.ref f5))) (l5 : K.lookup f5 = some ⟨oc5, od5, .func (PySem.W.fnOf "next_in" "next_in" (defArgs s_next_in) (defBody s_next_in) (defScope s_next_in) .none kV5 dc5 pm5 an5 cd5 ct5), sl5⟩) (c5 : PySem.W.codeIn K cd5 "next_in" = true) (k5 : PySem.W.keepIn K (.ref f5) = true)
  (a6 : PySem.W.nsIn K mainGlobals "power" = some (some (.ref f6))) (l6 : K.lookup f6 = some ⟨oc6, od6, .func (PySem.W.fnOf "power" "power" (defArgs s_power) (defBody s_power) (defScope s_power) .none kV6 dc6 pm6 an6 cd6 ct6), sl6⟩) (c6 : PySem.W.codeIn K cd6 "power" = true) (k6 : PySem.W.keepIn K (.ref f6) = true)
  (a7 : PySem.W.nsIn K mainGlobals "over" = some (some (.ref f7))) (l7 : K.lookup f7 = some ⟨oc7, od7, .func (PySem.W.fnOf "over" "over" (defArgs s_over) (defBody s_over) (defScope s_over) .none kV7 dc7 pm7 an7 cd7 ct7), sl7⟩) (c7 : PySem.W.codeIn K cd7 "over" = true) (k7 : PySem.W.keepIn K (.ref f7) = true)
  (a8 : PySem.W.nsIn K mainGlobals "led" = some (some (.ref f8))) (l8 : K.lookup f8 = some ⟨oc8, od8, .func (PySem.W.fnOf "led" "led" (defArgs s_led) (defBody s_led) (defScope s_led) .none kV8 dc8 pm8 an8 cd8 ct8), sl8⟩) (c8 : PySem.W.codeIn K cd8 "led" = true) (k8 : PySem.W.keepIn K (.ref f8) = true)
  (a9 : PySem.W.nsIn K mainGlobals "digit_of" = some (some (.ref f9))) (l9 : K.lookup f9 = some ⟨oc9, od9, .func (PySem.W.fnOf "digit_of" "digit_of" (defArgs s_digit_of) (defBody s_digit_of) (defScope s_digit_of) .none kV9 dc9 pm9 an9 cd9 ct9), sl9⟩) (c9 : PySem.W.codeIn K cd9 "digit_of" = true) (k9 : PySem.W.keepIn K (.ref f9) = true)
  (a10 : PySem.W.nsIn K mainGlobals "times_modulo" = some (some (.ref f10))) (l10 : K.lookup f10 = some ⟨oc10, od10, .func (PySem.W.fnOf "times_modulo" "times_modulo" (defArgs s_times_modulo) (defBody s_times_modulo) (defScope s_times_modulo) .none kV10 dc10 pm10 an10 cd10 ct10), sl10⟩) (c10 : PySem.W.codeIn K cd10 "times_modulo" = true) (k10 : PySem.W.keepIn K (.ref f10) = true)
  (a11 : PySem.W.nsIn K mainGlobals "times_of" = some (some (.ref f11))) (l11 : K.lookup f11 = some ⟨oc11, od11, .func (PySem.W.fnOf "times_of" "times_of" (defArgs s_times_of) (defBody s_times_of) (defScope s_times_of) .none kV11 dc11 pm11 an11 cd11 ct11), sl11⟩) (c11 : PySem.W.codeIn K cd11 "times_of" = true) (k11 : PySem.W.keepIn K (.ref f11) = true)
  (a12 : PySem.W.nsIn K mainGlobals "is_luck_in" = some (some (.ref f12))) (l12 : K.lookup f12 = some ⟨oc12, od12, .func (PySem.W.fnOf "is_luck_in" "is_luck_in" (defArgs s_is_luck_in) (defBody s_is_luck_in) (defScope s_is_luck_in) .none kV12 dc12 pm12 an12 cd12 ct12), sl12⟩) (c12 : PySem.W.codeIn K cd12 "is_luck_in" = true) (k12 : PySem.W.keepIn K (.ref f12) = true)
  (a13 : PySem.W.nsIn K mainGlobals "require_luck" = some (some (.ref f13))) (l13 : K.lookup f13 = some ⟨oc13, od13, .func (PySem.W.fnOf "require_luck" "require_luck" (defArgs s_require_luck) (defBody s_require_luck) (defScope s_require_luck) .none kV13 dc13 pm13 an13 cd13 ct13), sl13⟩) (c13 : PySem.W.codeIn K cd13 "require_luck" = true) (k13 : PySem.W.keepIn K (.ref f13) = true)
  (a14 : PySem.W.nsIn K mainGlobals "next_luck" = some (some (.ref f14))) (l14 : K.lookup f14 = some ⟨oc14, od14, .func (PySem.W.fnOf "next_luck" "next_luck" (defArgs s_next_luck) (defBody s_next_luck) (defScope s_next_luck) .none kV14 dc14 pm14 an14 cd14 ct14), sl14⟩) (c14 : PySem.W.codeIn K cd14 "next_luck" = true) (k14 : PySem.W.keepIn K (.ref f14) = true)
  (a15 : PySem.W.nsIn K mainGlobals "luck_ahead" = some (some (.ref f15))) (l15 : K.lookup f15 = some ⟨oc15, od15, .func (PySem.W.fnOf "luck_ahead" "luck_ahead" (defArgs s_luck_ahead) (defBody s_luck_ahead) (defScope s_luck_ahead) .none kV15 dc15 pm15 an15 cd15 ct15), sl15⟩) (c15 : PySem.W.codeIn K cd15 "luck_ahead" = true) (k15 : PySem.W.keepIn K (.ref f15) = true)
  (a16 : PySem.W.nsIn K mainGlobals "luck_after" = some (some (.ref f16))) (l16 : K.lookup f16 = some ⟨oc16, od16, .func (PySem.W.fnOf "luck_after" "luck_after" (defArgs s_luck_after) (defBody s_luck_after) (defScope s_luck_after) .none kV16 dc16 pm16 an16 cd16 ct16), sl16⟩) (c16 : PySem.W.codeIn K cd16 "luck_after" = true) (k16 : PySem.W.keepIn K (.ref f16) = true)
  (a17 : PySem.W.nsIn K mainGlobals "luck_before" = some (some (.ref f17))) (l17 : K.lookup f17 = some ⟨oc17, od17, .func (PySem.W.fnOf "luck_before" "luck_before" (defArgs s_luck_before) (defBody s_luck_before) (defScope s_luck_before) .none kV17 dc17 pm17 an17 cd17 ct17), sl17⟩) (c17 : PySem.W.codeIn K cd17 "luck_before" = true) (k17 : PySem.W.keepIn K (.ref f17) = true)
  (a18 : PySem.W.nsIn K mainGlobals "lucks_between" = some (some (.ref f18))) (l18 : K.lookup f18 = some ⟨oc18, od18, .func (PySem.W.fnOf "lucks_between" "lucks_between" (defArgs s_lucks_between) (defBody s_lucks_between) (defScope s_lucks_between) .none kV18 dc18 pm18 an18 cd18 ct18), sl18⟩) (c18 : PySem.W.codeIn K cd18 "lucks_between" = true) (k18 : PySem.W.keepIn K (.ref f18) = true)
  (a19 : PySem.W.nsIn K mainGlobals "_law_dice" = some (some (.ref f19))) (l19 : K.lookup f19 = some ⟨oc19, od19, .func (PySem.W.fnOf "_law_dice" "_law_dice" (defArgs s_l_dice) (defBody s_l_dice) (defScope s_l_dice) .none kV19 dc19 pm19 an19 cd19 ct19), sl19⟩) (c19 : PySem.W.codeIn K cd19 "_law_dice" = true) (k19 : PySem.W.keepIn K (.ref f19) = true)
  (a20 : PySem.W.nsIn K mainGlobals "_law_roll" = some (some (.ref f20))) (l20 : K.lookup f20 = some ⟨oc20, od20, .func (PySem.W.fnOf "_law_roll" "_law_roll" (defArgs s_l_roll) (defBody s_l_roll) (defScope s_l_roll) .none kV20 dc20 pm20 an20 cd20 ct20), sl20⟩) (c20 : PySem.W.codeIn K cd20 "_law_roll" = true) (k20 : PySem.W.keepIn K (.ref f20) = true)
  (a21 : PySem.W.nsIn K mainGlobals "_law_pick" = some (some (.ref f21))) (l21 : K.lookup f21 = some ⟨oc21, od21, .func (PySem.W.fnOf "_law_pick" "_law_pick" (defArgs s_l_pick) (defBody s_l_pick) (defScope s_l_pick) .none kV21 dc21 pm21 an21 cd21 ct21), sl21⟩) (c21 : PySem.W.codeIn K cd21 "_law_pick" = true) (k21 : PySem.W.keepIn K (.ref f21) = true)
  (a22 : PySem.W.nsIn K mainGlobals "_law_behind" = some (some (.ref f22))) (l22 : K.lookup f22 = some ⟨oc22, od22, .func (PySem.W.fnOf "_law_behind" "_law_behind" (defArgs s_l_behind) (defBody s_l_behind) (defScope s_l_behind) .none kV22 dc22 pm22 an22 cd22 ct22), sl22⟩) (c22 : PySem.W.codeIn K cd22 "_law_behind" = true) (k22 : PySem.W.keepIn K (.ref f22) = true)
  (a23 : PySem.W.nsIn K mainGlobals "_law_line" = some (some (.ref f23))) (l23 : K.lookup f23 = some ⟨oc23, od23, .func (PySem.W.fnOf "_law_line" "_law_line" (defArgs s_l_line) (defBody s_l_line) (defScope s_l_line) .none kV23 dc23 pm23 an23 cd23 ct23), sl23⟩) (c23 : PySem.W.codeIn K cd23 "_law_line" = true) (k23 : PySem.W.keepIn K (.ref f23) = true)
  (a24 : PySem.W.nsIn K mainGlobals "_law_led" = some (some (.ref f24))) (l24 : K.lookup f24 = some ⟨oc24, od24, .func (PySem.W.fnOf "_law_led" "_law_led" (defArgs s_l_led) (defBody s_l_led) (defScope s_l_led) .none kV24 dc24 pm24 an24 cd24 ct24), sl24⟩) (c24 : PySem.W.codeIn K cd24 "_law_led" = true) (k24 : PySem.W.keepIn K (.ref f24) = true)
  (a25 : PySem.W.nsIn K mainGlobals "_law_luck_drawn" = some (some (.ref f25))) (l25 : K.lookup f25 = some ⟨oc25, od25, .func (PySem.W.fnOf "_law_luck_drawn" "_law_luck_drawn" (defArgs s_l_luck_drawn) (defBody s_l_luck_drawn) (defScope s_l_luck_drawn) .none kV25 dc25 pm25 an25 cd25 ct25), sl25⟩) (c25 : PySem.W.codeIn K cd25 "_law_luck_drawn" = true) (k25 : PySem.W.keepIn K (.ref f25) = true)
  (a26 : PySem.W.nsIn K mainGlobals "_law_turns_drawn" = some (some (.ref f26))) (l26 : K.lookup f26 = some ⟨oc26, od26, .func (PySem.W.fnOf "_law_turns_drawn" "_law_turns_drawn" (defArgs s_l_turns_drawn) (defBody s_l_turns_drawn) (defScope s_l_turns_drawn) .none kV26 dc26 pm26 an26 cd26 ct26), sl26⟩) (c26 : PySem.W.codeIn K cd26 "_law_turns_drawn" = true) (k26 : PySem.W.keepIn K (.ref f26) = true)
  (a27 : PySem.W.nsIn K mainGlobals "_law_steps_right" = some (some (.ref f27))) (l27 : K.lookup f27 = some ⟨oc27, od27, .func (PySem.W.fnOf "_law_steps_right" "_law_steps_right" (defArgs s_l_steps_right) (defBody s_l_steps_right) (defScope s_l_steps_right) .none kV27 dc27 pm27 an27 cd27 ct27), sl27⟩) (c27 : PySem.W.codeIn K cd27 "_law_steps_right" = true) (k27 : PySem.W.keepIn K (.ref f27) = true)
  (a28 : PySem.W.nsIn K mainGlobals "_law_between_right" = some (some (.ref f28))) (l28 : K.lookup f28 = some ⟨oc28, od28, .func (PySem.W.fnOf "_law_between_right" "_law_between_right" (defArgs s_l_between_right) (defBody s_l_between_right) (defScope s_l_between_right) .none kV28 dc28 pm28 an28 cd28 ct28), sl28⟩) (c28 : PySem.W.codeIn K cd28 "_law_between_right" = true) (k28 : PySem.W.keepIn K (.ref f28) = true)
  (a29 : PySem.W.nsIn K mainGlobals "_law_right" = some (some (.ref f29))) (l29 : K.lookup f29 = some ⟨oc29, od29, .func (PySem.W.fnOf "_law_right" "_law_right" (defArgs s_l_right) (defBody s_l_right) (defScope s_l_right) .none kV29 dc29 pm29 an29 cd29 ct29), sl29⟩) (c29 : PySem.W.codeIn K cd29 "_law_right" = true) (k29 : PySem.W.keepIn K (.ref f29) = true)
  (a30 : PySem.W.nsIn K mainGlobals "law" = some (some (.ref f30))) (l30 : K.lookup f30 = some ⟨oc30, od30, .func (PySem.W.fnOf "law" "law" (defArgs s_law) (defBody s_law) (defScope s_law) .none kV30 dc30 pm30 an30 cd30 ct30), sl30⟩) (c30 : PySem.W.codeIn K cd30 "law" = true) (k30 : PySem.W.keepIn K (.ref f30) = true)
  (z_abs : PySem.W.nsIn K mainGlobals "abs" = some none)
  (z_bool : PySem.W.nsIn K mainGlobals "bool" = some none)
  (z_int : PySem.W.nsIn K mainGlobals "int" = some none)
  (z_isinstance : PySem.W.nsIn K mainGlobals "isinstance" = some none)
  (z_len : PySem.W.nsIn K mainGlobals "len" = some none)
  (z_max : PySem.W.nsIn K mainGlobals "max" = some none)
  (z_min : PySem.W.nsIn K mainGlobals "min" = some none)
  (z_range : PySem.W.nsIn K mainGlobals "range" = some none)
  (z_repr : PySem.W.nsIn K mainGlobals "repr" = some none)
  (z_GREATEST : PySem.W.nsIn K mainGlobals "GREATEST" = some (some (.int 1000000000000000000000000000000000000000000000000000000000000 t_GREATEST)))
  (z_MODULUS : PySem.W.nsIn K mainGlobals "MODULUS" = some (some (.int 999999937 t_MODULUS)))
  (z_FACTOR : PySem.W.nsIn K mainGlobals "FACTOR" = some (some (.int 48274 t_FACTOR)))
  (z_SUMMAND : PySem.W.nsIn K mainGlobals "SUMMAND" = some (some (.int 271829 t_SUMMAND)))
  (z_STILL : PySem.W.nsIn K mainGlobals "STILL" = some (some (.int 949019055 t_STILL)))
  (z_PRIME_POWERS : PySem.W.nsIn K mainGlobals "PRIME_POWERS" = some (some (.ref p_PRIME_POWERS))) (y_PRIME_POWERS : K.lookup p_PRIME_POWERS = some o_PRIME_POWERS) (x_PRIME_POWERS : o_PRIME_POWERS.cls = .type "tuple" ∧ o_PRIME_POWERS.data = .seq i_PRIME_POWERS n_PRIME_POWERS ∧ i_PRIME_POWERS.size ≤ sizeLine ∧ Vals [.ref p0_PRIME_POWERS, .ref p1_PRIME_POWERS, .ref p2_PRIME_POWERS, .ref p3_PRIME_POWERS, .ref p4_PRIME_POWERS] i_PRIME_POWERS.toList)
  (y0_PRIME_POWERS : K.lookup p0_PRIME_POWERS = some o0_PRIME_POWERS) (x0_PRIME_POWERS : o0_PRIME_POWERS.cls = .type "tuple" ∧ o0_PRIME_POWERS.data = .seq i0_PRIME_POWERS n0_PRIME_POWERS ∧ i0_PRIME_POWERS.size ≤ sizeLine ∧ Vals [.int 2, .int 6] i0_PRIME_POWERS.toList)
  (y1_PRIME_POWERS : K.lookup p1_PRIME_POWERS = some o1_PRIME_POWERS) (x1_PRIME_POWERS : o1_PRIME_POWERS.cls = .type "tuple" ∧ o1_PRIME_POWERS.data = .seq i1_PRIME_POWERS n1_PRIME_POWERS ∧ i1_PRIME_POWERS.size ≤ sizeLine ∧ Vals [.int 3, .int 2] i1_PRIME_POWERS.toList)
  (y2_PRIME_POWERS : K.lookup p2_PRIME_POWERS = some o2_PRIME_POWERS) (x2_PRIME_POWERS : o2_PRIME_POWERS.cls = .type "tuple" ∧ o2_PRIME_POWERS.data = .seq i2_PRIME_POWERS n2_PRIME_POWERS ∧ i2_PRIME_POWERS.size ≤ sizeLine ∧ Vals [.int 13, .int 1] i2_PRIME_POWERS.toList)
  (y3_PRIME_POWERS : K.lookup p3_PRIME_POWERS = some o3_PRIME_POWERS) (x3_PRIME_POWERS : o3_PRIME_POWERS.cls = .type "tuple" ∧ o3_PRIME_POWERS.data = .seq i3_PRIME_POWERS n3_PRIME_POWERS ∧ i3_PRIME_POWERS.size ≤ sizeLine ∧ Vals [.int 83, .int 1] i3_PRIME_POWERS.toList)
  (y4_PRIME_POWERS : K.lookup p4_PRIME_POWERS = some o4_PRIME_POWERS) (x4_PRIME_POWERS : o4_PRIME_POWERS.cls = .type "tuple" ∧ o4_PRIME_POWERS.data = .seq i4_PRIME_POWERS n4_PRIME_POWERS ∧ i4_PRIME_POWERS.size ≤ sizeLine ∧ Vals [.int 1609, .int 1] i4_PRIME_POWERS.toList) :
  ∃ fd : FuncData, (∀ (s : Shared) (v : Value), BindsTo s fd ⟨[v], []⟩ [("_law_script", v)]) ∧ ∀ base : Heap, K.In base → base.Ns mainGlobals mg → FnOk l.prog w K mg base CX0 8 fa fd ["_law_script"] (sp_law K) := by
  have e := hfa.symm.trans (PySem.W.mg_of X G a30)
  have e2 : f30 = fa := by cases e; rfl
  subst e2
  let T : Tp K mg := {
    a_is_whole := f0, d_is_whole := _, F_is_whole := fun_mk (st := s_is_whole) l0 c0 k0, g_is_whole := PySem.W.mg_of X G a0, b_is_whole := (fun_mk (st := s_is_whole) l0 c0 k0).binds fun _ _ _ _ _ _ us hl => match us, hl with | [_], _ => rfl,
    a_is_short := f1, d_is_short := _, F_is_short := fun_mk (st := s_is_short) l1 c1 k1, g_is_short := PySem.W.mg_of X G a1, b_is_short := (fun_mk (st := s_is_short) l1 c1 k1).binds fun _ _ _ _ _ _ us hl => match us, hl with | [_], _ => rfl,
    a_is_from := f2, d_is_from := _, F_is_from := fun_mk (st := s_is_from) l2 c2 k2, g_is_from := PySem.W.mg_of X G a2, b_is_from := (fun_mk (st := s_is_from) l2 c2 k2).binds fun _ _ _ _ _ _ us hl => match us, hl with | [_, _, _], _ => rfl,
    a_is_tick := f3, d_is_tick := _, F_is_tick := fun_mk (st := s_is_tick) l3 c3 k3, g_is_tick := PySem.W.mg_of X G a3, b_is_tick := (fun_mk (st := s_is_tick) l3 c3 k3).binds fun _ _ _ _ _ _ us hl => match us, hl with | [_], _ => rfl,
    a_require_tick := f4, d_require_tick := _, F_require_tick := fun_mk (st := s_require_tick) l4 c4 k4, g_require_tick := PySem.W.mg_of X G a4, b_require_tick := (fun_mk (st := s_require_tick) l4 c4 k4).binds fun _ _ _ _ _ _ us hl => match us, hl with | [_], _ => rfl,
    a_next_in := f5, d_next_in := _, F_next_in := fun_mk (st := s_next_in) l5 c5 k5, g_next_in := PySem.W.mg_of X G a5, b_next_in := (fun_mk (st := s_next_in) l5 c5 k5).binds fun _ _ _ _ _ _ us hl => match us, hl with | [_], _ => rfl,
    a_power := f6, d_power := _, F_power := fun_mk (st := s_power) l6 c6 k6, g_power := PySem.W.mg_of X G a6, b_power := (fun_mk (st := s_power) l6 c6 k6).binds fun _ _ _ _ _ _ us hl => match us, hl with | [_, _], _ => rfl,
    a_over := f7, d_over := _, F_over := fun_mk (st := s_over) l7 c7 k7, g_over := PySem.W.mg_of X G a7, b_over := (fun_mk (st := s_over) l7 c7 k7).binds fun _ _ _ _ _ _ us hl => match us, hl with | [_, _], _ => rfl,
    a_led := f8, d_led := _, F_led := fun_mk (st := s_led) l8 c8 k8, g_led := PySem.W.mg_of X G a8, b_led := (fun_mk (st := s_led) l8 c8 k8).binds fun _ _ _ _ _ _ us hl => match us, hl with | [_, _], _ => rfl,
    a_digit_of := f9, d_digit_of := _, F_digit_of := fun_mk (st := s_digit_of) l9 c9 k9, g_digit_of := PySem.W.mg_of X G a9, b_digit_of := (fun_mk (st := s_digit_of) l9 c9 k9).binds fun _ _ _ _ _ _ us hl => match us, hl with | [_, _], _ => rfl,
    a_times_modulo := f10, d_times_modulo := _, F_times_modulo := fun_mk (st := s_times_modulo) l10 c10 k10, g_times_modulo := PySem.W.mg_of X G a10, b_times_modulo := (fun_mk (st := s_times_modulo) l10 c10 k10).binds fun _ _ _ _ _ _ us hl => match us, hl with | [_, _, _], _ => rfl,
    a_times_of := f11, d_times_of := _, F_times_of := fun_mk (st := s_times_of) l11 c11 k11, g_times_of := PySem.W.mg_of X G a11, b_times_of := (fun_mk (st := s_times_of) l11 c11 k11).binds fun _ _ _ _ _ _ us hl => match us, hl with | [_], _ => rfl,
    a_is_luck_in := f12, d_is_luck_in := _, F_is_luck_in := fun_mk (st := s_is_luck_in) l12 c12 k12, g_is_luck_in := PySem.W.mg_of X G a12, b_is_luck_in := (fun_mk (st := s_is_luck_in) l12 c12 k12).binds fun _ _ _ _ _ _ us hl => match us, hl with | [_], _ => rfl,
    a_require_luck := f13, d_require_luck := _, F_require_luck := fun_mk (st := s_require_luck) l13 c13 k13, g_require_luck := PySem.W.mg_of X G a13, b_require_luck := (fun_mk (st := s_require_luck) l13 c13 k13).binds fun _ _ _ _ _ _ us hl => match us, hl with | [_], _ => rfl,
    a_next_luck := f14, d_next_luck := _, F_next_luck := fun_mk (st := s_next_luck) l14 c14 k14, g_next_luck := PySem.W.mg_of X G a14, b_next_luck := (fun_mk (st := s_next_luck) l14 c14 k14).binds fun _ _ _ _ _ _ us hl => match us, hl with | [_], _ => rfl,
    a_luck_ahead := f15, d_luck_ahead := _, F_luck_ahead := fun_mk (st := s_luck_ahead) l15 c15 k15, g_luck_ahead := PySem.W.mg_of X G a15, b_luck_ahead := (fun_mk (st := s_luck_ahead) l15 c15 k15).binds fun _ _ _ _ _ _ us hl => match us, hl with | [_], _ => rfl,
    a_luck_after := f16, d_luck_after := _, F_luck_after := fun_mk (st := s_luck_after) l16 c16 k16, g_luck_after := PySem.W.mg_of X G a16, b_luck_after := (fun_mk (st := s_luck_after) l16 c16 k16).binds fun _ _ _ _ _ _ us hl => match us, hl with | [_, _], _ => rfl,
    a_luck_before := f17, d_luck_before := _, F_luck_before := fun_mk (st := s_luck_before) l17 c17 k17, g_luck_before := PySem.W.mg_of X G a17, b_luck_before := (fun_mk (st := s_luck_before) l17 c17 k17).binds fun _ _ _ _ _ _ us hl => match us, hl with | [_, _], _ => rfl,
    a_lucks_between := f18, d_lucks_between := _, F_lucks_between := fun_mk (st := s_lucks_between) l18 c18 k18, g_lucks_between := PySem.W.mg_of X G a18, b_lucks_between := (fun_mk (st := s_lucks_between) l18 c18 k18).binds fun _ _ _ _ _ _ us hl => match us, hl with | [_, _], _ => rfl,
    a_l_dice := f19, d_l_dice := _, F_l_dice := fun_mk (st := s_l_dice) l19 c19 k19, g_l_dice := PySem.W.mg_of X G a19, b_l_dice := (fun_mk (st := s_l_dice) l19 c19 k19).binds fun _ _ _ _ _ _ us hl => match us, hl with | [_, _], _ => rfl,
    a_l_roll := f20, d_l_roll := _, F_l_roll := fun_mk (st := s_l_roll) l20 c20 k20, g_l_roll := PySem.W.mg_of X G a20, b_l_roll := (fun_mk (st := s_l_roll) l20 c20 k20).binds fun _ _ _ _ _ _ us hl => match us, hl with | [_, _], _ => rfl,
    a_l_pick := f21, d_l_pick := _, F_l_pick := fun_mk (st := s_l_pick) l21 c21 k21, g_l_pick := PySem.W.mg_of X G a21, b_l_pick := (fun_mk (st := s_l_pick) l21 c21 k21).binds fun _ _ _ _ _ _ us hl => match us, hl with | [_, _], _ => rfl,
    a_l_behind := f22, d_l_behind := _, F_l_behind := fun_mk (st := s_l_behind) l22 c22 k22, g_l_behind := PySem.W.mg_of X G a22, b_l_behind := (fun_mk (st := s_l_behind) l22 c22 k22).binds fun _ _ _ _ _ _ us hl => match us, hl with | [_, _], _ => rfl,
    a_l_line := f23, d_l_line := _, F_l_line := fun_mk (st := s_l_line) l23 c23 k23, g_l_line := PySem.W.mg_of X G a23, b_l_line := (fun_mk (st := s_l_line) l23 c23 k23).binds fun _ _ _ _ _ _ us hl => match us, hl with | [_], _ => rfl,
    a_l_led := f24, d_l_led := _, F_l_led := fun_mk (st := s_l_led) l24 c24 k24, g_l_led := PySem.W.mg_of X G a24, b_l_led := (fun_mk (st := s_l_led) l24 c24 k24).binds fun _ _ _ _ _ _ us hl => match us, hl with | [_, _], _ => rfl,
    a_l_luck_drawn := f25, d_l_luck_drawn := _, F_l_luck_drawn := fun_mk (st := s_l_luck_drawn) l25 c25 k25, g_l_luck_drawn := PySem.W.mg_of X G a25, b_l_luck_drawn := (fun_mk (st := s_l_luck_drawn) l25 c25 k25).binds fun _ _ _ _ _ _ us hl => match us, hl with | [_], _ => rfl,
    a_l_turns_drawn := f26, d_l_turns_drawn := _, F_l_turns_drawn := fun_mk (st := s_l_turns_drawn) l26 c26 k26, g_l_turns_drawn := PySem.W.mg_of X G a26, b_l_turns_drawn := (fun_mk (st := s_l_turns_drawn) l26 c26 k26).binds fun _ _ _ _ _ _ us hl => match us, hl with | [_], _ => rfl,
    a_l_steps_right := f27, d_l_steps_right := _, F_l_steps_right := fun_mk (st := s_l_steps_right) l27 c27 k27, g_l_steps_right := PySem.W.mg_of X G a27, b_l_steps_right := (fun_mk (st := s_l_steps_right) l27 c27 k27).binds fun _ _ _ _ _ _ us hl => match us, hl with | [_, _], _ => rfl,
    a_l_between_right := f28, d_l_between_right := _, F_l_between_right := fun_mk (st := s_l_between_right) l28 c28 k28, g_l_between_right := PySem.W.mg_of X G a28, b_l_between_right := (fun_mk (st := s_l_between_right) l28 c28 k28).binds fun _ _ _ _ _ _ us hl => match us, hl with | [_, _], _ => rfl,
    a_l_right := f29, d_l_right := _, F_l_right := fun_mk (st := s_l_right) l29 c29 k29, g_l_right := PySem.W.mg_of X G a29, b_l_right := (fun_mk (st := s_l_right) l29 c29 k29).binds fun _ _ _ _ _ _ us hl => match us, hl with | [_], _ => rfl,
    a_law := f30, d_law := _, F_law := fun_mk (st := s_law) l30 c30 k30, g_law := PySem.W.mg_of X G a30, b_law := (fun_mk (st := s_law) l30 c30 k30).binds fun _ _ _ _ _ _ us hl => match us, hl with | [_], _ => rfl,
    m_abs := PySem.W.mg_none_of X G z_abs,
    m_bool := PySem.W.mg_none_of X G z_bool,
    m_int := PySem.W.mg_none_of X G z_int,
    m_isinstance := PySem.W.mg_none_of X G z_isinstance,
    m_len := PySem.W.mg_none_of X G z_len,
    m_max := PySem.W.mg_none_of X G z_max,
    m_min := PySem.W.mg_none_of X G z_min,
    m_range := PySem.W.mg_none_of X G z_range,
    m_repr := PySem.W.mg_none_of X G z_repr,
    t_GREATEST := t_GREATEST, c_GREATEST := PySem.W.mg_of X G z_GREATEST,
    t_MODULUS := t_MODULUS, c_MODULUS := PySem.W.mg_of X G z_MODULUS,
    t_FACTOR := t_FACTOR, c_FACTOR := PySem.W.mg_of X G z_FACTOR,
    t_SUMMAND := t_SUMMAND, c_SUMMAND := PySem.W.mg_of X G z_SUMMAND,
    t_STILL := t_STILL, c_STILL := PySem.W.mg_of X G z_STILL,
    p_PRIME_POWERS := p_PRIME_POWERS, c_PRIME_POWERS := PySem.W.mg_of X G z_PRIME_POWERS, s_PRIME_POWERS := fun _ => .inr ⟨o_PRIME_POWERS, i_PRIME_POWERS, n_PRIME_POWERS, y_PRIME_POWERS, x_PRIME_POWERS.1, x_PRIME_POWERS.2.1, x_PRIME_POWERS.2.2.1, x_PRIME_POWERS.2.2.2⟩, p0_PRIME_POWERS := p0_PRIME_POWERS, s0_PRIME_POWERS := fun _ => .inr ⟨o0_PRIME_POWERS, i0_PRIME_POWERS, n0_PRIME_POWERS, y0_PRIME_POWERS, x0_PRIME_POWERS.1, x0_PRIME_POWERS.2.1, x0_PRIME_POWERS.2.2.1, x0_PRIME_POWERS.2.2.2⟩, p1_PRIME_POWERS := p1_PRIME_POWERS, s1_PRIME_POWERS := fun _ => .inr ⟨o1_PRIME_POWERS, i1_PRIME_POWERS, n1_PRIME_POWERS, y1_PRIME_POWERS, x1_PRIME_POWERS.1, x1_PRIME_POWERS.2.1, x1_PRIME_POWERS.2.2.1, x1_PRIME_POWERS.2.2.2⟩, p2_PRIME_POWERS := p2_PRIME_POWERS, s2_PRIME_POWERS := fun _ => .inr ⟨o2_PRIME_POWERS, i2_PRIME_POWERS, n2_PRIME_POWERS, y2_PRIME_POWERS, x2_PRIME_POWERS.1, x2_PRIME_POWERS.2.1, x2_PRIME_POWERS.2.2.1, x2_PRIME_POWERS.2.2.2⟩, p3_PRIME_POWERS := p3_PRIME_POWERS, s3_PRIME_POWERS := fun _ => .inr ⟨o3_PRIME_POWERS, i3_PRIME_POWERS, n3_PRIME_POWERS, y3_PRIME_POWERS, x3_PRIME_POWERS.1, x3_PRIME_POWERS.2.1, x3_PRIME_POWERS.2.2.1, x3_PRIME_POWERS.2.2.2⟩, p4_PRIME_POWERS := p4_PRIME_POWERS, s4_PRIME_POWERS := fun _ => .inr ⟨o4_PRIME_POWERS, i4_PRIME_POWERS, n4_PRIME_POWERS, y4_PRIME_POWERS, x4_PRIME_POWERS.1, x4_PRIME_POWERS.2.1, x4_PRIME_POWERS.2.2.1, x4_PRIME_POWERS.2.2.2⟩ }
  exact ⟨_, fun s v => .of_eq rfl, fun base _ _ => ok_law T⟩
end K03
open PySem PySem.W PyProof.Rows
set_option maxHeartbeats 0 in
theorem PySem.Challenge.cw_settledplay_k03_whole_luck_goes_round_holds : PySem.Challenge.rw_settledplay_k03_whole_luck_goes_round.Holds := by
  w_on; o_law; k_head; (case hw => w_witness2)
  k_fill
  refine L2.walk_of (l := PySem.Challenge.rw_settledplay_k03_whole_luck_goes_round) (n := 63) (k := 8) (x := "_law_script") (CX := fun _ => L2.CX0) (sp := fun w => K03.sp_law _) rfl (by decide) rfl ⟨rfl, by decide, by decide⟩ (fun w h Y => PySem.W.kIn_of Y) ?F (fun _ _ a ns hl _ hS => ⟨a, ns, rfl, hS, hl, fun _ => rfl⟩) (fun _ _ _ _ _ h => h)
  case F =>
    intro w mg fa h KX G hmg
    refine' K03.all_mk KX G hmg ?a0 ?l0 ?c0 ?k0 ?a1 ?l1 ?c1 ?k1 ?a2 ?l2 ?c2 ?k2 ?a3 ?l3 ?c3 ?k3 ?a4 ?l4 ?c4 ?k4 ?a5 ?l5 ?c5 ?k5 ?a6 ?l6 ?c6 ?k6 ?a7 ?l7 ?c7 ?k7 ?a8 ?l8 ?c8 ?k8 ?a9 ?l9 ?c9 ?k9 ?a10 ?l10 ?c10 ?k10 ?a11 ?l11 ?c11 ?k11 ?a12 ?l12 ?c12 ?k12 ?a13 ?l13 ?c13 ?k13 ?a14 ?l14 ?c14 ?k14 ?a15 ?l15 ?c15 ?k15 ?a16 ?l16 ?c16 ?k16 ?a17 ?l17 ?c17 ?k17 ?a18 ?l18 ?c18 ?k18 ?a19 ?l19 ?c19 ?k19 ?a20 ?l20 ?c20 ?k20 ?a21 ?l21 ?c21 ?k21 ?a22 ?l22 ?c22 ?k22 ?a23 ?l23 ?c23 ?k23 ?a24 ?l24 ?c24 ?k24 ?a25 ?l25 ?c25 ?k25 ?a26 ?l26 ?c26 ?k26 ?a27 ?l27 ?c27 ?k27 ?a28 ?l28 ?c28 ?k28 ?a29 ?l29 ?c29 ?k29 ?a30 ?l30 ?c30 ?k30 ?z_abs ?z_bool ?z_int ?z_isinstance ?z_len ?z_max ?z_min ?z_range ?z_repr ?z_GREATEST ?z_MODULUS ?z_FACTOR ?z_SUMMAND ?z_STILL ?z_PRIME_POWERS ?y_PRIME_POWERS ?x_PRIME_POWERS ?y0_PRIME_POWERS ?x0_PRIME_POWERS ?y1_PRIME_POWERS ?x1_PRIME_POWERS ?y2_PRIME_POWERS ?x2_PRIME_POWERS ?y3_PRIME_POWERS ?x3_PRIME_POWERS ?y4_PRIME_POWERS ?x4_PRIME_POWERS
    (case a0 => k_is)
    (case l0 => k_is)
    (case c0 => k_is)
    (case k0 => k_is)
    (case a1 => k_is)
    (case l1 => k_is)
    (case c1 => k_is)
    (case k1 => k_is)
    (case a2 => k_is)
    (case l2 => k_is)
    (case c2 => k_is)
    (case k2 => k_is)
    (case a3 => k_is)
    (case l3 => k_is)
    (case c3 => k_is)
    (case k3 => k_is)
    (case a4 => k_is)
    (case l4 => k_is)
    (case c4 => k_is)
    (case k4 => k_is)
    (case a5 => k_is)
    (case l5 => k_is)
    (case c5 => k_is)
    (case k5 => k_is)
    (case a6 => k_is)
    (case l6 => k_is)
    (case c6 => k_is)
    (case k6 => k_is)
    (case a7 => k_is)
    (case l7 => k_is)
    (case c7 => k_is)
    (case k7 => k_is)
    (case a8 => k_is)
    (case l8 => k_is)
    (case c8 => k_is)
    (case k8 => k_is)
    (case a9 => k_is)
    (case l9 => k_is)
    (case c9 => k_is)
    (case k9 => k_is)
    (case a10 => k_is)
    (case l10 => k_is)
    (case c10 => k_is)
    (case k10 => k_is)
    (case a11 => k_is)
    (case l11 => k_is)
    (case c11 => k_is)
    (case k11 => k_is)
    (case a12 => k_is)
    (case l12 => k_is)
    (case c12 => k_is)
    (case k12 => k_is)
    (case a13 => k_is)
    (case l13 => k_is)
    (case c13 => k_is)
    (case k13 => k_is)
    (case a14 => k_is)
    (case l14 => k_is)
    (case c14 => k_is)
    (case k14 => k_is)
    (case a15 => k_is)
    (case l15 => k_is)
    (case c15 => k_is)
    (case k15 => k_is)
    (case a16 => k_is)
    (case l16 => k_is)
    (case c16 => k_is)
    (case k16 => k_is)
    (case a17 => k_is)
    (case l17 => k_is)
    (case c17 => k_is)
    (case k17 => k_is)
    (case a18 => k_is)
    (case l18 => k_is)
    (case c18 => k_is)
    (case k18 => k_is)
    (case a19 => k_is)
    (case l19 => k_is)
    (case c19 => k_is)
    (case k19 => k_is)
    (case a20 => k_is)
    (case l20 => k_is)
    (case c20 => k_is)
    (case k20 => k_is)
    (case a21 => k_is)
    (case l21 => k_is)
    (case c21 => k_is)
    (case k21 => k_is)
    (case a22 => k_is)
    (case l22 => k_is)
    (case c22 => k_is)
    (case k22 => k_is)
    (case a23 => k_is)
    (case l23 => k_is)
    (case c23 => k_is)
    (case k23 => k_is)
    (case a24 => k_is)
    (case l24 => k_is)
    (case c24 => k_is)
    (case k24 => k_is)
    (case a25 => k_is)
    (case l25 => k_is)
    (case c25 => k_is)
    (case k25 => k_is)
    (case a26 => k_is)
    (case l26 => k_is)
    (case c26 => k_is)
    (case k26 => k_is)
    (case a27 => k_is)
    (case l27 => k_is)
    (case c27 => k_is)
    (case k27 => k_is)
    (case a28 => k_is)
    (case l28 => k_is)
    (case c28 => k_is)
    (case k28 => k_is)
    (case a29 => k_is)
    (case l29 => k_is)
    (case c29 => k_is)
    (case k29 => k_is)
    (case a30 => k_is)
    (case l30 => k_is)
    (case c30 => k_is)
    (case k30 => k_is)
    (case z_abs => k_is)
    (case z_bool => k_is)
    (case z_int => k_is)
    (case z_isinstance => k_is)
    (case z_len => k_is)
    (case z_max => k_is)
    (case z_min => k_is)
    (case z_range => k_is)
    (case z_repr => k_is)
    (case z_GREATEST => k_is)
    (case z_MODULUS => k_is)
    (case z_FACTOR => k_is)
    (case z_SUMMAND => k_is)
    (case z_STILL => k_is)
    (case z_PRIME_POWERS => k_is)
    (case y_PRIME_POWERS => k_is)
    (case x_PRIME_POWERS => exact ⟨rfl, rfl, by decide, by repeat (first | exact .nil | refine .cons (by first | exact rfl | exact ⟨_, rfl⟩) ?_)⟩)
    (case y0_PRIME_POWERS => k_is)
    (case x0_PRIME_POWERS => exact ⟨rfl, rfl, by decide, by repeat (first | exact .nil | refine .cons (by first | exact rfl | exact ⟨_, rfl⟩) ?_)⟩)
    (case y1_PRIME_POWERS => k_is)
    (case x1_PRIME_POWERS => exact ⟨rfl, rfl, by decide, by repeat (first | exact .nil | refine .cons (by first | exact rfl | exact ⟨_, rfl⟩) ?_)⟩)
    (case y2_PRIME_POWERS => k_is)
    (case x2_PRIME_POWERS => exact ⟨rfl, rfl, by decide, by repeat (first | exact .nil | refine .cons (by first | exact rfl | exact ⟨_, rfl⟩) ?_)⟩)
    (case y3_PRIME_POWERS => k_is)
    (case x3_PRIME_POWERS => exact ⟨rfl, rfl, by decide, by repeat (first | exact .nil | refine .cons (by first | exact rfl | exact ⟨_, rfl⟩) ?_)⟩)
    (case y4_PRIME_POWERS => k_is)
    (case x4_PRIME_POWERS => exact ⟨rfl, rfl, by decide, by repeat (first | exact .nil | refine .cons (by first | exact rfl | exact ⟨_, rfl⟩) ?_)⟩)
