import PyProof.Rows.All
import Wide.All
import OpenK.AllK
import Wide.FinOn
import PyProof.EqAt
import PyProof.EqKinds
import PyProof.TupleCall
import KE.KStateDown
import KE.KDictKeyed
import KE.KDictWalk
import KE.KDictCopyH
import KE.KDictList
import KE.KDictLaw
import HandS.ForMost
import HandS.Exc
import HandS.TryOnly
import HandS.ExcOwn
import HandS.WordsExc
import HandS.Walk
import HandS.Slots
import HandS.SlotsOwn
import HandS.SetKeys
import HandS.Strs
import HandS.Star
import HandS.StrMore
import HandS.TupAny
import HandS.Style
import HandS.IsInst
import HandS.Codes
import HandS.More
import HandS.Deep
import HandS.TupSets
import HandS.NoneIn
import HandS.Conv
import HandS.Evl
import HandS.Steps
import HandS.Wide
import HandS.DictComp
import HandS.HeadEnd
import HandS.HeadHook1
import HandS.HeadHook2
import HandS.Head0
import HandS.Head1
import HandS.Head2
import PySem.Challenge.RW_foldlook_k06_whole_served
import KE.KDictPairs
import KE.GoesEnum
import KE.GoesMore
import HandS.SetFor
import HandS.Replace
import HandS.SortInts
set_option Elab.async false
set_option linter.all false
set_option maxRecDepth 100000
set_option maxHeartbeats 4000000
/-! the text by places -/
namespace Fk
open PySem PySem.Spec PyProof.Rows L2 He
def top (i : Nat) : Stmt := PySem.Challenge.pw_foldlook_k06_whole_served.main.body.getD i (.Pass ⟨0, 0, 0, 0⟩)
abbrev s_is_number : Stmt := top 13
abbrev s_are_letters : Stmt := top 14
abbrev s_check_letters : Stmt := top 15
abbrev s_is_value : Stmt := top 16
abbrev s_is_out : Stmt := top 17
abbrev s_is_turn : Stmt := top 18
abbrev s_first_wrong : Stmt := top 19
abbrev s_Machine_init : Stmt := inClass (top 20) 1
abbrev s_Machine_letters : Stmt := inClass (top 20) 2
abbrev s_Machine_len : Stmt := inClass (top 20) 4
abbrev s_Machine_turn : Stmt := inClass (top 20) 7
abbrev s_Machine_ends : Stmt := inClass (top 20) 8
abbrev s_check_machine : Stmt := top 21
abbrev s_check_two : Stmt := top 22
abbrev s_is_pattern : Stmt := top 29
abbrev s_is_short : Stmt := top 30
abbrev s_is_condition_of : Stmt := top 31
abbrev s_check_condition : Stmt := top 32
abbrev s_led_on : Stmt := top 33
abbrev s_first_stand : Stmt := top 34
abbrev s_beside : Stmt := top 35
abbrev s_stand_after : Stmt := top 36
abbrev s_is_met : Stmt := top 37
abbrev s_read_by : Stmt := top 38
abbrev s_is_place_of : Stmt := top 39
abbrev s_is_stand_of : Stmt := top 40
abbrev s_Legs_init : Stmt := inClass (top 43) 1
abbrev s_Legs_first : Stmt := inClass (top 43) 2
abbrev s_Legs_step : Stmt := inClass (top 43) 3
abbrev s_Legs_moves : Stmt := inClass (top 43) 4
abbrev s_Legs_is_leg : Stmt := inClass (top 43) 5
abbrev s_Legs_are_pairs : Stmt := inClass (top 43) 6
abbrev s_Legs_reach : Stmt := inClass (top 43) 7
abbrev s_Legs_note : Stmt := inClass (top 43) 8
abbrev s_check_filter : Stmt := top 44
abbrev s_is_wished : Stmt := top 45
abbrev s_Served_init : Stmt := inClass (top 46) 1
abbrev s_Served_shows : Stmt := inClass (top 46) 3
abbrev s_Mixed_init : Stmt := inClass (top 47) 1
abbrev s_Mixed_shows : Stmt := inClass (top 47) 3
abbrev s_mixed_in : Stmt := top 48
abbrev s_serve : Stmt := top 49
abbrev s_can_serve : Stmt := top 50
abbrev s_least_mixed : Stmt := top 51
abbrev s_law_number : Stmt := top 53
abbrev s_law_letters : Stmt := top 54
abbrev s_law_rows : Stmt := top 55
abbrev s_law_value : Stmt := top 56
abbrev s_law_turn : Stmt := top 57
abbrev s_law_ends : Stmt := top 58
abbrev s_law_condition : Stmt := top 59
abbrev s_law_led : Stmt := top 60
abbrev s_law_first_stand : Stmt := top 61
abbrev s_law_beside : Stmt := top 62
abbrev s_law_next_stand : Stmt := top 63
abbrev s_law_met : Stmt := top 64
abbrev s_law_step : Stmt := top 65
abbrev s_law_moves : Stmt := top 66
abbrev s_law_first_pair : Stmt := top 67
abbrev s_law_pairs : Stmt := top 68
abbrev s_law_is_met : Stmt := top 69
abbrev s_law_are_served : Stmt := top 70
abbrev s_law_are_mixed : Stmt := top 71
abbrev s_law : Stmt := top 72
/-- the getter of the property letters -/
def getterA (K : PySem.W.Frag) : Addr := match PySem.W.recIn K (ma K (ga K "Machine") "letters") "property" with
  | some (.ref a :: _) => a
  | _ => 0
abbrev a_is_number (K : PySem.W.Frag) : Addr := ga K "is_number"
abbrev a_are_letters (K : PySem.W.Frag) : Addr := ga K "are_letters"
abbrev a_check_letters (K : PySem.W.Frag) : Addr := ga K "check_letters"
abbrev a_is_value (K : PySem.W.Frag) : Addr := ga K "is_value"
abbrev a_is_out (K : PySem.W.Frag) : Addr := ga K "is_out"
abbrev a_is_turn (K : PySem.W.Frag) : Addr := ga K "is_turn"
abbrev a_first_wrong (K : PySem.W.Frag) : Addr := ga K "first_wrong"
abbrev a_Machine_init (K : PySem.W.Frag) : Addr := ma K (ga K "Machine") "__init__"
abbrev a_Machine_letters (K : PySem.W.Frag) : Addr := getterA K
abbrev a_Machine_len (K : PySem.W.Frag) : Addr := ma K (ga K "Machine") "__len__"
abbrev a_Machine_turn (K : PySem.W.Frag) : Addr := ma K (ga K "Machine") "turn"
abbrev a_Machine_ends (K : PySem.W.Frag) : Addr := ma K (ga K "Machine") "ends"
abbrev a_check_machine (K : PySem.W.Frag) : Addr := ga K "check_machine"
abbrev a_check_two (K : PySem.W.Frag) : Addr := ga K "check_two"
abbrev a_is_pattern (K : PySem.W.Frag) : Addr := ga K "is_pattern"
abbrev a_is_short (K : PySem.W.Frag) : Addr := ga K "is_short"
abbrev a_is_condition_of (K : PySem.W.Frag) : Addr := ga K "is_condition_of"
abbrev a_check_condition (K : PySem.W.Frag) : Addr := ga K "check_condition"
abbrev a_led_on (K : PySem.W.Frag) : Addr := ga K "led_on"
abbrev a_first_stand (K : PySem.W.Frag) : Addr := ga K "first_stand"
abbrev a_beside (K : PySem.W.Frag) : Addr := ga K "beside"
abbrev a_stand_after (K : PySem.W.Frag) : Addr := ga K "stand_after"
abbrev a_is_met (K : PySem.W.Frag) : Addr := ga K "is_met"
abbrev a_read_by (K : PySem.W.Frag) : Addr := ga K "read_by"
abbrev a_is_place_of (K : PySem.W.Frag) : Addr := ga K "is_place_of"
abbrev a_is_stand_of (K : PySem.W.Frag) : Addr := ga K "is_stand_of"
abbrev a_Legs_init (K : PySem.W.Frag) : Addr := ma K (ga K "Legs") "__init__"
abbrev a_Legs_first (K : PySem.W.Frag) : Addr := ma K (ga K "Legs") "first"
abbrev a_Legs_step (K : PySem.W.Frag) : Addr := ma K (ga K "Legs") "step"
abbrev a_Legs_moves (K : PySem.W.Frag) : Addr := ma K (ga K "Legs") "moves"
abbrev a_Legs_is_leg (K : PySem.W.Frag) : Addr := ma K (ga K "Legs") "is_leg"
abbrev a_Legs_are_pairs (K : PySem.W.Frag) : Addr := ma K (ga K "Legs") "are_pairs"
abbrev a_Legs_reach (K : PySem.W.Frag) : Addr := ma K (ga K "Legs") "reach"
abbrev a_Legs_note (K : PySem.W.Frag) : Addr := ma K (ga K "Legs") "note"
abbrev a_check_filter (K : PySem.W.Frag) : Addr := ga K "check_filter"
abbrev a_is_wished (K : PySem.W.Frag) : Addr := ga K "is_wished"
abbrev a_Served_init (K : PySem.W.Frag) : Addr := ma K (ga K "Served") "__init__"
abbrev a_Served_shows (K : PySem.W.Frag) : Addr := ma K (ga K "Served") "shows"
abbrev a_Mixed_init (K : PySem.W.Frag) : Addr := ma K (ga K "Mixed") "__init__"
abbrev a_Mixed_shows (K : PySem.W.Frag) : Addr := ma K (ga K "Mixed") "shows"
abbrev a_mixed_in (K : PySem.W.Frag) : Addr := ga K "mixed_in"
abbrev a_serve (K : PySem.W.Frag) : Addr := ga K "serve"
abbrev a_can_serve (K : PySem.W.Frag) : Addr := ga K "can_serve"
abbrev a_least_mixed (K : PySem.W.Frag) : Addr := ga K "least_mixed"
abbrev a_law_number (K : PySem.W.Frag) : Addr := ga K "_law_number"
abbrev a_law_letters (K : PySem.W.Frag) : Addr := ga K "_law_letters"
abbrev a_law_rows (K : PySem.W.Frag) : Addr := ga K "_law_rows"
abbrev a_law_value (K : PySem.W.Frag) : Addr := ga K "_law_value"
abbrev a_law_turn (K : PySem.W.Frag) : Addr := ga K "_law_turn"
abbrev a_law_ends (K : PySem.W.Frag) : Addr := ga K "_law_ends"
abbrev a_law_condition (K : PySem.W.Frag) : Addr := ga K "_law_condition"
abbrev a_law_led (K : PySem.W.Frag) : Addr := ga K "_law_led"
abbrev a_law_first_stand (K : PySem.W.Frag) : Addr := ga K "_law_first_stand"
abbrev a_law_beside (K : PySem.W.Frag) : Addr := ga K "_law_beside"
abbrev a_law_next_stand (K : PySem.W.Frag) : Addr := ga K "_law_next_stand"
abbrev a_law_met (K : PySem.W.Frag) : Addr := ga K "_law_met"
abbrev a_law_step (K : PySem.W.Frag) : Addr := ga K "_law_step"
abbrev a_law_moves (K : PySem.W.Frag) : Addr := ga K "_law_moves"
abbrev a_law_first_pair (K : PySem.W.Frag) : Addr := ga K "_law_first_pair"
abbrev a_law_pairs (K : PySem.W.Frag) : Addr := ga K "_law_pairs"
abbrev a_law_is_met (K : PySem.W.Frag) : Addr := ga K "_law_is_met"
abbrev a_law_are_served (K : PySem.W.Frag) : Addr := ga K "_law_are_served"
abbrev a_law_are_mixed (K : PySem.W.Frag) : Addr := ga K "_law_are_mixed"
abbrev a_law (K : PySem.W.Frag) : Addr := ga K "law"
/-- the class x has the slot f at place i -/
abbrev SlF (K : PySem.W.Frag) (x f : Str) (i : Nat) : Prop := SlX.Slot1 K (ga K x) f (ma K (ga K x) f) i
structure Txt (K : PySem.W.Frag) (mg : Str → Option Value) : Prop where
  g_is_number : mg "is_number" = some (.ref (a_is_number K))
  F_is_number : ∃ fd, Fun K "is_number" "is_number" s_is_number (a_is_number K) fd
  g_are_letters : mg "are_letters" = some (.ref (a_are_letters K))
  F_are_letters : ∃ fd, Fun K "are_letters" "are_letters" s_are_letters (a_are_letters K) fd
  g_check_letters : mg "check_letters" = some (.ref (a_check_letters K))
  F_check_letters : ∃ fd, Fun K "check_letters" "check_letters" s_check_letters (a_check_letters K) fd
  g_is_value : mg "is_value" = some (.ref (a_is_value K))
  F_is_value : ∃ fd, Fun K "is_value" "is_value" s_is_value (a_is_value K) fd
  g_is_out : mg "is_out" = some (.ref (a_is_out K))
  F_is_out : ∃ fd, Fun K "is_out" "is_out" s_is_out (a_is_out K) fd
  g_is_turn : mg "is_turn" = some (.ref (a_is_turn K))
  F_is_turn : ∃ fd, Fun K "is_turn" "is_turn" s_is_turn (a_is_turn K) fd
  g_first_wrong : mg "first_wrong" = some (.ref (a_first_wrong K))
  F_first_wrong : ∃ fd, Fun K "first_wrong" "first_wrong" s_first_wrong (a_first_wrong K) fd
  F_Machine_init : ∃ fd, Fun K "__init__" "Machine.__init__" s_Machine_init (a_Machine_init K) fd
  F_Machine_letters : ∃ fd, Fun K "letters" "Machine.letters" s_Machine_letters (a_Machine_letters K) fd
  F_Machine_len : ∃ fd, Fun K "__len__" "Machine.__len__" s_Machine_len (a_Machine_len K) fd
  F_Machine_turn : ∃ fd, Fun K "turn" "Machine.turn" s_Machine_turn (a_Machine_turn K) fd
  F_Machine_ends : ∃ fd, Fun K "ends" "Machine.ends" s_Machine_ends (a_Machine_ends K) fd
  g_check_machine : mg "check_machine" = some (.ref (a_check_machine K))
  F_check_machine : ∃ fd, Fun K "check_machine" "check_machine" s_check_machine (a_check_machine K) fd
  g_check_two : mg "check_two" = some (.ref (a_check_two K))
  F_check_two : ∃ fd, Fun K "check_two" "check_two" s_check_two (a_check_two K) fd
  g_is_pattern : mg "is_pattern" = some (.ref (a_is_pattern K))
  F_is_pattern : ∃ fd, Fun K "is_pattern" "is_pattern" s_is_pattern (a_is_pattern K) fd
  g_is_short : mg "is_short" = some (.ref (a_is_short K))
  F_is_short : ∃ fd, Fun K "is_short" "is_short" s_is_short (a_is_short K) fd
  g_is_condition_of : mg "is_condition_of" = some (.ref (a_is_condition_of K))
  F_is_condition_of : ∃ fd, Fun K "is_condition_of" "is_condition_of" s_is_condition_of (a_is_condition_of K) fd
  g_check_condition : mg "check_condition" = some (.ref (a_check_condition K))
  F_check_condition : ∃ fd, Fun K "check_condition" "check_condition" s_check_condition (a_check_condition K) fd
  g_led_on : mg "led_on" = some (.ref (a_led_on K))
  F_led_on : ∃ fd, Fun K "led_on" "led_on" s_led_on (a_led_on K) fd
  g_first_stand : mg "first_stand" = some (.ref (a_first_stand K))
  F_first_stand : ∃ fd, Fun K "first_stand" "first_stand" s_first_stand (a_first_stand K) fd
  g_beside : mg "beside" = some (.ref (a_beside K))
  F_beside : ∃ fd, Fun K "beside" "beside" s_beside (a_beside K) fd
  g_stand_after : mg "stand_after" = some (.ref (a_stand_after K))
  F_stand_after : ∃ fd, Fun K "stand_after" "stand_after" s_stand_after (a_stand_after K) fd
  g_is_met : mg "is_met" = some (.ref (a_is_met K))
  F_is_met : ∃ fd, Fun K "is_met" "is_met" s_is_met (a_is_met K) fd
  g_read_by : mg "read_by" = some (.ref (a_read_by K))
  F_read_by : ∃ fd, Fun K "read_by" "read_by" s_read_by (a_read_by K) fd
  g_is_place_of : mg "is_place_of" = some (.ref (a_is_place_of K))
  F_is_place_of : ∃ fd, Fun K "is_place_of" "is_place_of" s_is_place_of (a_is_place_of K) fd
  g_is_stand_of : mg "is_stand_of" = some (.ref (a_is_stand_of K))
  F_is_stand_of : ∃ fd, Fun K "is_stand_of" "is_stand_of" s_is_stand_of (a_is_stand_of K) fd
  F_Legs_init : ∃ fd, Fun K "__init__" "Legs.__init__" s_Legs_init (a_Legs_init K) fd
  F_Legs_first : ∃ fd, Fun K "first" "Legs.first" s_Legs_first (a_Legs_first K) fd
  F_Legs_step : ∃ fd, Fun K "step" "Legs.step" s_Legs_step (a_Legs_step K) fd
  F_Legs_moves : ∃ fd, Fun K "moves" "Legs.moves" s_Legs_moves (a_Legs_moves K) fd
  F_Legs_is_leg : ∃ fd, Fun K "is_leg" "Legs.is_leg" s_Legs_is_leg (a_Legs_is_leg K) fd
  F_Legs_are_pairs : ∃ fd, Fun K "are_pairs" "Legs.are_pairs" s_Legs_are_pairs (a_Legs_are_pairs K) fd
  F_Legs_reach : ∃ fd, Fun K "reach" "Legs.reach" s_Legs_reach (a_Legs_reach K) fd
  F_Legs_note : ∃ fd, Fun K "note" "Legs.note" s_Legs_note (a_Legs_note K) fd
  g_check_filter : mg "check_filter" = some (.ref (a_check_filter K))
  F_check_filter : ∃ fd, Fun K "check_filter" "check_filter" s_check_filter (a_check_filter K) fd
  g_is_wished : mg "is_wished" = some (.ref (a_is_wished K))
  F_is_wished : ∃ fd, Fun K "is_wished" "is_wished" s_is_wished (a_is_wished K) fd
  F_Served_init : ∃ fd, Fun K "__init__" "Served.__init__" s_Served_init (a_Served_init K) fd
  F_Served_shows : ∃ fd, Fun K "shows" "Served.shows" s_Served_shows (a_Served_shows K) fd
  F_Mixed_init : ∃ fd, Fun K "__init__" "Mixed.__init__" s_Mixed_init (a_Mixed_init K) fd
  F_Mixed_shows : ∃ fd, Fun K "shows" "Mixed.shows" s_Mixed_shows (a_Mixed_shows K) fd
  g_mixed_in : mg "mixed_in" = some (.ref (a_mixed_in K))
  F_mixed_in : ∃ fd, Fun K "mixed_in" "mixed_in" s_mixed_in (a_mixed_in K) fd
  g_serve : mg "serve" = some (.ref (a_serve K))
  F_serve : ∃ fd, Fun K "serve" "serve" s_serve (a_serve K) fd
  g_can_serve : mg "can_serve" = some (.ref (a_can_serve K))
  F_can_serve : ∃ fd, Fun K "can_serve" "can_serve" s_can_serve (a_can_serve K) fd
  g_least_mixed : mg "least_mixed" = some (.ref (a_least_mixed K))
  F_least_mixed : ∃ fd, Fun K "least_mixed" "least_mixed" s_least_mixed (a_least_mixed K) fd
  g_law_number : mg "_law_number" = some (.ref (a_law_number K))
  F_law_number : ∃ fd, Fun K "_law_number" "_law_number" s_law_number (a_law_number K) fd
  g_law_letters : mg "_law_letters" = some (.ref (a_law_letters K))
  F_law_letters : ∃ fd, Fun K "_law_letters" "_law_letters" s_law_letters (a_law_letters K) fd
  g_law_rows : mg "_law_rows" = some (.ref (a_law_rows K))
  F_law_rows : ∃ fd, Fun K "_law_rows" "_law_rows" s_law_rows (a_law_rows K) fd
  g_law_value : mg "_law_value" = some (.ref (a_law_value K))
  F_law_value : ∃ fd, Fun K "_law_value" "_law_value" s_law_value (a_law_value K) fd
  g_law_turn : mg "_law_turn" = some (.ref (a_law_turn K))
  F_law_turn : ∃ fd, Fun K "_law_turn" "_law_turn" s_law_turn (a_law_turn K) fd
  g_law_ends : mg "_law_ends" = some (.ref (a_law_ends K))
  F_law_ends : ∃ fd, Fun K "_law_ends" "_law_ends" s_law_ends (a_law_ends K) fd
  g_law_condition : mg "_law_condition" = some (.ref (a_law_condition K))
  F_law_condition : ∃ fd, Fun K "_law_condition" "_law_condition" s_law_condition (a_law_condition K) fd
  g_law_led : mg "_law_led" = some (.ref (a_law_led K))
  F_law_led : ∃ fd, Fun K "_law_led" "_law_led" s_law_led (a_law_led K) fd
  g_law_first_stand : mg "_law_first_stand" = some (.ref (a_law_first_stand K))
  F_law_first_stand : ∃ fd, Fun K "_law_first_stand" "_law_first_stand" s_law_first_stand (a_law_first_stand K) fd
  g_law_beside : mg "_law_beside" = some (.ref (a_law_beside K))
  F_law_beside : ∃ fd, Fun K "_law_beside" "_law_beside" s_law_beside (a_law_beside K) fd
  g_law_next_stand : mg "_law_next_stand" = some (.ref (a_law_next_stand K))
  F_law_next_stand : ∃ fd, Fun K "_law_next_stand" "_law_next_stand" s_law_next_stand (a_law_next_stand K) fd
  g_law_met : mg "_law_met" = some (.ref (a_law_met K))
  F_law_met : ∃ fd, Fun K "_law_met" "_law_met" s_law_met (a_law_met K) fd
  g_law_step : mg "_law_step" = some (.ref (a_law_step K))
  F_law_step : ∃ fd, Fun K "_law_step" "_law_step" s_law_step (a_law_step K) fd
  g_law_moves : mg "_law_moves" = some (.ref (a_law_moves K))
  F_law_moves : ∃ fd, Fun K "_law_moves" "_law_moves" s_law_moves (a_law_moves K) fd
  g_law_first_pair : mg "_law_first_pair" = some (.ref (a_law_first_pair K))
  F_law_first_pair : ∃ fd, Fun K "_law_first_pair" "_law_first_pair" s_law_first_pair (a_law_first_pair K) fd
  g_law_pairs : mg "_law_pairs" = some (.ref (a_law_pairs K))
  F_law_pairs : ∃ fd, Fun K "_law_pairs" "_law_pairs" s_law_pairs (a_law_pairs K) fd
  g_law_is_met : mg "_law_is_met" = some (.ref (a_law_is_met K))
  F_law_is_met : ∃ fd, Fun K "_law_is_met" "_law_is_met" s_law_is_met (a_law_is_met K) fd
  g_law_are_served : mg "_law_are_served" = some (.ref (a_law_are_served K))
  F_law_are_served : ∃ fd, Fun K "_law_are_served" "_law_are_served" s_law_are_served (a_law_are_served K) fd
  g_law_are_mixed : mg "_law_are_mixed" = some (.ref (a_law_are_mixed K))
  F_law_are_mixed : ∃ fd, Fun K "_law_are_mixed" "_law_are_mixed" s_law_are_mixed (a_law_are_mixed K) fd
  g_law : mg "law" = some (.ref (a_law K))
  F_law : ∃ fd, Fun K "law" "law" s_law (a_law K) fd
  n_isinstance : mg "isinstance" = none
  n_all : mg "all" = none
  n_len : mg "len" = none
  n_enumerate : mg "enumerate" = none
  n_tuple : mg "tuple" = none
  n_sorted : mg "sorted" = none
  n_max : mg "max" = none
  n_min : mg "min" = none
  n_list : mg "list" = none
  n_dict : mg "dict" = none
  n_set : mg "set" = none
  n_int : mg "int" = none
  n_sum : mg "sum" = none
  n_range : mg "range" = none
  n_str : mg "str" = none
  n_bool : mg "bool" = none
  i_MOST_LETTERS : ∃ t, mg "MOST_LETTERS" = some (.int (4) t)
  i_MOST_STATES : ∃ t, mg "MOST_STATES" = some (.int (6) t)
  i_MOST_SIGNS : ∃ t, mg "MOST_SIGNS" = some (.int (4) t)
  i_LESS : ∃ t, mg "LESS" = some (.int (-1) t)
  i_GREATER : ∃ t, mg "GREATER" = some (.int (-2) t)
  i_MOST_PAIRS : ∃ t, mg "MOST_PAIRS" = some (.int (400) t)
  i_SIGNS : ∃ t, mg "SIGNS" = some (.str "ABCDEFGHIJKLMNOPQRSTUVWXYZ_abcdefghijklmnopqrstuvwxyz" t)
  g_KINDS : mg "KINDS" = some (.ref (ga K "KINDS"))
  t_KINDS : ∀ H : Hp, SqT K H (ga K "KINDS") [.str "equal", .str "begins", .str "between", .str "like"]
  g_Machine : mg "Machine" = some (.ref (ga K "Machine"))
  c_Machine : SlX.SCls K (ga K "Machine")
  k_Machine : Mk K (ga K "Machine") (a_Machine_init K)
  y_Machine : SlX.SIsi K (ga K "Machine")
  s_Machine_signs : SlF K "Machine" "signs" 0
  s_Machine_table : SlF K "Machine" "table" 1
  m_Machine_turn : Meth K (ga K "Machine") "turn" (a_Machine_turn K)
  m_Machine_ends : Meth K (ga K "Machine") "ends" (a_Machine_ends K)
  g_Legs : mg "Legs" = some (.ref (ga K "Legs"))
  c_Legs : SlX.SCls K (ga K "Legs")
  k_Legs : Mk K (ga K "Legs") (a_Legs_init K)
  y_Legs : SlX.SIsi K (ga K "Legs")
  s_Legs_condition : SlF K "Legs" "condition" 0
  s_Legs_keeper : SlF K "Legs" "keeper" 1
  s_Legs_machine : SlF K "Legs" "machine" 2
  m_Legs_first : Meth K (ga K "Legs") "first" (a_Legs_first K)
  m_Legs_step : Meth K (ga K "Legs") "step" (a_Legs_step K)
  m_Legs_moves : Meth K (ga K "Legs") "moves" (a_Legs_moves K)
  m_Legs_is_leg : Meth K (ga K "Legs") "is_leg" (a_Legs_is_leg K)
  m_Legs_are_pairs : Meth K (ga K "Legs") "are_pairs" (a_Legs_are_pairs K)
  m_Legs_reach : Meth K (ga K "Legs") "reach" (a_Legs_reach K)
  m_Legs_note : Meth K (ga K "Legs") "note" (a_Legs_note K)
  g_Served : mg "Served" = some (.ref (ga K "Served"))
  c_Served : SlX.SCls K (ga K "Served")
  k_Served : Mk K (ga K "Served") (a_Served_init K)
  y_Served : SlX.SIsi K (ga K "Served")
  s_Served_pairs : SlF K "Served" "pairs" 0
  m_Served_shows : Meth K (ga K "Served") "shows" (a_Served_shows K)
  g_Mixed : mg "Mixed" = some (.ref (ga K "Mixed"))
  c_Mixed : SlX.SCls K (ga K "Mixed")
  k_Mixed : Mk K (ga K "Mixed") (a_Mixed_init K)
  y_Mixed : SlX.SIsi K (ga K "Mixed")
  s_Mixed_one : SlF K "Mixed" "one" 0
  s_Mixed_other : SlF K "Mixed" "other" 1
  m_Mixed_shows : Meth K (ga K "Mixed") "shows" (a_Mixed_shows K)
  len_find : PySem.W.findIn K (.ref (ga K "Machine")) "__len__" = some (some (.ref (a_Machine_len K)))
  len_fn : PySem.W.isFn K (.ref (a_Machine_len K)) = true
  p_at : PySem.W.findIn K (.ref (ga K "Machine")) "letters" = some (some (.ref (ma K (ga K "Machine") "letters")))
  p_get : PySem.W.specialIn K (.ref (ma K (ga K "Machine") "letters")) "__get__" = some (some (.builtin "property.__get__"))
  p_tak : PySem.W.takesIn K (.ref (ma K (ga K "Machine") "letters")) = some true
  p_rec : ∃ rest, PySem.W.recIn K (ma K (ga K "Machine") "letters") "property" = some (.ref (getterA K) :: rest)
  kit_Machine_Machine : PySem.W.kitOne K (.ref (ga K "Machine")) (.ref (ga K "Machine")) = some true
  kit_Served_Served : PySem.W.kitOne K (.ref (ga K "Served")) (.ref (ga K "Served")) = some true
  kit_Mixed_Served : PySem.W.kitOne K (.ref (ga K "Mixed")) (.ref (ga K "Served")) = some false
  kit_Mixed_Mixed : PySem.W.kitOne K (.ref (ga K "Mixed")) (.ref (ga K "Mixed")) = some true
  kit_Served_Mixed : PySem.W.kitOne K (.ref (ga K "Served")) (.ref (ga K "Mixed")) = some false
  g_TooLarge : mg "TooLarge" = some (.ref (ga K "TooLarge"))
  x_ex : PySem.W.excIn K (ga K "TooLarge") veBase "ValueError.__new__" = true
  x_kp : PySem.W.keepIn K (.ref (ga K "TooLarge")) = true
  x_sub : PySem.W.subIn K (.ref (ga K "TooLarge")) (.type "BaseException") = some true
  x_ty : PySem.W.typeIn K (.ref (ga K "TooLarge")) = some (.type "type")
  x_self : PySem.W.exmOne K (.ref (ga K "TooLarge")) (.ref (ga K "TooLarge")) = some true
end Fk

set_option Elab.async false
set_option linter.all false
set_option maxRecDepth 100000
set_option maxHeartbeats 0
/-! the head: facts by names, the run -/
namespace Fk
open PySem PySem.Spec PyProof.Rows L2 He
inductive Fb where
  | fa (f : Fa)
  | scls (x : Str)
  | slot (x f : Str) (i : Nat)
  | isi (x : Str)
  | kit (x y : Str) (b : Bool)
  | tup (x : Str) (vs : List Dv)
  | prop
  | len
def Fb.ok (K : PySem.W.Frag) : Fb → Bool
  | .fa f => f.ok K
  | .scls x => PySem.W.plainGet K (ga K x) Str.empty && (PySem.W.isClsIn K (ga K x) && (PySem.W.plainOver K (ga K x) && eqO (PySem.W.findIn K (.ref (ga K x)) "__setattr__") (some (some (.builtin "object.__setattr__")))))
  | .slot x f i => eqO (PySem.W.findIn K (.ref (ga K x)) f) (some (some (.ref (ma K (ga K x) f)))) && (eqO (PySem.W.specialIn K (.ref (ma K (ga K x) f)) "__get__") (some (some (.builtin "member_descriptor.__get__"))) &&
      (decide (PySem.W.takesIn K (.ref (ma K (ga K x) f)) = some true) && (decide (PySem.W.typeIn K (.ref (ma K (ga K x) f)) = some (.type "member_descriptor")) && (decide (PySem.W.slotIn K (ma K (ga K x) f) (ga K x) = some i) && decide (i < 1000)))))
  | .isi x => eqO (PySem.W.findIn K (.ref (ga K x)) "__class__") (some (some (.builtin "object.__class__"))) && (eqO (PySem.W.specialIn K (.builtin "object.__class__") "__get__") (some (some (.builtin "getset_descriptor.__get__"))) &&
      (decide (PySem.W.takesIn K (.builtin "object.__class__") = some true) && decide (PySem.W.mroIn K (ga K x) (.type "object") = some true)))
  | .kit x y b => decide (PySem.W.kitOne K (.ref (ga K x)) (.ref (ga K y)) = some b)
  | .tup x vs => tupB K x vs
  | .prop => eqO (PySem.W.findIn K (.ref (ga K "Machine")) "letters") (some (some (.ref (ma K (ga K "Machine") "letters")))) && (eqO (PySem.W.specialIn K (.ref (ma K (ga K "Machine") "letters")) "__get__") (some (some (.builtin "property.__get__"))) &&
      (decide (PySem.W.takesIn K (.ref (ma K (ga K "Machine") "letters")) = some true) && (match PySem.W.recIn K (ma K (ga K "Machine") "letters") "property" with
        | some (.ref _ :: _) => true
        | _ => false)))
  | .len => eqO (PySem.W.findIn K (.ref (ga K "Machine")) "__len__") (some (some (.ref (a_Machine_len K)))) && PySem.W.isFn K (.ref (a_Machine_len K))
section
variable {K : PySem.W.Frag}
theorem scls_ok {x : Str} (c : (Fb.scls x).ok K = true) : SlX.SCls K (ga K x) := by
  obtain ⟨c1, c⟩ := ba c
  obtain ⟨c2, c⟩ := ba c
  obtain ⟨c3, c4⟩ := ba c
  exact ⟨c1, c2, c3, eqO_ok c4⟩
theorem slot_ok {x f : Str} {i : Nat} (c : (Fb.slot x f i).ok K = true) : SlF K x f i := by
  obtain ⟨c1, c⟩ := ba c
  obtain ⟨c2, c⟩ := ba c
  obtain ⟨c3, c⟩ := ba c
  obtain ⟨c4, c⟩ := ba c
  obtain ⟨c5, c6⟩ := ba c
  exact ⟨eqO_ok c1, eqO_ok c2, of_decide_eq_true c3, of_decide_eq_true c4, of_decide_eq_true c5, of_decide_eq_true c6⟩
theorem isi_ok {x : Str} (c : (Fb.isi x).ok K = true) : SlX.SIsi K (ga K x) := by
  obtain ⟨c1, c⟩ := ba c
  obtain ⟨c2, c⟩ := ba c
  obtain ⟨c3, c4⟩ := ba c
  exact ⟨eqO_ok c1, eqO_ok c2, of_decide_eq_true c3, of_decide_eq_true c4⟩
theorem kit_ok {x y : Str} {b : Bool} (c : (Fb.kit x y b).ok K = true) : PySem.W.kitOne K (.ref (ga K x)) (.ref (ga K y)) = some b := of_decide_eq_true c
theorem prop_ok (c : Fb.prop.ok K = true) : PySem.W.findIn K (.ref (ga K "Machine")) "letters" = some (some (.ref (ma K (ga K "Machine") "letters"))) ∧ PySem.W.specialIn K (.ref (ma K (ga K "Machine") "letters")) "__get__" = some (some (.builtin "property.__get__")) ∧
    PySem.W.takesIn K (.ref (ma K (ga K "Machine") "letters")) = some true ∧ ∃ rest, PySem.W.recIn K (ma K (ga K "Machine") "letters") "property" = some (.ref (getterA K) :: rest) := by
  obtain ⟨c1, c⟩ := ba c
  obtain ⟨c2, c⟩ := ba c
  obtain ⟨c3, c4⟩ := ba c
  refine ⟨eqO_ok c1, eqO_ok c2, of_decide_eq_true c3, ?_⟩
  unfold getterA
  cases e : PySem.W.recIn K (ma K (ga K "Machine") "letters") "property" with
  | none => rw [e] at c4; cases c4
  | some l =>
    rw [e] at c4
    cases l with
    | nil => cases c4
    | cons v r =>
      cases v with
      | ref a => exact ⟨r, rfl⟩
      | _ => cases c4
theorem len_ok (c : Fb.len.ok K = true) : PySem.W.findIn K (.ref (ga K "Machine")) "__len__" = some (some (.ref (a_Machine_len K))) ∧ PySem.W.isFn K (.ref (a_Machine_len K)) = true := by
  obtain ⟨c1, c2⟩ := ba c
  exact ⟨eqO_ok c1, c2⟩
end
/-! ### functions: an address, a row -/
structure DfX where
  adr : PySem.W.Frag → Addr
  name : Str
  qual : Str
  st : Stmt
abbrev FnV2 : Type := Option (Str × Str × Arguments × FuncBody × Scope × Addr × List (Str × Addr) × Value × Addr)
def fnX (K : PySem.W.Frag) (d : DfX) : FnV2 := match K.lookup (d.adr K) with
  | some ⟨_, _, .func fd, _⟩ => some (fd.name, fd.qualname, fd.params, fd.body, fd.scope, fd.globals, fd.closure, fd.defaults, fd.builtins)
  | _ => none
def DfX.val (d : DfX) : FnV2 := some (d.name, d.qual, defArgs d.st, .stmts (defBody d.st), defScope d.st, mainGlobals, [], .none, builtinsNs)
def DfX.ok (K : PySem.W.Frag) (d : DfX) : Bool := PySem.W.keepIn K (.ref (d.adr K)) && (match K.lookup (d.adr K) with
  | some ⟨_, _, .func fd, _⟩ => PySem.W.codeIn K fd.code d.qual
  | _ => false)
theorem DfX.fun_ {K : PySem.W.Frag} {d : DfX} (e : fnX K d = d.val) (c : d.ok K = true) : ∃ fd, Fun K d.name d.qual d.st (d.adr K) fd := by
  obtain ⟨kp, c2⟩ := ba c
  unfold fnX at e
  cases q : K.lookup (d.adr K) with
  | none => rw [q] at c2; cases c2
  | some o =>
    obtain ⟨oc, od, dt, osl⟩ := o
    rw [q] at c2 e
    cases dt with
    | func fd =>
      obtain ⟨n1, n2, n3, n4, n5, n6, n7, n8, n9, n10, n11, n12, n13, n14, n15⟩ := fd
      have e2 : (some (n1, n2, n3, n4, n5, n6, n7, n8, n15) : FnV2) = some (d.name, d.qual, defArgs d.st, .stmts (defBody d.st), defScope d.st, mainGlobals, [], .none, builtinsNs) := e
      simp only [Option.some.injEq, Prod.mk.injEq] at e2
      obtain ⟨h1, h2, h3, h4, h5, h6, h7, h8, h9⟩ := e2
      subst h1 h2 h3 h4 h5 h6 h7 h8 h9
      exact ⟨_, fun_mk q c2 kp⟩
    | _ => cases c2
/-! ### the Hook -/
abbrev AlX : Type := Bool × List FnV2
def obsX (fb : List Fb) (fn : List DfX) (K : PySem.W.Frag) : AlX := ((fb.all fun f => f.ok K) && fn.all fun d => d.ok K, fn.map fun d => fnX K d)
def valX (fn : List DfX) : AlX := (true, fn.map DfX.val)
def SaysX (fb : List Fb) (fn : List DfX) (K : PySem.W.Frag) : Prop := obsX fb fn K = valX fn
def obsXG (n : Nat) (fb : List Fb) (fn : List DfX) (g : Addr → Option Obj) : AlX := obsX fb fn (frG g (asD g n))
def hookX (n : Nat) (fb : List Fb) (fn : List DfX) : PySem.W.Hook where
  α := AlX
  obs := fun s => obsXG n fb fn s.heap.get?
  val := fun _ => valX fn
  says := fun _ h => ∃ K : PySem.W.Frag, K.In h ∧ SaysX fb fn K
  of := fun _ _ e => ⟨_, frG_in, e⟩
  keeps := fun _ _ _ ⟨K, hK, c⟩ k => ⟨K, PySem.W.Frag.In.keeps hK k, c⟩
theorem obsXG_eq {n : Nat} {fb : List Fb} {fn : List DfX} {g : Addr → Option Obj} {s : Shared} (h : ∀ a, g a = s.heap.get? a) : obsXG n fb fn g = (hookX n fb fn).obs s := by
  have e : g = s.heap.get? := funext h
  rw [e] <;> rfl
section
variable {fb : List Fb} {fn : List DfX} {K : PySem.W.Frag}
theorem SaysX.fact (c : SaysX fb fn K) (i : Nat) {f : Fb} (h : fb[i]? = some f := by rfl) : f.ok K = true := by
  have c1 := (ba (show ((fb.all fun f => f.ok K) && fn.all fun d => d.ok K) = true from congrArg (fun z : AlX => z.1) c)).1
  exact List.all_eq_true.mp c1 f (List.mem_of_getElem? h)
theorem SaysX.def_ (c : SaysX fb fn K) (i : Nat) {d : DfX} (h : fn[i]? = some d := by rfl) : ∃ fd, Fun K d.name d.qual d.st (d.adr K) fd := by
  have c2 := (ba (show ((fb.all fun f => f.ok K) && fn.all fun d => d.ok K) = true from congrArg (fun z : AlX => z.1) c)).2
  have e : fn.map (fun d => fnX K d) = fn.map DfX.val := congrArg (fun z : AlX => z.2) c
  have e2 : (fn.map fun d => fnX K d)[i]? = (fn.map DfX.val)[i]? := by rw [e]
  rw [List.getElem?_map, List.getElem?_map, h] at e2
  exact DfX.fun_ (Option.some.inj e2) (List.all_eq_true.mp c2 d (List.mem_of_getElem? h))
end
def nm0 : List PySem.Str := ["_wall", "FoldError", "BadLetters", "BadMachine", "BadValue", "BadCondition", "Unlike", "TooLarge", "SIGNS", "MOST_LETTERS", "MOST_STATES", "is_number", "are_letters", "check_letters", "is_value", "is_out", "is_turn", "first_wrong"]
def nm1 : List PySem.Str := ["Machine", "check_machine", "check_two", "check_value", "KINDS", "MOST_SIGNS", "LESS", "GREATER", "is_pattern", "is_short", "is_condition_of", "check_condition", "led_on", "first_stand", "beside", "stand_after", "is_met", "read_by"]
def nm2 : List PySem.Str := ["is_place_of", "is_stand_of", "MOST_PAIRS", "Legs", "check_filter", "is_wished", "Served", "Mixed", "mixed_in", "serve", "can_serve", "least_mixed", "_law_number", "_law_letters", "_law_rows", "_law_value", "_law_turn", "_law_ends"]
def nm3 : List PySem.Str := ["_law_condition", "_law_led", "_law_first_stand", "_law_beside", "_law_next_stand", "_law_met", "_law_step", "_law_moves", "_law_first_pair", "_law_pairs", "_law_is_met", "_law_are_served", "_law_are_mixed"]
def names : List PySem.Str := nm0 ++ nm1 ++ nm2 ++ nm3
def fn0 : List DfX := [⟨fun K => a_is_number K, "is_number", "is_number", s_is_number⟩, ⟨fun K => a_are_letters K, "are_letters", "are_letters", s_are_letters⟩, ⟨fun K => a_check_letters K, "check_letters", "check_letters", s_check_letters⟩, ⟨fun K => a_is_value K, "is_value", "is_value", s_is_value⟩, ⟨fun K => a_is_out K, "is_out", "is_out", s_is_out⟩, ⟨fun K => a_is_turn K, "is_turn", "is_turn", s_is_turn⟩, ⟨fun K => a_first_wrong K, "first_wrong", "first_wrong", s_first_wrong⟩, ⟨fun K => a_Machine_init K, "__init__", "Machine.__init__", s_Machine_init⟩, ⟨fun K => a_Machine_letters K, "letters", "Machine.letters", s_Machine_letters⟩, ⟨fun K => a_Machine_len K, "__len__", "Machine.__len__", s_Machine_len⟩, ⟨fun K => a_Machine_turn K, "turn", "Machine.turn", s_Machine_turn⟩, ⟨fun K => a_Machine_ends K, "ends", "Machine.ends", s_Machine_ends⟩, ⟨fun K => a_check_machine K, "check_machine", "check_machine", s_check_machine⟩, ⟨fun K => a_check_two K, "check_two", "check_two", s_check_two⟩, ⟨fun K => a_is_pattern K, "is_pattern", "is_pattern", s_is_pattern⟩, ⟨fun K => a_is_short K, "is_short", "is_short", s_is_short⟩]
def fn1 : List DfX := [⟨fun K => a_is_condition_of K, "is_condition_of", "is_condition_of", s_is_condition_of⟩, ⟨fun K => a_check_condition K, "check_condition", "check_condition", s_check_condition⟩, ⟨fun K => a_led_on K, "led_on", "led_on", s_led_on⟩, ⟨fun K => a_first_stand K, "first_stand", "first_stand", s_first_stand⟩, ⟨fun K => a_beside K, "beside", "beside", s_beside⟩, ⟨fun K => a_stand_after K, "stand_after", "stand_after", s_stand_after⟩, ⟨fun K => a_is_met K, "is_met", "is_met", s_is_met⟩, ⟨fun K => a_read_by K, "read_by", "read_by", s_read_by⟩, ⟨fun K => a_is_place_of K, "is_place_of", "is_place_of", s_is_place_of⟩, ⟨fun K => a_is_stand_of K, "is_stand_of", "is_stand_of", s_is_stand_of⟩, ⟨fun K => a_Legs_init K, "__init__", "Legs.__init__", s_Legs_init⟩, ⟨fun K => a_Legs_first K, "first", "Legs.first", s_Legs_first⟩, ⟨fun K => a_Legs_step K, "step", "Legs.step", s_Legs_step⟩, ⟨fun K => a_Legs_moves K, "moves", "Legs.moves", s_Legs_moves⟩, ⟨fun K => a_Legs_is_leg K, "is_leg", "Legs.is_leg", s_Legs_is_leg⟩, ⟨fun K => a_Legs_are_pairs K, "are_pairs", "Legs.are_pairs", s_Legs_are_pairs⟩]
def fn2 : List DfX := [⟨fun K => a_Legs_reach K, "reach", "Legs.reach", s_Legs_reach⟩, ⟨fun K => a_Legs_note K, "note", "Legs.note", s_Legs_note⟩, ⟨fun K => a_check_filter K, "check_filter", "check_filter", s_check_filter⟩, ⟨fun K => a_is_wished K, "is_wished", "is_wished", s_is_wished⟩, ⟨fun K => a_Served_init K, "__init__", "Served.__init__", s_Served_init⟩, ⟨fun K => a_Served_shows K, "shows", "Served.shows", s_Served_shows⟩, ⟨fun K => a_Mixed_init K, "__init__", "Mixed.__init__", s_Mixed_init⟩, ⟨fun K => a_Mixed_shows K, "shows", "Mixed.shows", s_Mixed_shows⟩, ⟨fun K => a_mixed_in K, "mixed_in", "mixed_in", s_mixed_in⟩, ⟨fun K => a_serve K, "serve", "serve", s_serve⟩, ⟨fun K => a_can_serve K, "can_serve", "can_serve", s_can_serve⟩, ⟨fun K => a_least_mixed K, "least_mixed", "least_mixed", s_least_mixed⟩, ⟨fun K => a_law_number K, "_law_number", "_law_number", s_law_number⟩, ⟨fun K => a_law_letters K, "_law_letters", "_law_letters", s_law_letters⟩, ⟨fun K => a_law_rows K, "_law_rows", "_law_rows", s_law_rows⟩, ⟨fun K => a_law_value K, "_law_value", "_law_value", s_law_value⟩]
def fn3 : List DfX := [⟨fun K => a_law_turn K, "_law_turn", "_law_turn", s_law_turn⟩, ⟨fun K => a_law_ends K, "_law_ends", "_law_ends", s_law_ends⟩, ⟨fun K => a_law_condition K, "_law_condition", "_law_condition", s_law_condition⟩, ⟨fun K => a_law_led K, "_law_led", "_law_led", s_law_led⟩, ⟨fun K => a_law_first_stand K, "_law_first_stand", "_law_first_stand", s_law_first_stand⟩, ⟨fun K => a_law_beside K, "_law_beside", "_law_beside", s_law_beside⟩, ⟨fun K => a_law_next_stand K, "_law_next_stand", "_law_next_stand", s_law_next_stand⟩, ⟨fun K => a_law_met K, "_law_met", "_law_met", s_law_met⟩, ⟨fun K => a_law_step K, "_law_step", "_law_step", s_law_step⟩, ⟨fun K => a_law_moves K, "_law_moves", "_law_moves", s_law_moves⟩, ⟨fun K => a_law_first_pair K, "_law_first_pair", "_law_first_pair", s_law_first_pair⟩, ⟨fun K => a_law_pairs K, "_law_pairs", "_law_pairs", s_law_pairs⟩, ⟨fun K => a_law_is_met K, "_law_is_met", "_law_is_met", s_law_is_met⟩, ⟨fun K => a_law_are_served K, "_law_are_served", "_law_are_served", s_law_are_served⟩, ⟨fun K => a_law_are_mixed K, "_law_are_mixed", "_law_are_mixed", s_law_are_mixed⟩, ⟨fun K => a_law K, "law", "law", s_law⟩]
def fns : List DfX := fn0 ++ fn1 ++ fn2 ++ fn3
def fb0 : List Fb := [.fa (.glo "is_number"), .fa (.glo "are_letters"), .fa (.glo "check_letters"), .fa (.glo "is_value"), .fa (.glo "is_out"), .fa (.glo "is_turn"), .fa (.glo "first_wrong"), .fa (.glo "check_machine"), .fa (.glo "check_two"), .fa (.glo "is_pattern"), .fa (.glo "is_short"), .fa (.glo "is_condition_of"), .fa (.glo "check_condition"), .fa (.glo "led_on"), .fa (.glo "first_stand"), .fa (.glo "beside")]
def fb1 : List Fb := [.fa (.glo "stand_after"), .fa (.glo "is_met"), .fa (.glo "read_by"), .fa (.glo "is_place_of"), .fa (.glo "is_stand_of"), .fa (.glo "check_filter"), .fa (.glo "is_wished"), .fa (.glo "mixed_in"), .fa (.glo "serve"), .fa (.glo "can_serve"), .fa (.glo "least_mixed"), .fa (.glo "_law_number"), .fa (.glo "_law_letters"), .fa (.glo "_law_rows"), .fa (.glo "_law_value"), .fa (.glo "_law_turn")]
def fb2 : List Fb := [.fa (.glo "_law_ends"), .fa (.glo "_law_condition"), .fa (.glo "_law_led"), .fa (.glo "_law_first_stand"), .fa (.glo "_law_beside"), .fa (.glo "_law_next_stand"), .fa (.glo "_law_met"), .fa (.glo "_law_step"), .fa (.glo "_law_moves"), .fa (.glo "_law_first_pair"), .fa (.glo "_law_pairs"), .fa (.glo "_law_is_met"), .fa (.glo "_law_are_served"), .fa (.glo "_law_are_mixed"), .fa (.glo "law"), .fa (.free "isinstance")]
def fb3 : List Fb := [.fa (.free "all"), .fa (.free "len"), .fa (.free "enumerate"), .fa (.free "tuple"), .fa (.free "sorted"), .fa (.free "max"), .fa (.free "min"), .fa (.free "list"), .fa (.free "dict"), .fa (.free "set"), .fa (.free "int"), .fa (.free "sum"), .fa (.free "range"), .fa (.free "str"), .fa (.free "bool"), .fa (.int "MOST_LETTERS" (4))]
def fb4 : List Fb := [.fa (.int "MOST_STATES" (6)), .fa (.int "MOST_SIGNS" (4)), .fa (.int "LESS" (-1)), .fa (.int "GREATER" (-2)), .fa (.int "MOST_PAIRS" (400)), .fa (.str "SIGNS" "ABCDEFGHIJKLMNOPQRSTUVWXYZ_abcdefghijklmnopqrstuvwxyz"), .fa (.glo "KINDS"), .tup "KINDS" [.str "equal", .str "begins", .str "between", .str "like"], .fa (.glo "Machine"), .scls "Machine", .fa (.mkr "Machine"), .isi "Machine", .slot "Machine" "signs" 0, .slot "Machine" "table" 1, .fa (.meth "Machine" "turn"), .fa (.meth "Machine" "ends")]
def fb5 : List Fb := [.fa (.glo "Legs"), .scls "Legs", .fa (.mkr "Legs"), .isi "Legs", .slot "Legs" "condition" 0, .slot "Legs" "keeper" 1, .slot "Legs" "machine" 2, .fa (.meth "Legs" "first"), .fa (.meth "Legs" "step"), .fa (.meth "Legs" "moves"), .fa (.meth "Legs" "is_leg"), .fa (.meth "Legs" "are_pairs"), .fa (.meth "Legs" "reach"), .fa (.meth "Legs" "note"), .fa (.glo "Served"), .scls "Served"]
def fb6 : List Fb := [.fa (.mkr "Served"), .isi "Served", .slot "Served" "pairs" 0, .fa (.meth "Served" "shows"), .fa (.glo "Mixed"), .scls "Mixed", .fa (.mkr "Mixed"), .isi "Mixed", .slot "Mixed" "one" 0, .slot "Mixed" "other" 1, .fa (.meth "Mixed" "shows"), .len, .prop, .kit "Machine" "Machine" true, .kit "Served" "Served" true, .kit "Mixed" "Served" false]
def fb7 : List Fb := [.kit "Mixed" "Mixed" true, .kit "Served" "Mixed" false, .fa (.glo "TooLarge"), .fa (.exc "TooLarge"), .fa (.exm "TooLarge" "TooLarge" true)]
def fbs : List Fb := fb0 ++ fb1 ++ fb2 ++ fb3 ++ fb4 ++ fb5 ++ fb6 ++ fb7
abbrev R : PySem.W.OpenRow := PySem.W.OpenLaw.row PySem.Challenge.rw_foldlook_k06_whole_served
abbrev hk : PySem.W.Hook := hookX 5 fbs fns
def ob (s : PySem.W.SharedT) : AlX := obsXG 5 fbs fns (HandSHeadRun.getT s)
theorem ob_eq (s : PySem.W.SharedT) : ob s = hk.obs s.abs := obsXG_eq (HandSHeadRun.getT_eq s)
theorem run (w : World) : HandSHeadRun.RunEq R (PySem.W.view R.prog [72]) hk ob 6000 names w := by
  intro os
  kernel_rfl
theorem txt_of {K : PySem.W.Frag} {h : Heap} {mg : Str → Option Value} (X : K.In h) (G : h.Ns mainGlobals mg) (c : SaysX fbs fns K) : Txt K mg where
  g_is_number := glo_ok X G (c.fact 0 rfl)
  F_is_number := c.def_ 0 rfl
  g_are_letters := glo_ok X G (c.fact 1 rfl)
  F_are_letters := c.def_ 1 rfl
  g_check_letters := glo_ok X G (c.fact 2 rfl)
  F_check_letters := c.def_ 2 rfl
  g_is_value := glo_ok X G (c.fact 3 rfl)
  F_is_value := c.def_ 3 rfl
  g_is_out := glo_ok X G (c.fact 4 rfl)
  F_is_out := c.def_ 4 rfl
  g_is_turn := glo_ok X G (c.fact 5 rfl)
  F_is_turn := c.def_ 5 rfl
  g_first_wrong := glo_ok X G (c.fact 6 rfl)
  F_first_wrong := c.def_ 6 rfl
  F_Machine_init := c.def_ 7 rfl
  F_Machine_letters := c.def_ 8 rfl
  F_Machine_len := c.def_ 9 rfl
  F_Machine_turn := c.def_ 10 rfl
  F_Machine_ends := c.def_ 11 rfl
  g_check_machine := glo_ok X G (c.fact 7 rfl)
  F_check_machine := c.def_ 12 rfl
  g_check_two := glo_ok X G (c.fact 8 rfl)
  F_check_two := c.def_ 13 rfl
  g_is_pattern := glo_ok X G (c.fact 9 rfl)
  F_is_pattern := c.def_ 14 rfl
  g_is_short := glo_ok X G (c.fact 10 rfl)
  F_is_short := c.def_ 15 rfl
  g_is_condition_of := glo_ok X G (c.fact 11 rfl)
  F_is_condition_of := c.def_ 16 rfl
  g_check_condition := glo_ok X G (c.fact 12 rfl)
  F_check_condition := c.def_ 17 rfl
  g_led_on := glo_ok X G (c.fact 13 rfl)
  F_led_on := c.def_ 18 rfl
  g_first_stand := glo_ok X G (c.fact 14 rfl)
  F_first_stand := c.def_ 19 rfl
  g_beside := glo_ok X G (c.fact 15 rfl)
  F_beside := c.def_ 20 rfl
  g_stand_after := glo_ok X G (c.fact 16 rfl)
  F_stand_after := c.def_ 21 rfl
  g_is_met := glo_ok X G (c.fact 17 rfl)
  F_is_met := c.def_ 22 rfl
  g_read_by := glo_ok X G (c.fact 18 rfl)
  F_read_by := c.def_ 23 rfl
  g_is_place_of := glo_ok X G (c.fact 19 rfl)
  F_is_place_of := c.def_ 24 rfl
  g_is_stand_of := glo_ok X G (c.fact 20 rfl)
  F_is_stand_of := c.def_ 25 rfl
  F_Legs_init := c.def_ 26 rfl
  F_Legs_first := c.def_ 27 rfl
  F_Legs_step := c.def_ 28 rfl
  F_Legs_moves := c.def_ 29 rfl
  F_Legs_is_leg := c.def_ 30 rfl
  F_Legs_are_pairs := c.def_ 31 rfl
  F_Legs_reach := c.def_ 32 rfl
  F_Legs_note := c.def_ 33 rfl
  g_check_filter := glo_ok X G (c.fact 21 rfl)
  F_check_filter := c.def_ 34 rfl
  g_is_wished := glo_ok X G (c.fact 22 rfl)
  F_is_wished := c.def_ 35 rfl
  F_Served_init := c.def_ 36 rfl
  F_Served_shows := c.def_ 37 rfl
  F_Mixed_init := c.def_ 38 rfl
  F_Mixed_shows := c.def_ 39 rfl
  g_mixed_in := glo_ok X G (c.fact 23 rfl)
  F_mixed_in := c.def_ 40 rfl
  g_serve := glo_ok X G (c.fact 24 rfl)
  F_serve := c.def_ 41 rfl
  g_can_serve := glo_ok X G (c.fact 25 rfl)
  F_can_serve := c.def_ 42 rfl
  g_least_mixed := glo_ok X G (c.fact 26 rfl)
  F_least_mixed := c.def_ 43 rfl
  g_law_number := glo_ok X G (c.fact 27 rfl)
  F_law_number := c.def_ 44 rfl
  g_law_letters := glo_ok X G (c.fact 28 rfl)
  F_law_letters := c.def_ 45 rfl
  g_law_rows := glo_ok X G (c.fact 29 rfl)
  F_law_rows := c.def_ 46 rfl
  g_law_value := glo_ok X G (c.fact 30 rfl)
  F_law_value := c.def_ 47 rfl
  g_law_turn := glo_ok X G (c.fact 31 rfl)
  F_law_turn := c.def_ 48 rfl
  g_law_ends := glo_ok X G (c.fact 32 rfl)
  F_law_ends := c.def_ 49 rfl
  g_law_condition := glo_ok X G (c.fact 33 rfl)
  F_law_condition := c.def_ 50 rfl
  g_law_led := glo_ok X G (c.fact 34 rfl)
  F_law_led := c.def_ 51 rfl
  g_law_first_stand := glo_ok X G (c.fact 35 rfl)
  F_law_first_stand := c.def_ 52 rfl
  g_law_beside := glo_ok X G (c.fact 36 rfl)
  F_law_beside := c.def_ 53 rfl
  g_law_next_stand := glo_ok X G (c.fact 37 rfl)
  F_law_next_stand := c.def_ 54 rfl
  g_law_met := glo_ok X G (c.fact 38 rfl)
  F_law_met := c.def_ 55 rfl
  g_law_step := glo_ok X G (c.fact 39 rfl)
  F_law_step := c.def_ 56 rfl
  g_law_moves := glo_ok X G (c.fact 40 rfl)
  F_law_moves := c.def_ 57 rfl
  g_law_first_pair := glo_ok X G (c.fact 41 rfl)
  F_law_first_pair := c.def_ 58 rfl
  g_law_pairs := glo_ok X G (c.fact 42 rfl)
  F_law_pairs := c.def_ 59 rfl
  g_law_is_met := glo_ok X G (c.fact 43 rfl)
  F_law_is_met := c.def_ 60 rfl
  g_law_are_served := glo_ok X G (c.fact 44 rfl)
  F_law_are_served := c.def_ 61 rfl
  g_law_are_mixed := glo_ok X G (c.fact 45 rfl)
  F_law_are_mixed := c.def_ 62 rfl
  g_law := glo_ok X G (c.fact 46 rfl)
  F_law := c.def_ 63 rfl
  n_isinstance := free_ok X G (c.fact 47 rfl)
  n_all := free_ok X G (c.fact 48 rfl)
  n_len := free_ok X G (c.fact 49 rfl)
  n_enumerate := free_ok X G (c.fact 50 rfl)
  n_tuple := free_ok X G (c.fact 51 rfl)
  n_sorted := free_ok X G (c.fact 52 rfl)
  n_max := free_ok X G (c.fact 53 rfl)
  n_min := free_ok X G (c.fact 54 rfl)
  n_list := free_ok X G (c.fact 55 rfl)
  n_dict := free_ok X G (c.fact 56 rfl)
  n_set := free_ok X G (c.fact 57 rfl)
  n_int := free_ok X G (c.fact 58 rfl)
  n_sum := free_ok X G (c.fact 59 rfl)
  n_range := free_ok X G (c.fact 60 rfl)
  n_str := free_ok X G (c.fact 61 rfl)
  n_bool := free_ok X G (c.fact 62 rfl)
  i_MOST_LETTERS := int_ok X G (c.fact 63 rfl)
  i_MOST_STATES := int_ok X G (c.fact 64 rfl)
  i_MOST_SIGNS := int_ok X G (c.fact 65 rfl)
  i_LESS := int_ok X G (c.fact 66 rfl)
  i_GREATER := int_ok X G (c.fact 67 rfl)
  i_MOST_PAIRS := int_ok X G (c.fact 68 rfl)
  i_SIGNS := str_ok X G (c.fact 69 rfl)
  g_KINDS := glo_ok X G (c.fact 70 rfl)
  t_KINDS := fun H => tupB_ok (vs := [.str "equal", .str "begins", .str "between", .str "like"]) (c.fact 71 rfl) H
  g_Machine := glo_ok X G (c.fact 72 rfl)
  c_Machine := scls_ok (c.fact 73 rfl)
  k_Machine := mkr_ok (c.fact 74 rfl)
  y_Machine := isi_ok (c.fact 75 rfl)
  s_Machine_signs := slot_ok (c.fact 76 rfl)
  s_Machine_table := slot_ok (c.fact 77 rfl)
  m_Machine_turn := meth_ok (c.fact 78 rfl)
  m_Machine_ends := meth_ok (c.fact 79 rfl)
  g_Legs := glo_ok X G (c.fact 80 rfl)
  c_Legs := scls_ok (c.fact 81 rfl)
  k_Legs := mkr_ok (c.fact 82 rfl)
  y_Legs := isi_ok (c.fact 83 rfl)
  s_Legs_condition := slot_ok (c.fact 84 rfl)
  s_Legs_keeper := slot_ok (c.fact 85 rfl)
  s_Legs_machine := slot_ok (c.fact 86 rfl)
  m_Legs_first := meth_ok (c.fact 87 rfl)
  m_Legs_step := meth_ok (c.fact 88 rfl)
  m_Legs_moves := meth_ok (c.fact 89 rfl)
  m_Legs_is_leg := meth_ok (c.fact 90 rfl)
  m_Legs_are_pairs := meth_ok (c.fact 91 rfl)
  m_Legs_reach := meth_ok (c.fact 92 rfl)
  m_Legs_note := meth_ok (c.fact 93 rfl)
  g_Served := glo_ok X G (c.fact 94 rfl)
  c_Served := scls_ok (c.fact 95 rfl)
  k_Served := mkr_ok (c.fact 96 rfl)
  y_Served := isi_ok (c.fact 97 rfl)
  s_Served_pairs := slot_ok (c.fact 98 rfl)
  m_Served_shows := meth_ok (c.fact 99 rfl)
  g_Mixed := glo_ok X G (c.fact 100 rfl)
  c_Mixed := scls_ok (c.fact 101 rfl)
  k_Mixed := mkr_ok (c.fact 102 rfl)
  y_Mixed := isi_ok (c.fact 103 rfl)
  s_Mixed_one := slot_ok (c.fact 104 rfl)
  s_Mixed_other := slot_ok (c.fact 105 rfl)
  m_Mixed_shows := meth_ok (c.fact 106 rfl)
  len_find := (len_ok (c.fact 107 rfl)).1
  len_fn := (len_ok (c.fact 107 rfl)).2
  p_at := (prop_ok (c.fact 108 rfl)).1
  p_get := (prop_ok (c.fact 108 rfl)).2.1
  p_tak := (prop_ok (c.fact 108 rfl)).2.2.1
  p_rec := (prop_ok (c.fact 108 rfl)).2.2.2
  kit_Machine_Machine := kit_ok (c.fact 109 rfl)
  kit_Served_Served := kit_ok (c.fact 110 rfl)
  kit_Mixed_Served := kit_ok (c.fact 111 rfl)
  kit_Mixed_Mixed := kit_ok (c.fact 112 rfl)
  kit_Served_Mixed := kit_ok (c.fact 113 rfl)
  g_TooLarge := glo_ok X G (c.fact 114 rfl)
  x_ex := (exc_ok (c.fact 115 rfl)).1
  x_kp := (exc_ok (c.fact 115 rfl)).2.1
  x_sub := (exc_ok (c.fact 115 rfl)).2.2.1
  x_ty := (exc_ok (c.fact 115 rfl)).2.2.2
  x_self := exm_ok (c.fact 116 rfl)
end Fk

set_option Elab.async false
set_option linter.all false
set_option maxRecDepth 100000
set_option maxHeartbeats 4000000
/-! immutable data and dicts whose keys are nested tuples -/
namespace Fk
open PySem PySem.Spec PyProof.Rows L2 He

abbrev D := NestedKey
abbrev St := L2.St

/-- the tuples stay -/
def TS (H H' : Hp) : Prop := ∀ a xs, H a = some (.tup xs) → H' a = some (.tup xs)
theorem TS.refl (H : Hp) : TS H H := fun _ _ h => h
theorem TS.trans {H H1 H2 : Hp} (a : TS H H1) (b : TS H1 H2) : TS H H2 := fun x o h => b x o (a x o h)
theorem TS.ex {H H' : Hp} (e : Evl.Ex H H') : TS H H' := fun a xs h => e a _ h
theorem TS.new {H : Hp} {p : Addr} {o : HO} (h : H p = none) : TS H (upd H p o) := fun a u e => by
  rw [upd_ne (ne_of_none e h)]
  exact e
/-- what is no tuple may change -/
theorem TS.mut {H : Hp} {p : Addr} {o u : HO} (h : H p = some u) (hn : ∀ xs, u ≠ .tup xs) : TS H (upd H p o) := fun a xs e => by
  rw [upd_ne (ne_of e h (fun z => hn xs z.symm))]
  exact e

/-! ### a value is the datum d -/
mutual
def Im (H : Hp) : D → V → Prop
  | .none, v => v = .non
  | .num i, v => v = .int i
  | .text x, v => v = .str x
  | .tup ks, v => ∃ a vs, v = .ref a ∧ H a = some (.tup vs) ∧ ImL H ks vs
def ImL (H : Hp) : List D → List V → Prop
  | [], vs => vs = []
  | k :: ks, vs => ∃ v r, vs = v :: r ∧ Im H k v ∧ ImL H ks r
end
mutual
theorem Im.ts {H H' : Hp} (t : TS H H') : ∀ (d : D) {v : V}, Im H d v → Im H' d v
  | .none, _, h => h
  | .num _, _, h => h
  | .text _, _, h => h
  | .tup ks, _, h => by
    unfold Im at h ⊢
    obtain ⟨a, vs, e, ha, hl⟩ := h
    exact ⟨a, vs, e, t a vs ha, ImL.ts t ks hl⟩
theorem ImL.ts {H H' : Hp} (t : TS H H') : ∀ (ds : List D) {vs : List V}, ImL H ds vs → ImL H' ds vs
  | [], _, h => h
  | k :: ks, _, h => by
    unfold ImL at h ⊢
    obtain ⟨v, r, e, hv, hr⟩ := h
    exact ⟨v, r, e, Im.ts t k hv, ImL.ts t ks hr⟩
end
theorem im_num {H : Hp} {i : Int} : Im H (.num i) (.int i) := by unfold Im; rfl
theorem im_text {H : Hp} {x : Str} : Im H (.text x) (.str x) := by unfold Im; rfl
theorem im_none {H : Hp} : Im H .none .non := by unfold Im; rfl
theorem im_tup {H : Hp} {ks : List D} {a : Addr} {vs : List V} (h : H a = some (.tup vs)) (l : ImL H ks vs) : Im H (.tup ks) (.ref a) := by
  unfold Im
  exact ⟨a, vs, rfl, h, l⟩
theorem iml_nil {H : Hp} : ImL H [] [] := by unfold ImL; rfl
theorem iml_cons {H : Hp} {k : D} {ks : List D} {v : V} {vs : List V} (h : Im H k v) (l : ImL H ks vs) : ImL H (k :: ks) (v :: vs) := by
  unfold ImL
  exact ⟨v, vs, rfl, h, l⟩
theorem Im.num {H : Hp} {i : Int} {v : V} (h : Im H (.num i) v) : v = .int i := by unfold Im at h; exact h
theorem Im.text {H : Hp} {x : Str} {v : V} (h : Im H (.text x) v) : v = .str x := by unfold Im at h; exact h
theorem Im.non {H : Hp} {v : V} (h : Im H .none v) : v = .non := by unfold Im at h; exact h
theorem Im.tup {H : Hp} {ks : List D} {v : V} (h : Im H (.tup ks) v) : ∃ a vs, v = .ref a ∧ H a = some (.tup vs) ∧ ImL H ks vs := by unfold Im at h; exact h
theorem ImL.nil {H : Hp} {vs : List V} (h : ImL H [] vs) : vs = [] := by unfold ImL at h; exact h
theorem ImL.cons {H : Hp} {k : D} {ks : List D} {vs : List V} (h : ImL H (k :: ks) vs) : ∃ v r, vs = v :: r ∧ Im H k v ∧ ImL H ks r := by unfold ImL at h; exact h
theorem ImL.length {H : Hp} : ∀ {ds : List D} {vs : List V}, ImL H ds vs → vs.length = ds.length
  | [], _, h => by rw [h.nil]; rfl
  | k :: ks, _, h => by
    obtain ⟨v, r, e, _, hr⟩ := h.cons
    rw [e, List.length_cons, List.length_cons, ImL.length hr]
theorem ImL.get {H : Hp} : ∀ {ds : List D} {vs : List V} {i : Nat} {d : D}, ImL H ds vs → ds[i]? = some d → ∃ v, vs[i]? = some v ∧ Im H d v
  | [], _, _, _, _, e => by simp at e
  | k :: ks, _, i, d, h, e => by
    obtain ⟨v, r, rfl, hv, hr⟩ := h.cons
    cases i with
    | zero =>
      have e' : k = d := by simpa using e
      subst e'
      exact ⟨v, rfl, hv⟩
    | succ j =>
      obtain ⟨u, hu, q⟩ := ImL.get hr (show ks[j]? = some d by simpa using e)
      exact ⟨u, by simpa using hu, q⟩
theorem ImL.back {H : Hp} : ∀ {ds : List D} {vs : List V} {i : Nat} {v : V}, ImL H ds vs → vs[i]? = some v → ∃ d, ds[i]? = some d ∧ Im H d v
  | [], _, _, _, h, e => by rw [h.nil] at e; simp at e
  | k :: ks, _, i, v, h, e => by
    obtain ⟨u, r, rfl, hv, hr⟩ := h.cons
    cases i with
    | zero =>
      have e' : u = v := by simpa using e
      subst e'
      exact ⟨k, rfl, hv⟩
    | succ j =>
      obtain ⟨d, hd, q⟩ := ImL.back hr (show r[j]? = some v by simpa using e)
      exact ⟨d, by simpa using hd, q⟩
theorem ImL.append {H : Hp} : ∀ {ds es : List D} {vs us : List V}, ImL H ds vs → ImL H es us → ImL H (ds ++ es) (vs ++ us)
  | [], _, _, _, h, g => by rw [h.nil]; exact g
  | k :: ks, _, _, _, h, g => by
    obtain ⟨v, r, rfl, hv, hr⟩ := h.cons
    exact iml_cons hv (ImL.append hr g)
theorem ImL.snoc {H : Hp} {ds : List D} {vs : List V} {d : D} {v : V} (h : ImL H ds vs) (g : Im H d v) : ImL H (ds ++ [d]) (vs ++ [v]) := h.append (iml_cons g iml_nil)
theorem iml_ints {H : Hp} : ∀ ns : List Int, ImL H (ns.map .num) (ns.map V.int)
  | [] => iml_nil
  | n :: r => iml_cons im_num (iml_ints r)
theorem ImL.ints {H : Hp} : ∀ {ns : List Int} {vs : List V}, ImL H (ns.map .num) vs → vs = ns.map V.int
  | [], _, h => h.nil
  | n :: r, _, h => by
    obtain ⟨v, q, rfl, hv, hr⟩ := h.cons
    rw [hv.num, ImL.ints hr]
    rfl
/-- two data of one value are one -/
theorem Im.key {P : Program} {w : World} {H : Hp} {h : Heap} (ok : HOk P w H h) {d : D} : ∀ {v : V} {u : Value}, Im H d v → RelV v u → NestedIs h d u := by
  refine NestedKey.rec (motive_1 := fun d => ∀ {v : V} {u : Value}, Im H d v → RelV v u → NestedIs h d u) (motive_2 := fun ds => ∀ {vs : List V} {us : List Value}, ImL H ds vs → Vals vs us → NestedAll h ds us) ?_ ?_ ?_ ?_ ?_ ?_ d
  · intro v u hv r
    rw [hv.non] at r
    cases (show u = Value.none from r)
    exact .none
  · intro i v u hv r
    rw [hv.num] at r
    obtain ⟨t, rfl⟩ := (show ∃ t, u = Value.int i t from r)
    exact .int _ _
  · intro x v u hv r
    rw [hv.text] at r
    obtain ⟨t, rfl⟩ := (show ∃ t, u = Value.str x t from r)
    exact .text _ _
  · intro ks ih v u hv r
    obtain ⟨a, vs, rfl, ha, hl⟩ := hv.tup
    cases (show u = Value.ref a from r)
    obtain ⟨_, its, rv, o, ho, hc, n, hd⟩ := (show ObjOk P w H h a (.tup vs) from ok a _ ha)
    exact .tup ho hc hd (by simpa using ih hl rv)
  · intro vs us hv r
    rw [hv.nil] at r
    cases r
    exact .nil
  · intro k ks ih1 ih2 vs us hv r
    obtain ⟨v, q, rfl, h1, h2⟩ := hv.cons
    cases r with
    | cons r1 r2 => exact .cons (ih1 h1 r1) (ih2 h2 r2)

/-! ### dicts with such keys -/
abbrev NdV : List (D × Addr × V) → List (D × Addr × Value) → Prop := Paired fun p q => p.1 = q.1 ∧ p.2.1 = q.2.1 ∧ RelV p.2.2 q.2.2
theorem NdV.keys {xs : List (D × Addr × V)} {vs : List (D × Addr × Value)} (r : NdV xs vs) : xs.map (·.1) = vs.map (·.1) := by
  induction r with
  | nil => rfl
  | cons h t ih => rw [List.map_cons, List.map_cons, ih, h.1]
def NdP (P : Program) (w : World) (a : Addr) (xs : List (D × Addr × V)) (h : Heap) : Prop :=
  (a == sysModules) = false ∧ xs.length ≤ sizeLine ∧ ∃ vs, NdV xs vs ∧ ∃ o es ep, h.get? a = some o ∧ o.ExactDict ∧ o.data = .dict es ep ∧ es.toList = vs.map (entryOfKey (nestedKind P w)) ∧ (vs.map (·.1)).Nodup
/-- at a stands a dict: keys, where their tuples stand, values -/
def NdO (P : Program) (w : World) (a : Addr) (xs : List (D × Addr × V)) : HO := .ext (NdP P w a xs)
/-- its keys are keys -/
def NdKeys (H : Hp) (xs : List (D × Addr × V)) : Prop := ∀ e ∈ xs, Im H e.1 (.ref e.2.1) ∧ e.1.depth ≤ 8
theorem NdKeys.ts {H H' : Hp} {xs : List (D × Addr × V)} (t : TS H H') (k : NdKeys H xs) : NdKeys H' xs := fun e he => ⟨(k e he).1.ts t, (k e he).2⟩
theorem NdKeys.nil {H : Hp} : NdKeys H [] := fun e he => nomatch he
def NdAt (P : Program) (w : World) (H : Hp) (a : Addr) (xs : List (D × Addr × V)) : Prop := (H a = some (NdO P w a xs) ∨ (xs = [] ∧ H a = some (.dK []))) ∧ NdKeys H xs
def NdRd (P : Program) (w : World) (H : Hp) (a : Addr) (xs : List (D × Addr × V)) : Prop := (Rd H a (NdO P w a xs) ∨ (xs = [] ∧ H a = some (.dK []))) ∧ NdKeys H xs
theorem NdAt.rd {P : Program} {w : World} {H : Hp} {a : Addr} {xs : List (D × Addr × V)} (n : NdAt P w H a xs) : NdRd P w H a xs :=
  ⟨n.1.elim (fun h => .inl (.inl h)) .inr, n.2⟩
theorem NdO.noTup {P : Program} {w : World} {a : Addr} {xs : List (D × Addr × V)} (vs : List V) : NdO P w a xs ≠ .tup vs := fun z => by unfold NdO at z; cases z
theorem NdO.mut {P : Program} {w : World} {a : Addr} {xs : List (D × Addr × V)} : Mut (some (NdO P w a xs)) := by
  unfold NdO
  exact True.intro
theorem ndP_stays {P : Program} {w : World} {a : Addr} {xs : List (D × Addr × V)} : ∀ h1 h2 : Heap, NdP P w a xs h1 → (∀ o, h1.get? a = some o → h2.get? a = some o) → NdP P w a xs h2 :=
  fun h1 h2 ⟨b, z, vs, r, o, es, ep, ho, q⟩ st => ⟨b, z, vs, r, o, es, ep, st _ ho, q⟩
theorem ndO_ok {P : Program} {w : World} {H : Hp} {h : Heap} {a : Addr} {xs : List (D × Addr × V)} (n : NdP P w a xs h) : ObjOk P w H h a (NdO P w a xs) := by
  obtain ⟨b, z, vs, r, o, es, ep, ho, q⟩ := id n
  exact ⟨n, ⟨o, ho⟩, ndP_stays⟩
theorem dk_nil {P : Program} {w : World} {h : Heap} {a : Addr} {vs : List (Key × Value)} (d : h.DictOf (mixKind P w) a vs) (e : vs = []) : ∃ o es ep, h.get? a = some o ∧ o.ExactDict ∧ o.data = .dict es ep ∧ es.toList = [] := by
  obtain ⟨o, es, ep, ho, hx, hd, _, hp, _⟩ := d
  refine ⟨o, es, ep, ho, hx, hd, ?_⟩
  have l := hp.length
  rw [e] at l
  exact List.eq_nil_of_length_eq_zero (by simpa using l)

section
variable {X : Cx} {pins : List (Addr × Obj)} {σ : L2.St} {H : Hp} {s : Shared} {a : Addr} {xs : List (D × Addr × V)}
theorem nd_prop (I : Inv X pins σ H s) (n : Rd H a (NdO X.prog X.w a xs) ∨ (xs = [] ∧ H a = some (.dK []))) : NdP X.prog X.w a xs s.heap := by
  rcases n with n | ⟨e, n⟩
  · exact (n.ok I.hok).1
  · subst e
    obtain ⟨z, hd, vs, r, dd⟩ := dk_of I.hok n
    have e : vs = [] := by
      have := Paired.length r
      exact List.eq_nil_of_length_eq_zero (by simpa using this.symm)
    obtain ⟨o, es, ep, ho, hx, hdt, he⟩ := dk_nil dd e
    exact ⟨hd, Nat.zero_le _, [], .nil, o, es, ep, ho, hx, hdt, by rw [he]; rfl, List.nodup_nil⟩
theorem nd_dict (I : Inv X pins σ H s) (n : NdRd X.prog X.w H a xs) : (a == sysModules) = false ∧ xs.length ≤ sizeLine ∧ ∃ vs, NdV xs vs ∧ s.heap.DictOfH (nestedKind X.prog X.w) a vs := by
  obtain ⟨n1, n2⟩ := n
  obtain ⟨b, z, vs, r, o, es, ep, ho, hx, hd, he, hn⟩ := nd_prop I n1
  refine ⟨b, z, vs, r, o, es, ep, ho, hx, hd, he, fun y hy => ?_, hn⟩
  have key : ∀ {l : List (D × Addr × V)} {m : List (D × Addr × Value)}, NdV l m → NdKeys H l → ∀ y ∈ m, (nestedKind X.prog X.w).is s.heap y.1 y.2.1 := by
    intro l m q
    induction q with
    | nil => intro _ y hy; exact nomatch hy
    | @cons p q ps qs h t ih =>
      intro k y hy
      rcases List.mem_cons.mp hy with e | hy
      · subst e
        obtain ⟨k1, k2⟩ := k p List.mem_cons_self
        rw [← h.1, ← h.2.1]
        exact ⟨k1.key I.hok (u := .ref p.2.1) rfl, k2⟩
      · exact ih (fun e he => k e (List.mem_cons_of_mem _ he)) y hy
  exact key r n2 y hy
theorem room_of {A : Around} (h : A.units + 64 < cLine) : (nestedKind X.prog X.w).room A.in1 := by
  show A.units + 1 + 8 < cLine
  omega
theorem room_of0 {A : Around} (h : A.units + 64 < cLine) : (nestedKind X.prog X.w).room A := by
  show A.units + 8 < cLine
  omega
theorem im_kind (I : Inv X pins σ H s) {k : D} {b : Addr} (h : Im H k (.ref b)) (z : k.depth ≤ 8) : (nestedKind X.prog X.w).is s.heap k b := ⟨h.key I.hok (u := .ref b) rfl, z⟩
theorem atKey_mem {vs : List (D × Addr × Value)} (k : D) : (atKey vs k).isSome = decide (k ∈ vs.map (·.1)) := by
  induction vs with
  | nil => rfl
  | cons y r ih =>
    by_cases h : y.1 = k
    · simp [atKey, List.find?_cons, h]
    · have h' : ¬ k = y.1 := fun z => h z.symm
      have e : atKey (y :: r) k = atKey r k := by simp [atKey, List.find?_cons, h]
      rw [e, ih]
      simp [h']
end

/-- k in d -/
def rInN (P : Program) (w : World) : R2 := fun x y H Q => ∃ a xs k b, x = .ref b ∧ y = .ref a ∧ NdRd P w H a xs ∧ Im H k (.ref b) ∧ k.depth ≤ 8 ∧ Q (.bl (decide (k ∈ xs.map (·.1)))) H
def rNotInN (P : Program) (w : World) : R2 := fun x y H Q => ∃ a xs k b, x = .ref b ∧ y = .ref a ∧ NdRd P w H a xs ∧ Im H k (.ref b) ∧ k.depth ≤ 8 ∧ Q (.bl (!decide (k ∈ xs.map (·.1)))) H
section
variable {X : Cx}
theorem op_inN (hu : X.A.units + 64 < cLine) : OpR X (compareOp .In) (rInN X.prog X.w) := by
  intro pins s σ H x y v u Q I rx ry h
  obtain ⟨a, xs, k, b, rfl, rfl, n, hk, z, q⟩ := h
  cases (show v = Value.ref b from rx)
  cases (show u = Value.ref a from ry)
  obtain ⟨hd, hz, vs, r, dd⟩ := nd_dict I n
  refine wpAny_in_heap (room_of (X := X) hu) (im_kind I hk z) hd dd ?_
  rw [atKey_mem, ← r.keys]
  exact ⟨.bl _, H, I.tok _, rfl, q⟩
theorem op_notInN (hu : X.A.units + 64 < cLine) : OpR X (compareOp .NotIn) (rNotInN X.prog X.w) := by
  intro pins s σ H x y v u Q I rx ry h
  obtain ⟨a, xs, k, b, rfl, rfl, n, hk, z, q⟩ := h
  cases (show v = Value.ref b from rx)
  cases (show u = Value.ref a from ry)
  obtain ⟨hd, hz, vs, r, dd⟩ := nd_dict I n
  refine wpAny_notIn_heap (room_of (X := X) hu) (im_kind I hk z) hd dd ?_
  rw [atKey_mem, ← r.keys]
  exact ⟨.bl _, H, I.tok _, rfl, q⟩
/-- len(d) -/
theorem call_lenN : CallR X (.builtin "len") (fun ws H Q => ∃ a xs, ws = [V.ref a] ∧ NdRd X.prog X.w H a xs ∧ Q (.int xs.length) H) := by
  intro pins s σ H ws us Q I r h
  obtain ⟨a, xs, rfl, n, q⟩ := h
  obtain ⟨u, rfl, ru⟩ := vals1 r
  cases (show u = Value.ref a from ru)
  obtain ⟨hd, hz, vs, rv, dd⟩ := nd_dict I n
  have hl : xs.length = vs.length := Paired.length rv
  have hzv : vs.length ≤ sizeLine := by rw [← hl]; exact hz
  refine PyProof.Rows.call_len_slot (n := vs.length) dd.typeIs F.slot_dict_len (fun Q' hq => len_keyed (knd := nestedKind X.prog X.w) hd ⟨vs, dd, rfl⟩ (by simpa [pairsH] using hq)) (by omega) (by rw [sizeLine_eq] at hzv; omega) ?_
  rw [← hl]
  exact ⟨.int xs.length, H, I.tok _, ⟨_, rfl⟩, q⟩
end
end Fk

set_option Elab.async false
set_option linter.all false
set_option maxRecDepth 100000
set_option maxHeartbeats 4000000
/-! rules for dicts whose keys are nested tuples: a store, walks, list(d), dict(pairs), a dict comprehension -/
namespace Fk
open PySem PySem.Spec PyProof.Rows L2 He
theorem NdV.snoc {xs : List (D × Addr × V)} {vs : List (D × Addr × Value)} (r : NdV xs vs) {k : D} {b : Addr} {v : V} {u : Value} (ru : RelV v u) : NdV (xs ++ [(k, b, v)]) (vs ++ [(k, b, u)]) :=
  Paired.snoc r ⟨rfl, rfl, ru⟩
theorem atKey_none {vs : List (D × Addr × Value)} {k : D} (h : k ∉ vs.map (·.1)) : atKey vs k = none := by
  have e := atKey_mem (vs := vs) k
  rw [decide_eq_false h] at e
  cases q : atKey vs k with
  | none => rfl
  | some _ => rw [q] at e; cases e
theorem ndP_of {P : Program} {w : World} {h : Heap} {a : Addr} {xs : List (D × Addr × V)} {vs : List (D × Addr × Value)} (hd : (a == sysModules) = false) (z : xs.length ≤ sizeLine) (r : NdV xs vs) (d : h.DictOfH (nestedKind P w) a vs) : NdP P w a xs h := by
  obtain ⟨o, es, ep, ho, hx, hdt, he, _, hn⟩ := d
  exact ⟨hd, z, vs, r, o, es, ep, ho, hx, hdt, he, hn⟩
def rSetN (P : Program) (w : World) : TSet := fun o i v H Q => ∃ a xs k b, o = .ref a ∧ i = .ref b ∧ NdAt P w H a xs ∧ Im H k (.ref b) ∧ k.depth ≤ 8 ∧ k ∉ xs.map (·.1) ∧ xs.length < sizeLine ∧ Q (upd H a (NdO P w a (xs ++ [(k, b, v)])))
section
variable {X : Cx} {pins : List (Addr × Obj)} {σ : L2.St} {H : Hp} {s : Shared} {a : Addr} {xs : List (D × Addr × V)}
theorem nd_mut {P : Program} {w : World} (n : NdAt P w H a xs) : Mut (H a) := by
  rcases n.1 with h | ⟨_, h⟩
  · rw [h]; exact NdO.mut
  · rw [h]; exact True.intro
theorem nd_put {k : D} {b : Addr} {v : V} {u : Value} {h' : Heap} {t' : Nat} (I : Inv X pins σ H s) (n : NdAt X.prog X.w H a xs) (hn : k ∉ xs.map (·.1)) (hl : xs.length < sizeLine) (ru : RelV v u)
    {vs : List (D × Addr × Value)} (rv : NdV xs vs) (hd : (a == sysModules) = false) (dd : h'.DictOfH (nestedKind X.prog X.w) a (storedH vs k b u)) (hs : Heap.SameBut a s.heap h') :
    Inv X pins σ (upd H a (NdO X.prog X.w a (xs ++ [(k, b, v)]))) { s with heap := h', toks := t' } := by
  rw [storedH_new (atKey_none (by rw [← rv.keys]; exact hn))] at dd
  obtain ⟨o, _, _, ho, _⟩ := id dd
  exact d_write I (nd_mut n) hs ⟨o, ho⟩ (ndO_ok (ndP_of hd (by rw [List.length_append]; exact hl) (rv.snoc ru) dd))
theorem set_dictN (hu : X.A.units + 64 < cLine) : PSet X (rSetN X.prog X.w) := by
  intro pins s σ H o i v ov iv u Q I ro ri rv h
  obtain ⟨a, xs, k, b, rfl, rfl, n, hk, z, hn, hl, q⟩ := h
  cases (show ov = Value.ref a from ro)
  cases (show iv = Value.ref b from ri)
  obtain ⟨hd, hz, vs, r, dd⟩ := nd_dict I n.rd
  have hzv : vs.length ≤ sizeLine := by rw [← Paired.length r]; exact hz
  exact wpAny_setItem_heap (hsz := hzv) (room_of (X := X) hu) (im_kind I hk z) dd fun h' dd' hs => ⟨_, nd_put I n hn hl rv r hd dd' hs, q⟩
theorem dictSetN {k : D} {b : Addr} {v : V} {u : Value} {E : Value → Shared → Prop} {Q : Unit → Shared → Prop} (hu : X.A.units + 64 < cLine) (I : Inv X pins σ H s) (n : NdAt X.prog X.w H a xs) (hk : Im H k (.ref b)) (z : k.depth ≤ 8) (hn : k ∉ xs.map (·.1)) (hl : xs.length < sizeLine) (ru : RelV v u)
    (h : ∀ s', Inv X pins σ (upd H a (NdO X.prog X.w a (xs ++ [(k, b, v)]))) s' → Q () s') : wpAny (model X.prog X.w) X.A (dictSet a (.ref b) u) Q E s := by
  obtain ⟨hd, hz, vs, r, dd⟩ := nd_dict I n.rd
  have hzv : vs.length ≤ sizeLine := by rw [← Paired.length r]; exact hz
  exact wpAny_dictSet_heap (hsz := hzv) (room_of0 (X := X) hu) (im_kind I hk z) dd fun h' dd' hs => h _ (nd_put I n hn hl ru r hd dd' hs)
end
theorem NdAt.put {P : Program} {w : World} {H : Hp} {a b : Addr} {xs : List (D × Addr × V)} {k : D} {v : V} (n : NdAt P w H a xs) (hk : Im H k (.ref b)) (z : k.depth ≤ 8) : NdAt P w (upd H a (NdO P w a (xs ++ [(k, b, v)]))) a (xs ++ [(k, b, v)]) := by
  have t : TS H (upd H a (NdO P w a (xs ++ [(k, b, v)]))) := by
    rcases n.1 with h | ⟨_, h⟩
    · exact TS.mut h NdO.noTup
    · exact TS.mut h (fun _ z => nomatch z)
  refine ⟨.inl upd_same, fun e he => ?_⟩
  rcases List.mem_append.mp he with he | he
  · exact (n.2.ts t) e he
  · have e' : e = (k, b, v) := by simpa using he
    rw [e']
    exact ⟨hk.ts t, z⟩

/-! ### a locked dict is walked -/
section
variable {X : Cx} {pins : List (Addr × Obj)} {σ : L2.St} {H : Hp} {s : Shared} {d : Addr} {o : Obj} {xs : List (D × Addr × V)}
theorem nd_frz (I : Inv X pins σ H s) (h : H d = some (.frz o (NdO X.prog X.w d xs))) :
    (d == sysModules) = false ∧ s.heap.get? d = some o ∧ o.ExactDict ∧ ∃ (es : Array DictEntry) (ep : Nat), o.data = .dict es ep ∧ es.size = xs.length ∧
      ∀ (i : Nat) (k : D) (q : Addr) (v : V), xs[i]? = some (k, q, v) → ∃ en : DictEntry, es[i]? = some en ∧ en.key = .ref q ∧ RelV v en.val := by
  obtain ⟨hd, x⟩ := I.hok d _ h
  obtain ⟨⟨hs, z, vs, r, o', es, ep, ho, hx, hdt, he, _⟩, _, _⟩ := x
  rw [hd] at ho
  cases ho
  refine ⟨hs, hd, hx, es, ep, hdt, ?_, fun i k q v e => ?_⟩
  · have l1 : es.size = vs.length := size_of_entries he
    have l2 : xs.length = vs.length := Paired.length r
    omega
  · obtain ⟨b, hb, e1, e2, e3⟩ := paired_get r e
    have g := entry_at he i
    rw [hb] at g
    refine ⟨_, g, ?_, e3⟩
    show Value.ref b.2.1 = Value.ref q
    rw [← e2]
end
/-- the keys of the locked dict at d -/
def ItN (P : Program) (w : World) (d : Addr) (o : Obj) (xs : List (D × Addr × V)) : It :=
  ⟨fun i H => H d = some (.frz o (NdO P w d xs)) ∧ i < xs.length, fun i H x H' => H' = H ∧ ∃ k q v, xs[i]? = some (k, q, v) ∧ x = .ref q, fun i H => H d = some (.frz o (NdO P w d xs)) ∧ xs.length ≤ i⟩
/-- its pairs, each a new tuple -/
def ItI (P : Program) (w : World) (d : Addr) (o : Obj) (xs : List (D × Addr × V)) : It :=
  ⟨fun i H => H d = some (.frz o (NdO P w d xs)) ∧ i < xs.length, fun i H x H' => ∃ T k q v, xs[i]? = some (k, q, v) ∧ x = .ref T ∧ H T = none ∧ H' = upd H T (.tup [.ref q, v]), fun i H => H d = some (.frz o (NdO P w d xs)) ∧ xs.length ≤ i⟩
section
variable {P : Program} {w : World} {K : PySem.W.Frag} {tg : Expr} {d : Addr} {o : Obj} {es : Array DictEntry} {ep : Nat} {xs : List (D × Addr × V)}
theorem turn_N (it : Addr) (hod : o.data = .dict es ep) : Turn P w K tg (ItN P w d o xs) [it] it (fun i h => h.IsKeyIter it d i xs.length ep) where
  mem := by simp
  obj := fun i h st b hb => by
    have e : b = it := by simpa using hb
    subst e
    obtain ⟨oi, e, c, dd⟩ := st
    exact ⟨oi, e, fun v z => by rw [dd] at z; cases z⟩
  keep := fun i h h' st k => st.at fun oi e => k it (by simp) oi e
  item := by
    intro X hP hw hK hc i pins s σ H E I hf st hg
    subst hP hw hK
    obtain ⟨hd, hi⟩ := hg
    obtain ⟨f0, f1, f2, f3, f4, f5⟩ := hf it (by simp)
    obtain ⟨hs, hgd, hx, es', ep', hdt, hsz, ent⟩ := nd_frz I hd
    obtain ⟨rfl, rfl⟩ := dict_ep hod hdt
    obtain ⟨⟨k, q, v⟩, hkv⟩ : ∃ p, xs[i]? = some p := ⟨xs[i], List.getElem?_eq_getElem hi⟩
    obtain ⟨en, hen, hkey, _⟩ := ent i k q v hkv
    refine next_key_item st hgd hdt hsz hen fun h' st' sb => ?_
    have I1 : Inv X pins σ H { s with heap := h' } := I.turned (t' := s.toks) (fun b ob hb e => (sb.2 b hb).trans e) f0 f1 f3 f4 f5
    obtain ⟨oi, e, c, dd⟩ := id st'
    exact ⟨en.key, rfl, go_of (s := { s with heap := h' }) e c dd (by decide) ⟨.ref q, H, I1, hkey, ⟨rfl, k, q, v, hkv, rfl⟩, st', fun b hb => (hf b hb).1⟩⟩
  done := by
    intro X hP hw hK hc i pins s σ H E I hf st hg
    subst hP hw hK
    obtain ⟨hd, hi⟩ := hg
    obtain ⟨f0, f1, f2, f3, f4, f5⟩ := hf it (by simp)
    obtain ⟨hs, hgd, hx, es', ep', hdt, hsz, ent⟩ := nd_frz I hd
    obtain ⟨rfl, rfl⟩ := dict_ep hod hdt
    exact next_key_end (I.ok.hd hc) st hgd hdt hsz hi fun h' eb => ⟨rfl, I.turned (t' := s.toks) (fun b ob hb e => eb b ob hb e) f0 f1 f3 f4 f5⟩
  self := fun A i s Q E st h => wpAny_pyIter_keyiter st h
theorem turn_I {elts : List Expr} {kk : Nat} {tpos : Pos} (it : Addr) (hod : o.data = .dict es ep) : Turn P w K (.Tuple elts kk tpos) (ItI P w d o xs) [it] it (fun i h => ∃ ok ov, IsItemIter h it d i xs.length ep ok ov) where
  mem := by simp
  obj := fun i h st b hb => by
    have e : b = it := by simpa using hb
    subst e
    obtain ⟨ok, ov, e⟩ := st
    exact ⟨_, e, fun v z => nomatch z⟩
  keep := fun i h h' st k => let ⟨ok, ov, e⟩ := st; ⟨ok, ov, k it (by simp) _ e⟩
  item := by
    intro X hP hw hK hc i pins s σ H E I hf st hg
    subst hP hw hK
    obtain ⟨hd, hi⟩ := hg
    obtain ⟨hs, hgd, hx, es', ep', hdt, hsz, ent⟩ := nd_frz I hd
    obtain ⟨rfl, rfl⟩ := dict_ep hod hdt
    obtain ⟨⟨k, q, v⟩, hkv⟩ : ∃ p, xs[i]? = some p := ⟨xs[i], List.getElem?_eq_getElem hi⟩
    obtain ⟨en, hen, hkey, hval⟩ := ent i k q v hkv
    have hie : i < es'.size := by rw [hsz]; exact hi
    have een : es'[i] = en := by
      rw [Array.getElem?_eq_getElem hie] at hen
      exact Option.some.inj hen
    obtain ⟨ok, ov, he⟩ := st
    rw [← hsz] at he
    have hlt : it < s.heap.objs.size := Heap.lt_size he
    refine wpAny_pyNext_items_item_raw he ⟨o, hgd, hx, hdt⟩ hie fun h' ho hT hz hk => ?_
    refine ⟨_, rfl, wpAny_letOwnedTupleGo_items (s := { s with heap := h' }) ho fun h'' he' sb => ?_⟩
    have hT2 : h''.get? s.heap.objs.size = some { cls := .type "tuple", data := .seq #[en.key, en.val] } := by
      rw [← een]
      exact (sb.2 _ (Nat.ne_of_gt hlt)).trans hT
    have new : ObjOk X.prog X.w (upd H s.heap.objs.size (.tup [.ref q, v])) h'' s.heap.objs.size (.tup [.ref q, v]) :=
      ⟨by show 2 ≤ sizeLine; decide, [en.key, en.val], .cons hkey (.cons hval .nil), ⟨_, hT2, rfl, _, rfl⟩⟩
    have I1 : Inv X pins σ (upd H s.heap.objs.size (.tup [.ref q, v])) { s with heap := h'' } :=
      I.turnedNew (t' := s.toks) (ch := [it]) (fun b ob hb e => (sb.2 b (by simpa using hb)).trans (hk b ob (by simpa using hb) e)) hf (Nat.le_refl _) new
    refine ⟨.ref s.heap.objs.size, _, I1, rfl, ⟨_, k, q, v, hkv, rfl, I.hok.fresh (Nat.le_refl _), rfl⟩, ⟨es'[i].key, es'[i].val, ?_⟩, fun b hb => ?_⟩
    · rw [← hsz]; exact he'
    · have e : b = it := by simpa using hb
      rw [e, upd_ne (Nat.ne_of_lt hlt)]
      exact (hf it (by simp)).1
  done := by
    intro X hP hw hK hc i pins s σ H E I hf st hg
    subst hP hw hK
    obtain ⟨hd, hi⟩ := hg
    obtain ⟨f0, f1, f2, f3, f4, f5⟩ := hf it (by simp)
    obtain ⟨hs, hgd, hx, es', ep', hdt, hsz, ent⟩ := nd_frz I hd
    obtain ⟨rfl, rfl⟩ := dict_ep hod hdt
    obtain ⟨ok, ov, he⟩ := st
    rw [← hsz] at he
    exact wpAny_pyNext_items_end_raw (I.ok.hd hc) he ⟨o, hgd, hx, hdt⟩ (by rw [hsz]; exact hi) fun h' eb => ⟨rfl, I.turned (t' := s.toks) (fun b ob hb e => eb b ob hb e) f0 f1 f3 f4 f5⟩
  self := fun A i s Q E st h => let ⟨_, _, e⟩ := st; PySem.W.kcp_self e h
end
def iKeysN (P : Program) (w : World) (td : TE) : TI := fun σ H R => td σ H fun x H1 => ∃ d o xs, x = .ref d ∧ H1 d = some (.frz o (NdO P w d xs)) ∧ R (ItN P w d o xs) H1
def iItemsN (P : Program) (w : World) (td : TE) : TI := fun σ H R => td σ H fun x H1 => ∃ d o xs, x = .ref d ∧ H1 d = some (.frz o (NdO P w d xs)) ∧ R (ItI P w d o xs) H1
section
variable {X : Cx} {tg e : Expr} {td : TE} {apos cpos : Pos}
theorem pi_keysN (he : PE X e td) : PI X tg e (iKeysN X.prog X.w td) := by
  refine ⟨fun pins s σ H R I h => ?_⟩
  refine thn (he.run pins s σ H _ I h) fun u s1 ⟨x, H1, I1, rx, d, o, xs, ex, hd, q⟩ => ?_
  subst ex
  obtain rfl : u = Value.ref d := rx
  obtain ⟨hs, hgd, hx, es, ep, hdt, hsz, ent⟩ := nd_frz I1 hd
  refine iter_keys hs hgd hx hdt (pi_one (tk := s1.toks) I1 _ (turn_N _ hdt) ⟨_, Heap.get?_push_size _ rfl, rfl, ?_⟩ q)
  rw [hsz] <;> rfl
theorem pi_itemsN {elts : List Expr} {kk : Nat} {tpos : Pos} (he : PE X e td) (hbase : attributeBase e "items" X.env (eval e X.env) = eval e X.env := by rfl) (hline : (apos.endLine == cpos.line) = true := by rfl) :
    PI X (.Tuple elts kk tpos) (.Call (.Attribute e "items" apos) [] [] cpos) (iItemsN X.prog X.w td) := by
  refine ⟨fun pins s σ H R I h => ?_⟩
  refine wpAny_Call_method (T := "dict") (id := "dict.items") hbase rfl hline F.plainAttrs_dict F.slot_dict_items F.type_dict_items (thn (he.run pins s σ H _ I h) fun u s1 ⟨x, H1, I1, rx, d, o, xs, ex, hd, q⟩ => ?_)
  subst ex
  obtain rfl : u = Value.ref d := rx
  obtain ⟨hs, hgd, hx, es, ep, hdt, hsz, ent⟩ := nd_frz I1 hd
  have hraw : s1.heap.DictRaw d es ep := ⟨o, hgd, hx, hdt⟩
  have hnd : ∀ b, Value.ref d = .ref b → ∃ ob, s1.heap.get? b = some ob ∧ ob.dict = none := fun b z => by
    cases z
    exact ⟨o, hgd, hx.2.1⟩
  refine ⟨hraw.typeIs, hnd, ?_⟩
  have I2 : Inv X pins σ H1 { s1 with heap := s1.heap.push { cls := .type "dict_items", data := .fields #[.ref d] } } := I1.kept (t' := s1.toks) fun b ob q => Heap.get?_push_of_some _ q
  have fin : wpAny (model X.prog X.w) X.A (pyIter (.ref s1.heap.objs.size)) (PIE X pins σ (.Tuple elts kk tpos) R) X.xe { s1 with heap := s1.heap.push { cls := .type "dict_items", data := .fields #[.ref d] } } := by
    refine wpAny_pyIter_items_raw (d := d) ⟨_, Heap.get?_push_size _ rfl, rfl, rfl⟩ (hraw.at fun _ z => Heap.get?_push_of_some _ z) (pi_one (tk := s1.toks) I2 _ (turn_I _ hdt) ⟨.none, .none, ?_⟩ q)
    rw [← hsz]
    exact Heap.get?_push_size _ rfl
  show wpAny _ _ (callWith cpos (.builtin "dict.items") [.ref d] [] []) _ X.xe s1
  exact method_meetsIn F.slot_dict_items F.entry_dict_items rfl (PySem.evalArgs_none ⟨rfl, hraw.typeIs, F.args_dict_items_1 _, _, meets_dict_items_raw d hs, ⟨es, ep, hraw⟩, fin⟩)
end
end Fk

set_option Elab.async false
set_option linter.all false
set_option maxRecDepth 100000
set_option maxHeartbeats 4000000
/-! list(d), dict(pairs), max(d) -/
namespace Fk
open PySem PySem.Spec PyProof.Rows L2 He
section
variable {X : Cx}
theorem call_listN (hc : X.calm = true) : CallR X (.type "list") (fun ws H Q => ∃ d xs, ws = [V.ref d] ∧ NdRd X.prog X.w H d xs ∧ ∀ p, H p = none → Q (.ref p) (upd H p (.lst (xs.map fun e => V.ref e.2.1)))) := by
  intro pins s σ H ws us Q I r h
  obtain ⟨d, xs, rfl, n, q⟩ := h
  obtain ⟨u, rfl, rx⟩ := vals1 r
  cases (show u = Value.ref d from rx)
  obtain ⟨hs, z, ks, pr, o, es, ep, ho, hx, hdt, he, hn⟩ := nd_prop I n.1
  have l1 : es.size = ks.length := size_of_entries he
  have l2 : xs.length = ks.length := Paired.length pr
  refine PySem.W.kdl_call (kdl_raw hs hx hdt) (I.ok.hd hc) ho (by omega) fun h' tk acc' c' kp e it => ?_
  have ea : acc'.toList = ks.map fun x => Value.ref x.2.1 := by
    have hl : acc'.toList.length = ks.length := by rw [Array.length_toList, it.1]; exact l1
    apply List.ext_getElem?
    intro j
    rw [List.getElem?_map]
    cases hj : acc'.toList[j]? with
    | none =>
      have h1 := List.getElem?_eq_none_iff.mp hj
      rw [List.getElem?_eq_none (by omega)]
      all_goals rfl
    | some v =>
      obtain ⟨en, hen, hv⟩ := it.2 j v (by rw [← Array.getElem?_toList]; exact hj)
      have qe := entry_at he j
      rw [hen] at qe
      cases hb : ks[j]? with
      | none => rw [hb] at qe; cases qe
      | some b =>
        rw [hb] at qe
        have e2 : en = entryOfKey (nestedKind X.prog X.w) b := Option.some.inj qe
        rw [hv, e2]
        all_goals rfl
  have rv : ∀ {l : List (D × Addr × V)} {m : List (D × Addr × Value)}, NdV l m → Vals (l.map fun e => V.ref e.2.1) (m.map fun x => Value.ref x.2.1) := by
    intro l m q
    induction q with
    | nil => exact .nil
    | @cons a b l1 l2 h t ih =>
      refine .cons ?_ ih
      show Value.ref b.2.1 = Value.ref a.2.1
      rw [h.2.1]
  have hz : (xs.map fun e => V.ref e.2.1).length ≤ sizeLine := by rw [List.length_map]; omega
  refine ⟨.ref s.heap.objs.size, _, I.laid (t' := tk) (o := .lst (xs.map fun e => V.ref e.2.1)) kp (Nat.le_refl _) ?_, rfl, q _ (I.hok.fresh (Nat.le_refl _))⟩
  exact ⟨hz, acc'.toList, c', by rw [ea]; exact rv pr, by rw [Array.toArray_toList]; exact e⟩
end
theorem storedAll_new : ∀ (ps xs : List (D × Addr × Value)), ((xs ++ ps).map (·.1)).Nodup → storedAllH xs ps = xs ++ ps
  | [], xs, _ => by rw [List.append_nil]; rfl
  | p :: ps, xs, hn => by
    have e : xs ++ p :: ps = (xs ++ [p]) ++ ps := by simp
    have hnot : p.1 ∉ xs.map (·.1) := by
      rw [List.map_append, List.nodup_append] at hn
      intro hm
      exact hn.2.2 p.1 hm p.1 (by simp) rfl
    show storedAllH (storedH xs p.1 p.2.1 p.2.2) ps = xs ++ p :: ps
    rw [storedH_new (atKey_none hnot), e, ← storedAll_new ps (xs ++ [p]) (by rw [← e]; exact hn)]
abbrev PrN (H : Hp) : List Addr → List (D × Addr × V) → Prop := Paired fun t e => H t = some (.tup [.ref e.2.1, e.2.2])
section
variable {X : Cx}
theorem prs_of {pins : List (Addr × Obj)} {σ : L2.St} {H : Hp} {s : Shared} (I : Inv X pins σ H s) : ∀ {ts : List Addr} {xs : List (D × Addr × V)}, PrN H ts xs →
    ∃ vs : List (D × Addr × Value), NdV xs vs ∧ ∀ (j : Nat) (q : D × Addr × Value), vs[j]? = some q → ∃ t, ts[j]? = some t ∧ IsTup s.heap t #[.ref q.2.1, q.2.2]
  | _, _, .nil => ⟨[], .nil, fun j q e => by simp at e⟩
  | _, _, .cons (a := t) (b := e) h r => by
    obtain ⟨vs, rv, hp⟩ := prs_of I r
    obtain ⟨_, its, rt, ht⟩ := (show ObjOk X.prog X.w H s.heap t (.tup [.ref e.2.1, e.2.2]) from I.hok t _ h)
    obtain ⟨u, y, ei, ru, ry⟩ := vals2 rt
    subst ei
    cases (show u = Value.ref e.2.1 from ru)
    refine ⟨(e.1, e.2.1, y) :: vs, .cons ⟨rfl, rfl, ry⟩ rv, fun j q z => ?_⟩
    cases j with
    | zero =>
      have z' : (e.1, e.2.1, y) = q := Option.some.inj z
      subst z'
      exact ⟨t, rfl, ht⟩
    | succ j =>
      obtain ⟨b, e1, e2⟩ := hp j q (by simpa using z)
      exact ⟨b, by simpa using e1, e2⟩
theorem call_dictN (hc : X.calm = true) (hu : X.A.units + 64 < cLine) : CallR X (.type "dict") (fun ws H Q => ∃ (a : Addr) (ts : List Addr) (xs : List (D × Addr × V)), ws = [.ref a] ∧ SqL X.K H a (ts.map V.ref) ∧ PrN H ts xs ∧ NdKeys H xs ∧ (xs.map (·.1)).Nodup ∧
    ∀ p, H p = none → Q (.ref p) (upd H p (NdO X.prog X.w p xs))) := by
  intro pins s σ H ws us Q I r h
  obtain ⟨a, ts, xs, rfl, hq, hp, hk, hnd, q⟩ := h
  obtain ⟨u, rfl, rx⟩ := vals1 r
  cases (show u = Value.ref a from rx)
  obtain ⟨its, rv, pl, hz⟩ := I.list hq
  have ei := refs_at rv
  subst ei
  rw [List.length_map] at hz
  obtain ⟨vs, rel, hpr⟩ := prs_of I hp
  have l1 : ts.length = xs.length := Paired.length hp
  have l2 : xs.length = vs.length := Paired.length rel
  obtain ⟨o, n, ho, hcl, hd, hdat⟩ := pl
  have P := PairArg.list (prog := X.prog) (w := X.w) a (ts.map Value.ref).toArray (fun j => ts.getD j 0) (vs.map fun x => (Value.ref x.2.1, x.2.2))
  have hkv : ∀ x ∈ vs, (nestedKind X.prog X.w).is s.heap x.1 x.2.1 := by
    have key : ∀ {l : List (D × Addr × V)} {m : List (D × Addr × Value)}, NdV l m → NdKeys H l → ∀ y ∈ m, (nestedKind X.prog X.w).is s.heap y.1 y.2.1 := by
      intro l m q
      induction q with
      | nil => intro _ y hy; exact nomatch hy
      | @cons p q ps qs h t ih =>
        intro k y hy
        rcases List.mem_cons.mp hy with e | hy
        · subst e
          obtain ⟨k1, k2⟩ := k p List.mem_cons_self
          rw [← h.1, ← h.2.1]
          exact im_kind I k1 k2
        · exact ih (fun e he => k e (List.mem_cons_of_mem _ he)) y hy
    exact key rel hk
  have hm : (s.heap.objs.size == sysModules) = false := beq_eq_false_iff_ne.mpr (Nat.ne_of_gt I.big)
  refine call_dict_pairsH (knd := nestedKind X.prog X.w) (ps := vs) P (I.ok.hd hc) (show X.A.units + 1 + 1 + 8 < cLine by omega) ⟨⟨o, n, ho, hcl, hd, hdat⟩, by simp [l1, l2], fun j k v e => ?_⟩ ⟨by simp, fun i key v e => ?_⟩ (fun h' hk' x hx => ?_) (by simp; omega) fun h' tk hd' kp => ?_
  · rw [List.getElem?_map] at e
    obtain ⟨x, hx, e⟩ := Option.map_eq_some_iff.mp e
    cases e
    obtain ⟨t, e1, e2⟩ := hpr j x hx
    have e3 : ts.getD j 0 = t := by rw [List.getD_eq_getElem?_getD, e1]; rfl
    obtain ⟨ot, h1, h2, nn, h3⟩ := e2
    refine ⟨?_, .inl ?_⟩
    · show (ts.map Value.ref).toArray[j]? = some (Value.ref (ts.getD j 0))
      rw [e3]
      simp [e1]
    · show s.heap.IsTuple (ts.getD j 0) #[.ref x.2.1, x.2.2]
      rw [e3]
      exact ⟨ot, h1, h2, nn, h3⟩
  · have e' : (vs.map fun x => (Value.ref x.2.1, x.2.2))[i]? = some (key, v) := e
    rw [List.getElem?_map] at e'
    obtain ⟨x, hx, e'⟩ := Option.map_eq_some_iff.mp e'
    cases e'
    exact ⟨x.1, x.2.1, hx, rfl⟩
  · obtain ⟨i1, i2⟩ := hkv x hx
    exact ⟨NestedIs.at (fun b ob vs n hb _ => hk' b ob (Nat.ne_of_lt (Heap.lt_size hb)) (fun z => nomatch z) hb) _ _ i1, i2⟩
  · rw [storedAll_new vs [] (by rw [List.nil_append, ← rel.keys]; exact hnd), List.nil_append] at hd'
    exact ⟨.ref s.heap.objs.size, _, I.laid (t' := tk) (o := NdO X.prog X.w s.heap.objs.size xs) (fun b o e => kp b o (fun z => nomatch z) e) (Nat.le_refl _) (ndO_ok (ndP_of hm (by omega) rel hd')), rfl, q _ (I.hok.fresh (Nat.le_refl _))⟩
/-- max(d), d a dict with whole numbers as keys -/
def rMaxK : List V → Hp → VK → Prop := fun vs H Q => ∃ (a : Addr) (kvs : List (Key × V)) (is : List Int), vs = [V.ref a] ∧ H a = some (.dK kvs) ∧ kvs.map (·.1) = is.map Sum.inl ∧ is ≠ [] ∧ ∀ m, m ∈ is → (∀ j ∈ is, j ≤ m) → Q (.int m) H
theorem cr_maxK (hc : X.calm = true) : CallR X (.builtin "max") rMaxK := by
  intro pins s σ H vs us Q I r h
  obtain ⟨a, kvs, is, rfl, ha, hv, hne, q⟩ := h
  rw [Vals.ref1 r]
  obtain ⟨_, hsys, vs, rel, dof⟩ := dk_of I.hok ha
  obtain ⟨ep, dat⟩ := dof.dictAt
  obtain ⟨ob, es, ho, hex, hdat, hko, hpr, hnd⟩ := id dat
  have hlt : a < s.heap.objs.size := Heap.lt_size ho
  have hkeys : vs.map (·.1) = is.map Sum.inl := (KV.keys rel).symm.trans hv
  have hlv : vs.length = is.length := by
    have e1 := congrArg List.length hkeys
    rw [List.length_map, List.length_map] at e1
    exact e1
  have hlen : 0 < vs.length := by
    rw [hlv]
    exact List.length_pos_iff.mpr hne
  have hval : ∀ (i : Nat) (v : Value), (∃ k x, vs[i]? = some (k, x) ∧ (mixKind X.prog X.w).is k v = true) → ∃ t, v = Value.int (is.getD i 0) t := fun i v ⟨k, x, hk, hkey⟩ => by
    have e1 : (vs.map (·.1))[i]? = some k := by rw [List.getElem?_map, hk] <;> rfl
    rw [hkeys, List.getElem?_map] at e1
    obtain ⟨j, hj, e2⟩ := Option.map_eq_some_iff.mp e1
    subst e2
    have hi : Value.isInt j v = true := hkey
    obtain ⟨t, e3⟩ := Value.isInt_shape (k := j) (v := v) hi
    refine ⟨t, ?_⟩
    rw [e3, List.getD_eq_getElem?_getD, hj] <;> rfl
  refine call_max_walk (wpAny_pyIter_dict (knd := mixKind X.prog X.w) hsys dat ?_)
  refine ⟨_, _, _, _, _, _, _, rfl, Walks.dictKeys (knd := mixKind X.prog X.w) (A := X.A.in1) (I.ok.hd hc) s.heap.objs.size a (Nat.ne_of_lt hlt) vs ep,
    ⟨⟨_, Heap.get?_push_size _ rfl, rfl, rfl⟩, dat.keep fun b u e => Heap.get?_push_of_some _ e⟩, fun b hb => ?_, hlen, CmpOf.ints_gt (fun i => is.getD i 0) hval, fun v h' tk hP hk => ?_⟩
  · show b < (s.heap.push _).objs.size
    rw [Heap.size_push]
    rcases List.mem_cons.mp hb with e | hb
    · rw [e]
      exact Nat.lt_succ_self _
    · rw [List.mem_singleton.mp hb]
      exact Nat.lt_succ_of_lt hlt
  · obtain ⟨t, rfl⟩ := hval _ v hP
    obtain ⟨b1, b2⟩ := argBest_gt (fun i => is.getD i 0) (vs.length - 1)
    refine ⟨.int _, H, I.kept (t' := tk) fun b u e => hk b u (fun hmem => ?_) (Heap.get?_push_of_some _ e), ⟨t, rfl⟩, q _ ?_ fun j hj => ?_⟩
    · have e1 : b = s.heap.objs.size := List.mem_singleton.mp hmem
      have e2 := Heap.lt_size e
      rw [e1] at e2
      exact absurd e2 (Nat.lt_irrefl _)
    · have hb : argBest (fun i j => decide (is.getD i 0 > is.getD j 0)) (vs.length - 1) < is.length := by omega
      rw [List.getD_eq_getElem?_getD, List.getElem?_eq_getElem hb]
      exact List.getElem_mem hb
    · obtain ⟨i, hi, e⟩ := List.mem_iff_getElem.mp hj
      have e2 : is.getD i 0 = j := by rw [List.getD_eq_getElem?_getD, List.getElem?_eq_getElem hi, ← e] <;> rfl
      rw [← e2]
      exact b2 i (by omega)
end
end Fk

set_option Elab.async false
set_option linter.all false
set_option maxRecDepth 100000
set_option maxHeartbeats 4000000
/-! a dict comprehension whose keys are nested tuples, each new (the layer's dc_core, turned to these dicts) -/
namespace Fk
open PySem PySem.Spec PyProof.Rows L2 He
def tDcN (P : Program) (w : World) (wi : TI) (g : TG) (tt : TT) (tk tv : TE) (vs : List Nat) : TE := fun σ H Q => wi σ H fun J H1 => ∀ D, H1 D = none → ∃ W : Nat → Nat → Hp → Prop, (∃ m, W 0 m (upd H1 D (.dK []))) ∧ ∀ i m H, W i m H →
  (J.stop i H ∧ Q (.ref D) H) ∨ (J.go i H ∧ ∃ Nx : Hp → Prop, (∀ H', Nx H' → ∃ m', m' < m ∧ W (i + 1) m' H') ∧ ∀ x H', J.yld i H x H' → g x (wipe σ vs) H' fun σ2 H2 => wipe σ2 vs = wipe σ vs ∧ tt σ2 H2 fun b H3 =>
    if b = true then tk σ2 H3 fun y H4 => tv σ2 H4 fun z H5 => ∃ xs k b, y = .ref b ∧ NdAt P w H5 D xs ∧ Im H5 k (.ref b) ∧ k.depth ≤ 8 ∧ k ∉ xs.map (·.1) ∧ xs.length < sizeLine ∧ Nx (upd H5 D (NdO P w D (xs ++ [(k, b, z)]))) else Nx H3)
section
variable {X : Cx}
theorem dcN_core {pins : List (Addr × Obj)} {s : Shared} {σ : L2.St} {H : Hp} {Q : VK} {kx vx tg iter : Expr} {ifs : List Expr} {scope : Scope} {own : List (Str × Nat)} {pos pos' : Pos} {wi : TI} {g : TG} {tt : TT} {tk tv : TE} {use : Option (Value → Sem Unit)} {Qf : Value → Shared → Prop}
    (hu : X.A.units + 64 < cLine) (hc : X.calm = true) (hN : X.N.Nodup) (I : Inv X pins σ H s) (hi : PI X tg iter wi) (ok : BlkOk X.N X.env.scope scope own)
    (hg : ∀ (s : Shared) (H : Hp) (C : Addr) (cl : List (Str × Addr)) (fp : List Addr), PG (X.blk s H scope (compEnvC scope cl C X.env) fp) tg g) (ht : ∀ (s : Shared) (H : Hp) (C : Addr) (cl : List (Str × Addr)) (fp : List Addr), PTs (X.blk s H scope (compEnvC scope cl C X.env) fp) ifs tt)
    (hk : ∀ (s : Shared) (H : Hp) (C : Addr) (cl : List (Str × Addr)) (fp : List Addr), PE (X.blk s H scope (compEnvC scope cl C X.env) fp) kx tk)
    (he : ∀ (s : Shared) (H : Hp) (C : Addr) (cl : List (Str × Addr)) (fp : List Addr), PE (X.blk s H scope (compEnvC scope cl C X.env) fp) vx tv) (hs : ∀ x, foldedSetIterable iter X.env x = pure x)
    (h : tDcN X.prog X.w wi g tt tk tv (own.map (·.2)) σ H Q)
    (hRR : ∀ D C s' m H', Inv X pins σ H' s' → Q (.ref D) H' → s'.heap.Ns C m → FpOk X pins H' C → compPost (model X.prog X.w) X.A X.xe use Qf (.ref D) C (.ok .next) s') :
    wpAny (model X.prog X.w) X.A (comprehension (.DictComp kx vx [⟨tg, iter, ifs, 0⟩] scope pos) scope X.env pos' newDict false (eval iter X.env) use) Qf X.xe s := by
  have hfree : ∀ y ∈ scope.names, y.2 = .free → ∃ c, X.env.cells.lookup y.1 = some c := fun y hy e => by
    rcases ok.free y hy e with k | k
    · exact I.ok.has _ (.inl k)
    · exact I.ok.has _ (.inr k)
  refine wpAny_comprehension_free (use := use) rfl hs (closure_ok hfree) ok.kind (fun y hy e => by rw [ok.uniq y hy, e])
    (thn (hi.run pins s σ H _ I h) fun xv s1 hx => thn hx fun itv s2 h2 => ?_)
  obtain ⟨it, fp, tn, J, H2, e, I2, T, st2, f2, q⟩ := h2
  subst e
  refine wpAny_newObj_type (newEnv_comp ?_)
  generalize hD : s2.heap.objs.size = D
  have hDn : H2 D = none := I2.hok.fresh (Nat.le_of_eq hD)
  obtain ⟨W, ⟨m0, w0⟩, turn⟩ := q D hDn
  -- the new list
  generalize hs3 : ({ s2 with heap := s2.heap.push { cls := .type "dict", data := .dict #[] } } : Shared) = s3
  have I3 : Inv X pins σ (upd H2 D (.dK [])) s3 := by
    rw [← hs3]
    refine I2.laid (t' := s2.toks) (fun b o e => Heap.get?_push_of_some _ e) (Nat.le_of_eq hD) ?_
    rw [← hD]
    exact dk_empty s2.heap I2.big
  have h3 : s3.heap = s2.heap.push { cls := .type "dict", data := .dict #[] } := by rw [← hs3]
  have sz : ∀ b ∈ fp, b < s2.heap.objs.size := fun b hb => by
    obtain ⟨o, e, _⟩ := T.obj _ _ st2 b hb
    exact Heap.lt_size e
  have f3 : ∀ b ∈ fp, FpOk X pins (upd H2 D (.dK [])) b ∧ b < s3.heap.objs.size := fun b hb => by
    have hlt := sz b hb
    refine ⟨⟨?_, (f2 b hb).2⟩, by rw [h3, Heap.size_push]; exact Nat.lt_succ_of_lt hlt⟩
    rw [upd_ne (by rw [← hD]; exact Nat.ne_of_lt hlt)]
    exact (f2 b hb).1
  have st3 : tn 0 s3.heap := T.keep _ _ _ st2 fun b _ o e => by rw [h3]; exact Heap.get?_push_of_some _ e
  have I4 := block_start I3 ok hN f3
  have pg := hg s3 (upd H2 D (.dK [])) s3.heap.objs.size (cellsFrom (s3.heap.objs.size + 1) scope.names (cloFrom X.env.cells scope.names [])) fp
  have pt := ht s3 (upd H2 D (.dK [])) s3.heap.objs.size (cellsFrom (s3.heap.objs.size + 1) scope.names (cloFrom X.env.cells scope.names [])) fp
  have pk := hk s3 (upd H2 D (.dK [])) s3.heap.objs.size (cellsFrom (s3.heap.objs.size + 1) scope.names (cloFrom X.env.cells scope.names [])) fp
  have pe := he s3 (upd H2 D (.dK [])) s3.heap.objs.size (cellsFrom (s3.heap.objs.size + 1) scope.names (cloFrom X.env.cells scope.names [])) fp
  show codeAny _ _ (.compStart (.DictComp kx vx [⟨tg, iter, ifs, 0⟩] scope pos) 0 (.ref it) (.ref D) (compEnvC scope (cellsFrom (s3.heap.objs.size + 1) scope.names (cloFrom X.env.cells scope.names [])) s3.heap.objs.size X.env)) (compPost (model X.prog X.w) X.A X.xe use Qf (.ref D) s3.heap.objs.size) { s3 with heap := pushCells (s3.heap.push { cls := .type "dict", data := .dict #[] }) scope.names }
  have nfp : ∀ b ∈ fp, (upd H2 D (.dK [])) b = none := fun b hb => (f3 b hb).1.1
  generalize hce : compEnvC scope (cellsFrom (s3.heap.objs.size + 1) scope.names (cloFrom X.env.cells scope.names [])) s3.heap.objs.size X.env = ce at I4 pg pt pk pe ⊢
  have cL : ce.locals = s3.heap.objs.size := by subst hce; rfl
  generalize hH3 : upd H2 D (.dK []) = H3 at I3 I4 pg pt pk pe w0 nfp f3
  generalize hs4 : ({ s3 with heap := pushCells (s3.heap.push { cls := .type "dict", data := .dict #[] }) scope.names } : Shared) = s4 at I4 ⊢
  have st4 : tn 0 s4.heap := T.keep _ _ _ st3 fun b _ o e => by rw [← hs4]; exact pushCells_keeps _ _ _ _ (Heap.get?_push_of_some _ e)
  have stat : ∀ {σ' : L2.St} {H' : Hp} {s' : Shared}, Inv (X.blk s3 H3 scope ce fp) [] σ' H' s' → (∀ b ∈ fp, H' b = none) → ∀ b ∈ fp, FpOk (X.blk s3 H3 scope ce fp) [] H' b := fun {σ' H' s'} I' hn b hb =>
    ⟨hn b hb, (I'.ok.exf b hb).1, I'.ok.exfs b hb, .inl hb, fun x c e => (I'.ok.exf b hb).2 x c e, fun p hp => absurd (show p ∈ ([] : List (Addr × Obj)) ++ [] from hp) (by simp)⟩
  have loop : codeAny (model X.prog X.w) X.A (.compLoop (.DictComp kx vx [⟨tg, iter, ifs, 0⟩] scope pos) 0 (.ref it) (.ref D) ce) (compPost (model X.prog X.w) X.A X.xe use Qf (.ref D) s3.heap.objs.size) s4 := by
    refine compLoop_anyD (fun n s' => ∃ i H', Inv (X.blk s3 H3 scope ce fp) [] (wipe σ (own.map (·.2))) H' s' ∧ tn i s'.heap ∧ (∀ b ∈ fp, H' b = none) ∧ W i n H') ?_ m0 ⟨0, H3, I4, st4, nfp, w0⟩
    rintro n s5 ⟨i, H5, I5, st5, n5, w5⟩
    rcases turn i n H5 w5 with ⟨stop, qq⟩ | ⟨go, Nx, hNx, step⟩
    · have td := T.done (X.blk s3 H3 scope ce fp) rfl rfl rfl hc i [] s5 _ H5 (fun _ _ => False) I5 (stat I5 n5) st5 stop
      refine thnF td fun r s6 ⟨hr, I6⟩ => ?_
      subst hr
      -- back in the def's context
      have I7 : Inv X pins σ H5 s6 := I3.call' (ch := fp) I6.os I6.base I6.hok I6.bare fun b hb => ⟨(f3 b hb).1.2.2.2.1, (f3 b hb).1.2.1, (f3 b hb).1.2.2.2.2.1, (f3 b hb).1.2.2.2.2.2⟩
      have nC : H5 s3.heap.objs.size = none := by
        have z : H5 ce.locals = none := I6.free
        rw [cL] at z
        exact z
      obtain ⟨m, hn, _⟩ := I6.loc
      have hn : s6.heap.Ns ce.locals m := hn
      rw [cL] at hn
      exact hRR D s3.heap.objs.size s6 m H5 I7 qq hn (I3.fpOk (Nat.le_refl _) nC)
    · have ti := T.item (X.blk s3 H3 scope ce fp) rfl rfl rfl hc i [] s5 _ H5 (fun _ _ => False) I5 (stat I5 n5) st5 go
      refine thnF ti fun r s6 ⟨u, hr, h6⟩ => ?_
      subst hr
      refine thnF h6 fun _ s7 ⟨x, H7, I7, r7, y7, st7, n7⟩ => ?_
      have I7' := I7.pinned (stat I7 n7) (T.obj _ _ st7)
      refine thnF (pg.run _ s7 _ H7 x u _ I7' r7 (step x H7 y7)) fun _ s8 ⟨σ8, H8, I8, hw8, q8⟩ => ?_
      refine thnF (pt.run _ s8 σ8 H8 _ I8 q8) fun b s9 ⟨H9, I9, q9⟩ => ?_
      -- the turn's end
      have fin : ∀ {s' : Shared} {H' : Hp}, Inv (X.blk s3 H3 scope ce fp) ([] ++ pinsAt fp s7.heap) σ8 H' s' → Nx H' → ∃ m, m < n ∧ ∃ i H', Inv (X.blk s3 H3 scope ce fp) [] (wipe σ (own.map (·.2))) H' s' ∧ tn i s'.heap ∧ (∀ b ∈ fp, H' b = none) ∧ W i m H' := fun {s' H'} I' nx => by
        obtain ⟨m', hm, w'⟩ := hNx H' nx
        have pin' : ∀ b ∈ fp, ∀ o, s7.heap.get? b = some o → s'.heap.get? b = some o ∧ H' b = none := fun b hb o e =>
          let z := I'.pin (b, o) (List.mem_append_right _ (List.mem_append_right _ (mem_pinsAt hb e)))
          ⟨z.1, z.2.1⟩
        have hl : (wipe σ (own.map (·.2))).length = σ8.length := by rw [← hw8, wipe_length]
        refine ⟨m', hm, i + 1, H', (I'.unpinned (pins := [])).weak hl (fun j v e => ?_), T.keep _ _ _ st7 fun b hb o e => (pin' b hb o e).1, fun b hb => ?_, w'⟩
        · rw [← hw8] at e
          exact (wipe_some e).1
        · obtain ⟨o, e, _⟩ := T.obj _ _ st7 b hb
          exact (pin' b hb o e).2
      cases b with
      | false =>
        simp only [Bool.false_eq_true, if_false] at q9 ⊢
        exact fin I9 q9
      | true =>
        simp only [if_true] at q9 ⊢
        refine thnF (pk.run _ s9 σ8 H9 _ I9 q9) fun z s10 ⟨yk, H10, I10, r10, q10⟩ => ?_
        refine thnF (pe.run _ s10 σ8 H10 _ I10 q10) fun z2 s11 ⟨yv, H11, I11, r11, xs, k, b, ek, nd, hk, hz, hnk, hlz, nx⟩ => ?_
        subst ek
        cases (show z = Value.ref b from r10)
        exact dictSetN (X := X.blk s3 H3 scope ce fp) hu I11 nd hk hz hnk hlz r11 fun s12 I12 => fin I12 nx
  exact codeAny_compStart_dict loop (T.self X.A 0 _ _ _ st4 loop)
/-- as a value -/
theorem pe_dcN {kx vx tg iter : Expr} {ifs : List Expr} {scope : Scope} {own : List (Str × Nat)} {pos : Pos} {wi : TI} {g : TG} {tt : TT} {tk tv : TE} (hu : X.A.units + 64 < cLine) (hc : X.calm = true) (hN : X.N.Nodup) (hi : PI X tg iter wi) (ok : BlkOk X.N X.env.scope scope own)
    (hg : ∀ (s : Shared) (H : Hp) (C : Addr) (cl : List (Str × Addr)) (fp : List Addr), PG (X.blk s H scope (compEnvC scope cl C X.env) fp) tg g) (ht : ∀ (s : Shared) (H : Hp) (C : Addr) (cl : List (Str × Addr)) (fp : List Addr), PTs (X.blk s H scope (compEnvC scope cl C X.env) fp) ifs tt)
    (hk : ∀ (s : Shared) (H : Hp) (C : Addr) (cl : List (Str × Addr)) (fp : List Addr), PE (X.blk s H scope (compEnvC scope cl C X.env) fp) kx tk)
    (he : ∀ (s : Shared) (H : Hp) (C : Addr) (cl : List (Str × Addr)) (fp : List Addr), PE (X.blk s H scope (compEnvC scope cl C X.env) fp) vx tv) (hs : ∀ x, foldedSetIterable iter X.env x = pure x := by intro _; rfl) :
    PE X (.DictComp kx vx [⟨tg, iter, ifs, 0⟩] scope pos) (tDcN X.prog X.w wi g tt tk tv (own.map (·.2))) := by
  refine ⟨fun pins s σ H Q I h => ?_⟩
  rw [arm_eval_DictComp]
  refine dcN_core hu hc hN I hi ok hg ht hk he hs h fun D C s' m H' I' q hn f => ⟨m, hn, fun h'' sb => ?_⟩
  obtain ⟨f0, f1, f2, f3, f4, f5⟩ := f
  exact ⟨.ref D, H', I'.turned (t' := s'.toks) (fun b o hb e => (sb.2 b hb).trans e) f0 f1 f3 f4 f5, rfl, q⟩
end
end Fk

set_option Elab.async false
set_option linter.all false
set_option maxRecDepth 100000
set_option maxHeartbeats 4000000
/-! enumerate of a tuple, of a text -/
namespace Fk
open PySem PySem.Spec PyProof.Rows L2 He
theorem enum_new1 {v : Value} {o : Obj} {H : Heap → Prop} (B : Begins v o H) :
    Meets (Builtin.«enumerate.__new__» ⟨[.type "enumerate", v], []⟩) (fun _ R s => H s.heap ∧
      R (.ok (.ret (.ref (s.heap.push o).objs.size))) { s with heap := (s.heap.push o).push { cls := .type "enumerate", data := .fields #[.none, .bool false, .ref s.heap.objs.size, rawInt 0, .none, .none] } }) :=
  .of_wp fun prog w A R s h => by
    obtain ⟨hp, g, d, tk, os⟩ := s; obtain ⟨h1, h⟩ := h
    have hsub := sub_enumerate
    have q1 : ∀ {A' : Around} {E : Value → Shared → Prop} {Q : Value → Shared → Prop}, Q (.ref hp.objs.size) ⟨hp.push o, g, d, tk, os⟩ → wpAny (model prog w) A' (pyIter v) Q E ⟨hp, g, d, tk, os⟩ :=
      fun q => B.iter prog w _ _ ⟨hp, g, d, tk, os⟩ _ h1 q
    wp_walk using q1
    refine wpAny_stack_any fun st => wpAny_pure ?_
    split
    · rename_i c _ _ _ _ _
      cases (c == Value.type "enumerate")
      · wp_walk using q1
        exact ⟨_, rfl, h⟩
      · wp_walk using q1
        exact ⟨_, rfl, h⟩
    · wp_walk using q1
      exact ⟨_, rfl, h⟩
section
variable {prog : Program} {w : World} {A : Around} {E : Value → Shared → Prop} {s : Shared}
theorem enum_begins1 {v : Value} {o : Obj} {H : Heap → Prop} {Q : Value → Shared → Prop} (B : Begins v o H) (h1 : H s.heap)
    (h : ∀ h', IsEnum h' (s.heap.objs.size + 1) s.heap.objs.size 0 .none → h'.get? s.heap.objs.size = some o → h'.objs.size = s.heap.objs.size + 2 →
      (∀ b o, s.heap.get? b = some o → h'.get? b = some o) → Q (.ref (s.heap.objs.size + 1)) { s with heap := h' }) :
    wpAny (model prog w) A (call (.type "enumerate") [v]) Q E s := by
  refine callType_new F.called_enumerate (by decide) (F.typeCall_enumerate_1 _) (F.newCall_enumerate_1 _) (fun obj => F.args_object_init_2 obj _) F.entry_enumerate_new
    (enum_new1 B) ⟨h1, ?_⟩
  have hz : (s.heap.push o).objs.size = s.heap.objs.size + 1 := Heap.size_push ..
  show _ ∧ _
  rw [hz]
  have he : IsEnum ((s.heap.push o).push { cls := .type "enumerate", data := .fields #[.none, .bool false, .ref s.heap.objs.size, rawInt 0, .none, .none] }) (s.heap.objs.size + 1) s.heap.objs.size 0 .none := by
    have := Heap.get?_push_size (s.heap.push o) (o := { cls := .type "enumerate", data := .fields #[.none, .bool false, .ref s.heap.objs.size, rawInt 0, .none, .none] }) rfl
    rw [hz] at this; exact this
  refine ⟨⟨_, he, rfl⟩, h _ he (Heap.get?_push_of_some _ (Heap.get?_push_size _ B.free)) (by rw [Heap.size_push, hz]) fun b o x => Heap.get?_push_of_some _ (Heap.get?_push_of_some _ x)⟩
end
/-- the tuple at a: place and item, each turn a new pair -/
def ItEt (K : PySem.W.Frag) (a : Addr) (xs : List V) : It :=
  ⟨fun i H => SqT K H a xs ∧ i < xs.length, fun i H v H' => ∃ T x, v = .ref T ∧ H T = none ∧ H' = upd H T (.tup [.int (i : Nat), x]) ∧ xs[i]? = some x, fun i H => SqT K H a xs ∧ xs.length ≤ i⟩
/-- the text z: place and sign -/
def ItEs (z : Str) : It :=
  ⟨fun i _ => i < z.cps.size, fun i H v H' => ∃ T c, v = .ref T ∧ H T = none ∧ H' = upd H T (.tup [.int (i : Nat), .str ⟨#[c]⟩]) ∧ z.cps[i]? = some c, fun i _ => z.cps.size ≤ i⟩
section
variable {P : Program} {w : World} {K : PySem.W.Frag} {elts : List Expr} {kk : Nat} {tpos : Pos}
/-- what both turns share: a pair has come -/
theorem enum_turned {X : Cx} {pins : List (Addr × Obj)} {σ : L2.St} {H : Hp} {s : Shared} {e it : Addr} {i tk : Nat} {u : Value} {x : V} {h' : Heap} {Q : Unit → Shared → Prop} {E : Value → Shared → Prop} (I : Inv X pins σ H s)
    (hf : ∀ b ∈ [e, it], FpOk X pins H b) (hel : e < s.heap.objs.size) (hil : it < s.heap.objs.size) (ru : RelV x u) (ho : IsEnumOut h' e it ((i : Int) + 1) u s.heap.objs.size)
    (hT : h'.get? s.heap.objs.size = some { cls := .type "tuple", data := .seq #[.int i tk, u] }) (hk : ∀ b o, b ≠ e → b ≠ it → s.heap.get? b = some o → h'.get? b = some o)
    (hQ : ∀ h'', Inv X pins σ (upd H s.heap.objs.size (.tup [.int (i : Nat), x])) { s with heap := h'', toks := tk + 1 } → IsEnum h'' e it ((i + 1 : Nat) : Int) u → Heap.SameBut e h' h'' → (∀ b ∈ [e, it], upd H s.heap.objs.size (.tup [.int (i : Nat), x]) b = none) → Q () { s with heap := h'', toks := tk + 1 }) :
    wpAny (model X.prog X.w) X.A (letOwnedTupleGo (.Tuple elts kk tpos) (.ref e) (.ref s.heap.objs.size)) Q E { s with heap := h', toks := tk + 1 } := by
  refine wpAny_letOwnedTupleGo_enum (s := { s with heap := h', toks := tk + 1 }) ho fun h'' he' sb => ?_
  have hT2 : h''.get? s.heap.objs.size = some { cls := .type "tuple", data := .seq #[.int i tk, u] } := (sb.2 _ (Nat.ne_of_gt hel)).trans hT
  have new : ObjOk X.prog X.w (upd H s.heap.objs.size (.tup [.int (i : Nat), x])) h'' s.heap.objs.size (.tup [.int (i : Nat), x]) :=
    ⟨by show 2 ≤ sizeLine; decide, [.int i tk, u], .cons ⟨_, rfl⟩ (.cons ru .nil), ⟨_, hT2, rfl, _, rfl⟩⟩
  have I1 : Inv X pins σ (upd H s.heap.objs.size (.tup [.int (i : Nat), x])) { s with heap := h'', toks := tk + 1 } :=
    I.turnedNew (ch := [e, it]) (fun b ob hb q => (sb.2 b (fun z => hb (by simp [z]))).trans (hk b ob (fun z => hb (by simp [z])) (fun z => hb (by simp [z])) q)) hf (Nat.le_refl _) new
  refine hQ h'' I1 ?_ sb fun b hb => ?_
  · have e1 : ((i + 1 : Nat) : Int) = (i : Int) + 1 := by omega
    rw [e1]; exact he'
  · have hb' : b < s.heap.objs.size := by
      have e' : b = e ∨ b = it := by simpa using hb
      rcases e' with z | z
      · rw [z]; exact hel
      · rw [z]; exact hil
    rw [upd_ne (Nat.ne_of_lt hb')]
    exact (hf b hb).1
theorem turn_Et (a e it : Addr) (xs : List V) (hai : a ≠ it) : Turn P w K (.Tuple elts kk tpos) (ItEt K a xs) [e, it] e (fun i h => (∃ old, IsEnum h e it (i : Nat) old) ∧ h.IsTupleIter it a i ∧ e ≠ it) where
  mem := by simp
  obj := fun i h st b hb => by
    obtain ⟨⟨old, he⟩, ⟨o, ho, hc, hd⟩, hne⟩ := st
    have e' : b = e ∨ b = it := by simpa using hb
    rcases e' with z | z
    · rw [z]; exact ⟨_, he, fun v q => nomatch q⟩
    · rw [z]; exact ⟨o, ho, fun v q => by rw [hd] at q; cases q⟩
  keep := fun i h h' st k => let ⟨⟨old, he⟩, hi, hne⟩ := st; ⟨⟨old, k e (by simp) _ he⟩, hi.at fun o q => k it (by simp) o q, hne⟩
  item := by
    intro X hP hw hK hc i pins s σ H E I hf st hg
    subst hP hw hK
    obtain ⟨⟨old, he⟩, hit, hne⟩ := st
    obtain ⟨hq, hlt⟩ := hg
    obtain ⟨its, rv, p, hz⟩ := I.tuple hq
    have hel : e < s.heap.objs.size := Heap.lt_size he
    have hil : it < s.heap.objs.size := by obtain ⟨_, q, _⟩ := hit; exact Heap.lt_size q
    have hp : s.heap.IsTuple a its.toArray := p
    have hsz : its.toArray.size = xs.length := by rw [rv.length]; simp
    refine wpAny_pyNext_enum_itemD (Draws.tuple (prog := X.prog) (w := X.w) (A := X.A.in1) (I.ok.hd hc) it a hai its.toArray) he ⟨hit, hp⟩ (by rw [hsz]; exact hlt) hne (fun z => ?_) fun u h' tk hu ho hit' hT _ hk => ?_
    · have e' : e = it ∨ e = a := by simpa using z
      rcases e' with z | z
      · exact hne z
      · obtain ⟨o, q, c, _⟩ := hp
        rw [← z, he] at q
        cases q
        exact absurd (Value.type.inj c) (by decide)
    · obtain ⟨x, hx, ru⟩ : ∃ x, xs[i]? = some x ∧ RelV x u := by
        obtain ⟨x, hx⟩ : ∃ x, xs[i]? = some x := ⟨xs[i], List.getElem?_eq_getElem hlt⟩
        obtain ⟨u', hu', ru⟩ := rv.get hx
        have e1 : its[i]? = some u := by simpa using hu
        rw [hu'] at e1
        cases e1
        exact ⟨x, hx, ru⟩
      refine ⟨_, rfl, enum_turned (x := x) I hf hel hil ru ho hT hk fun h'' I1 he' sb hn => ?_⟩
      exact ⟨.ref s.heap.objs.size, _, I1, rfl, ⟨_, x, rfl, I.hok.fresh (Nat.le_refl _), rfl, hx⟩, ⟨⟨u, he'⟩, hit'.1.at fun o q => (sb.2 it (Ne.symm hne)).trans q, hne⟩, hn⟩
  done := by
    intro X hP hw hK hc i pins s σ H E I hf st hg
    subst hP hw hK
    obtain ⟨⟨old, he⟩, hit, hne⟩ := st
    obtain ⟨hq, hx⟩ := hg
    obtain ⟨its, rv, p, hz⟩ := I.tuple hq
    obtain ⟨f0, f1, f2, f3, f4, f5⟩ := hf it (by simp)
    have hp : s.heap.IsTuple a its.toArray := p
    have hsz : its.length = xs.length := rv.length.symm
    have hT : s.TypeIs (.ref e) "enumerate" := ⟨_, he, rfl⟩
    unfold pyNext
    refine wpAny_bind (wpAny_attempt (wpAny_callSpecial?_slot (name := Str.ofString "__next__") hT F.slot_enumerate_next
      (wpAny_call_entry F.slot_enumerate_next hT F.entry_enumerate_next ?_ (F.args_enumerate_next_1 _))))
    show wpAny _ _ (field (.ref e) 2 >>= _) _ _ _
    refine wpAny_bind (wpAny_field he rfl (x := .ref it) rfl ?_)
    refine wpAny_bind (wpAny_nextOf_tuple_end (I.ok.hd hc) hit hp (by simp; omega) fun h' x he' hx' => ?_)
    obtain ⟨o, ho, hc'⟩ := hx'
    refine wpAny_bind (wpAny_isInstance (T := "StopIteration") (b := true) ⟨o, ho, hc'⟩ isSubtype_stop ?_)
    exact wpAny_pure ⟨rfl, I.turned (t' := s.toks) (fun b o hb q => he' b o hb q) f0 f1 f3 f4 f5⟩
  self := fun A i s Q E st h => let ⟨⟨_, he⟩, _⟩ := st; wpAny_pyIter_enum he h
theorem turn_Es (e it : Addr) (z : Str) (t : Tok) : Turn P w K (.Tuple elts kk tpos) (ItEs z) [e, it] e (fun i h => (∃ old, IsEnum h e it (i : Nat) old) ∧ h.IsStrIter it (strIterType z) z t i ∧ e ≠ it) where
  mem := by simp
  obj := fun i h st b hb => by
    obtain ⟨⟨old, he⟩, ⟨o, ho, hc, hd⟩, hne⟩ := st
    have e' : b = e ∨ b = it := by simpa using hb
    rcases e' with z | z
    · rw [z]; exact ⟨_, he, fun v q => nomatch q⟩
    · rw [z]; exact ⟨o, ho, fun v q => by rw [hd] at q; cases q⟩
  keep := fun i h h' st k => let ⟨⟨old, he⟩, ⟨o, ho, r⟩, hne⟩ := st; ⟨⟨old, k e (by simp) _ he⟩, ⟨o, k it (by simp) o ho, r⟩, hne⟩
  item := by
    intro X hP hw hK hc i pins s σ H E I hf st hg
    subst hP hw hK
    obtain ⟨⟨old, he⟩, hit, hne⟩ := st
    have hlt : i < z.cps.size := hg
    have hel : e < s.heap.objs.size := Heap.lt_size he
    have hil : it < s.heap.objs.size := by obtain ⟨_, q, _⟩ := hit; exact Heap.lt_size q
    refine wpAny_pyNext_enum_itemD (Draws.text (prog := X.prog) (w := X.w) (A := X.A.in1) (I.ok.hd hc) it z t) he hit hlt hne (fun q => hne (by simpa using q)) fun u h' tk hu ho hit' hT _ hk => ?_
    obtain ⟨c, tc, hcx, rfl⟩ := hu
    refine ⟨_, rfl, enum_turned (x := .str ⟨#[c]⟩) I hf hel hil ⟨_, rfl⟩ ho hT hk fun h'' I1 he' sb hn => ?_⟩
    obtain ⟨oi, e1, e2⟩ := hit'
    exact ⟨.ref s.heap.objs.size, _, I1, rfl, ⟨_, c, rfl, I.hok.fresh (Nat.le_refl _), rfl, hcx⟩, ⟨⟨_, he'⟩, ⟨oi, (sb.2 it (Ne.symm hne)).trans e1, e2⟩, hne⟩, hn⟩
  done := by
    intro X hP hw hK hc i pins s σ H E I hf st hg
    subst hP hw hK
    obtain ⟨⟨old, he⟩, hit, hne⟩ := st
    obtain ⟨f0, f1, f2, f3, f4, f5⟩ := hf it (by simp)
    have hx : z.cps[i]? = none := Array.getElem?_eq_none hg
    have hT : s.TypeIs (.ref e) "enumerate" := ⟨_, he, rfl⟩
    have fin : ∀ h' (x : Addr), Heap.ExtBut it s.heap h' → (∃ o, h'.get? x = some o ∧ o.cls = .type "StopIteration") → Inv X pins σ H { s with heap := h' } := fun h' x he' _ => I.turned (t' := s.toks) (fun b o hb q => he' b o hb q) f0 f1 f3 f4 f5
    unfold pyNext
    refine wpAny_bind (wpAny_attempt (wpAny_callSpecial?_slot (name := Str.ofString "__next__") hT F.slot_enumerate_next
      (wpAny_call_entry F.slot_enumerate_next hT F.entry_enumerate_next ?_ (F.args_enumerate_next_1 _))))
    show wpAny _ _ (field (.ref e) 2 >>= _) _ _ _
    refine wpAny_bind (wpAny_field he rfl (x := .ref it) rfl ?_)
    cases ha : z.cps.all (· < 128)
    · simp only [strIterType, ha, Bool.false_eq_true, if_false] at hit
      refine wpAny_bind (wpAny_nextOf_wide_end (I.ok.hd hc) hit hx fun h' x he' hx' => ?_)
      obtain ⟨o, ho, hc'⟩ := hx'
      refine wpAny_bind (wpAny_isInstance (T := "StopIteration") (b := true) ⟨o, ho, hc'⟩ isSubtype_stop ?_)
      exact wpAny_pure ⟨rfl, fin h' x he' ⟨o, ho, hc'⟩⟩
    · simp only [strIterType, ha, if_true] at hit
      refine wpAny_bind (wpAny_nextOf_ascii_end (I.ok.hd hc) hit hx fun h' x he' hx' => ?_)
      obtain ⟨o, ho, hc'⟩ := hx'
      refine wpAny_bind (wpAny_isInstance (T := "StopIteration") (b := true) ⟨o, ho, hc'⟩ isSubtype_stop ?_)
      exact wpAny_pure ⟨rfl, fin h' x he' ⟨o, ho, hc'⟩⟩
  self := fun A i s Q E st h => let ⟨⟨_, he⟩, _⟩ := st; wpAny_pyIter_enum he h
end
def iEnumT (K : PySem.W.Frag) (ta : TA) : TI := fun σ H R => ta σ H fun vs H1 => ∃ a xs, vs = [.ref a] ∧ SqT K H1 a xs ∧ R (ItEt K a xs) H1
def iEnumS (ta : TA) : TI := fun σ H R => ta σ H fun vs H1 => ∃ z, vs = [.str z] ∧ R (ItEs z) H1
theorem pi_enumT {X : Cx} {e : Expr} {ta : TA} {p pos tpos : Pos} {elts : List Expr} {kk : Nat} (hg : Gl X "enumerate") (hm : X.mg "enumerate" = none) (ha : PA X [e] ta) (hs : starEach [e] X.env = [(false, eval e X.env)] := by rfl) :
    PI X (.Tuple elts kk tpos) (.Call (.Name "enumerate" p) [e] [] pos) (iEnumT X.K ta) := by
  refine ⟨fun pins s σ H R I h => ?_⟩
  refine Call_ (ld_blt I hg hm boot_enumerate (PyProof.Rows.callWith_type1 (thn (ha.run pos pins s σ H _ I h) fun us s1 ⟨vs, H1, I1, r1, q1⟩ => ?_) hs rfl))
  obtain ⟨a, xs, ex, hq, q⟩ := q1
  subst ex
  obtain ⟨u, rfl, ru⟩ := vals1 r1
  cases (show u = Value.ref a from ru)
  obtain ⟨its, rv, p', hz⟩ := I1.tuple hq
  have hp : s1.heap.IsTuple a its.toArray := p'
  have hal : a < s1.heap.objs.size := by obtain ⟨o, ho, _⟩ := hp; exact Heap.lt_size ho
  refine enum_begins1 (begins_tuple a its.toArray) hp fun h' he hit hsz hk => wpAny_pyIter_enum he ?_
  have I2 : Inv X pins σ H1 { s1 with heap := h' } := I1.kept (t' := s1.toks) hk
  refine ⟨s1.heap.objs.size + 1, [s1.heap.objs.size + 1, s1.heap.objs.size], _, _, H1, rfl, I2, turn_Et a (s1.heap.objs.size + 1) s1.heap.objs.size xs (Nat.ne_of_lt hal), ⟨⟨.none, he⟩, ⟨_, hit, rfl, rfl⟩, Nat.succ_ne_self _⟩, fun b hb => ?_, q⟩
  have e' : b = s1.heap.objs.size + 1 ∨ b = s1.heap.objs.size := by simpa using hb
  have hle : s1.heap.objs.size ≤ b := by
    rcases e' with z | z
    · rw [z]; exact Nat.le_add_right _ _
    · rw [z]; exact Nat.le_refl _
  exact I1.fpOk hle (I1.hok.fresh hle)
theorem pi_enumS {X : Cx} {e : Expr} {ta : TA} {p pos tpos : Pos} {elts : List Expr} {kk : Nat} (hg : Gl X "enumerate") (hm : X.mg "enumerate" = none) (ha : PA X [e] ta) (hs : starEach [e] X.env = [(false, eval e X.env)] := by rfl) :
    PI X (.Tuple elts kk tpos) (.Call (.Name "enumerate" p) [e] [] pos) (iEnumS ta) := by
  refine ⟨fun pins s σ H R I h => ?_⟩
  refine Call_ (ld_blt I hg hm boot_enumerate (PyProof.Rows.callWith_type1 (thn (ha.run pos pins s σ H _ I h) fun us s1 ⟨vs, H1, I1, r1, q1⟩ => ?_) hs rfl))
  obtain ⟨z, ex, q⟩ := q1
  subst ex
  obtain ⟨u, rfl, ru⟩ := vals1 r1
  obtain ⟨t, rfl⟩ := (show ∃ t, u = Value.str z t from ru)
  refine enum_begins1 (begins_text z t) trivial fun h' he hit hsz hk => wpAny_pyIter_enum he ?_
  have I2 : Inv X pins σ H1 { s1 with heap := h' } := I1.kept (t' := s1.toks) hk
  refine ⟨s1.heap.objs.size + 1, [s1.heap.objs.size + 1, s1.heap.objs.size], _, _, H1, rfl, I2, turn_Es (s1.heap.objs.size + 1) s1.heap.objs.size z t, ⟨⟨.none, he⟩, ⟨_, hit, rfl, rfl⟩, Nat.succ_ne_self _⟩, fun b hb => ?_, q⟩
  have e' : b = s1.heap.objs.size + 1 ∨ b = s1.heap.objs.size := by simpa using hb
  have hle : s1.heap.objs.size ≤ b := by
    rcases e' with z | z
    · rw [z]; exact Nat.le_add_right _ _
    · rw [z]; exact Nat.le_refl _
  exact I1.fpOk hle (I1.hok.fresh hle)
/-- for the loops -/
theorem walk_Et {K : PySem.W.Frag} {a : Addr} {xs : List V} : Walk (ItEt K a xs) xs.length (fun H => SqT K H a xs) (YPair (fun i => some (.int (i : Nat))) (fun i => xs[i]?)) := by
  refine ⟨fun i _ hi q => ⟨q, hi⟩, fun _ q => ⟨q, Nat.le_refl _⟩, fun i H v H' _ q y => ?_⟩
  obtain ⟨T, x, h1, h2, h3, h4⟩ := y
  exact ⟨T, .int (i : Nat), x, h1, h2, h3, rfl, h4⟩
theorem walk_Es {z : Str} : Walk (ItEs z) z.cps.size (fun _ => True) (YPair (fun i => some (.int (i : Nat))) (fun i => z.cps[i]?.map fun c => V.str ⟨#[c]⟩)) := by
  refine ⟨fun i _ hi q => hi, fun _ q => Nat.le_refl _, fun i H v H' _ q y => ?_⟩
  obtain ⟨T, c, h1, h2, h3, h4⟩ := y
  exact ⟨T, .int (i : Nat), .str ⟨#[c]⟩, h1, h2, h3, rfl, by show z.cps[i]?.map _ = _; rw [h4]; rfl⟩
theorem walk_N {P : Program} {w : World} {d : Addr} {o : Obj} {xs : List (D × Addr × V)} : Walk (ItN P w d o xs) xs.length (fun H => H d = some (.frz o (NdO P w d xs))) (fun i H x H' => H' = H ∧ ∃ k q v, xs[i]? = some (k, q, v) ∧ x = .ref q) :=
  ⟨fun _ _ hi q => ⟨q, hi⟩, fun _ q => ⟨q, Nat.le_refl _⟩, fun _ _ _ _ _ _ y => y⟩
theorem walk_I {P : Program} {w : World} {d : Addr} {o : Obj} {xs : List (D × Addr × V)} : Walk (ItI P w d o xs) xs.length (fun H => H d = some (.frz o (NdO P w d xs))) (fun i H x H' => ∃ T k q v, xs[i]? = some (k, q, v) ∧ x = .ref T ∧ H T = none ∧ H' = upd H T (.tup [.ref q, v])) :=
  ⟨fun _ _ hi q => ⟨q, hi⟩, fun _ q => ⟨q, Nat.le_refl _⟩, fun _ _ _ _ _ _ y => y⟩
end Fk

set_option Elab.async false
set_option linter.all false
set_option maxRecDepth 100000
set_option maxHeartbeats 4000000
/-! set of a list of whole numbers (the layer's set of a tuple, turned to a list) -/
namespace Fk
open PySem PySem.Spec PyProof.Rows L2 He
section
variable {P : Program} {w : World} {A : Around} {E : Value → Shared → Prop} {s : Shared}
set_option maxHeartbeats 6400000 in
theorem set_listI {l : Addr} {items : Array Value} (ns : List Int) {Q : Value → Shared → Prop} (hh : A.handled = none) (hl : s.heap.IsList l items) (hit : IntsAre items.toList ns) (hb : ns.length + 1 < scanBound)
    (h : ∀ (h' : Heap) (tk c : Nat), SetR w h' s.heap.objs.size (fun j => decide (j ∈ ns)) c → c ≤ ns.length → (∀ b o, s.heap.get? b = some o → h'.get? b = some o) → Q (.ref s.heap.objs.size) { s with heap := h', toks := tk }) :
    wpAny (model P w) A (call (.type "set") [.ref l]) Q E s := by
  have hisz : items.size = ns.length := by
    have q := IntsAre.length hit
    rw [Array.length_toList] at q
    exact q
  obtain ⟨c, tl, hmro⟩ := F.called_set.mro
  have hmade := F.called_set.made
  have hsub := F.called_set.sub
  refine wpAny_call (codeAny_of_tree ?_)
  show wpAny _ _ (callAny (.type "set") _) _ _ _
  refine wpAny_pure ⟨Code.quiet_builtin _ (by decide +kernel), codeAny_builtin F.entry_type_call ?_⟩
  rw [Around.under_plain (weight_type_call_type "set" [.ref l] []) rfl]
  have h1 := F.called_set.notType
  have h2 := F.called_set.canCreate
  have hct := F.typeCall_set_1 (.ref l)
  repeat (any_goals (first | assumption | wp_step))

  refine codeAny_mono (code_set_led1 (.ref l) (E := E) (Q₁ := fun obj s₁ => obj = .ref s.heap.objs.size ∧ s₁ = { s with heap := s.heap.push { cls := .type "set", dict := none, data := .set #[] 0 (.fresh 0 0 (!w.params.followText "set-order")) } }) ⟨rfl, rfl⟩) fun r s₁ hr => ?_
  cases r with
  | error e => exact hr
  | ok fl =>
    cases fl with
    | ret obj =>
      obtain ⟨rfl, rfl⟩ := hr
      have hS : (s.heap.push { cls := .type "set", dict := none, data := .set #[] 0 (.fresh 0 0 (!w.params.followText "set-order")) }).get? s.heap.objs.size = some { cls := .type "set", dict := none, data := .set #[] 0 (.fresh 0 0 (!w.params.followText "set-order")) } := Heap.get?_push_size _ rfl
      have hT : Shared.TypeIs { s with heap := s.heap.push { cls := .type "set", dict := none, data := .set #[] 0 (.fresh 0 0 (!w.params.followText "set-order")) } } (.ref s.heap.objs.size) "set" := ⟨_, hS, rfl⟩
      have hli := F.called_set.init.lookup
      have hbi := F.called_set.init.bind (.ref s.heap.objs.size)
      repeat (any_goals (first | assumption | wp_step))

      refine codeAny_mono (codeAny_call_builtin (R := wants (fun r s₂ => r = .none ∧ ∃ h' tk c, s₂ = { s with heap := h', toks := tk } ∧ SetR w h' s.heap.objs.size (fun j => decide (j ∈ ns)) c ∧ c ≤ ns.length ∧
          (∀ b o, s.heap.get? b = some o → h'.get? b = some o)) E) F.called_set.init.plain F.entry_set_init (check_set_init_1 hT ?_)) fun r₂ s₂ hr₂ => ?_
      · obtain ⟨ol, hol, hcl, nl, hdl⟩ := hl
        obtain ⟨ocls, odict, odata, oslots⟩ := ol
        simp only at hcl hdl
        subst hcl; subst hdl
        have hol' : (s.heap.push { cls := .type "set", dict := none, data := .set #[] 0 (.fresh 0 0 (!w.params.followText "set-order")) }).get? l = some { cls := .type "list", dict := odict, data := .seq items nl, slots := oslots } := Heap.get?_push_of_some _ hol
        have hsls := PySem.F.sub_list_set
        have hslf := PySem.F.sub_list_frozenset
        have hne : (Value.type "list" == Value.type "dict") = false := by decide
        have hl1 : (s.heap.push { cls := .type "set", dict := none, data := .set #[] 0 (.fresh 0 0 (!w.params.followText "set-order")) }).IsList l items := ⟨_, hol', rfl, nl, rfl⟩
        unfold Builtin.«set.__init__» noKeywords Builtin.Frozenset.updateFrom
        generalize hPI : pyIter = PI
        wp_walk
        subst hPI

        refine wpAny_pyIter_list hl1 ?_
        refine wpAny_bind (wpAny_runValue ?_)
        have hlS : l < s.heap.objs.size := Heap.lt_size hol
        have hh3 : A.in1.in1.in1.handled = none := by simp [hh]
        have hz1 : (s.heap.push { cls := .type "set", dict := none, data := .set #[] 0 (.fresh 0 0 (!w.params.followText "set-order")) }).objs.size = s.heap.objs.size + 1 := Heap.size_push ..
        have hneI : l ≠ (s.heap.push { cls := .type "set", dict := none, data := .set #[] 0 (.fresh 0 0 (!w.params.followText "set-order")) }).objs.size := by
          rw [Heap.size_push]; exact Nat.ne_of_lt (Nat.lt_succ_of_lt hlS)
        have hSf : s.heap.objs.size ∉ [(s.heap.push { cls := .type "set", dict := none, data := .set #[] 0 (.fresh 0 0 (!w.params.followText "set-order")) }).objs.size, l] := by
          rw [Heap.size_push]; simp only [List.mem_cons, List.mem_singleton, List.not_mem_nil, or_false, not_or]
          exact ⟨Nat.ne_of_lt (Nat.lt_succ_self _), Nat.ne_of_gt hlS⟩
        have hval : ∀ (i : Nat) (v : Value), items[i]? = some v → ∃ k t, ns[i]? = some k ∧ v = .int k t := fun i v hv => by
          have hi : i < ns.length := by rw [← hisz]; exact (Array.getElem?_eq_some_iff.mp hv).1
          obtain ⟨t, e⟩ := PyProof.Rows.IntsAre.int_at hit i v (by rw [Array.getElem?_toList]; exact hv)
          refine ⟨ns[i], t, List.getElem?_eq_getElem hi, ?_⟩
          rw [e, List.getD_eq_getElem?_getD, List.getElem?_eq_getElem hi] <;> rfl
        refine set_update_ints ((Walks.list hh3 _ l hneI items).toS) s.heap.objs.size
          hSf ns hisz hb hval (items.size - 0) 0 _ (by omega) (Nat.zero_le _)
          ⟨⟨_, Heap.get?_push_size _ rfl, rfl, rfl⟩, (hl1.push _)⟩ ?hS0 ?hR
        case hS0 =>
          have hget : ((s.heap.push { cls := .type "set", dict := none, data := .set #[] 0 (.fresh 0 0 (!w.params.followText "set-order")) }).push { cls := .type "list_iterator", data := .fields #[.ref l, .int 0 0] }).get? s.heap.objs.size
              = some { cls := .type "set", dict := none, data := .set #[] 0 (.fresh 0 0 (!w.params.followText "set-order")) } := Heap.get?_push_of_some _ hS
          exact ⟨0, Nat.le_refl 0, setR_new_at hget⟩
        case hR =>
          intro s' c' hm hc' hS'
          obtain ⟨h', g2, d', tk', os'⟩ := s'
          have eg : g2 = s.gens := hm.gens
          have ed : d' = s.drawn := hm.drawn
          have eo : os' = s.os := hm.os
          subst eg; subst ed; subst eo
          show wpAny _ _ _ _ _ _
          refine wpAny_pure ?_
          show wpAny _ _ (ret Value.none) _ _ _
          rw [hisz] at hc'
          refine wpAny_pure ⟨rfl, h', tk', c', rfl, hS', hc', fun b o e => ?_⟩
          have hb0 : b < s.heap.objs.size := Heap.lt_size e
          have hb1 : b ≠ s.heap.objs.size := Nat.ne_of_lt hb0
          have hb2 : b ≠ (s.heap.push { cls := .type "set", dict := none, data := .set #[] 0 (.fresh 0 0 (!w.params.followText "set-order")) }).objs.size := by
            rw [Heap.size_push]; exact Nat.ne_of_lt (Nat.lt_succ_of_lt hb0)
          exact hm.heap b o (by simp only [List.mem_cons, List.mem_singleton, List.not_mem_nil, or_false, not_or]; exact ⟨hb1, hb2⟩) (Heap.get?_push_of_some _ (Heap.get?_push_of_some _ e))

      · cases r₂ with
        | error e => exact hr₂
        | ok fl₂ =>
          cases fl₂ with
          | ret r =>
            obtain ⟨rfl, h', tk, c', rfl, hS', hc', hk'⟩ := hr₂
            repeat (any_goals (first | assumption | wp_step))
            exact h _ _ _ hS' hc' hk'
          | _ => exact hr₂.elim
    | _ => exact hr.elim

end
section
variable {X : Cx}
theorem cr_setListI (hc : X.calm = true) : CallR X (.type "set") (fun ws H Q => ∃ (a : Addr) (ns : List Int), ws = [V.ref a] ∧ SqL X.K H a (ns.map V.int) ∧ ns.length ≤ 1000 ∧ ∀ p c, c ≤ ns.length → H p = none → Q (.ref p) (upd H p (SetO X.w p (fun j => decide (j ∈ ns)) c))) := by
  intro pins s σ H ws us Q I r h
  obtain ⟨a, ns, rfl, hq, hz, q⟩ := h
  obtain ⟨u, rfl, ru⟩ := vals1 r
  cases (show u = Value.ref a from ru)
  obtain ⟨its, rv, hl, _⟩ := I.list hq
  refine set_listI (items := its.toArray) ns (I.ok.hd hc) hl.isList (by simpa using rv.ints) (by unfold scanBound; omega) fun h' tk c hS hcl hk => ?_
  exact ⟨.ref s.heap.objs.size, _, I.laid (t' := tk) (o := SetO X.w s.heap.objs.size (fun j => decide (j ∈ ns)) c) (fun b o e => hk b o e) (Nat.le_refl _) (setO_new hS), rfl, q _ c hcl (I.hok.fresh (Nat.le_refl _))⟩
end
end Fk

set_option Elab.async false
set_option linter.all false
set_option maxRecDepth 100000
set_option maxHeartbeats 4000000
/-! calls of defs by positional promises -/
namespace Fk
open PySem PySem.Spec PyProof.Rows L2 He
/-- x(e, ..): a def's promise -/
def tFn (sp : Sp) (E : XK) (t : TA) : TE := fun σ H Q => t σ H fun vs H1 => sp vs H1 Q E
def tFnS (sp : Sp) (E : L2.St → XK) (t : TA) : TE := fun σ H Q => t σ H fun vs H1 => sp vs H1 Q (E σ)
section
variable {X : Cx} {CX : CXT} {k : Nat} {f C : Addr} {sp : Sp} {E : XK} {x : Str} {e : Expr} {es : List Expr} {t : TA} {p pos : Pos}
theorem pe_fn (F : FnR X.prog X.w X.K X.mg X.base CX k f sp) (hr : Room k X.A) (hg : Gl X x) (hm : X.mg x = some (.ref f)) (hk : PySem.W.keepIn X.K (.ref f) = true) (hx : Passes CX X E) (ha : PA X (e :: es) t) (hd : (x == ("__debug__" : Str)) = false := by decide)
    (he : starEach (e :: es) X.env = (false, eval e X.env) :: starEach es X.env := by rfl) (hst : (backTo pos (starEach es X.env)).any (·.1) = false := by rfl) : PE X (.Call (.Name x p) (e :: es) [] pos) (tFn sp E t) := by
  refine ⟨fun pins s σ H Q I h => ?_⟩
  refine wpAny_Call_Name_kw (ld_glob I hg hm ?_ hd)
  refine PySem.W.callWith_K (h₀ := X.base) I.ok.mod.kin hk (thn (ha.run pos pins s σ H _ I h) fun us s1 ⟨vs, H1, I1, r, q⟩ => ⟨I1.kIn, ?_⟩) he hst
  exact wpAny_call (run_fnR F hr hx I1 r q)
/-- the same where what is raised is wished for at the slots -/
theorem pe_fnS {E : L2.St → XK} (F : FnR X.prog X.w X.K X.mg X.base CX k f sp) (hr : Room k X.A) (hg : Gl X x) (hm : X.mg x = some (.ref f)) (hk : PySem.W.keepIn X.K (.ref f) = true) (hx : ∀ σ, PassesAt CX X σ (E σ)) (ha : PA X (e :: es) t) (hd : (x == ("__debug__" : Str)) = false := by decide)
    (he : starEach (e :: es) X.env = (false, eval e X.env) :: starEach es X.env := by rfl) (hst : (backTo pos (starEach es X.env)).any (·.1) = false := by rfl) : PE X (.Call (.Name x p) (e :: es) [] pos) (tFnS sp E t) := by
  refine ⟨fun pins s σ H Q I h => ?_⟩
  refine wpAny_Call_Name_kw (ld_glob I hg hm ?_ hd)
  refine PySem.W.callWith_K (h₀ := X.base) I.ok.mod.kin hk (thn (ha.run pos pins s σ H _ I h) fun us s1 ⟨vs, H1, I1, r, q⟩ => ⟨I1.kIn, ?_⟩) he hst
  refine wpAny_call (codeAny_mono (F X.A X.stack s1 H1 us vs Q (E σ) hr I1.env0 r q) fun r s' hq => ?_)
  cases r with
  | error e => exact hx σ pins H1 s1 e s' I1 hq
  | ok fl =>
    cases fl with
    | ret u => exact I1.after hq
    | next => exact False.elim hq
    | brk => exact False.elim hq
    | cont => exact False.elim hq
/-- len(x), x an instance with slots whose class has a __len__ of its own -/
theorem call_lenSl {g : Addr} (hs : PySem.W.findIn X.K (.ref C) "__len__" = some (some (.ref g))) (hf : PySem.W.isFn X.K (.ref g) = true) (F : FnR X.prog X.w X.K X.mg X.base CX k g sp) (hr : Room (k + 1) X.A) (hx : Passes CX X E) :
    CallR X (.builtin "len") (fun xs H Q => ∃ a dx vs, xs = [V.ref a] ∧ SlX.Slt H a C dx vs ∧ sp [.ref a] H (fun z H' => ∃ i, z = .int i ∧ 0 ≤ i ∧ i < 2 ^ 63 ∧ Q z H') E) := by
  intro pins s σ H xs us Q I r h
  obtain ⟨a, dx, vs, rfl, hsl, q⟩ := h
  obtain ⟨u, rfl, ru⟩ := vals1 r
  cases (show u = Value.ref a from ru)
  obtain ⟨sl, od, _, J, _⟩ := SlX.slt_inst I hsl
  obtain ⟨m, hF⟩ := I.fr
  refine PySem.W.len_K hF I.ok.mod.kin J hs hf (wpAny_mono (wpAny_call (SlX.run_at (us := [.ref a]) (ws := [.ref a]) F hr.in1 I.env0.in1 hx I (.cons rfl .nil) q)) (fun w s' z => ?_) fun _ _ x => x)
  obtain ⟨z', H', I', rz, i, ei, h0, h1, qz⟩ := z
  subst ei
  obtain ⟨t, e⟩ := (show ∃ t, w = Value.int i t from rz)
  cases e
  exact ⟨⟨h0, h1⟩, .int i, H', I'.tok _, ⟨_, rfl⟩, qz⟩
end
section
variable {P : Program} {w : World} {K : PySem.W.Frag} {mg : Str → Option Value} {base : Heap}
/-- a def that lets nothing out -/
theorem okR {x qual : Str} {st : Stmt} {f : Addr} {N ps : List Str} {k : Nat} {sp : Sp} (F : ∃ fd, Fun K x qual st f fd) (S : FnScope N ps (defScope st)) (hb : ∀ (kV doc pm : Value) (an : Option Addr) (cdv ct : Value) (us : List Value), us.length = ps.length → bindArgs (PySem.W.fnOf x qual (defArgs st) (defBody st) (defScope st) .none kV doc pm an cdv ct) ⟨us, []⟩ = pure (ps.zip us))
    (len : ∀ vs H Q E, sp vs H Q E → vs.length = ps.length)
    (hbody : ∀ (cdv : Value) (A : Around) (outer : List Env) (s : Shared) (H : Hp) (vs : List V) (Q : VK) (E : XK), Room k (A.deeper (envOfC qual (defScope st) s.heap.objs.size f cdv)) → sp vs H Q E →
      ∃ t, PSs (cxOf CX0 P w K mg base N qual (defScope st) f cdv A outer s H E).nox (defBody st) t ∧ t { nx := fun _ H' => Q .non H', rt := Q } (start N vs) H) : FnR P w K mg base CX0 (k + 1) f sp := by
  obtain ⟨fd, F⟩ := F
  have ok : FnOk P w K mg base CX0 (k + 1) f fd ps sp := F.ok S len hbody
  exact (ok.raw (F.binds hb) .nil).imp fun vs H Q E h => by rw [List.append_nil]; exact h
/-- a def that may raise -/
theorem okRX {x qual : Str} {st : Stmt} {f : Addr} {N ps : List Str} {k : Nat} {sp : Sp} (F : ∃ fd, Fun K x qual st f fd) (S : FnScope N ps (defScope st)) (hb : ∀ (kV doc pm : Value) (an : Option Addr) (cdv ct : Value) (us : List Value), us.length = ps.length → bindArgs (PySem.W.fnOf x qual (defArgs st) (defBody st) (defScope st) .none kV doc pm an cdv ct) ⟨us, []⟩ = pure (ps.zip us))
    (len : ∀ vs H Q E, sp vs H Q E → vs.length = ps.length)
    (hbody : ∀ (cdv : Value) (A : Around) (outer : List Env) (s : Shared) (H : Hp) (vs : List V) (Q : VK) (E : XK), Room k (A.deeper (envOfC qual (defScope st) s.heap.objs.size f cdv)) → sp vs H Q E →
      ∃ t, PSs (cxOf (L2.CX P w) P w K mg base N qual (defScope st) f cdv A outer s H E) (defBody st) t ∧ t { nx := fun _ H' => Q .non H', rt := Q } (start N vs) H) : FnR P w K mg base (L2.CX P w) (k + 1) f sp := by
  obtain ⟨fd, F⟩ := F
  have ok : FnOk P w K mg base (L2.CX P w) (k + 1) f fd ps sp := F.okX S len hbody
  exact (ok.raw (F.binds hb) .nil).imp fun vs H Q E h => by rw [List.append_nil]; exact h
theorem kp_of {x qual : Str} {st : Stmt} {f : Addr} (F : ∃ fd, Fun K x qual st f fd) : PySem.W.keepIn K (.ref f) = true := F.elim fun _ F => F.kp
end
end Fk

set_option Elab.async false
set_option linter.all false
set_option maxRecDepth 100000
set_option maxHeartbeats 4000000
/-! what a reading gives, told of data -/
namespace Fk
open PySem PySem.Spec PyProof.Rows L2 He
open Evl (Ex Ev EvT)

/-! ### texts as lists of signs -/
abbrev Tx := List Nat
def tS (l : Tx) : Str := ⟨l.toArray⟩
def tx (l : Tx) : D := .text (tS l)
theorem tS_cps (l : Tx) : (tS l).cps.toList = l := by simp [tS]
theorem tS_len (l : Tx) : (tS l).length = l.length := by simp [tS, Str.length]
theorem tS_app (a b : Tx) : tS a ++ tS b = tS (a ++ b) := by
  show Str.append (tS a) (tS b) = tS (a ++ b)
  simp [tS, Str.append]
theorem tS_inj {a b : Tx} (h : tS a = tS b) : a = b := by
  have := congrArg (fun s : Str => s.cps.toList) h
  simpa [tS] using this
theorem tx_inj {a b : Tx} (h : tx a = tx b) : a = b := tS_inj (NestedKey.text.inj h)
theorem tS_one (c : Nat) : tS [c] = ⟨#[c]⟩ := rfl

/-! ### expressions -/
def DV (te : TE) (σ : L2.St) (H : Hp) (d : D) : Prop := ∀ H1, Ex H H1 → ∀ Q : VK, (∀ v H2, Ex H1 H2 → Im H2 d v → Q v H2) → te σ H1 Q
def DA (ta : TA) (σ : L2.St) (H : Hp) (ds : List D) : Prop := ∀ H1, Ex H H1 → ∀ Q : List V → Hp → Prop, (∀ vs H2, Ex H1 H2 → ImL H2 ds vs → Q vs H2) → ta σ H1 Q
/-- a new list of data -/
def DL (te : TE) (σ : L2.St) (H : Hp) (ds : List D) : Prop := ∀ H1, Ex H H1 → ∀ Q : VK, (∀ p vs H2, H1 p = none → Ex H1 H2 → H2 p = some (.lst vs) → ImL H2 ds vs → Q (.ref p) H2) → te σ H1 Q
abbrev DB (te : TE) (σ : L2.St) (H : Hp) (b : Bool) : Prop := Ev te σ H (.bl b)
theorem Im.ex {H H' : Hp} {d : D} {v : V} (e : Ex H H') (h : Im H d v) : Im H' d v := Im.ts (TS.ex e) d h
theorem ImL.ex {H H' : Hp} {ds : List D} {vs : List V} (e : Ex H H') (h : ImL H ds vs) : ImL H' ds vs := ImL.ts (TS.ex e) ds h
section
variable {K : PySem.W.Frag} {σ : L2.St} {H H' : Hp} {ta tb te tc : TE} {t u : TT} {tr tl : TA} {d e f : D} {ds es : List D} {v : V} {b : Bool}
theorem DV.mono (x : Ex H H') (h : DV te σ H d) : DV te σ H' d := fun H1 a Q q => h H1 (x.trans a) Q q
theorem DL.mono (x : Ex H H') (h : DL te σ H ds) : DL te σ H' ds := fun H1 a Q q => h H1 (x.trans a) Q q
theorem DV.of (h : Ev te σ H v) (i : Im H d v) : DV te σ H d := fun H1 x Q q => h H1 x Q fun H2 y => q v H2 y (i.ex (x.trans y))
theorem DV.evI {i : Int} (h : DV te σ H (.num i)) : Ev te σ H (.int i) := fun H1 x Q q => h H1 x Q fun v H2 y im => by rw [im.num]; exact q H2 y
theorem DV.evS {x : Str} (h : DV te σ H (.text x)) : Ev te σ H (.str x) := fun H1 y Q q => h H1 y Q fun v H2 z im => by rw [im.text]; exact q H2 z
theorem Ev.dvI {i : Int} (h : Ev te σ H (.int i)) : DV te σ H (.num i) := .of h im_num
theorem Ev.dvS {x : Str} (h : Ev te σ H (.str x)) : DV te σ H (.text x) := .of h im_text
theorem dv_is (h : DV te σ H d) (q : d = e) : DV te σ H e := q ▸ h
theorem dv_var {i : Nat} (im : Im H d v) (h : σ[i]? = some (some v) := by rfl) : DV (tVar i) σ H d := .of (Evl.ev_var h) im
theorem ev_vr {i : Nat} (h : σ[i]? = some (some v) := by rfl) : Ev (tVar i) σ H v := Evl.ev_var h
theorem dv_int {i : Int} : DV (tC (.int i)) σ H (.num i) := .of Evl.ev_c im_num
theorem dv_str {x : Str} : DV (tC (.str x)) σ H (.text x) := .of Evl.ev_c im_text
theorem dv_non : DV (tC .non) σ H .none := .of Evl.ev_c im_none
theorem da_nil : DA tNil σ H [] := fun H1 _ Q q => q [] H1 (Ex.refl _) iml_nil
theorem da_cons (h : DV te σ H d) (r : DA tr σ H ds) : DA (tCons te tr) σ H (d :: ds) := fun H1 x Q q =>
  h H1 x _ fun v H2 y iv => r H2 (x.trans y) _ fun vs H3 z ivs => q (v :: vs) H3 (y.trans z) (iml_cons (iv.ex z) ivs)
theorem da_star (h : DV te σ H (.tup ds)) (r : DA tr σ H es) : DA (StX.tStar K te tr) σ H (ds ++ es) := fun H1 x Q q =>
  h H1 x _ fun v H2 y iv => by
    obtain ⟨a, vs, rfl, ha, hl⟩ := iv.tup
    exact ⟨a, vs, rfl, .inl (SqT.of ha), r H2 (x.trans y) _ fun ws H3 z iws => q (vs ++ ws) H3 (y.trans z) ((hl.ex z).append iws)⟩
theorem dv_tup (h : DA tr σ H ds) (z : ds.length ≤ 1000 := by exact Nat.le_of_ble_eq_true rfl) : DV (tTup tr) σ H (.tup ds) := fun H1 x Q q =>
  h H1 x _ fun vs H2 y ivs => ⟨by rw [ivs.length]; exact Nat.le_trans z (by decide), fun p hp => q _ _ (y.trans (Ex.new hp)) (im_tup upd_same (ivs.ts (TS.new hp)))⟩
theorem dl_lst (h : DA tr σ H ds) (z : ds.length ≤ 1000 := by exact Nat.le_of_ble_eq_true rfl) : DL (tLst tr) σ H ds := fun H1 x Q q =>
  h H1 x _ fun vs H2 y ivs => ⟨by rw [ivs.length]; exact Nat.le_trans z (by decide), fun p hp => q p vs _ (Evl.fresh_back y hp) (y.trans (Ex.new hp)) upd_same (ivs.ts (TS.new hp))⟩
theorem dv_ix {n : Nat} (h : DV ta σ H (.tup ds)) (hi : DV tb σ H (.num (n : Int))) (g : ds[n]? = some d) : DV (tOp (rIxT K) ta tb) σ H d := fun H1 x Q q =>
  h H1 x _ fun v H2 y iv => hi H2 (x.trans y) _ fun w H3 z iw => by
    obtain ⟨a, vs, rfl, ha, hl⟩ := (iv.ex z).tup
    obtain ⟨u, hu, iu⟩ := hl.get g
    exact ⟨a, vs, (n : Int), u, rfl, iw.num, SqT.of ha, atI_nat hu, q u H3 (y.trans z) iu⟩
theorem dv_ixS {l : Tx} {n c : Nat} (h : DV ta σ H (tx l)) (hi : DV tb σ H (.num (n : Int))) (g : l[n]? = some c) (z : l.length ≤ 100000) : DV (tOp rIxS ta tb) σ H (tx [c]) := fun H1 x Q q =>
  h H1 x _ fun v H2 y iv => hi H2 (x.trans y) _ fun w H3 y2 iw =>
    ⟨tS l, (n : Int), c, (iv.ex y2).text, iw.num, by rw [tS_len]; exact Evl.sz_of z, atI_nat (by rw [tS_cps]; exact g), q _ H3 (y.trans y2) im_text⟩
theorem dv_opI {g : Int → Int → Int} {i j : Int} (h : DV ta σ H (.num i)) (h2 : DV tb σ H (.num j)) : DV (tOp (rI0 fun i j => .int (g i j)) ta tb) σ H (.num (g i j)) :=
  Ev.dvI (Evl.ev_op h.evI h2.evI (Evl.rv_I0 (g := fun i j => V.int (g i j))))
theorem dv_opIc {C : Int → Int → Prop} {g : Int → Int → Int} {i j : Int} (h : DV ta σ H (.num i)) (h2 : DV tb σ H (.num j)) (c : C i j) : DV (tOp (rI C fun i j => .int (g i j)) ta tb) σ H (.num (g i j)) :=
  Ev.dvI (Evl.ev_op h.evI h2.evI (Evl.rv_I (g := fun i j => V.int (g i j)) c))
theorem dv_neg {i : Int} (h : DV ta σ H (.num i)) : DV (tUn (rU fun i => .int (-i)) ta) σ H (.num (-i)) := Ev.dvI (Evl.ev_un h.evI Evl.ru_neg)
abbrev rAddS2 : R2 := fun x y H Q => ∃ i j, x = .str i ∧ y = .str j ∧ i.length + j.length ≤ sizeLine ∧ Q (.str (i ++ j)) H
theorem dv_addS {a c : Tx} (h : DV ta σ H (tx a)) (h2 : DV tb σ H (tx c)) (z : a.length + c.length ≤ 100000) : DV (tOp rAddS2 ta tb) σ H (tx (a ++ c)) :=
  Ev.dvS (Evl.ev_op h.evS h2.evS fun H1 _ _ q => ⟨tS a, tS c, rfl, rfl, by rw [tS_len, tS_len]; exact Evl.sz_of z, by rw [tS_app]; exact q H1 (Ex.refl _)⟩)
theorem dv_if {b : Bool} (h : EvT t σ H b) (h1 : b = true → DV ta σ H d) (h2 : b = false → DV tb σ H d) : DV (tIf t ta tb) σ H d := fun H1 x Q q =>
  h H1 x _ fun H2 y => by
    cases b with
    | true => exact h1 rfl H2 (x.trans y) Q fun v H3 z => q v H3 (y.trans z)
    | false => exact h2 rfl H2 (x.trans y) Q fun v H3 z => q v H3 (y.trans z)

/-! ### truth values -/
theorem db_I {g : Int → Int → Bool} {i j : Int} (h : DV ta σ H (.num i)) (h2 : DV tb σ H (.num j)) : DB (tOp (rI0 fun i j => .bl (g i j)) ta tb) σ H (g i j) := Evl.ev_op h.evI h2.evI Evl.rv_I0
theorem dec_intV {i j : Int} : decide (V.int i = V.int j) = decide (i = j) := by by_cases h : i = j <;> simp [h]
theorem dec_strV {i j : Str} : decide (V.str i = V.str j) = decide (i = j) := by by_cases h : i = j <;> simp [h]
theorem dec_tx {a c : Tx} : decide (tS a = tS c) = decide (a = c) := by
  by_cases h : a = c
  · simp [h]
  · have : ¬ tS a = tS c := fun z => h (tS_inj z)
    simp [h, this]
theorem db_eqI {i j : Int} (h : DV ta σ H (.num i)) (h2 : DV tb σ H (.num j)) : DB (tOp rEq ta tb) σ H (decide (i = j)) := Evl.ev_is (Evl.ev_op h.evI h2.evI (Evl.rv_eq rfl)) (by rw [dec_intV])
theorem db_neI {i j : Int} (h : DV ta σ H (.num i)) (h2 : DV tb σ H (.num j)) : DB (tOp rNe ta tb) σ H (!decide (i = j)) := Evl.ev_is (Evl.ev_op h.evI h2.evI (Evl.rv_ne rfl)) (by rw [dec_intV])
theorem db_eqS {a c : Tx} (h : DV ta σ H (tx a)) (h2 : DV tb σ H (tx c)) : DB (tOp rEq ta tb) σ H (decide (a = c)) := Evl.ev_is (Evl.ev_op h.evS h2.evS (Evl.rv_eq rfl)) (by rw [dec_strV, dec_tx])
theorem db_neS {a c : Tx} (h : DV ta σ H (tx a)) (h2 : DV tb σ H (tx c)) : DB (tOp rNe ta tb) σ H (!decide (a = c)) := Evl.ev_is (Evl.ev_op h.evS h2.evS (Evl.rv_ne rfl)) (by rw [dec_strV, dec_tx])
theorem db_eqT {x y : Str} (h : DV ta σ H (.text x)) (h2 : DV tb σ H (.text y)) : DB (tOp rEq ta tb) σ H (decide (x = y)) := Evl.ev_is (Evl.ev_op h.evS h2.evS (Evl.rv_eq rfl)) (by rw [dec_strV])
theorem db_is (h : DB te σ H b) {c : Bool} (q : b = c) : DB te σ H c := q ▸ h
theorem dt_is (h : EvT t σ H b) {c : Bool} (q : b = c) : EvT t σ H c := q ▸ h
theorem dt_t (h : DB te σ H b) : EvT (tTest te) σ H b := Evl.et_test h
theorem dt_b (h : DB te σ H b) : EvT (tB te) σ H b := Evl.et_B h
/-- a datum as a flat value -/
def flatD : D → V
  | .none => .non
  | .num i => .int i
  | .text x => .str x
  | .tup _ => .non
def isFlat : D → Bool
  | .tup _ => false
  | _ => true
theorem im_flat {H : Hp} {d : D} {v : V} (h : Im H d v) (f : isFlat d = true) : v = flatD d := by
  cases d with
  | none => exact h.non
  | num i => exact h.num
  | text x => exact h.text
  | tup ks => cases f
theorem flat_inj {d e : D} (f : isFlat d = true) (g : isFlat e = true) (h : flatD d = flatD e) : d = e := by
  cases d <;> cases e <;> simp_all [flatD, isFlat]
theorem iml_flat {H : Hp} : ∀ {ds : List D} {vs : List V}, ImL H ds vs → ds.all isFlat = true → vs = ds.map flatD
  | [], _, h, _ => h.nil
  | d :: ds, _, h, f => by
    obtain ⟨v, r, rfl, hv, hr⟩ := h.cons
    simp only [List.all_cons, Bool.and_eq_true] at f
    rw [im_flat hv f.1, iml_flat hr f.2]
    rfl
end
end Fk

set_option Elab.async false
set_option linter.all false
set_option maxRecDepth 100000
set_option maxHeartbeats 4000000
/-! more readings told of data: in, len, isinstance, all, comprehensions, statements, loops, promises -/
namespace Fk
open PySem PySem.Spec PyProof.Rows L2 He
open Evl (Ex Ev EvT EvL)
theorem eqV_flat {a b : D} (f : isFlat a = true) (g : isFlat b = true) : eqV (flatD a) (flatD b) = decide (a = b) := by
  cases a with
  | none =>
    cases b with
    | tup _ => cases g
    | none => rfl
    | _ => simp [eqV, flatD]
  | num i =>
    cases b with
    | num j =>
      show (i == j) = decide (NestedKey.num i = NestedKey.num j)
      by_cases h : i = j
      · subst h; simp
      · have : ¬ NestedKey.num i = NestedKey.num j := fun z => h (NestedKey.num.inj z)
        simp [h, this]
    | tup _ => cases g
    | _ => simp [eqV, flatD]
  | text x =>
    cases b with
    | text y =>
      show (x == y) = decide (NestedKey.text x = NestedKey.text y)
      by_cases h : x = y
      · subst h; simp
      · have : ¬ NestedKey.text x = NestedKey.text y := fun z => h (NestedKey.text.inj z)
        rw [decide_eq_false this]
        exact beq_eq_false_iff_ne.mpr h
    | tup _ => cases g
    | _ => simp [eqV, flatD]
  | tup _ => cases f
theorem inV_flat {d : D} (f : isFlat d = true) : ∀ {ds : List D}, ds.all isFlat = true → inV (flatD d) (ds.map flatD) = decide (d ∈ ds)
  | [], _ => by simp [inV]
  | e :: r, g => by
    simp only [List.all_cons, Bool.and_eq_true] at g
    have ih := inV_flat f (ds := r) g.2
    unfold inV at ih ⊢
    rw [List.map_cons, List.any_cons, ih, eqV_flat g.1 f]
    by_cases h : e = d
    · subst h; simp
    · have h' : ¬ d = e := fun z => h z.symm
      simp [h, h']
theorem flatD_flat {d : D} (f : isFlat d = true) : flatV (flatD d) = true := by cases d <;> first | rfl | cases f
theorem all_flatV : ∀ {ds : List D}, ds.all isFlat = true → (ds.map flatD).all flatV = true
  | [], _ => rfl
  | e :: r, g => by
    simp only [List.all_cons, Bool.and_eq_true] at g
    rw [List.map_cons, List.all_cons, flatD_flat g.1, all_flatV g.2]
    rfl
section
variable {K : PySem.W.Frag} {σ : L2.St} {H H' : Hp} {ta tb te tc : TE} {t u : TT} {tr tl : TA} {d e f : D} {ds es : List D} {v : V} {b : Bool}
theorem db_in (h : DV ta σ H d) (h2 : DV tb σ H (.tup ds)) (f : isFlat d = true) (g : ds.all isFlat = true) : DB (tOp (rIn K false) ta tb) σ H (decide (d ∈ ds)) := fun H1 x Q q =>
  h H1 x _ fun v H2 y iv => h2 H2 (x.trans y) _ fun w H3 z iw => by
    obtain ⟨a, vs, rfl, ha, hl⟩ := iw.tup
    have ev := im_flat iv f
    have es := iml_flat hl g
    subst ev es
    refine ⟨a, _, rfl, .inr (SqT.of ha), flatD_flat f, all_flatV g, ?_⟩
    have e : (if false = true then !inV (flatD d) (ds.map flatD) else inV (flatD d) (ds.map flatD)) = decide (d ∈ ds) := by
      rw [if_neg Bool.false_ne_true, inV_flat f g]
    show Q (.bl (if false = true then _ else _)) H3
    rw [e]
    exact q H3 (y.trans z)
abbrev rLenQ (K : PySem.W.Frag) : List V → Hp → VK → Prop := fun xs H Q => ∃ p ys, xs = [.ref p] ∧ (SqL K H p ys ∨ SqT K H p ys) ∧ Q (.int ys.length) H
abbrev rLenZ : List V → Hp → VK → Prop := fun xs H Q => ∃ z, xs = [.str z] ∧ z.length ≤ sizeLine ∧ Q (.int z.length) H
theorem dv_lenT (h : DV ta σ H (.tup ds)) : DV (tCB (rLenQ K) (tCons ta tNil)) σ H (.num (ds.length : Int)) := fun H1 x Q q =>
  h H1 x _ fun v H2 y iv => by
    obtain ⟨a, vs, rfl, ha, hl⟩ := iv.tup
    refine ⟨a, vs, rfl, .inr (SqT.of ha), ?_⟩
    rw [hl.length]
    exact q _ H2 y im_num
theorem dv_lenS {l : Tx} (h : DV ta σ H (tx l)) (z : l.length ≤ 100000) : DV (tCB rLenZ (tCons ta tNil)) σ H (.num (l.length : Int)) := fun H1 x Q q =>
  h H1 x _ fun v H2 y iv => ⟨tS l, by rw [iv.text], by rw [tS_len]; exact Evl.sz_of z, by rw [tS_len]; exact q _ H2 y im_num⟩
theorem db_isi {x c : V} {ty cu : Value} (h : Ev ta σ H x) (hc : ClsV c cu) (ht : ∀ H1, Ex H H1 → TyX K H1 x ty) (k : PySem.W.kitOne K ty cu = some b) : DB (tCB (rIsi K) (tCons ta (tCons (tC c) tNil))) σ H b := fun H1 y Q q =>
  h H1 y _ fun H2 z => ⟨x, c, ty, cu, b, rfl, hc, ht H2 (y.trans z), k, q H2 z⟩
theorem db_all {bs : List Bool} (h : EvL te σ H (bs.map V.bl)) : DB (tCB (rAll K) (tCons te tNil)) σ H (bs.all id) := fun H1 x Q q =>
  h H1 x _ fun p H2 _ y hp => ⟨p, bs, rfl, SqL.of hp, q H2 y⟩
theorem dv_intT {i : Int} (h : DV ta σ H (.num i)) : DV (tCB (fun xs H Q => (∃ i, xs = [.int i] ∧ Q (.int i) H) ∨ ∃ k, xs = [.bl k] ∧ Q (.int (if k then 1 else 0)) H) (tCons ta tNil)) σ H (.num i) := fun H1 x Q q =>
  h H1 x _ fun v H2 y iv => .inl ⟨i, by rw [iv.num], q _ H2 y im_num⟩
/-- a slot of an instance -/
theorem ev_sl {a C dx p : Addr} {vs : List (Option V)} {f : Str} {i : Nat} (h : Ev ta σ H (.ref a)) (s : SlX.Slt H a C dx vs) (c : SlX.SCls K C) (k : SlX.Slot1 K C f p i) (g : vs[i]? = some (some v)) : Ev (SlX.tSl K ta f) σ H v := fun H1 x Q q =>
  h H1 x _ fun H2 y => ⟨a, C, dx, p, vs, i, v, rfl, s.imp (fun z => ⟨(x.trans y) _ _ z.1, z.2⟩) (fun z => ⟨(x.trans y) _ _ z.1, (x.trans y) _ _ z.2⟩), c, k, g, q H2 y⟩
theorem slt_ex {a C dx : Addr} {vs : List (Option V)} (x : Ex H H') (s : SlX.Slt H a C dx vs) : SlX.Slt H' a C dx vs := s.imp (fun z => ⟨x _ _ z.1, z.2⟩) (fun z => ⟨x _ _ z.1, x _ _ z.2⟩)
end

/-! ### any kind of thing told of a value -/
def EvM {α : Type} (M : Hp → α → V → Prop) (te : TE) (σ : L2.St) (H : Hp) (a : α) : Prop := ∀ H1, Ex H H1 → ∀ Q : VK, (∀ v H2, Ex H1 H2 → M H2 a v → Q v H2) → te σ H1 Q
abbrev IsB : Hp → Bool → V → Prop := fun _ b v => v = .bl b
theorem DV.m {te : TE} {σ : L2.St} {H : Hp} {d : D} (h : DV te σ H d) : EvM Im te σ H d := h
theorem db_m {te : TE} {σ : L2.St} {H : Hp} {b : Bool} (h : DB te σ H b) : EvM IsB te σ H b := fun H1 x Q q => h H1 x Q fun H2 y => q _ H2 y rfl
def TsMono {α : Type} (M : Hp → α → V → Prop) : Prop := ∀ H H' a v, TS H H' → M H a v → M H' a v
theorem im_mono : TsMono Im := fun _ _ d _ t h => Im.ts t d h
theorem isB_mono : TsMono IsB := fun _ _ _ _ _ h => h
theorem iml_paired {H : Hp} : ∀ {ds : List D} {vs : List V}, Paired (Im H) ds vs → ImL H ds vs
  | _, _, .nil => iml_nil
  | _, _, .cons h t => iml_cons h (iml_paired t)
theorem isB_paired {H : Hp} : ∀ {bs : List Bool} {vs : List V}, Paired (IsB H) bs vs → vs = bs.map V.bl
  | _, _, .nil => rfl
  | _, _, .cons (a := b) h t => by rw [isB_paired t, show _ = V.bl b from h]; rfl
theorem paired_snoc {α β : Type} {R : α → β → Prop} {as : List α} {bs : List β} {a : α} {b : β} (h : Paired R as bs) (g : R a b) : Paired R (as ++ [a]) (bs ++ [b]) := Paired.snoc h g
theorem take_snoc {β : Type} {l : List β} {i : Nat} {b : β} (h : l[i]? = some b) : l.take (i + 1) = l.take i ++ [b] := by rw [List.take_add_one, h]; rfl
section
variable {α β : Type} {M : Hp → α → V → Prop} {K : PySem.W.Frag} {σ : L2.St} {H : Hp} {te tz : TE} {tt : TT}
/-- what a comprehension over a walk makes -/
theorem lc_gen {J : It} {n : Nat} {G : Hp → Prop} {Y : Nat → Hp → V → Hp → Prop} (w : Walk J n G Y) (mono : TsMono M) (items : List β) (hn : items.length = n) (hz : n ≤ 1000000) (p : β → Bool) (f : β → α) {g : TG} {vs : List Nat} {H1 : Hp} {Dl : Addr} {Qd : Hp → Prop}
    (hD : H1 Dl = none) (hG : ∀ H', Ex H1 H' → G H')
    (step : ∀ i b H' x H'', items[i]? = some b → Ex H1 H' → Y i H' x H'' → Ex H' H'' ∧ ∃ σ2, (∀ Q : St → Hp → Prop, Q σ2 H'' → g x (wipe σ vs) H'' Q) ∧ wipe σ2 vs = wipe σ vs ∧ EvT tt σ2 H'' (p b) ∧ (p b = true → EvM M te σ2 H'' (f b)))
    (hd : ∀ H' us, Ex H1 H' → H' Dl = some (.lst us) → Paired (M H') ((items.filter p).map f) us → Qd H') :
    ∃ W : Nat → Nat → Hp → Prop, (∃ m, W 0 m (upd H1 Dl (.lst []))) ∧ ∀ i m H, W i m H →
      (J.stop i H ∧ Qd H) ∨ (J.go i H ∧ ∃ Nx : Hp → Prop, (∀ H', Nx H' → ∃ m', m' < m ∧ W (i + 1) m' H') ∧ ∀ x H', J.yld i H x H' → g x (wipe σ vs) H' fun σ2 H2 => wipe σ2 vs = wipe σ vs ∧ tt σ2 H2 fun b H3 =>
        if b = true then te σ2 H3 fun y H4 => ∃ acc, H4 Dl = some (.lst acc) ∧ acc.length < sizeLine ∧ Nx (upd H4 Dl (.lst (acc ++ [y]))) else Nx H3) := by
  refine lc_it w (fun i H' => Ex H1 H' ∧ ∃ us, H' Dl = some (.lst us) ∧ Paired (M H') (((items.take i).filter p).map f) us) ⟨Ex.new hD, [], upd_same, .nil⟩ (fun i H' _ q => hG H' q.1) ?_ ?_
  · rintro i x H' H'' hi ⟨e1, us, hus, pr⟩ y
    obtain ⟨b, hb⟩ : ∃ b, items[i]? = some b := ⟨items[i]'(by omega), List.getElem?_eq_getElem _⟩
    obtain ⟨e2, σ2, hg, hw, ht, he⟩ := step i b H' x H'' hb e1 y
    refine hg _ ⟨hw, ?_⟩
    have len : us.length ≤ i := by
      rw [← Paired.length pr, List.length_map]
      exact Nat.le_trans (List.length_filter_le _ _) (by rw [List.length_take]; omega)
    refine ht H'' (Ex.refl _) _ fun H3 e3 => ?_
    have pr3 : Paired (M H3) (((items.take i).filter p).map f) us := Paired.mapP pr fun a v m => mono _ _ _ _ (TS.ex (e2.trans e3)) m
    have hu3 : H3 Dl = some (.lst us) := e3 _ _ (e2 _ _ hus)
    cases hp : p b with
    | false =>
      rw [if_neg Bool.false_ne_true]
      refine ⟨e1.trans (e2.trans e3), us, hu3, ?_⟩
      rw [take_snoc hb, List.filter_append, List.filter_cons, hp]
      simpa using pr3
    | true =>
      rw [if_pos rfl]
      refine he hp H3 e3 _ fun v H4 e4 mv => ⟨us, e4 _ _ hu3, Nat.lt_of_le_of_lt (show us.length ≤ 1000000 by omega) (by decide), ?_⟩
      have t4 : TS H4 (upd H4 Dl (.lst (us ++ [v]))) := TS.mut (e4 _ _ hu3) (fun _ z => nomatch z)
      refine ⟨Evl.Ex.mut (e1.trans (e2.trans (e3.trans e4))) hD, us ++ [v], upd_same, ?_⟩
      rw [take_snoc hb, List.filter_append, List.filter_cons, hp]
      simp only [if_pos, List.filter_nil, List.map_append, List.map_cons, List.map_nil]
      exact Paired.snoc (Paired.mapP pr3 fun a u m => mono _ _ _ _ ((TS.ex e4).trans t4) m) (mono _ _ _ _ t4 mv)
  · rintro H' ⟨e1, us, hus, pr⟩
    rw [List.take_of_length_le (by omega)] at pr
    exact hd H' us e1 hus pr
/-- a new list of things -/
def ELM (M : Hp → α → V → Prop) (te : TE) (σ : L2.St) (H : Hp) (as : List α) : Prop := ∀ H1, Ex H H1 → ∀ Q : VK, (∀ p us H2, H1 p = none → Ex H1 H2 → H2 p = some (.lst us) → Paired (M H2) as us → Q (.ref p) H2) → te σ H1 Q
theorem ELM.dl {ds : List D} (h : ELM Im te σ H ds) : DL te σ H ds := fun H1 x Q q => h H1 x Q fun p us H2 a b c d => q p us H2 a b c (iml_paired d)
theorem ELM.bl {bs : List Bool} (h : ELM IsB te σ H bs) : EvL te σ H (bs.map V.bl) := fun H1 x Q q => h H1 x Q fun p us H2 a b c d => q p H2 a b (by rw [← isB_paired d]; exact c)
/-- [.. for c in text if ..] -/
theorem lc_text {z : Tx} {j : Nat} {vs : List Nat} (mono : TsMono M) (p : Nat → Bool) (f : Nat → α) (h : DV tz σ H (tx z)) (hz : z.length ≤ 100000) (hw : ∀ x, wipe ((wipe σ vs).set j (some x)) vs = wipe σ vs)
    (ht : ∀ c H1, c ∈ z → Ex H H1 → EvT tt ((wipe σ vs).set j (some (.str ⟨#[c]⟩))) H1 (p c)) (he : ∀ c H1, c ∈ z → Ex H H1 → p c = true → EvM M te ((wipe σ vs).set j (some (.str ⟨#[c]⟩))) H1 (f c)) :
    ELM M (tLc (iStr tz) (gName j) tt te vs) σ H ((z.filter p).map f) := fun H0 e Q q => h H0 e _ fun v H1 e1 iv => ⟨tS z, iv.text, fun Dl hD => by
  have sz : (tS z).cps.size = z.length := by simp [tS]
  refine lc_gen walk_str mono z sz.symm (by rw [sz]; omega) p f hD (fun _ _ => True.intro) ?_ fun H' us e2 hus pr => q Dl us H' (Evl.fresh_back e1 hD) (e1.trans e2) hus pr
  rintro i c H' x H'' hc e2 ⟨rfl, c', hc', rfl⟩
  have ec : c' = c := by
    have : z[i]? = some c' := by simpa [tS] using hc'
    rw [hc] at this
    exact (Option.some.inj this).symm
  subst ec
  have hm : c' ∈ z := List.mem_of_getElem? hc
  exact ⟨Ex.refl _, _, fun Q hQ => hQ, hw _, ht c' _ hm ((e.trans e1).trans e2), he c' _ hm ((e.trans e1).trans e2)⟩⟩
/-- [.. for x in xs if ..], xs a list that stands there: its items by data -/
theorem lc_list1 {a : Addr} {ds : List D} {us : List V} {vs : List Nat} {g : TG} (mono : TsMono M) (p : D → Bool) (f : D → α) (h : Ev tz σ H (.ref a)) (ha : H a = some (.lst us)) (hl : ImL H ds us) (hz : ds.length ≤ 100000)
    (step : ∀ d v H1, d ∈ ds → Ex H H1 → Im H1 d v → ∃ σ2, (∀ Q : St → Hp → Prop, Q σ2 H1 → g v (wipe σ vs) H1 Q) ∧ wipe σ2 vs = wipe σ vs ∧ EvT tt σ2 H1 (p d) ∧ (p d = true → EvM M te σ2 H1 (f d))) :
    ELM M (tLc (iList K tz) g tt te vs) σ H ((ds.filter p).map f) := fun H0 e Q q => h H0 e _ fun H1 e1 => ⟨a, rfl, ⟨us, SqL.of ((e.trans e1) _ _ ha)⟩, fun Dl hD => by
  have len := hl.length
  refine lc_gen walk_list mono ds len.symm (by omega) p f hD (fun H' e2 => SqL.of (((e.trans e1).trans e2) _ _ ha)) ?_ fun H' us e2 hus pr => q Dl us H' (Evl.fresh_back e1 hD) (e1.trans e2) hus pr
  rintro i d H' x H'' hd e2 ⟨rfl, hx⟩
  obtain ⟨v, hv, iv⟩ := hl.get hd
  rw [hv] at hx
  cases hx
  exact ⟨Ex.refl _, step d x _ (List.mem_of_getElem? hd) ((e.trans e1).trans e2) (iv.ex ((e.trans e1).trans e2))⟩⟩
/-- the same over a tuple -/
theorem lc_tup1 {ds : List D} {vs : List Nat} {g : TG} (mono : TsMono M) (p : D → Bool) (f : D → α) (h : DV tz σ H (.tup ds)) (hz : ds.length ≤ 100000)
    (step : ∀ d v H1, d ∈ ds → Ex H H1 → Im H1 d v → ∃ σ2, (∀ Q : St → Hp → Prop, Q σ2 H1 → g v (wipe σ vs) H1 Q) ∧ wipe σ2 vs = wipe σ vs ∧ EvT tt σ2 H1 (p d) ∧ (p d = true → EvM M te σ2 H1 (f d))) :
    ELM M (tLc (iTup K tz) g tt te vs) σ H ((ds.filter p).map f) := fun H0 e Q q => h H0 e _ fun w H1 e1 iw => by
  obtain ⟨a, us, rfl, ha, hl⟩ := iw.tup
  refine ⟨a, rfl, ⟨us, SqT.of ha⟩, fun Dl hD => ?_⟩
  have len := hl.length
  refine lc_gen walk_tup mono ds len.symm (by omega) p f hD (fun H' e2 => SqT.of (e2 _ _ ha)) ?_ fun H' us e2 hus pr => q Dl us H' (Evl.fresh_back e1 hD) (e1.trans e2) hus pr
  rintro i d H' x H'' hd e2 ⟨rfl, hx⟩
  obtain ⟨v, hv, iv⟩ := hl.get hd
  rw [hv] at hx
  cases hx
  exact ⟨Ex.refl _, step d x _ (List.mem_of_getElem? hd) ((e.trans e1).trans e2) (iv.ex e2)⟩
end
/-- a target that is one name, of two, three, four names -/
theorem tgt1 {σ : L2.St} {H : Hp} {v : V} {i : Nat} : ∀ Q : St → Hp → Prop, Q (σ.set i (some v)) H → gName i v σ H Q := fun _ h => h
theorem tgt_nil {σ : L2.St} {H : Hp} : ∀ Q : St → Hp → Prop, Q σ H → gNil [] σ H Q := fun _ h => ⟨rfl, h⟩
theorem tgt_cons {σ σ2 : L2.St} {H : Hp} {v : V} {r : List V} {i : Nat} {u : TGs} (h : ∀ Q : St → Hp → Prop, Q σ2 H → u r (σ.set i (some v)) H Q) : ∀ Q : St → Hp → Prop, Q σ2 H → gCons (gName i) u (v :: r) σ H Q := fun Q q => ⟨v, r, rfl, h Q q⟩
theorem tgt_tup {K : PySem.W.Frag} {σ σ2 : L2.St} {H : Hp} {a : Addr} {vs : List V} {n : Nat} {u : TGs} (ha : H a = some (.tup vs)) (hn : vs.length = n) (h : ∀ Q : St → Hp → Prop, Q σ2 H → u vs σ H Q) : ∀ Q : St → Hp → Prop, Q σ2 H → gTup K n u (.ref a) σ H Q :=
  fun Q q => ⟨a, vs, rfl, SqT.of ha, hn, h Q q⟩
theorem ImL.one {H : Hp} {d : D} {vs : List V} (h : ImL H [d] vs) : ∃ v, vs = [v] ∧ Im H d v := by
  obtain ⟨v, r, rfl, hv, hr⟩ := h.cons
  exact ⟨v, by rw [hr.nil], hv⟩
theorem ImL.two {H : Hp} {d e : D} {vs : List V} (h : ImL H [d, e] vs) : ∃ v u, vs = [v, u] ∧ Im H d v ∧ Im H e u := by
  obtain ⟨v, r, rfl, hv, hr⟩ := h.cons
  obtain ⟨u, rfl, hu⟩ := hr.one
  exact ⟨v, u, rfl, hv, hu⟩
theorem ImL.three {H : Hp} {d e f : D} {vs : List V} (h : ImL H [d, e, f] vs) : ∃ v u w, vs = [v, u, w] ∧ Im H d v ∧ Im H e u ∧ Im H f w := by
  obtain ⟨v, r, rfl, hv, hr⟩ := h.cons
  obtain ⟨u, w, rfl, hu, hw⟩ := hr.two
  exact ⟨v, u, w, rfl, hv, hu, hw⟩
theorem ImL.four {H : Hp} {d e f g : D} {vs : List V} (h : ImL H [d, e, f, g] vs) : ∃ v u w x, vs = [v, u, w, x] ∧ Im H d v ∧ Im H e u ∧ Im H f w ∧ Im H g x := by
  obtain ⟨v, r, rfl, hv, hr⟩ := h.cons
  obtain ⟨u, w, x, rfl, hu, hw, hx⟩ := hr.three
  exact ⟨v, u, w, x, rfl, hv, hu, hw, hx⟩
/-! ### statements -/
section
variable {K : PySem.W.Frag} {σ : L2.St} {H : Hp} {ta tb te tz : TE} {t u : TT} {tr : TA} {d e f g : D} {ds : List D} {De : Ends} {tu tw ty : L2.TS} {b : Bool}
theorem q_as {i : Nat} (h : DV te σ H d) (k : ∀ v H1, Ex H H1 → Im H1 d v → ty De (σ.set i (some v)) H1) : tSeq (tAsg te (gName i)) ty De σ H := h H (Ex.refl _) _ fun v H1 x iv => k v H1 x iv
theorem q_asL {i : Nat} (h : DL te σ H ds) (k : ∀ p vs H1, H p = none → Ex H H1 → H1 p = some (.lst vs) → ImL H1 ds vs → ty De (σ.set i (some (.ref p))) H1) : tSeq (tAsg te (gName i)) ty De σ H := h H (Ex.refl _) _ fun p vs H1 a x b c => k p vs H1 a x b c
theorem q_un2 {i j : Nat} (h : DV te σ H (.tup [d, e])) (k : ∀ v w H1, Ex H H1 → Im H1 d v → Im H1 e w → ty De ((σ.set i (some v)).set j (some w)) H1) : tSeq (tAsg te (gTup K 2 (gCons (gName i) (gCons (gName j) gNil)))) ty De σ H :=
  h H (Ex.refl _) _ fun v H1 x iv => by
    obtain ⟨a, vs, rfl, ha, hl⟩ := iv.tup
    obtain ⟨v1, v2, rfl, i1, i2⟩ := hl.two
    exact tgt_tup ha rfl (tgt_cons (tgt_cons tgt_nil)) _ (k v1 v2 H1 x i1 i2)
theorem q_un4 {i j l m : Nat} (h : DV te σ H (.tup [d, e, f, g])) (k : ∀ v w y z H1, Ex H H1 → Im H1 d v → Im H1 e w → Im H1 f y → Im H1 g z → ty De ((((σ.set i (some v)).set j (some w)).set l (some y)).set m (some z)) H1) :
    tSeq (tAsg te (gTup K 4 (gCons (gName i) (gCons (gName j) (gCons (gName l) (gCons (gName m) gNil)))))) ty De σ H :=
  h H (Ex.refl _) _ fun v H1 x iv => by
    obtain ⟨a, vs, rfl, ha, hl⟩ := iv.tup
    obtain ⟨v1, v2, v3, v4, rfl, i1, i2, i3, i4⟩ := hl.four
    exact tgt_tup ha rfl (tgt_cons (tgt_cons (tgt_cons (tgt_cons tgt_nil)))) _ (k v1 v2 v3 v4 H1 x i1 i2 i3 i4)
theorem s_re (h : DV te σ H d) (k : ∀ v H1, Ex H H1 → Im H1 d v → De.rt v H1) : tRet te De σ H := h H (Ex.refl _) _ fun v H1 x iv => k v H1 x iv
theorem s_reB (h : DB te σ H b) (k : ∀ H1, Ex H H1 → De.rt (.bl b) H1) : tRet te De σ H := h H (Ex.refl _) _ fun H1 x => k H1 x
theorem q_par2 {i j : Nat} (h : DA tr σ H [d, e]) (k : ∀ v w H1, Ex H H1 → Im H1 d v → Im H1 e w → ty De ((σ.set i (some v)).set j (some w)) H1) : tSeq (tPar i j tr) ty De σ H :=
  h H (Ex.refl _) _ fun vs H1 x iv => by
    obtain ⟨v1, v2, rfl, i1, i2⟩ := iv.two
    exact ⟨v1, v2, rfl, k v1 v2 H1 x i1 i2⟩
/-- if .. : its two ways -/
theorem q_if2 {b : Bool} (h : EvT t σ H b) (h1 : b = true → ∀ H1, Ex H H1 → tu { De with nx := ty De } σ H1) (h2 : b = false → ∀ H1, Ex H H1 → tw { De with nx := ty De } σ H1) : tSeq (tIfS t tu tw) ty De σ H := Evl.q_if h h1 h2
theorem s_if2 {b : Bool} (h : EvT t σ H b) (h1 : b = true → ∀ H1, Ex H H1 → tu De σ H1) (h2 : b = false → ∀ H1, Ex H H1 → tw De σ H1) : tIfS t tu tw De σ H := Evl.s_if h h1 h2
/-- a for over a text -/
theorem q_forS {z : Tx} {j : Nat} (h : DV tz σ H (tx z)) (Pv : Nat → St → Hp → Prop) (h0 : ∀ H1, Ex H H1 → Pv 0 σ H1)
    (hs : ∀ i c σ' H', z[i]? = some c → Pv i σ' H' → tu { De with nx := Pv (i + 1), ct := Pv (i + 1), bk := ty De } (σ'.set j (some (.str ⟨#[c]⟩))) H') (hd : ∀ σ' H', Pv z.length σ' H' → ty De σ' H') : tSeq (tFor (iStr tz) (gName j) tu) ty De σ H :=
  h H (Ex.refl _) _ fun v H1 x iv => ⟨tS z, iv.text, by
    have sz : (tS z).cps.size = z.length := by simp [tS]
    refine for_it walk_str Pv (h0 H1 x) (fun _ _ _ _ _ => True.intro) ?_ (by rw [sz]; exact hd)
    rintro i v σ' H' H'' hi p ⟨rfl, c, hc, rfl⟩
    exact hs i c σ' _ (by simpa [tS] using hc) p⟩
end
/-! ### promises -/
/-- from data to a datum | a truth value -/
def spD (R : List D → D → Prop) : Sp := fun vs H Q _ => ∃ ds d, ImL H ds vs ∧ R ds d ∧ ∀ v H', Ex H H' → Im H' d v → Q v H'
def spB (R : List D → Bool → Prop) : Sp := fun vs H Q _ => ∃ ds b, ImL H ds vs ∧ R ds b ∧ ∀ H', Ex H H' → Q (.bl b) H'
section
variable {K : PySem.W.Frag} {σ : L2.St} {H : Hp} {tr : TA} {d : D} {ds : List D} {b : Bool} {R : List D → D → Prop} {S : List D → Bool → Prop} {E : XK} {ta : TE} {sp : Sp}
theorem dv_fn (h : DA tr σ H ds) (r : R ds d) : DV (tFn (spD R) E tr) σ H d := fun H1 x Q q => h H1 x _ fun vs H2 y ivs => ⟨ds, d, ivs, r, fun v H3 z iv => q v H3 (y.trans z) iv⟩
theorem db_fn (h : DA tr σ H ds) (r : S ds b) : DB (tFn (spB S) E tr) σ H b := fun H1 x Q q => h H1 x _ fun vs H2 y ivs => ⟨ds, b, ivs, r, fun H3 z => q H3 (y.trans z)⟩
/-- o.m(..), o an instance with slots -/
theorem dv_meth {a C dx : Addr} {vs : List (Option V)} (h : Ev ta σ H (.ref a)) (s : SlX.Slt H a C dx vs) (g : DA tr σ H ds)
    (k : ∀ ws H1, Ex H H1 → ImL H1 ds ws → ∀ Q : VK, (∀ v H2, Ex H1 H2 → Im H2 d v → Q v H2) → sp (.ref a :: ws) H1 Q E) : DV (SlX.tMethSl C sp E ta tr) σ H d := fun H1 x Q q =>
  h H1 x _ fun H2 y => ⟨a, dx, vs, rfl, slt_ex (x.trans y) s, g H2 (x.trans y) _ fun ws H3 z iws => k ws H3 ((x.trans y).trans z) iws Q fun v H4 z2 iv => q v H4 ((y.trans z).trans z2) iv⟩
end
end Fk

set_option Elab.async false
set_option linter.all false
set_option maxRecDepth 100000
set_option maxHeartbeats 4000000
/-! small rules for the terms -/
namespace Fk
open PySem PySem.Spec PyProof.Rows L2 He
section
variable {X : Cx} {x : Str} {pos : Pos}
theorem pe_gi {i : Int} (hg : Gl X x) (h : ∃ t, X.mg x = some (.int i t)) (hd : (x == ("__debug__" : Str)) = false := by decide) : PE X (.Name x pos) (tC (.int i)) :=
  h.elim fun _ h => pe_glob hg h ⟨_, rfl⟩ hd
theorem pe_gs {z : Str} (hg : Gl X x) (h : ∃ t, X.mg x = some (.str z t)) (hd : (x == ("__debug__" : Str)) = false := by decide) : PE X (.Name x pos) (tC (.str z)) :=
  h.elim fun _ h => pe_glob hg h ⟨_, rfl⟩ hd
theorem ip_str : PIp X .Add (fun x y H Q => ∃ i j, x = .str i ∧ y = .str j ∧ i.length + j.length ≤ sizeLine ∧ Q (.str (i ++ j)) H) :=
  fun pins s σ H x y v u Q I r1 r2 h => iop_add_str pins s σ H x y v u Q I r1 r2 h
end
theorem passE {X : Cx} {E : XK} (tk : Takes X (fun cls d _ H => E cls d H)) : Passes (L2.CX X.prog X.w) X E := fun pins σ H s e s' I c => passAt tk σ pins H s e s' I c
/-- one of two readings -/
def tAlt (t u : TE) : TE := fun σ H Q => t σ H Q ∨ u σ H Q
theorem pe_alt {X : Cx} {e : Expr} {t u : TE} (h : PE X e t) (g : PE X e u) : PE X e (tAlt t u) := ⟨fun pins s σ H Q I q => q.elim (h.run pins s σ H Q I) (g.run pins s σ H Q I)⟩
theorem Room.units1 {k : Nat} {A : Around} (r : Room k A) : A.units + 1 < cLine := by have := r.un; omega
theorem Room.units65 {k : Nat} {A : Around} (r : Room k A) : A.units + 65 < cLine := by have := r.un; omega
end Fk

set_option Elab.async false
set_option linter.all false
set_option maxRecDepth 100000
set_option maxHeartbeats 4000000
/-! the mirror: machines, conditions, stands, legs, moves as plain functions -/
namespace Fk
open PySem
def ot (o : Option Nat) : Tx := o.toList
/-- a question mark, a star -/
abbrev qm : Nat := 63
abbrev sr : Nat := 42
/-! ### machines -/
structure Mac where
  L : Tx
  rows : List (List (Nat × Option Nat))
def turnD (t : Nat × Option Nat) : D := .tup [.num (t.1 : Int), tx (ot t.2)]
def rowD (r : List (Nat × Option Nat)) : D := .tup (r.map turnD)
def rowsD (r : List (List (Nat × Option Nat))) : D := .tup (r.map rowD)
def Mac.turn (M : Mac) (s c : Nat) : Nat × Option Nat := (M.rows.getD s []).getD (M.L.idxOf c) (0, none)
/-- its letters are one of the drawn texts -/
def lets : List Tx := [[97, 98], [98, 97], [97, 98, 99], [95, 97, 98], [65, 97], [99, 97, 98, 95], [90, 122, 95]]
def LetOk (L : Tx) : Prop := L ∈ lets
theorem LetOk.facts : ∀ L ∈ lets, 2 ≤ L.length ∧ L.length ≤ 4 ∧ L.Nodup ∧ qm ∉ L ∧ sr ∉ L ∧ ∀ c ∈ L, c ∈ ("ABCDEFGHIJKLMNOPQRSTUVWXYZ_abcdefghijklmnopqrstuvwxyz" : Str).cps.toList ∧ Builtin.Str.occurrences (tS L) (tS [c]) 0 (tS L).length 1 = [L.idxOf c] ∧ PySem.Txt.count (tS L) (tS [c]) = 1 := by decide +kernel
def OutOk (L : Tx) (o : Option Nat) : Prop := ∀ c, o = some c → c ∈ L
structure MacOk (M : Mac) : Prop where
  let_ : LetOk M.L
  one : 1 ≤ M.rows.length
  six : M.rows.length ≤ 6
  row : ∀ r ∈ M.rows, r.length = M.L.length ∧ ∀ t ∈ r, t.1 < M.rows.length ∧ OutOk M.L t.2
theorem MacOk.turn {M : Mac} (h : MacOk M) {s c : Nat} (hs : s < M.rows.length) (hc : c ∈ M.L) :
    ∃ r, M.rows[s]? = some r ∧ r[M.L.idxOf c]? = some (M.turn s c) ∧ (M.turn s c).1 < M.rows.length ∧ OutOk M.L (M.turn s c).2 := by
  refine ⟨M.rows[s], List.getElem?_eq_getElem hs, ?_⟩
  have hr := h.row M.rows[s] (List.getElem_mem hs)
  have hi : M.L.idxOf c < M.rows[s].length := by rw [hr.1]; exact List.idxOf_lt_length_iff.mpr hc
  have e : M.turn s c = M.rows[s][M.L.idxOf c] := by
    unfold Mac.turn
    have e1 : M.rows.getD s [] = M.rows[s] := by rw [List.getD_eq_getElem?_getD, List.getElem?_eq_getElem hs, Option.getD_some]
    rw [e1, List.getD_eq_getElem?_getD, List.getElem?_eq_getElem hi, Option.getD_some]
  rw [e]
  exact ⟨List.getElem?_eq_getElem hi, hr.2 _ (List.getElem_mem hi)⟩
/-- the state after a value, and what is made of it -/
def Mac.ends (M : Mac) (l : Tx) : Nat × Tx := l.foldl (fun q c => ((M.turn q.1 c).1, q.2 ++ ot (M.turn q.1 c).2)) (0, [])
/-! ### conditions -/
inductive Cond where
  | eq (p : Tx)
  | be (p : Tx)
  | btw (p q : Tx)
  | lk (p : Tx)
def Cond.d : Cond → D
  | .eq p => .tup [.text "equal", tx p]
  | .be p => .tup [.text "begins", tx p]
  | .btw p q => .tup [.text "between", tx p, tx q]
  | .lk p => .tup [.text "like", tx p]
def CondOk (L : Tx) : Cond → Prop
  | .eq p => p.length ≤ 4 ∧ ∀ c ∈ p, c ∈ L
  | .be p => p.length ≤ 4 ∧ ∀ c ∈ p, c ∈ L
  | .btw p q => (p.length ≤ 4 ∧ ∀ c ∈ p, c ∈ L) ∧ q.length ≤ 4 ∧ ∀ c ∈ q, c ∈ L
  | .lk p => p.length ≤ 4 ∧ ∀ c ∈ p, c ∈ L ++ [qm, sr]
/-- a stand -/
inductive StT where
  | n (i : Int)
  | p (i j : Int)
  | l (ps : List Int)
  deriving DecidableEq
def StT.d : StT → D
  | .n i => .num i
  | .p i j => .tup [.num i, .num j]
  | .l ps => .tup (ps.map .num)
/-- the place q is led to from a place of S -/
def ledB (pat : Tx) (S : List Int) (q : Nat) : Bool := S.any fun p => decide (0 ≤ p ∧ p.toNat ≤ q) && (List.range (q - p.toNat)).all fun k => pat.getD (p.toNat + k) 0 == sr
def ledF (pat : Tx) (S : List Int) : List Int := ((List.range (pat.length + 1)).filter (ledB pat S)).map Int.ofNat
def firstS : Cond → StT
  | .eq _ => .n 0
  | .be _ => .n 0
  | .btw _ _ => .p 0 0
  | .lk p => .l (ledF p [0])
def besideI (L bound : Tx) (i : Int) (c : Nat) : Int :=
  if i < 0 then i else if i = bound.length then -2 else if c = bound.getD i.toNat 0 then i + 1 else if L.idxOf c < L.idxOf (bound.getD i.toNat 0) then -1 else -2
def lkFound (pat : Tx) (S : List Int) (c : Nat) : List Int :=
  S.filter (fun p : Int => decide (p < (pat.length : Int) ∧ pat.getD p.toNat 0 = sr)) ++ (S.filter fun p : Int => decide (p < (pat.length : Int) ∧ (pat.getD p.toNat 0 = qm ∨ pat.getD p.toNat 0 = c))).map (· + 1)
def eqNext (p : Tx) (i : Int) (c : Nat) : Int := if 0 ≤ i ∧ i < p.length ∧ p.getD i.toNat 0 = c then i + 1 else -1
def nextS (L : Tx) : Cond → StT → Nat → StT
  | .eq p, .n i, c => .n (eqNext p i c)
  | .be p, .n i, c => .n (if i = p.length then i else eqNext p i c)
  | .btw p q, .p i j, c => .p (besideI L p i c) (besideI L q j c)
  | .lk p, .l S, c => .l (ledF p (lkFound p S c))
  | _, s, _ => s
def metS : Cond → StT → Bool
  | .eq p, .n i => decide (i = p.length)
  | .be p, .n i => decide (i = p.length)
  | .btw p q, .p i j => decide (i = -2 ∨ i = p.length) && decide (j ≠ -2)
  | .lk p, .l S => decide ((p.length : Int) ∈ S)
  | _, _ => false
def StOk : Cond → StT → Prop
  | .eq p, .n i => -1 ≤ i ∧ i ≤ p.length
  | .be p, .n i => -1 ≤ i ∧ i ≤ p.length
  | .btw p q, .p i j => (-2 ≤ i ∧ i ≤ p.length) ∧ -2 ≤ j ∧ j ≤ q.length
  | .lk p, .l S => ledF p S = S ∧ ∀ i ∈ S, 0 ≤ i ∧ i ≤ p.length
  | _, _ => False
def readS (L : Tx) (c : Cond) (l : Tx) : StT := l.foldl (nextS L c) (firstS c)
/-! ### legs, pairs, moves -/
structure Leg where
  s : Nat
  p : Nat
  st : StT
  deriving DecidableEq
def Leg.d (g : Leg) : D := .tup [.num (g.s : Int), .num (g.p : Int), g.st.d]
abbrev Pair := Leg × Leg
def pairD (q : Pair) : D := .tup [q.1.d, q.2.d]
/-- index, machine, condition -/
structure Plan where
  I : Mac
  M : Mac
  c : Cond
structure PlanOk (P : Plan) : Prop where
  i : MacOk P.I
  m : MacOk P.M
  same : P.M.L = P.I.L
  c : CondOk P.I.L P.c
def Plan.first (P : Plan) : Leg := ⟨0, 0, firstS P.c⟩
structure StepR where
  leg : Leg
  key : Option Nat
  made : Option Nat
def Plan.step (P : Plan) (g : Leg) (x : Nat) : StepR :=
  ⟨⟨(P.I.turn g.s x).1, (P.M.turn g.p x).1, match (P.M.turn g.p x).2 with | none => g.st | some y => nextS P.I.L P.c g.st y⟩, (P.I.turn g.s x).2, (P.M.turn g.p x).2⟩
def StepR.d (r : StepR) : D := .tup [r.leg.d, tx (ot r.key), tx (ot r.made)]
structure LegOk (P : Plan) (g : Leg) : Prop where
  s : g.s < P.I.rows.length
  p : g.p < P.M.rows.length
  st : StOk P.c g.st
/-- a move: what is read of both, the pair then, what is made of both -/
structure Mv where
  r1 : Option Nat
  r2 : Option Nat
  q : Pair
  m1 : Option Nat
  m2 : Option Nat
def Mv.d (m : Mv) : D := .tup [.tup [tx (ot m.r1), tx (ot m.r2)], pairD m.q, .tup [tx (ot m.m1), tx (ot m.m2)]]
def Mv.dL (m : Mv) : D := .tup [.num (((ot m.r1).length + (ot m.r2).length : Nat) : Int), pairD m.q, .tup [tx (ot m.m1), tx (ot m.m2)]]
def Mv.cost (m : Mv) : Nat := (ot m.r1).length + (ot m.r2).length
/-- the program's moves -/
def Plan.moves (P : Plan) (q : Pair) : List Mv :=
  (P.I.L.filter fun x => (P.step q.1 x).key.isNone).map (fun x => ⟨some x, none, ((P.step q.1 x).leg, q.2), (P.step q.1 x).made, none⟩) ++
  (P.I.L.filter fun x => (P.step q.2 x).key.isNone).map (fun x => ⟨none, some x, (q.1, (P.step q.2 x).leg), none, (P.step q.2 x).made⟩) ++
  (P.I.L.filter fun x => (P.step q.1 x).key.isSome).flatMap fun x => (P.I.L.filter fun y => decide ((P.step q.2 y).key = (P.step q.1 x).key)).map fun y => ⟨some x, some y, ((P.step q.1 x).leg, (P.step q.2 y).leg), (P.step q.1 x).made, (P.step q.2 y).made⟩
/-- the law's moves -/
def Plan.movesL (P : Plan) (q : Pair) : List Mv :=
  (P.I.L.flatMap fun x => match (P.step q.1 x).key with
    | none => [⟨some x, none, ((P.step q.1 x).leg, q.2), (P.step q.1 x).made, none⟩]
    | some k => (P.I.L.filter fun y => decide ((P.step q.2 y).key = some k)).map fun y => ⟨some x, some y, ((P.step q.1 x).leg, (P.step q.2 y).leg), (P.step q.1 x).made, (P.step q.2 y).made⟩) ++
  (P.I.L.filter fun x => (P.step q.2 x).key.isNone).map (fun x => ⟨none, some x, (q.1, (P.step q.2 x).leg), none, (P.step q.2 x).made⟩)
end Fk

set_option Elab.async false
set_option linter.all false
set_option maxRecDepth 100000
set_option maxHeartbeats 4000000
/-! readings told of data: kinds, signs in texts, chains, places -/
namespace Fk
open PySem PySem.Spec PyProof.Rows L2 He
open Evl (Ex Ev EvT EvL)
/-- a datum's kind -/
def tyn : D → String
  | .none => "NoneType"
  | .num _ => "int"
  | .text _ => "str"
  | .tup _ => "tuple"
theorem Im.tyx {K : PySem.W.Frag} {H : Hp} {d : D} {v : V} (h : Im H d v) : TyX K H v (.type (tyn d)) := by
  cases d with
  | none => rw [h.non]; exact .base .non
  | num i => rw [h.num]; exact .base (.int i)
  | text x => rw [h.text]; exact .base (.str x)
  | tup ks =>
    obtain ⟨a, vs, rfl, ha, _⟩ := h.tup
    exact .base (.tup ha)
abbrev rInS : R2 := fun x y H Q => ∃ (c : Nat) (z : Str), x = .str ⟨#[c]⟩ ∧ y = .str z ∧ Q (.bl (decide (c ∈ z.cps.toList))) H
abbrev rIdx : V → List V → Hp → VK → Prop := fun x xs H Q => ∃ a b i rest, x = .str a ∧ xs = [.str b] ∧ Builtin.Str.occurrences a b 0 a.length 1 = i :: rest ∧ Q (.int (i : Nat)) H
abbrev rCnt : V → List V → Hp → VK → Prop := fun x xs H Q => ∃ a b, x = .str a ∧ xs = [.str b] ∧ Q (.int (Txt.count a b)) H
section
variable {K : PySem.W.Frag} {σ : L2.St} {H H' : Hp} {ta tb te tc : TE} {t u : TT} {tr tl : TA} {d e f : D} {ds es : List D} {v : V} {b : Bool}
theorem db_isiD {n : String} (h : DV ta σ H d) (k : kitB (tyn d) n = some b) : DB (tCB (rIsi K) (tCons ta (tCons (tC (.ty n)) tNil))) σ H b := fun H1 y Q q =>
  h H1 y _ fun w H2 z iv => ⟨w, .ty n, .type (tyn d), .type n, b, rfl, .ty n, iv.tyx, kit_ty k, q H2 z⟩
theorem db_inS {c : Nat} {l : Tx} (h : DV ta σ H (tx [c])) (h2 : DV tb σ H (tx l)) : DB (tOp rInS ta tb) σ H (decide (c ∈ l)) := fun H1 x Q q =>
  h H1 x _ fun v H2 y iv => h2 H2 (x.trans y) _ fun w H3 z iw => ⟨c, tS l, by rw [(iv.ex z).text]; rfl, iw.text, by rw [tS_cps]; exact q H3 (y.trans z)⟩
theorem db_inStr {c : Nat} {z : Str} (h : DV ta σ H (tx [c])) (h2 : DV tb σ H (.text z)) : DB (tOp rInS ta tb) σ H (decide (c ∈ z.cps.toList)) := fun H1 x Q q =>
  h H1 x _ fun v H2 y iv => h2 H2 (x.trans y) _ fun w H3 z2 iw => ⟨c, z, by rw [(iv.ex z2).text]; rfl, iw.text, q H3 (y.trans z2)⟩
theorem db_chainI {g g' : Int → Int → Bool} {i j k : Int} (h : DV ta σ H (.num i)) (h2 : DV tb σ H (.num j)) (h3 : DV tc σ H (.num k)) :
    DB (tChain (rI0 fun i j => .bl (g i j)) (rI0 fun i j => .bl (g' i j)) ta tb tc) σ H (g i j && g' j k) := fun H1 x Q q =>
  h H1 x _ fun v H2 y iv => h2 H2 (x.trans y) _ fun w H3 z iw => ⟨i, j, by rw [(iv.ex z).num], by rw [iw.num], g i j, rfl, by
    cases e : g i j with
    | false =>
      rw [if_neg Bool.false_ne_true]
      rw [e] at q
      exact q H3 (y.trans z)
    | true =>
      rw [if_pos rfl]
      refine h3 H3 ((x.trans y).trans z) _ fun w' H4 z2 iw' => ⟨j, k, by rw [iw.num], by rw [iw'.num], ?_⟩
      rw [e] at q
      exact q H4 ((y.trans z).trans z2)⟩
theorem dv_index {L : Tx} {c : Nat} (h : DV ta σ H (tx L)) (h2 : DV tb σ H (tx [c])) (hl : LetOk L) (hc : c ∈ L) : DV (tM1 rIdx ta tb) σ H (.num (L.idxOf c : Nat)) := fun H1 x Q q =>
  h H1 x _ fun v H2 y iv => ⟨⟨tS L, iv.text⟩, h2 H2 (x.trans y) _ fun w H3 z iw => ⟨tS L, tS [c], L.idxOf c, [], iv.text, by rw [iw.text], ((LetOk.facts L hl).2.2.2.2.2 c hc).2.1, q _ H3 (y.trans z) im_num⟩⟩
theorem dv_count {L : Tx} {c : Nat} (h : DV ta σ H (tx L)) (h2 : DV tb σ H (tx [c])) (hl : LetOk L) (hc : c ∈ L) : DV (tM1 rCnt ta tb) σ H (.num 1) := fun H1 x Q q =>
  h H1 x _ fun v H2 y iv => ⟨⟨tS L, iv.text⟩, h2 H2 (x.trans y) _ fun w H3 z iw => ⟨tS L, tS [c], iv.text, by rw [iw.text], by rw [((LetOk.facts L hl).2.2.2.2.2 c hc).2.2]; exact q _ H3 (y.trans z) im_num⟩⟩
theorem db_isN (h : DV ta σ H d) : DB (tOp (fun x y H Q => y = .non ∧ Q (.bl (decide (x = .non))) H) ta (tC .non)) σ H (decide (d = .none)) := fun H1 x Q q =>
  h H1 x _ fun v H2 y iv => ⟨rfl, by
    have e : decide (v = V.non) = decide (d = NestedKey.none) := by
      cases d with
      | none => rw [iv.non]; simp
      | num i => rw [iv.num]; simp
      | text x => rw [iv.text]; simp
      | tup ks =>
        obtain ⟨a, vs, rfl, _⟩ := iv.tup
        simp
    show Q (.bl (decide (v = V.non))) H2
    rw [e]
    exact q H2 y⟩
theorem db_notN (h : DV ta σ H d) : DB (tOp (fun x y H Q => y = .non ∧ Q (.bl (!decide (x = .non))) H) ta (tC .non)) σ H (!decide (d = .none)) := fun H1 x Q q =>
  h H1 x _ fun v H2 y iv => ⟨rfl, by
    have e : decide (v = V.non) = decide (d = NestedKey.none) := by
      cases d with
      | none => rw [iv.non]; simp
      | num i => rw [iv.num]; simp
      | text x => rw [iv.text]; simp
      | tup ks =>
        obtain ⟨a, vs, rfl, _⟩ := iv.tup
        simp
    show Q (.bl (!decide (v = V.non))) H2
    rw [e]
    exact q H2 y⟩
/-- both ways of an if end -/
theorem s_ifF (h : EvT t σ H false) {tu tw : L2.TS} {De : Ends} (k : ∀ H1, Ex H H1 → tw De σ H1) : tIfS t tu tw De σ H := Evl.s_if h (fun z => nomatch z) fun _ => k
theorem q_ifF (h : EvT t σ H false) {tu tw ty : L2.TS} {De : Ends} (k : ∀ H1, Ex H H1 → tw { De with nx := ty De } σ H1) : tSeq (tIfS t tu tw) ty De σ H := Evl.q_if h (fun z => nomatch z) fun _ => k
/-- if bad: .. -/
theorem q_un (h : EvT t σ H false) {tu ty : L2.TS} {De : Ends} (k : ∀ H1, Ex H H1 → ty De σ H1) : tSeq (tIfS t tu tNext) ty De σ H := Evl.q_if h (fun z => nomatch z) fun _ => k
theorem s_un (h : EvT t σ H false) {tu : L2.TS} {De : Ends} (k : ∀ H1, Ex H H1 → De.nx σ H1) : tIfS t tu tNext De σ H := Evl.s_if h (fun z => nomatch z) fun _ => k
/-- all([..]) true -/
theorem db_allT {tr : TE} {bs : List Bool} (h : ELM IsB tr σ H bs) (a : ∀ b ∈ bs, b = true) : DB (tCB (rAll K) (tCons tr tNil)) σ H true := db_is (db_all h.bl) (by simpa using a)
end
theorem et_yes {σ : L2.St} {H : Hp} : EvT tYes σ H true := fun H1 _ Q q => q H1 (Ex.refl _)
section
variable {α β : Type} {M : Hp → α → V → Prop} {K : PySem.W.Frag} {σ : L2.St} {H : Hp} {te tz : TE} {tt : TT}
theorem filter_tt {l : List β} : l.filter (fun _ => true) = l := List.filter_eq_self.mpr fun _ _ => rfl
/-- [.. for c in text] -/
theorem lc_textA {z : Tx} {j : Nat} {vs : List Nat} (mono : TsMono M) (f : Nat → α) (h : DV tz σ H (tx z)) (hz : z.length ≤ 100000) (hw : ∀ x, wipe ((wipe σ vs).set j (some x)) vs = wipe σ vs)
    (he : ∀ c H1, c ∈ z → Ex H H1 → EvM M te ((wipe σ vs).set j (some (.str ⟨#[c]⟩))) H1 (f c)) :
    ELM M (tLc (iStr tz) (gName j) tYes te vs) σ H (z.map f) := by
  have := lc_text (te := te) (tt := tYes) mono (fun _ => true) f h hz hw (fun _ _ _ _ => et_yes) (fun c H1 a b _ => he c H1 a b)
  rw [filter_tt] at this
  exact this
theorem lc_list1A {a : Addr} {ds : List D} {us : List V} {vs : List Nat} {g : TG} (mono : TsMono M) (f : D → α) (h : Ev tz σ H (.ref a)) (ha : H a = some (.lst us)) (hl : ImL H ds us) (hz : ds.length ≤ 100000)
    (step : ∀ d v H1, d ∈ ds → Ex H H1 → Im H1 d v → ∃ σ2, (∀ Q : St → Hp → Prop, Q σ2 H1 → g v (wipe σ vs) H1 Q) ∧ wipe σ2 vs = wipe σ vs ∧ EvM M te σ2 H1 (f d)) :
    ELM M (tLc (iList K tz) g tYes te vs) σ H (ds.map f) := by
  have := lc_list1 (te := te) (tt := tYes) (g := g) (K := K) (vs := vs) mono (fun _ => true) f h ha hl hz fun d v H1 a b c => by
    obtain ⟨σ2, h1, h2, h3⟩ := step d v H1 a b c
    exact ⟨σ2, h1, h2, et_yes, fun _ => h3⟩
  rw [filter_tt] at this
  exact this
theorem lc_tup1A {ds : List D} {vs : List Nat} {g : TG} (mono : TsMono M) (f : D → α) (h : DV tz σ H (.tup ds)) (hz : ds.length ≤ 100000)
    (step : ∀ d v H1, d ∈ ds → Ex H H1 → Im H1 d v → ∃ σ2, (∀ Q : St → Hp → Prop, Q σ2 H1 → g v (wipe σ vs) H1 Q) ∧ wipe σ2 vs = wipe σ vs ∧ EvM M te σ2 H1 (f d)) :
    ELM M (tLc (iTup K tz) g tYes te vs) σ H (ds.map f) := by
  have := lc_tup1 (te := te) (tt := tYes) (g := g) (K := K) (vs := vs) mono (fun _ => true) f h hz fun d v H1 a b c => by
    obtain ⟨σ2, h1, h2, h3⟩ := step d v H1 a b c
    exact ⟨σ2, h1, h2, et_yes, fun _ => h3⟩
  rw [filter_tt] at this
  exact this
end
end Fk

set_option Elab.async false
set_option linter.all false
set_option maxRecDepth 100000
set_option maxHeartbeats 4000000
/-! loops told of data -/
namespace Fk
open PySem PySem.Spec PyProof.Rows L2 He
open Evl (Ex Ev EvT EvL)
section
variable {K : PySem.W.Frag} {σ : L2.St} {H H' : Hp} {ta : TA} {te : TE} {ds : List D} {tu ty : L2.TS} {De : Ends}
/-- for i, x in enumerate(tuple) -/
theorem q_forE {i j : Nat} (h : DA ta σ H [.tup ds]) (Pv : Hp → Nat → St → Hp → Prop) (h0 : ∀ H1, Ex H H1 → Pv H1 0 σ H1) (hk : ∀ H1 n σ' H', Pv H1 n σ' H' → TS H1 H')
    (hs : ∀ H1 n d v σ' H' T, Ex H H1 → ds[n]? = some d → Pv H1 n σ' H' → Im H' d v → H' T = none → tu { De with nx := Pv H1 (n + 1), ct := Pv H1 (n + 1), bk := ty De } ((σ'.set i (some (.int n))).set j (some v)) (upd H' T (.tup [.int n, v])))
    (hd : ∀ H1 σ' H', Ex H H1 → Pv H1 ds.length σ' H' → ty De σ' H') : tSeq (tFor (iEnumT K ta) (gTup K 2 (gCons (gName i) (gCons (gName j) gNil))) tu) ty De σ H :=
  h H (Ex.refl _) _ fun vs H1 x iv => by
    obtain ⟨v, rfl, jv⟩ := iv.one
    obtain ⟨a, us, rfl, ha, hl⟩ := jv.tup
    refine ⟨a, us, rfl, SqT.of ha, ?_⟩
    refine for_it (walk_Et (K := K) (a := a) (xs := us)) (Pv H1) (h0 H1 x) (fun n σ' H' _ p => SqT.of (hk H1 n σ' H' p _ _ ha)) ?_ (by rw [hl.length]; exact fun σ' H' p => hd H1 σ' H' x p)
    rintro n y σ' H' H'' hn p ⟨T, u, z, rfl, hT, rfl, hu, hz⟩
    cases hu
    obtain ⟨d, hd', im⟩ := hl.back hz
    exact tgt_tup upd_same rfl (tgt_cons (tgt_cons tgt_nil)) _ (hs H1 n d z σ' H' T x hd' p (im.ts (hk H1 n σ' H' p)) hT)
/-- for i, c in enumerate(text) -/
theorem q_forEs {i j : Nat} {z : Tx} (h : DA ta σ H [tx z]) (Pv : Nat → St → Hp → Prop) (h0 : ∀ H1, Ex H H1 → Pv 0 σ H1)
    (hs : ∀ n c σ' H' T, z[n]? = some c → Pv n σ' H' → H' T = none → tu { De with nx := Pv (n + 1), ct := Pv (n + 1), bk := ty De } ((σ'.set i (some (.int n))).set j (some (.str ⟨#[c]⟩))) (upd H' T (.tup [.int n, .str ⟨#[c]⟩])))
    (hd : ∀ σ' H', Pv z.length σ' H' → ty De σ' H') : tSeq (tFor (iEnumS ta) (gTup K 2 (gCons (gName i) (gCons (gName j) gNil))) tu) ty De σ H :=
  h H (Ex.refl _) _ fun vs H1 x iv => by
    obtain ⟨v, rfl, jv⟩ := iv.one
    refine ⟨tS z, by rw [jv.text], ?_⟩
    have sz : (tS z).cps.size = z.length := by simp [tS]
    refine for_it walk_Es Pv (h0 H1 x) (fun _ _ _ _ _ => True.intro) ?_ (by rw [sz]; exact hd)
    rintro n y σ' H' H'' hn p ⟨T, u, q, rfl, hT, rfl, hu, hz⟩
    cases hu
    obtain ⟨c, hc, rfl⟩ : ∃ c, z[n]? = some c ∧ V.str ⟨#[c]⟩ = q := by simpa [tS] using hz
    exact tgt_tup upd_same rfl (tgt_cons (tgt_cons tgt_nil)) _ (hs n c σ' H' T hc p hT)
/-- for .. in tuple -/
theorem q_forTu {g : TG} (h : DV te σ H (.tup ds)) (Pv : Hp → Nat → St → Hp → Prop) (h0 : ∀ H1, Ex H H1 → Pv H1 0 σ H1) (hk : ∀ H1 n σ' H', Pv H1 n σ' H' → TS H1 H')
    (hs : ∀ H1 n d v σ' H', Ex H H1 → ds[n]? = some d → Pv H1 n σ' H' → Im H' d v → g v σ' H' fun σ2 H2 => tu { De with nx := Pv H1 (n + 1), ct := Pv H1 (n + 1), bk := ty De } σ2 H2)
    (hd : ∀ H1 σ' H', Ex H H1 → Pv H1 ds.length σ' H' → ty De σ' H') : tSeq (tFor (iTup K te) g tu) ty De σ H :=
  h H (Ex.refl _) _ fun v H1 x iv => by
    obtain ⟨a, us, rfl, ha, hl⟩ := iv.tup
    refine ⟨a, rfl, ⟨us, SqT.of ha⟩, ?_⟩
    refine for_it (walk_tup (K := K) (a := a) (xs := us)) (Pv H1) (h0 H1 x) (fun n σ' H' _ p => SqT.of (hk H1 n σ' H' p _ _ ha)) ?_ (by rw [hl.length]; exact fun σ' H' p => hd H1 σ' H' x p)
    rintro n y σ' H' H'' hn p ⟨rfl, hy⟩
    obtain ⟨d, hd', im⟩ := hl.back hy
    exact hs H1 n d y σ' _ x hd' p (im.ts (hk H1 n σ' _ p))
/-- for .. in list, the list as it is -/
theorem q_forLi {g : TG} {a : Addr} {us : List V} (h : Ev te σ H (.ref a)) (ha : H a = some (.lst us)) (hl : ImL H ds us) (Pv : Nat → St → Hp → Prop) (h0 : ∀ H1, Ex H H1 → Pv 0 σ H1) (hk : ∀ n σ' H', Pv n σ' H' → TS H H' ∧ H' a = some (.lst us))
    (hs : ∀ n d v σ' H', ds[n]? = some d → Pv n σ' H' → Im H' d v → g v σ' H' fun σ2 H2 => tu { De with nx := Pv (n + 1), ct := Pv (n + 1), bk := ty De } σ2 H2)
    (hd : ∀ σ' H', Pv ds.length σ' H' → ty De σ' H') : tSeq (tFor (iList K te) g tu) ty De σ H :=
  h H (Ex.refl _) _ fun H1 x => by
    refine ⟨a, rfl, ⟨us, SqL.of (x _ _ ha)⟩, ?_⟩
    refine for_it (walk_list (K := K) (a := a) (xs := us)) Pv (h0 H1 x) (fun n σ' H' _ p => SqL.of (hk n σ' H' p).2) ?_ (by rw [hl.length]; exact hd)
    rintro n y σ' H' H'' hn p ⟨rfl, hy⟩
    obtain ⟨d, hd', im⟩ := hl.back hy
    exact hs n d y σ' _ hd' p (im.ts (hk n σ' _ p).1)
/-- for i in range(n) -/
theorem q_forRg {i : Nat} {n : Nat} (h : DA ta σ H [.num (n : Int)]) (hn : n ≤ 100000) (Pv : Nat → St → Hp → Prop) (h0 : ∀ H1, Ex H H1 → Pv 0 σ H1)
    (hs : ∀ k σ' H', k < n → Pv k σ' H' → tu { De with nx := Pv (k + 1), ct := Pv (k + 1), bk := ty De } (σ'.set i (some (.int k))) H') (hd : ∀ σ' H', Pv n σ' H' → ty De σ' H') : tSeq (tFor (iRng1 ta) (gName i) tu) ty De σ H := by
  refine Evl.q_forR1 (n := n) ?_ (by omega) Pv h0 ?_ ?_
  · exact fun H1 x Q q => h H1 x _ fun vs H2 y iv => by
      obtain ⟨v, rfl, jv⟩ := iv.one
      rw [jv.num]
      exact q H2 y
  · intro k σ' H' hk p
    exact hs k σ' H' (by omega) p
  · intro σ' H' p
    exact hd σ' H' (by simpa using p)
/-- in the last place -/
theorem s_of {t : L2.TS} (h : tSeq t tNext De σ H) : t De σ H := h
/-- x += .. of texts -/
theorem q_augS {i : Nat} {a c : Tx} (hx : σ[i]? = some (some (.str (tS a)))) (h : DV te σ H (tx c)) (z : a.length + c.length ≤ 100000) (k : ∀ H1, Ex H H1 → ty De (σ.set i (some (.str (tS (a ++ c))))) H1) :
    tSeq (tAug i te (fun x y H Q => ∃ i j, x = .str i ∧ y = .str j ∧ i.length + j.length ≤ sizeLine ∧ Q (.str (i ++ j)) H)) ty De σ H :=
  ⟨_, hx, h H (Ex.refl _) _ fun v H1 x iv => ⟨tS a, tS c, rfl, iv.text, by rw [tS_len, tS_len]; exact Evl.sz_of z, by rw [tS_app]; exact k H1 x⟩⟩
/-- x, y = .. by names -/
theorem ev_as {i : Nat} {v : V} (h : Ev te σ H v) (k : ∀ H1, Ex H H1 → ty De (σ.set i (some v)) H1) : tSeq (tAsg te (gName i)) ty De σ H := h H (Ex.refl _) _ k
end
end Fk

set_option Elab.async false
set_option linter.all false
set_option maxRecDepth 100000
set_option maxHeartbeats 4000000
/-! objects: machines, legs; making them, their slots and methods -/
namespace Fk
open PySem PySem.Spec PyProof.Rows L2 He
open Evl (Ex Ev EvT EvL EvA)
/-- an __init__'s promise: from its arguments to its slots -/
def spMk (C : Addr) (R : Hp → List V → List (Option V) → Prop) : Sp := fun vs H Q _ => ∃ x dx us sl, vs = .ref x :: us ∧ H x = some (.ins C dx []) ∧ dx ≠ x ∧ R H us sl ∧
  ∀ H', (∀ b o, b ≠ x → b ≠ dx → H b = some o → H' b = some o) → SlX.Slt H' x C dx sl → Q .non H'
section
variable {K : PySem.W.Frag} {σ : L2.St} {H H' : Hp} {tr : TA} {ta te : TE} {C : Addr} {R : Hp → List V → List (Option V) → Prop} {us vs : List V} {sl : List (Option V)} {E : XK} {d : D} {b : Bool} {ds : List D} {sp : Sp}
/-- a new object with slots -/
def OV (te : TE) (σ : L2.St) (H : Hp) (C : Addr) (sl : List (Option V)) : Prop := ∀ H1, Ex H H1 → ∀ Q : VK, (∀ a dx H2, H1 a = none → Ex H1 H2 → SlX.Slt H2 a C dx sl → Q (.ref a) H2) → te σ H1 Q
theorem ov_make (h : EvA tr σ H us) (r : ∀ H1 x dx, Ex H H1 → H1 x = none → H1 dx = none → R (upd (upd H1 dx (.own x)) x (.ins C dx [])) us sl) : OV (StX.tMakeR C (spMk C R) E tr) σ H C sl := fun H1 x Q q =>
  h H1 x _ fun H2 y a dx ha hdx ne => ⟨a, dx, us, sl, rfl, upd_same, ne, r H2 a dx (x.trans y) ha hdx, fun H3 st s => ⟨rfl, q a dx H3 (Evl.fresh_back y ha) (fun b o e => by
    have e2 := y _ _ e
    have n1 : b ≠ a := ne_of_none e2 ha
    have n2 : b ≠ dx := ne_of_none e2 hdx
    exact st b o n1 n2 (by rw [upd_ne n1, upd_ne n2]; exact e2)) s⟩⟩
theorem ts_made {H1 : Hp} {x dx : Addr} {o u : HO} (hx : H1 x = none) (hdx : H1 dx = none) : Ex H1 (upd (upd H1 dx o) x u) := fun b p e => by
  rw [upd_ne (ne_of_none e hx), upd_ne (ne_of_none e hdx)]
  exact e
/-- a call whose arguments are values -/
theorem dv_fnO (h : EvA tr σ H vs) (k : ∀ H1, Ex H H1 → ∀ Q : VK, (∀ v H2, Ex H1 H2 → Im H2 d v → Q v H2) → sp vs H1 Q E) : DV (tFn sp E tr) σ H d := fun H1 x Q q =>
  h H1 x _ fun H2 y => k H2 (x.trans y) Q fun v H3 z iv => q v H3 (y.trans z) iv
theorem db_fnO (h : EvA tr σ H vs) (k : ∀ H1, Ex H H1 → ∀ Q : VK, (∀ H2, Ex H1 H2 → Q (.bl b) H2) → sp vs H1 Q E) : DB (tFn sp E tr) σ H b := fun H1 x Q q =>
  h H1 x _ fun H2 y => k H2 (x.trans y) Q fun H3 z => q H3 (y.trans z)
theorem ea_cons {x : V} (h : Ev ta σ H x) (r : EvA tr σ H vs) : EvA (tCons ta tr) σ H (x :: vs) := Evl.ea_cons h r
theorem ea_nil : EvA tNil σ H [] := Evl.ea_nil
/-- a method that gives a truth value -/
theorem db_meth {a C dx : Addr} {vs : List (Option V)} (h : Ev ta σ H (.ref a)) (s : SlX.Slt H a C dx vs) (g : DA tr σ H ds)
    (k : ∀ ws H1, Ex H H1 → ImL H1 ds ws → ∀ Q : VK, (∀ H2, Ex H1 H2 → Q (.bl b) H2) → sp (.ref a :: ws) H1 Q E) : DB (SlX.tMethSl C sp E ta tr) σ H b := fun H1 x Q q =>
  h H1 x _ fun H2 y => ⟨a, dx, vs, rfl, slt_ex (x.trans y) s, g H2 (x.trans y) _ fun ws H3 z iws => k ws H3 ((x.trans y).trans z) iws Q fun H4 z2 => q H4 ((y.trans z).trans z2)⟩
/-- a method whose arguments are values -/
theorem db_methO {a C dx : Addr} {us : List (Option V)} (h : Ev ta σ H (.ref a)) (s : SlX.Slt H a C dx us) (g : EvA tr σ H vs)
    (k : ∀ H1, Ex H H1 → ∀ Q : VK, (∀ H2, Ex H1 H2 → Q (.bl b) H2) → sp (.ref a :: vs) H1 Q E) : DB (SlX.tMethSl C sp E ta tr) σ H b := fun H1 x Q q =>
  h H1 x _ fun H2 y => ⟨a, dx, us, rfl, slt_ex (x.trans y) s, g H2 (x.trans y) _ fun H3 z => k H3 ((x.trans y).trans z) Q fun H4 z2 => q H4 ((y.trans z).trans z2)⟩
/-- a slot that holds a datum -/
theorem dv_sl {a C dx p : Addr} {vs : List (Option V)} {f : Str} {i : Nat} {v : V} (h : Ev ta σ H (.ref a)) (s : SlX.Slt H a C dx vs) (c : SlX.SCls K C) (k : SlX.Slot1 K C f p i) (im : Im H d v) (g : vs[i]? = some (some v) := by rfl) : DV (SlX.tSl K ta f) σ H d :=
  .of (ev_sl h s c k g) im
theorem q_sl {a C dx p : Addr} {vs : List (Option V)} {f : Str} {i : Nat} {v : V} {De : Ends} {ty : L2.TS} (h : Ev ta σ H (.ref a)) (h2 : Ev te σ H v) (s : SlX.Slt H a C dx vs) (c : SlX.SCls K C) (k : SlX.Slot1 K C f p i)
    (kk : ∀ H1, Ex H H1 → ty De σ (SlX.slH H1 a C dx (SlX.putS i v vs))) : tSeq (SlX.sSl K ta te f) ty De σ H :=
  h2 H (Ex.refl _) _ fun H1 x => h H1 x _ fun H2 y => ⟨a, C, dx, p, vs, i, rfl, slt_ex (x.trans y) s, c, k, kk H2 (x.trans y)⟩
end
/-! ### a machine -/
def MacAt (K : PySem.W.Frag) (H : Hp) (a : Addr) (M : Mac) : Prop := MacOk M ∧ ∃ dx v u, SlX.Slt H a (ga K "Machine") dx [some v, some u] ∧ Im H (tx M.L) v ∧ Im H (rowsD M.rows) u
theorem MacAt.ex {K : PySem.W.Frag} {H H' : Hp} {a : Addr} {M : Mac} (x : Ex H H') (m : MacAt K H a M) : MacAt K H' a M := by
  obtain ⟨ok, dx, v, u, s, i, j⟩ := m
  exact ⟨ok, dx, v, u, slt_ex x s, i.ex x, j.ex x⟩
/-- one machine, a datum -/
def spM (K : PySem.W.Frag) (R : Mac → List D → D → Prop) : Sp := fun vs H Q _ => ∃ a M ds d ws, vs = .ref a :: ws ∧ MacAt K H a M ∧ ImL H ds ws ∧ R M ds d ∧ ∀ v H', Ex H H' → Im H' d v → Q v H'
theorem spM_len {K : PySem.W.Frag} {R : Mac → List D → D → Prop} {n : Nat} (h : ∀ M ds b, R M ds b → ds.length = n) : ∀ (vs : List V) (H : Hp) (Q : VK) (E : XK), spM K R vs H Q E → vs.length = n + 1 := fun vs H Q E ⟨a, M, ds, d, ws, e, _, il, r, _⟩ => by
  rw [e, List.length_cons, il.length, h M ds d r]
section
variable {K : PySem.W.Frag} {σ : L2.St} {H : Hp} {a : Addr} {M : Mac} {ta : TE} {tr : TA} {E : XK} {d : D} {ds : List D} {R : Mac → List D → D → Prop}
theorem dv_propM (h : Ev ta σ H (.ref a)) (m : MacAt K H a M) (r : R M [] d) : DV (SlX.tPropSl (ga K "Machine") (spM K R) E ta) σ H d := fun H1 x Q q =>
  h H1 x _ fun H2 y => by
    obtain ⟨_, dx, v, u, s, _⟩ := id (m.ex (x.trans y))
    exact ⟨a, dx, _, rfl, s, a, M, [], d, [], rfl, m.ex (x.trans y), iml_nil, r, fun v H3 z iv => q v H3 (y.trans z) iv⟩
theorem dv_methM (h : Ev ta σ H (.ref a)) (m : MacAt K H a M) (g : DA tr σ H ds) (r : R M ds d) : DV (SlX.tMethSl (ga K "Machine") (spM K R) E ta tr) σ H d := by
  obtain ⟨_, dx, v, u, s, _⟩ := id m
  exact dv_meth h s g fun ws H1 x iws Q q => ⟨a, M, ds, d, ws, rfl, m.ex x, iws, r, q⟩
theorem dv_fnM (h : Ev ta σ H (.ref a)) (m : MacAt K H a M) (r : R M [] d) : DV (tFn (spM K R) E (tCons ta tNil)) σ H d :=
  dv_fnO (ea_cons h ea_nil) fun H1 x Q q => ⟨a, M, [], d, [], rfl, m.ex x, iml_nil, r, q⟩
end
end Fk

set_option Elab.async false
set_option linter.all false
set_option maxRecDepth 100000
set_option maxHeartbeats 4000000
/-! defs of the machines' part, one by one -/
namespace Fk
open PySem PySem.Spec PyProof.Rows L2 He
open Evl (Ex Ev EvT EvL ev_andV ev_orV ev_notV et_and et_or et_not)
theorem spB_len {R : List D → Bool → Prop} {n : Nat} (h : ∀ ds b, R ds b → ds.length = n) : ∀ (vs : List V) (H : Hp) (Q : VK) (E : XK), spB R vs H Q E → vs.length = n := fun vs H Q E ⟨ds, b, il, r, _⟩ => il.length.trans (h ds b r)
theorem spD_len {R : List D → D → Prop} {n : Nat} (h : ∀ ds b, R ds b → ds.length = n) : ∀ (vs : List V) (H : Hp) (Q : VK) (E : XK), spD R vs H Q E → vs.length = n := fun vs H Q E ⟨ds, b, il, r, _⟩ => il.length.trans (h ds b r)
theorem all_map {α : Type} {l : List α} {f : α → Bool} : (l.map f).all id = l.all f := by induction l with
  | nil => rfl
  | cons a r ih => rw [List.map_cons, List.all_cons, List.all_cons, ih]; rfl
section
variable {P : Program} {w : World} {K : PySem.W.Frag} {mg : Str → Option Value} {base : Heap}
abbrev sp_is_number : Sp := spB fun ds b => ∃ i l h : Int, ds = [.num i, .num l, .num h] ∧ b = decide (l ≤ i ∧ i ≤ h)
theorem sc_is_number : FnScope ["thing", "low", "high"] ["thing", "low", "high"] (defScope s_is_number) := ⟨rfl, rfl, rfl, by decide +kernel, rfl, by decide +kernel, by decide +kernel⟩
theorem ok_is_number (T : Txt K mg) : FnR P w K mg base CX0 1 (a_is_number K) (sp_is_number) := by
  refine okR T.F_is_number sc_is_number (fun _ _ _ _ _ _ us hl => match us, hl with | [_, _, _], _ => rfl) ?_ fun cdv A outer s H vs Q E hr q => ?_
  · exact spB_len fun _ _ ⟨_, _, _, e, _⟩ => by rw [e]; rfl
  obtain ⟨ds, b, il, ⟨i, l, h, rfl, rfl⟩, q⟩ := q
  obtain ⟨v1, v2, v3, rfl, i1, i2, i3⟩ := il.three
  refine ⟨_, (pss_one (ps_ret (pe_and (pe_callB (id := "isinstance") (show CallR _ _ (rIsi K) from call_isi) (by rfl) T.n_isinstance (by decide +kernel) (pa_cons (pv 0) (pa_cons (pe_bltn (v := .ty "int") (u := .type "int") (by rfl) T.n_int (by decide +kernel) rfl) pa_nil))) (pe_and (pe_not (pe_callB (id := "isinstance") (show CallR _ _ (rIsi K) from call_isi) (by rfl) T.n_isinstance (by decide +kernel) (pa_cons (pv 0) (pa_cons (pe_bltn (v := .ty "bool") (u := .type "bool") (by rfl) T.n_bool (by decide +kernel) rfl) pa_nil)))) (pe_one (pe_chain op_le op_le (pv 1) (pv 0) (pv 2))))))), ?_⟩
  refine s_reB (db_is (ev_andV (db_isiD (b := true) (dv_var i1) rfl) fun _ => ev_andV (ev_notV (db_isiD (b := false) (dv_var i1) rfl)) fun _ => db_chainI (dv_var i2) (dv_var i1) (dv_var i3)) ?_) fun H1 x => q H1 x
  simp
abbrev sp_are_letters : Sp := spB fun ds b => ∃ L, ds = [tx L] ∧ LetOk L ∧ b = true
theorem sc_are_letters : FnScope ["thing", "sign"] ["thing"] (defScope s_are_letters) := ⟨rfl, rfl, rfl, by decide +kernel, rfl, by decide +kernel, by decide +kernel⟩
theorem ok_are_letters (T : Txt K mg) : FnR P w K mg base CX0 1 (a_are_letters K) (sp_are_letters) := by
  refine okR T.F_are_letters sc_are_letters (fun _ _ _ _ _ _ us hl => match us, hl with | [_], _ => rfl) ?_ fun cdv A outer s H vs Q E hr q => ?_
  · exact spB_len fun _ _ ⟨_, e, _⟩ => by rw [e]; rfl
  obtain ⟨ds, b, il, ⟨L, rfl, hL, rfl⟩, q⟩ := q
  obtain ⟨v1, rfl, i1⟩ := il.one
  have F := LetOk.facts L hL
  refine ⟨_, (pss_cons (ps_if (PW.pt (pw_or (pt_not (pt_val (pe_callB (id := "isinstance") (show CallR _ _ (rIsi K) from call_isi) (by rfl) T.n_isinstance (by decide +kernel) (pa_cons (pv 0) (pa_cons (pe_bltn (v := .ty "str") (u := .type "str") (by rfl) T.n_str (by decide +kernel) rfl) pa_nil))))) (pw_or1 (pt_not (pt_chain op_le op_le pe_int (pe_callB (id := "len") call_len_str (by rfl) T.n_len (by decide +kernel) (pa_cons (pv 0) pa_nil)) (pe_gi (by rfl) T.i_MOST_LETTERS)))))) (pss_one (ps_ret pe_bl)) pss_nil) (pss_one (ps_ret (pe_callB (id := "all") (show CallR _ _ (rAll K) from cr_all rfl) (by rfl) T.n_all (by decide +kernel) (pa_cons (pe_lc (own := [("sign", 1)]) rfl sc_are_letters.nd (pi_str (pv 0)) (blkOk_by (own := [("sign", 1)]) (N := ["thing", "sign"]) (sc := defScope s_are_letters) (by decide +kernel)) (fun _ _ _ _ _ => (pg_name (i := 1) sc_are_letters.nd rfl (by first | exact .inl rfl | exact .inr rfl))) (fun _ _ _ _ _ => pts_nil) (fun _ _ _ _ _ => (pe_and (pe_cmpR op_in_sign (pv 1) (pe_gs (by rfl) T.i_SIGNS) (by rfl)) (pe_one (pe_cmpR op_eq (pe_m1 PySem.F.slot_str_count PySem.F.type_str_count mt_count (pv 0) (pv 1)) pe_int (by rfl)))))) pa_nil))))), ?_⟩
  refine q_un (dt_is (et_or (et_not (dt_b (db_isiD (b := true) (dv_var i1) rfl))) fun _ => et_not (dt_t (db_chainI dv_int (dv_lenS (dv_var i1) (by omega)) dv_int))) ?_) fun H1 x1 => ?_
  · have e1 : decide ((2 : Int) ≤ (L.length : Int)) = true := by simp; omega
    have e2 : decide ((L.length : Int) ≤ 4) = true := by simp; omega
    simp [F.1, F.2.1]
    omega
  refine s_reB (db_allT (lc_textA (f := fun _ => true) isB_mono (dv_var (i1.ex x1)) (by omega) (fun x => rfl) fun c H2 hc x2 => db_m (db_is (ev_andV (db_inStr (dv_var im_text) dv_str) fun _ => db_eqI (dv_count (dv_var (i1.ex (x1.trans x2))) (dv_var im_text) hL hc) dv_int) ?_)) ?_) fun H2 x2 => q H2 (x1.trans x2)
  · simp [(F.2.2.2.2.2 c hc).1]
  · simp
abbrev sp_check_letters : Sp := spD fun ds d => ∃ L, ds = [tx L] ∧ LetOk L ∧ d = .none
theorem sc_check_letters : FnScope ["letters"] ["letters"] (defScope s_check_letters) := ⟨rfl, rfl, rfl, by decide +kernel, rfl, by decide +kernel, by decide +kernel⟩
theorem ok_check_letters (T : Txt K mg) : FnR P w K mg base CX0 2 (a_check_letters K) (sp_check_letters) := by
  refine okR T.F_check_letters sc_check_letters (fun _ _ _ _ _ _ us hl => match us, hl with | [_], _ => rfl) ?_ fun cdv A outer s H vs Q E hr q => ?_
  · exact spD_len fun _ _ ⟨_, e, _⟩ => by rw [e]; rfl
  obtain ⟨ds, b, il, ⟨L, rfl, hL, rfl⟩, q⟩ := q
  obtain ⟨v1, rfl, i1⟩ := il.one
  refine ⟨_, (pss_one (ps_if (pt_not (pt_val (pe_fn (ok_are_letters T) (hr.mono (by decide)) (by rfl) T.g_are_letters (kp_of T.F_are_letters) pass0 (pa_cons (pv 0) pa_nil)))) (pss_one ps_never) pss_nil)), ?_⟩
  exact s_un (dt_is (et_not (dt_b (db_fn (da_cons (dv_var i1) da_nil) ⟨L, rfl, hL, rfl⟩))) rfl) fun H1 x1 => q _ H1 x1 im_none
abbrev sp_is_value : Sp := spB fun ds b => ∃ L z, ds = [tx L, tx z] ∧ z.length ≤ 100000 ∧ b = z.all fun c => decide (c ∈ L)
theorem sc_is_value : FnScope ["letters", "thing", "sign"] ["letters", "thing"] (defScope s_is_value) := ⟨rfl, rfl, rfl, by decide +kernel, rfl, by decide +kernel, by decide +kernel⟩
theorem ok_is_value (T : Txt K mg) : FnR P w K mg base CX0 1 (a_is_value K) (sp_is_value) := by
  refine okR T.F_is_value sc_is_value (fun _ _ _ _ _ _ us hl => match us, hl with | [_, _], _ => rfl) ?_ fun cdv A outer s H vs Q E hr q => ?_
  · exact spB_len fun _ _ ⟨_, _, e, _⟩ => by rw [e]; rfl
  obtain ⟨ds, b, il, ⟨L, z, rfl, hz, rfl⟩, q⟩ := q
  obtain ⟨v1, v2, rfl, i1, i2⟩ := il.two
  refine ⟨_, (pss_one (ps_ret (pe_and (pe_callB (id := "isinstance") (show CallR _ _ (rIsi K) from call_isi) (by rfl) T.n_isinstance (by decide +kernel) (pa_cons (pv 1) (pa_cons (pe_bltn (v := .ty "str") (u := .type "str") (by rfl) T.n_str (by decide +kernel) rfl) pa_nil))) (pe_one (pe_callB (id := "all") (show CallR _ _ (rAll K) from cr_all rfl) (by rfl) T.n_all (by decide +kernel) (pa_cons (pe_lc (own := [("sign", 2)]) rfl sc_is_value.nd (pi_str (pv 1)) (blkOk_by (own := [("sign", 2)]) (N := ["letters", "thing", "sign"]) (sc := defScope s_is_value) (by decide +kernel)) (fun _ _ _ _ _ => (pg_name (i := 2) sc_is_value.nd rfl (by first | exact .inl rfl | exact .inr rfl))) (fun _ _ _ _ _ => pts_nil) (fun _ _ _ _ _ => (pe_cmpR op_in_sign (pv 2) (pv 0) (by rfl)))) pa_nil)))))), ?_⟩
  refine s_reB (db_is (ev_andV (db_isiD (b := true) (dv_var i2) rfl) fun _ => db_all (lc_textA (f := fun c => decide (c ∈ L)) isB_mono (dv_var i2) hz (fun x => rfl) fun c H2 hc x2 => db_m (db_inS (dv_var im_text) (dv_var (i1.ex x2)))).bl) ?_) fun H2 x2 => q H2 x2
  rw [all_map, Bool.true_and]
abbrev sp_is_out : Sp := spB fun ds b => ∃ L o, ds = [tx L, tx (ot o)] ∧ OutOk L o ∧ b = true
theorem sc_is_out : FnScope ["letters", "thing"] ["letters", "thing"] (defScope s_is_out) := ⟨rfl, rfl, rfl, by decide +kernel, rfl, by decide +kernel, by decide +kernel⟩
theorem ok_is_out (T : Txt K mg) : FnR P w K mg base CX0 1 (a_is_out K) (sp_is_out) := by
  refine okR T.F_is_out sc_is_out (fun _ _ _ _ _ _ us hl => match us, hl with | [_, _], _ => rfl) ?_ fun cdv A outer s H vs Q E hr q => ?_
  · exact spB_len fun _ _ ⟨_, _, e, _⟩ => by rw [e]; rfl
  obtain ⟨ds, b, il, ⟨L, o, rfl, ho, rfl⟩, q⟩ := q
  obtain ⟨v1, v2, rfl, i1, i2⟩ := il.two
  refine ⟨_, (pss_one (ps_ret (pe_and (pe_callB (id := "isinstance") (show CallR _ _ (rIsi K) from call_isi) (by rfl) T.n_isinstance (by decide +kernel) (pa_cons (pv 1) (pa_cons (pe_bltn (v := .ty "str") (u := .type "str") (by rfl) T.n_str (by decide +kernel) rfl) pa_nil))) (pe_one (pe_or (pe_cmpR op_eq (pv 1) pe_str (by rfl)) (pe_one (pe_and (pe_cmpR op_eq (pe_callB (id := "len") call_len_str (by rfl) T.n_len (by decide +kernel) (pa_cons (pv 1) pa_nil)) pe_int (by rfl)) (pe_one (pe_cmpR op_in_sign (pv 1) (pv 0) (by rfl)))))))))), ?_⟩
  cases o with
  | none => exact s_reB (db_is (ev_andV (db_isiD (b := true) (dv_var i2) rfl) fun _ => ev_orV (b := true) (db_eqT (y := "") (dv_var i2) dv_str) fun z => by cases z) rfl) fun H1 x => q H1 x
  | some c =>
    refine s_reB (db_is (ev_andV (db_isiD (b := true) (dv_var i2) rfl) fun _ => ev_orV (db_eqS (c := []) (dv_var i2) dv_str) fun _ => ev_andV (db_eqI (dv_lenS (dv_var i2) (by simp [ot])) dv_int) fun _ => db_inS (dv_var i2) (dv_var i1)) ?_) fun H1 x => q H1 x
    simp [ot, ho c rfl]
abbrev sp_is_turn : Sp := spB fun ds b => ∃ (L : Tx) (n : Nat) (t : Nat × Option Nat), ds = [tx L, .num (n : Int), turnD t] ∧ t.1 < n ∧ OutOk L t.2 ∧ b = true
theorem sc_is_turn : FnScope ["letters", "many", "thing"] ["letters", "many", "thing"] (defScope s_is_turn) := ⟨rfl, rfl, rfl, by decide +kernel, rfl, by decide +kernel, by decide +kernel⟩
theorem ok_is_turn (T : Txt K mg) : FnR P w K mg base CX0 2 (a_is_turn K) (sp_is_turn) := by
  refine okR T.F_is_turn sc_is_turn (fun _ _ _ _ _ _ us hl => match us, hl with | [_, _, _], _ => rfl) ?_ fun cdv A outer s H vs Q E hr q => ?_
  · exact spB_len fun _ _ ⟨_, _, _, e, _⟩ => by rw [e]; rfl
  obtain ⟨ds, b, il, ⟨L, n, t, rfl, hn, ho, rfl⟩, q⟩ := q
  obtain ⟨v1, v2, v3, rfl, i1, i2, i3⟩ := il.three
  refine ⟨_, (pss_cons (ps_if (PW.pt (pw_or (pt_not (pt_val (pe_callB (id := "isinstance") (show CallR _ _ (rIsi K) from call_isi) (by rfl) T.n_isinstance (by decide +kernel) (pa_cons (pv 2) (pa_cons (pe_bltn (v := .ty "tuple") (u := .type "tuple") (by rfl) T.n_tuple (by decide +kernel) rfl) pa_nil))))) (pw_or1 (pt_cmpR op_ne (pe_callB (id := "len") (show CallR _ _ (rLenQ K) from call_len_seq) (by rfl) T.n_len (by decide +kernel) (pa_cons (pv 2) pa_nil)) pe_int (by rfl))))) (pss_one (ps_ret pe_bl)) pss_nil) (pss_one (ps_ret (pe_and (pe_fn (ok_is_number T) (hr.mono (by decide)) (by rfl) T.g_is_number (kp_of T.F_is_number) pass0 (pa_cons (pe_ix (show IxR _ (rIxT K) from ix_tup) (pv 2) pe_int (fun _ _ => rfl)) (pa_cons pe_int (pa_cons (pe_op op_sub (pv 1) pe_int) pa_nil)))) (pe_one (pe_fn (ok_is_out T) (hr.mono (by decide)) (by rfl) T.g_is_out (kp_of T.F_is_out) pass0 (pa_cons (pv 0) (pa_cons (pe_ix (show IxR _ (rIxT K) from ix_tup) (pv 2) pe_int (fun _ _ => rfl)) pa_nil)))))))), ?_⟩
  refine q_un (dt_is (et_or (et_not (dt_b (db_isiD (b := true) (dv_var i3) rfl))) fun _ => dt_t (db_neI (dv_lenT (dv_var i3)) dv_int)) rfl) fun H1 x1 => ?_
  refine s_reB (db_is (ev_andV (db_fn (da_cons (dv_ix (n := 0) (dv_var (i3.ex x1)) dv_int rfl) (da_cons dv_int (da_cons (dv_opI (dv_var (i2.ex x1)) dv_int) da_nil))) ⟨_, _, _, rfl, rfl⟩) fun _ =>
    db_fn (da_cons (dv_var (i1.ex x1)) (da_cons (dv_ix (n := 1) (dv_var (i3.ex x1)) dv_int rfl) da_nil)) ⟨_, _, rfl, ho, rfl⟩) ?_) fun H2 x2 => q H2 (x1.trans x2)
  simp
  omega
abbrev sp_first_wrong : Sp := spD fun ds d => ∃ M, ds = [tx M.L, rowsD M.rows] ∧ MacOk M ∧ d = .none
theorem sc_first_wrong : FnScope ["letters", "rows", "state", "row", "turn"] ["letters", "rows"] (defScope s_first_wrong) := ⟨rfl, rfl, rfl, by decide +kernel, rfl, by decide +kernel, by decide +kernel⟩
theorem ok_first_wrong (T : Txt K mg) : FnR P w K mg base CX0 3 (a_first_wrong K) (sp_first_wrong) := by
  refine okR T.F_first_wrong sc_first_wrong (fun _ _ _ _ _ _ us hl => match us, hl with | [_, _], _ => rfl) ?_ fun cdv A outer s H vs Q E hr q => ?_
  · exact spD_len fun _ _ ⟨_, e, _⟩ => by rw [e]; rfl
  obtain ⟨ds, b, il, ⟨M, rfl, hM, rfl⟩, q⟩ := q
  obtain ⟨v1, v2, rfl, i1, i2⟩ := il.two
  have F := LetOk.facts M.L hM.let_
  refine ⟨_, (pss_cons (ps_for PassesOwn.never rfl (pi_enumT (by rfl) T.n_enumerate (pa_cons (pv 1) pa_nil)) (show PG _ _ (gTup K 2 _) from pg_tup rfl (pgs_cons (pg_name (i := 2) sc_first_wrong.nd rfl (by first | exact .inl rfl | exact .inr rfl)) (pgs_cons (pg_name (i := 3) sc_first_wrong.nd rfl (by first | exact .inl rfl | exact .inr rfl)) pgs_nil))) (pss_cons (ps_if (PW.pt (pw_or (pt_not (pt_val (pe_callB (id := "isinstance") (show CallR _ _ (rIsi K) from call_isi) (by rfl) T.n_isinstance (by decide +kernel) (pa_cons (pv 3) (pa_cons (pe_bltn (v := .ty "tuple") (u := .type "tuple") (by rfl) T.n_tuple (by decide +kernel) rfl) pa_nil))))) (pw_or1 (pt_cmpR op_ne (pe_callB (id := "len") (show CallR _ _ (rLenQ K) from call_len_seq) (by rfl) T.n_len (by decide +kernel) (pa_cons (pv 3) pa_nil)) (pe_callB (id := "len") call_len_str (by rfl) T.n_len (by decide +kernel) (pa_cons (pv 0) pa_nil)) (by rfl))))) (pss_one (ps_ret (pv 2))) pss_nil) (pss_one (ps_if (pt_not (pt_val (pe_callB (id := "all") (show CallR _ _ (rAll K) from cr_all rfl) (by rfl) T.n_all (by decide +kernel) (pa_cons (pe_lc (own := [("turn", 4)]) rfl sc_first_wrong.nd (show PI _ _ _ (iTup K _) from pi_tup (pv 3)) (blkOk_by (own := [("turn", 4)]) (N := ["letters", "rows", "state", "row", "turn"]) (sc := defScope s_first_wrong) (by decide +kernel)) (fun _ _ _ _ _ => (pg_name (i := 4) sc_first_wrong.nd rfl (by first | exact .inl rfl | exact .inr rfl))) (fun _ _ _ _ _ => pts_nil) (fun _ _ _ _ _ => (pe_fn (ok_is_turn T) (hr.mono (by decide)) (by rfl) T.g_is_turn (kp_of T.F_is_turn) pass0 (pa_cons (pv 0) (pa_cons (pe_callB (id := "len") (show CallR _ _ (rLenQ K) from call_len_seq) (by rfl) T.n_len (by decide +kernel) (pa_cons (pv 1) pa_nil)) (pa_cons (pv 4) pa_nil)))))) pa_nil)))) (pss_one (ps_ret (pv 2))) pss_nil)))) (pss_one (ps_ret pe_non))), ?_⟩
  refine q_forE (da_cons (dv_var i2) da_nil) (fun H1 n σ' H' => Ex H1 H' ∧ ∃ u1 u2 u3, σ' = [some v1, some v2, u1, u2, u3]) (fun H1 x => ⟨Ex.refl _, _, _, _, rfl⟩) (fun H1 n σ' H' p => TS.ex p.1) ?_ ?_
  · rintro H1 n d v σ' H' Tt x1 hd ⟨x2, u1, u2, u3, rfl⟩ im hT
    obtain ⟨r, hr', rfl⟩ := List.mem_map.mp (List.mem_of_getElem? hd)
    have R := hM.row r hr'
    have x3 : Ex H' (upd H' Tt (.tup [.int n, v])) := Ex.new hT
    refine q_un (dt_is (et_or (et_not (dt_b (db_isiD (b := true) (dv_var (im.ex x3)) rfl))) fun _ => dt_t (db_neI (dv_lenT (dv_var (im.ex x3))) (dv_lenS (dv_var (((i1.ex x1).ex x2).ex x3)) (by omega)))) ?_) fun H4 x4 => ?_
    · simp [R.1]
    refine s_of (q_un (dt_is (et_not (dt_b (db_allT (lc_tup1A (f := fun _ => true) isB_mono (dv_var ((im.ex x3).ex x4)) ?_ ?_) ?_))) rfl) fun H5 x5 => ?_)
    · rw [List.length_map]; omega
    · intro d2 v' H5 hd2 x5 im2
      obtain ⟨t, ht, rfl⟩ := List.mem_map.mp hd2
      refine ⟨_, tgt1, rfl, db_m (db_fn (da_cons (dv_var (((((i1.ex x1).ex x2).ex x3).ex x4).ex x5)) (da_cons (dv_lenT (dv_var (((((i2.ex x1).ex x2).ex x3).ex x4).ex x5))) (da_cons (dv_var im2) da_nil))) ⟨M.L, M.rows.length, t, by rw [List.length_map], (R.2 t ht).1, (R.2 t ht).2, rfl⟩)⟩
    · simp
    · exact ⟨x2.trans (x3.trans (x4.trans x5)), _, _, _, rfl⟩
  · rintro H1 σ' H' x1 ⟨x2, _⟩
    exact s_re dv_non fun v H2 x3 im => q v H2 (x1.trans (x2.trans x3)) im
end
end Fk

set_option Elab.async false
set_option linter.all false
set_option maxRecDepth 100000
set_option maxHeartbeats 4000000
/-! the class of machines -/
namespace Fk
open PySem PySem.Spec PyProof.Rows L2 He
open Evl (Ex Ev EvT EvL EvA ev_andV ev_orV ev_notV et_and et_or et_not)
section
variable {P : Program} {w : World} {K : PySem.W.Frag} {mg : Str → Option Value} {base : Heap}
abbrev sp_Machine_init (K : PySem.W.Frag) : Sp := spMk (ga K "Machine") fun H us sl => ∃ M v u, MacOk M ∧ us = [v, u] ∧ Im H (tx M.L) v ∧ Im H (rowsD M.rows) u ∧ sl = [some v, some u]
theorem sc_Machine_init : FnScope ["self", "letters", "rows", "wrong"] ["self", "letters", "rows"] (defScope s_Machine_init) := ⟨rfl, rfl, rfl, by decide +kernel, rfl, by decide +kernel, by decide +kernel⟩
theorem ok_Machine_init (T : Txt K mg) : FnR P w K mg base CX0 4 (a_Machine_init K) (sp_Machine_init K) := by
  refine okR T.F_Machine_init sc_Machine_init (fun _ _ _ _ _ _ us hl => match us, hl with | [_, _, _], _ => rfl) ?_ fun cdv A outer s H vs Q E hr q => ?_
  · rintro vs H Q E ⟨x, dx, us, sl, rfl, _, _, ⟨M, v, u, _, rfl, _⟩, _⟩
    rfl
  obtain ⟨a, dx, us, sl, rfl, ha, ne, ⟨M, v, u, hM, rfl, i1, i2, rfl⟩, q⟩ := q
  have F := LetOk.facts M.L hM.let_
  refine ⟨_, (pss_cons (ps_expr (pe_fn (ok_check_letters T) (hr.mono (by decide)) (by rfl) T.g_check_letters (kp_of T.F_check_letters) pass0 (pa_cons (pv 1) pa_nil))) (pss_cons (ps_if (PW.pt (pw_or (pt_not (pt_val (pe_callB (id := "isinstance") (show CallR _ _ (rIsi K) from call_isi) (by rfl) T.n_isinstance (by decide +kernel) (pa_cons (pv 2) (pa_cons (pe_bltn (v := .ty "tuple") (u := .type "tuple") (by rfl) T.n_tuple (by decide +kernel) rfl) pa_nil))))) (pw_or1 (pt_not (pt_chain op_le op_le pe_int (pe_callB (id := "len") (show CallR _ _ (rLenQ K) from call_len_seq) (by rfl) T.n_len (by decide +kernel) (pa_cons (pv 2) pa_nil)) (pe_gi (by rfl) T.i_MOST_STATES)))))) (pss_one ps_never) pss_nil) (pss_cons (ps_set (i := 3) sc_Machine_init.nd rfl (by first | exact .inl rfl | exact .inr rfl) (pe_fn (ok_first_wrong T) (hr.mono (by decide)) (by rfl) T.g_first_wrong (kp_of T.F_first_wrong) pass0 (pa_cons (pv 1) (pa_cons (pv 2) pa_nil)))) (pss_cons (ps_if (pt_cmpR op_notN (pv 3) pe_non (by rfl)) (pss_one ps_never) pss_nil) (pss_cons (SlX.ps_sl (pv 0) (pv 1)) (pss_one (SlX.ps_sl (pv 0) (pv 2)))))))), ?_⟩
  refine Evl.q_drop (v := .non) (fun H1 x Q q => dv_fn (da_cons (dv_var i1) da_nil) ⟨M.L, rfl, hM.let_, rfl⟩ H1 x Q fun v H2 y im => by rw [im.non]; exact q H2 y) fun H1 x1 => ?_
  refine q_un (dt_is (et_or (et_not (dt_b (db_isiD (b := true) (dv_var (i2.ex x1)) rfl))) fun _ => et_not (dt_t (db_chainI dv_int (dv_lenT (dv_var (i2.ex x1))) dv_int))) ?_) fun H2 x2 => ?_
  · have := hM.one; have := hM.six
    simp
    omega
  refine q_as (dv_fn (da_cons (dv_var ((i1.ex x1).ex x2)) (da_cons (dv_var ((i2.ex x1).ex x2)) da_nil)) ⟨M, rfl, hM, rfl⟩) fun v3 H3 x3 j3 => ?_
  refine q_un (dt_t (db_is (db_notN (dv_var j3)) rfl)) fun H4 x4 => ?_
  have sl4 : SlX.Slt H4 a (ga K "Machine") dx [] := .inl ⟨(((x1.trans x2).trans x3).trans x4) _ _ ha, rfl⟩
  refine q_sl (ev_vr) (ev_vr) sl4 T.c_Machine T.s_Machine_signs fun H5 x5 => ?_
  have sl5 : SlX.Slt (SlX.slH H5 a (ga K "Machine") dx (SlX.putS 0 v [])) a (ga K "Machine") dx [some v] := SlX.slH_slt ne
  refine s_of (q_sl (ev_vr) (ev_vr) sl5 T.c_Machine T.s_Machine_table fun H6 x6 => ?_)
  refine q _ (fun b o n1 n2 e => ?_) (SlX.slH_slt ne)
  rw [SlX.slH_ne n1 n2]
  refine x6 _ _ ?_
  rw [SlX.slH_ne n1 n2]
  exact ((((x1.trans x2).trans x3).trans x4).trans x5) _ _ e
abbrev sp_Machine_letters (K : PySem.W.Frag) : Sp := spM K fun M ds d => ds = [] ∧ d = tx M.L
theorem sc_Machine_letters : FnScope ["self"] ["self"] (defScope s_Machine_letters) := ⟨rfl, rfl, rfl, by decide +kernel, rfl, by decide +kernel, by decide +kernel⟩
theorem ok_Machine_letters (T : Txt K mg) : FnR P w K mg base CX0 1 (a_Machine_letters K) (sp_Machine_letters K) := by
  refine okR T.F_Machine_letters sc_Machine_letters (fun _ _ _ _ _ _ us hl => match us, hl with | [_], _ => rfl) ?_ fun cdv A outer s H vs Q E hr q => ?_
  · exact spM_len fun _ _ _ ⟨e, _⟩ => by rw [e]; rfl
  obtain ⟨a, M, ds, d, ws, rfl, m, il, ⟨rfl, rfl⟩, q⟩ := q
  obtain rfl := il.nil
  obtain ⟨hM, dx, v, u, s, i1, i2⟩ := id m
  refine ⟨_, (pss_one (ps_ret (show PE _ _ (SlX.tSl K _ _) from SlX.pe_sl (pv 0)))), ?_⟩
  exact s_re (dv_sl ev_vr s T.c_Machine T.s_Machine_signs i1) fun v H1 x im => q v H1 x im
abbrev sp_Machine_len (K : PySem.W.Frag) : Sp := spM K fun M ds d => ds = [] ∧ d = .num (M.rows.length : Int)
theorem sc_Machine_len : FnScope ["self"] ["self"] (defScope s_Machine_len) := ⟨rfl, rfl, rfl, by decide +kernel, rfl, by decide +kernel, by decide +kernel⟩
theorem ok_Machine_len (T : Txt K mg) : FnR P w K mg base CX0 1 (a_Machine_len K) (sp_Machine_len K) := by
  refine okR T.F_Machine_len sc_Machine_len (fun _ _ _ _ _ _ us hl => match us, hl with | [_], _ => rfl) ?_ fun cdv A outer s H vs Q E hr q => ?_
  · exact spM_len fun _ _ _ ⟨e, _⟩ => by rw [e]; rfl
  obtain ⟨a, M, ds, d, ws, rfl, m, il, ⟨rfl, rfl⟩, q⟩ := q
  obtain rfl := il.nil
  obtain ⟨hM, dx, v, u, s, i1, i2⟩ := id m
  refine ⟨_, (pss_one (ps_ret (pe_callB (id := "len") (show CallR _ _ (rLenQ K) from call_len_seq) (by rfl) T.n_len (by decide +kernel) (pa_cons (show PE _ _ (SlX.tSl K _ _) from SlX.pe_sl (pv 0)) pa_nil)))), ?_⟩
  exact s_re (dv_is (dv_lenT (dv_sl ev_vr s T.c_Machine T.s_Machine_table i2)) (by rw [List.length_map])) fun v H1 x im => q v H1 x im
abbrev sp_Machine_turn (K : PySem.W.Frag) : Sp := spM K fun M ds d => ∃ s c : Nat, ds = [.num (s : Int), tx [c]] ∧ s < M.rows.length ∧ c ∈ M.L ∧ d = turnD (M.turn s c)
theorem sc_Machine_turn : FnScope ["self", "state", "letter"] ["self", "state", "letter"] (defScope s_Machine_turn) := ⟨rfl, rfl, rfl, by decide +kernel, rfl, by decide +kernel, by decide +kernel⟩
theorem ok_Machine_turn (T : Txt K mg) : FnR P w K mg base CX0 1 (a_Machine_turn K) (sp_Machine_turn K) := by
  refine okR T.F_Machine_turn sc_Machine_turn (fun _ _ _ _ _ _ us hl => match us, hl with | [_, _, _], _ => rfl) ?_ fun cdv A outer s H vs Q E hr q => ?_
  · exact spM_len fun _ _ _ ⟨_, _, e, _⟩ => by rw [e]; rfl
  obtain ⟨a, M, ds, d, ws, rfl, m, il, ⟨st, c, rfl, hs, hc, rfl⟩, q⟩ := q
  obtain ⟨v1, v2, rfl, j1, j2⟩ := il.two
  obtain ⟨hM, dx, v, u, s, i1, i2⟩ := id m
  obtain ⟨r, hr1, hr2, _⟩ := hM.turn hs hc
  refine ⟨_, (pss_one (ps_ret (pe_ix (show IxR _ (rIxT K) from ix_tup) (pe_ix (show IxR _ (rIxT K) from ix_tup) (show PE _ _ (SlX.tSl K _ _) from SlX.pe_sl (pv 0)) (pv 1) (fun _ _ => rfl)) (pe_m1 PySem.F.slot_str_index PySem.F.type_str_index mt_sindex (show PE _ _ (SlX.tSl K _ _) from SlX.pe_sl (pv 0)) (pv 2)) (fun _ _ => rfl)))), ?_⟩
  exact s_re (dv_ix (dv_ix (dv_sl ev_vr s T.c_Machine T.s_Machine_table i2) (dv_var j1) (by rw [List.getElem?_map, hr1]; rfl)) (dv_index (dv_sl ev_vr s T.c_Machine T.s_Machine_signs i1) (dv_var j2) hM.let_ hc) (by rw [List.getElem?_map, hr2]; rfl)) fun v H1 x im => q v H1 x im
abbrev sp_Machine_ends (K : PySem.W.Frag) : Sp := spM K fun M ds d => ∃ l : Tx, ds = [tx l] ∧ l.length ≤ 50000 ∧ (∀ c ∈ l, c ∈ M.L) ∧ d = .tup [.num ((M.ends l).1 : Nat), tx (M.ends l).2]
theorem Mac.ends_snoc {M : Mac} {l : Tx} {c : Nat} : M.ends (l ++ [c]) = ((M.turn (M.ends l).1 c).1, (M.ends l).2 ++ ot (M.turn (M.ends l).1 c).2) := by
  unfold Mac.ends
  rw [List.foldl_append]
  rfl
theorem ot_len {o : Option Nat} : (ot o).length ≤ 1 := by cases o <;> simp [ot]
theorem Mac.ends_ok {M : Mac} (h : MacOk M) {l : Tx} (hl : ∀ c ∈ l, c ∈ M.L) : (M.ends l).1 < M.rows.length ∧ (M.ends l).2.length ≤ l.length ∧ ∀ c ∈ (M.ends l).2, c ∈ M.L := by
  have key : ∀ n, n ≤ l.length → (M.ends (l.take n)).1 < M.rows.length ∧ (M.ends (l.take n)).2.length ≤ n ∧ ∀ c ∈ (M.ends (l.take n)).2, c ∈ M.L := by
    intro n
    induction n with
    | zero =>
      intro _
      exact ⟨h.one, by simp [Mac.ends], by simp [Mac.ends]⟩
    | succ n ih =>
      intro hn
      obtain ⟨h1, h2, h3⟩ := ih (by omega)
      have hc := hl l[n] (List.getElem_mem _)
      have e : l.take (n + 1) = l.take n ++ [l[n]] := by rw [List.take_add_one, List.getElem?_eq_getElem (by omega)]; rfl
      obtain ⟨r, _, _, t1, t2⟩ := h.turn h1 hc
      rw [e, Mac.ends_snoc]
      refine ⟨t1, ?_, ?_⟩
      · rw [List.length_append]
        have := @ot_len (M.turn (M.ends (l.take n)).1 l[n]).2
        show (M.ends (l.take n)).2.length + (ot _).length ≤ n + 1
        omega
      · intro c hc
        rcases List.mem_append.mp hc with z | z
        · exact h3 c z
        · exact t2 c (by simpa [ot] using z)
  have := key l.length (Nat.le_refl _)
  rwa [List.take_length] at this
theorem sc_Machine_ends : FnScope ["self", "value", "state", "made", "letter", "out"] ["self", "value"] (defScope s_Machine_ends) := ⟨rfl, rfl, rfl, by decide +kernel, rfl, by decide +kernel, by decide +kernel⟩
theorem ok_Machine_ends (T : Txt K mg) : FnR P w K mg base CX0 2 (a_Machine_ends K) (sp_Machine_ends K) := by
  refine okR T.F_Machine_ends sc_Machine_ends (fun _ _ _ _ _ _ us hl => match us, hl with | [_, _], _ => rfl) ?_ fun cdv A outer s H vs Q E hr q => ?_
  · exact spM_len fun _ _ _ ⟨_, e, _⟩ => by rw [e]; rfl
  obtain ⟨a, M, ds, d, ws, rfl, m, il, ⟨l, rfl, hz, hl, rfl⟩, q⟩ := q
  obtain ⟨v1, rfl, j1⟩ := il.one
  obtain ⟨hM, _⟩ := id m
  refine ⟨_, (pss_cons (ps_asg (pe_tup (pa_cons pe_int (pa_cons pe_str pa_nil))) (show PG _ _ (gTup K 2 _) from pg_tup rfl (pgs_cons (pg_name (i := 2) sc_Machine_ends.nd rfl (by first | exact .inl rfl | exact .inr rfl)) (pgs_cons (pg_name (i := 3) sc_Machine_ends.nd rfl (by first | exact .inl rfl | exact .inr rfl)) pgs_nil)))) (pss_cons (ps_for PassesOwn.never rfl (pi_str (pv 1)) (pg_name (i := 4) sc_Machine_ends.nd rfl (by first | exact .inl rfl | exact .inr rfl)) (pss_cons (ps_asg (SlX.pe_methSl (pv 0) T.c_Machine T.m_Machine_turn (ok_Machine_turn T) (hr.mono (by decide)) pass0 (pa_cons (pv 2) (pa_cons (pv 4) pa_nil))) (show PG _ _ (gTup K 2 _) from pg_tup rfl (pgs_cons (pg_name (i := 2) sc_Machine_ends.nd rfl (by first | exact .inl rfl | exact .inr rfl)) (pgs_cons (pg_name (i := 5) sc_Machine_ends.nd rfl (by first | exact .inl rfl | exact .inr rfl)) pgs_nil)))) (pss_one (ps_aug (i := 3) sc_Machine_ends.nd rfl (by first | exact .inl rfl | exact .inr rfl) (pv 5) ip_str)))) (pss_one (ps_ret (pe_tup (pa_cons (pv 2) (pa_cons (pv 3) pa_nil))))))), ?_⟩
  refine q_un2 (dv_tup (da_cons (dv_int (i := 0)) (da_cons (dv_is dv_str (e := tx []) rfl) da_nil))) fun u1 u2 H1 x1 k1 k2 => ?_
  obtain rfl := k1.num
  obtain rfl := k2.text
  refine q_forS (dv_var (j1.ex x1)) (fun n σ' H' => Ex H H' ∧ ∃ u3 u4, σ' = [some (.ref a), some v1, some (.int ((M.ends (l.take n)).1 : Nat)), some (.str (tS (M.ends (l.take n)).2)), u3, u4]) (fun H2 x2 => ⟨x1.trans x2, _, _, rfl⟩) ?_ ?_
  · rintro n c σ' H' hc ⟨x2, u3, u4, rfl⟩
    have hc' : c ∈ M.L := hl c (List.mem_of_getElem? hc)
    have E := Mac.ends_ok hM (l := l.take n) fun c h => hl c (List.mem_of_mem_take h)
    have hl2 : (l.take n).length ≤ 50000 := by rw [List.length_take]; omega
    have es := (congrArg M.ends (take_snoc hc)).trans Mac.ends_snoc
    refine q_un2 (dv_methM ev_vr (m.ex x2) (da_cons (dv_var im_num) (da_cons (dv_var im_text) da_nil)) ⟨_, c, rfl, E.1, hc', rfl⟩) fun w1 w2 H3 x3 l1 l2 => ?_
    obtain rfl := l1.num
    obtain rfl := l2.text
    have := @ot_len (M.turn (M.ends (l.take n)).1 c).2
    refine s_of (q_augS rfl (dv_var im_text) (by omega) fun H4 x4 => ?_)
    simp only [es]
    exact ⟨x2.trans (x3.trans x4), _, _, rfl⟩
  · rintro σ' H' ⟨x2, u3, u4, rfl⟩
    rw [List.take_length]
    exact s_re (dv_tup (da_cons (dv_var im_num) (da_cons (dv_var im_text) da_nil))) fun v H3 x3 im => q v H3 (x2.trans x3) im
abbrev sp_check_machine (K : PySem.W.Frag) : Sp := spM K fun M ds d => ds = [] ∧ d = .none
theorem sc_check_machine : FnScope ["machine"] ["machine"] (defScope s_check_machine) := ⟨rfl, rfl, rfl, by decide +kernel, rfl, by decide +kernel, by decide +kernel⟩
theorem ok_check_machine (T : Txt K mg) : FnR P w K mg base CX0 1 (a_check_machine K) (sp_check_machine K) := by
  refine okR T.F_check_machine sc_check_machine (fun _ _ _ _ _ _ us hl => match us, hl with | [_], _ => rfl) ?_ fun cdv A outer s H vs Q E hr q => ?_
  · exact spM_len fun _ _ _ ⟨e, _⟩ => by rw [e]; rfl
  obtain ⟨a, M, ds, d, ws, rfl, m, il, ⟨rfl, rfl⟩, q⟩ := q
  obtain rfl := il.nil
  refine ⟨_, (pss_one (ps_if (pt_not (pt_val (pe_callB (id := "isinstance") (SlX.call_isiSl (.ref (ga K "Machine"))) (by rfl) T.n_isinstance (by decide +kernel) (pa_cons (pv 0) (pa_cons (pe_glob (v := .ref _) (by rfl) T.g_Machine rfl) pa_nil))))) (pss_one ps_never) pss_nil)), ?_⟩
  refine s_un (dt_is (et_not (dt_b (b := true) ?_)) rfl) fun H1 x1 => q _ H1 x1 im_none
  refine fun H1 x Q q => (Evl.ev_var rfl) H1 x _ fun H2 y => ?_
  obtain ⟨hM, dx, v, u, s, i1, i2⟩ := m.ex (x.trans y)
  exact ⟨a, _, dx, _, _, _, rfl, rfl, fun _ e => e, s, T.c_Machine, T.y_Machine, T.kit_Machine_Machine, q H2 y⟩
/-- two machines with the same letters -/
abbrev sp_check_two (K : PySem.W.Frag) : Sp := fun vs H Q _ => ∃ a b M N, vs = [.ref a, .ref b] ∧ MacAt K H a M ∧ MacAt K H b N ∧ N.L = M.L ∧ ∀ H', Ex H H' → Q .non H'
theorem ev_non {te : TE} {σ : L2.St} {H : Hp} (h : DV te σ H .none) : Ev te σ H .non := fun H1 x Q q => h H1 x Q fun v H2 y im => by rw [im.non]; exact q H2 y
theorem sc_check_two : FnScope ["one", "other"] ["one", "other"] (defScope s_check_two) := ⟨rfl, rfl, rfl, by decide +kernel, rfl, by decide +kernel, by decide +kernel⟩
theorem ok_check_two (T : Txt K mg) : FnR P w K mg base CX0 3 (a_check_two K) (sp_check_two K) := by
  refine okR T.F_check_two sc_check_two (fun _ _ _ _ _ _ us hl => match us, hl with | [_, _], _ => rfl) ?_ fun cdv A outer s H vs Q E hr q => ?_
  · rintro vs H Q E ⟨_, _, _, _, rfl, _⟩
    rfl
  obtain ⟨a, b, M, N, rfl, m, n, e, q⟩ := q
  refine ⟨_, (pss_cons (ps_expr (pe_fn (ok_check_machine T) (hr.mono (by decide)) (by rfl) T.g_check_machine (kp_of T.F_check_machine) pass0 (pa_cons (pv 0) pa_nil))) (pss_cons (ps_expr (pe_fn (ok_check_machine T) (hr.mono (by decide)) (by rfl) T.g_check_machine (kp_of T.F_check_machine) pass0 (pa_cons (pv 1) pa_nil))) (pss_one (ps_if (pt_cmpR op_ne (SlX.pe_propSl (pv 0) T.c_Machine T.p_at T.p_get T.p_tak T.p_rec (ok_Machine_letters T) (hr.mono (by decide)) (E := E0) (fun _ _ _ _ h => h.elim)) (SlX.pe_propSl (pv 1) T.c_Machine T.p_at T.p_get T.p_tak T.p_rec (ok_Machine_letters T) (hr.mono (by decide)) (E := E0) (fun _ _ _ _ h => h.elim)) (by rfl)) (pss_one ps_never) pss_nil)))), ?_⟩
  refine Evl.q_drop (ev_non (dv_fnM ev_vr m ⟨rfl, rfl⟩)) fun H1 x1 => ?_
  refine Evl.q_drop (ev_non (dv_fnM ev_vr (n.ex x1) ⟨rfl, rfl⟩)) fun H2 x2 => ?_
  refine s_of (q_un (dt_t (db_is (db_neS (dv_propM ev_vr (m.ex (x1.trans x2)) ⟨rfl, rfl⟩) (dv_propM ev_vr (n.ex (x1.trans x2)) ⟨rfl, rfl⟩)) (by rw [e]; simp))) fun H3 x3 => q _ (x1.trans (x2.trans x3)))
end
end Fk

set_option Elab.async false
set_option linter.all false
/-! what stars lead to -/
namespace Fk
open PySem
theorem ledB_iff {pat : Tx} {S : List Int} {q : Nat} : ledB pat S q = true ↔ ∃ p : Nat, (p : Int) ∈ S ∧ p ≤ q ∧ ∀ k, p ≤ k → k < q → pat.getD k 0 = sr := by
  unfold ledB
  rw [List.any_eq_true]
  constructor
  · rintro ⟨p, hp, h⟩
    simp only [Bool.and_eq_true, decide_eq_true_eq, List.all_eq_true, List.mem_range, beq_iff_eq] at h
    obtain ⟨⟨h0, h1⟩, h2⟩ := h
    refine ⟨p.toNat, by rw [Int.toNat_of_nonneg h0]; exact hp, h1, fun k a b => ?_⟩
    have := h2 (k - p.toNat) (by omega)
    rwa [show p.toNat + (k - p.toNat) = k by omega] at this
  · rintro ⟨p, hp, h1, h2⟩
    refine ⟨(p : Int), hp, ?_⟩
    simp only [Bool.and_eq_true, decide_eq_true_eq, List.all_eq_true, List.mem_range, beq_iff_eq]
    refine ⟨⟨by omega, by simpa using h1⟩, fun k hk => ?_⟩
    have e : ((p : Int)).toNat = p := by simp
    rw [e] at hk ⊢
    exact h2 (p + k) (by omega) (by omega)
theorem ledB_zero {pat : Tx} {S : List Int} : ledB pat S 0 = true ↔ (0 : Int) ∈ S := by
  rw [ledB_iff]
  constructor
  · rintro ⟨p, hp, h, _⟩
    have : p = 0 := by omega
    subst this
    exact hp
  · intro h
    exact ⟨0, h, Nat.le_refl _, fun k a b => by omega⟩
theorem ledB_succ {pat : Tx} {S : List Int} {q : Nat} : ledB pat S (q + 1) = true ↔ ((q + 1 : Nat) : Int) ∈ S ∨ (ledB pat S q = true ∧ pat.getD q 0 = sr) := by
  rw [ledB_iff, ledB_iff]
  constructor
  · rintro ⟨p, hp, h1, h2⟩
    by_cases e : p = q + 1
    · subst e; exact .inl hp
    · exact .inr ⟨⟨p, hp, by omega, fun k a b => h2 k a (by omega)⟩, h2 q (by omega) (by omega)⟩
  · rintro (h | ⟨⟨p, hp, h1, h2⟩, h3⟩)
    · exact ⟨q + 1, h, Nat.le_refl _, fun k a b => by omega⟩
    · refine ⟨p, hp, by omega, fun k a b => ?_⟩
      by_cases e : k = q
      · subst e; exact h3
      · exact h2 k a (by omega)
theorem mem_ledF {pat : Tx} {S : List Int} {j : Int} : j ∈ ledF pat S ↔ 0 ≤ j ∧ j ≤ pat.length ∧ ledB pat S j.toNat = true := by
  unfold ledF
  rw [List.mem_map]
  constructor
  · rintro ⟨k, hk, rfl⟩
    rw [List.mem_filter, List.mem_range] at hk
    refine ⟨Int.natCast_nonneg k, ?_, by simpa using hk.2⟩
    have := hk.1
    show (k : Int) ≤ _
    omega
  · rintro ⟨h0, h1, h2⟩
    refine ⟨j.toNat, ?_, Int.toNat_of_nonneg h0⟩
    rw [List.mem_filter, List.mem_range]
    exact ⟨by omega, h2⟩
theorem ledF_sorted (pat : Tx) (S : List Int) : (ledF pat S).Pairwise (· < ·) := by
  unfold ledF
  rw [List.pairwise_map]
  refine List.Pairwise.imp (fun {a b} (h : a < b) => ?_) (List.Pairwise.filter _ List.pairwise_lt_range)
  exact Int.ofNat_lt.mpr h
theorem ledF_len (pat : Tx) (S : List Int) : (ledF pat S).length ≤ pat.length + 1 := by
  unfold ledF
  rw [List.length_map]
  exact Nat.le_trans (List.length_filter_le _ _) (by rw [List.length_range]; exact Nat.le_refl _)
theorem sorted_ext {xs ys : List Int} (hx : xs.Pairwise (· < ·)) (hy : ys.Pairwise (· < ·)) (h : ∀ j, j ∈ xs ↔ j ∈ ys) : xs = ys := by
  induction xs generalizing ys with
  | nil =>
    cases ys with
    | nil => rfl
    | cons y r => exact absurd ((h y).mpr List.mem_cons_self) (by simp)
  | cons x r ih =>
    cases ys with
    | nil => exact absurd ((h x).mp List.mem_cons_self) (by simp)
    | cons y s =>
      rw [List.pairwise_cons] at hx hy
      have e : x = y := by
        rcases List.mem_cons.mp ((h x).mp List.mem_cons_self) with e | e
        · exact e
        · rcases List.mem_cons.mp ((h y).mpr List.mem_cons_self) with e2 | e2
          · exact e2.symm
          · have := hy.1 x e; have := hx.1 y e2; omega
      subst e
      congr 1
      refine ih hx.2 hy.2 fun j => ?_
      have hj := h j
      rw [List.mem_cons, List.mem_cons] at hj
      constructor
      · intro m
        rcases hj.mp (.inr m) with e | e
        · subst e; exact absurd (hx.1 j m) (by omega)
        · exact e
      · intro m
        rcases hj.mpr (.inr m) with e | e
        · subst e; exact absurd (hy.1 j m) (by omega)
        · exact e
theorem ledF_of {pat : Tx} {S ys : List Int} (hs : ys.Pairwise (· < ·)) (h : ∀ j, j ∈ ys ↔ 0 ≤ j ∧ j ≤ pat.length ∧ ledB pat S j.toNat = true) : ys = ledF pat S :=
  sorted_ext hs (ledF_sorted pat S) fun j => (h j).trans mem_ledF.symm
theorem lt_of_le_nd {ys : List Int} (h : ys.Pairwise (· ≤ ·)) (n : ys.Nodup) : ys.Pairwise (· < ·) := by
  have := List.Pairwise.and h n
  exact this.imp fun {a b} ⟨h1, h2⟩ => by
    have : a ≠ b := h2
    omega
theorem ledB_congr {pat : Tx} {S S' : List Int} (h : ∀ j, j ∈ S ↔ j ∈ S') (q : Nat) : ledB pat S q = ledB pat S' q := by
  rw [Bool.eq_iff_iff, ledB_iff, ledB_iff]
  constructor
  · rintro ⟨p, hp, r⟩; exact ⟨p, (h _).mp hp, r⟩
  · rintro ⟨p, hp, r⟩; exact ⟨p, (h _).mpr hp, r⟩
theorem ledF_congr {pat : Tx} {S S' : List Int} (h : ∀ j, j ∈ S ↔ j ∈ S') : ledF pat S = ledF pat S' := by
  unfold ledF
  rw [List.filter_congr fun q _ => ledB_congr h q]
theorem ledF_idem (pat : Tx) (S : List Int) : ledF pat (ledF pat S) = ledF pat S := by
  refine (ledF_of (ledF_sorted pat S) fun j => ?_).symm
  rw [mem_ledF]
  refine and_congr_right fun h0 => and_congr_right fun h1 => ?_
  rw [ledB_iff, ledB_iff]
  constructor
  · rintro ⟨p, hp, h2, h3⟩
    exact ⟨j.toNat, mem_ledF.mpr ⟨by omega, by omega, by rw [Int.toNat_natCast]; exact ledB_iff.mpr ⟨p, hp, h2, h3⟩⟩, Nat.le_refl _, fun k a b => by omega⟩
  · rintro ⟨p, hp, h2, h3⟩
    obtain ⟨r, hr, h4, h5⟩ := ledB_iff.mp (mem_ledF.mp hp).2.2
    rw [Int.toNat_natCast] at h4 h5
    refine ⟨r, hr, by omega, fun k a b => ?_⟩
    by_cases e : k < p
    · exact h5 k a e
    · exact h3 k (by omega) b
theorem nd_sub {α : Type} [DecidableEq α] : ∀ {l m : List α}, l.Nodup → (∀ x ∈ l, x ∈ m) → l.length ≤ m.length
  | [], _, _, _ => Nat.zero_le _
  | a :: r, m, n, s => by
    rw [List.nodup_cons] at n
    have ha := s a List.mem_cons_self
    have := nd_sub (l := r) (m := m.erase a) n.2 fun x hx => (List.mem_erase_of_ne (fun (e : x = a) => n.1 (e ▸ hx))).mpr (s x (List.mem_cons_of_mem _ hx))
    rw [List.length_erase_of_mem ha] at this
    have h0 : 0 < m.length := List.length_pos_of_mem ha
    rw [List.length_cons]
    omega
theorem led_step {pat : Tx} {S : List Int} {n p q : Nat} (hi : S[n]? = some (p : Int)) (h1 : p ≤ q) (h2 : q ≤ pat.length) (st : ∀ k, p ≤ k → k < q → pat.getD k 0 = sr) (stop : q = pat.length ∨ pat.getD q 0 ≠ sr) (j : Int) :
    ((0 ≤ j ∧ j ≤ pat.length ∧ ledB pat (S.take n) j.toNat = true) ∨ ((p : Int) ≤ j ∧ j ≤ q)) ↔ (0 ≤ j ∧ j ≤ pat.length ∧ ledB pat (S.take (n + 1)) j.toNat = true) := by
  have e : S.take (n + 1) = S.take n ++ [(p : Int)] := by rw [List.take_add_one, hi]; rfl
  rw [e, ledB_iff, ledB_iff]
  constructor
  · rintro (⟨h0, h3, r, hr, h4, h5⟩ | ⟨h3, h4⟩)
    · exact ⟨h0, h3, r, List.mem_append.mpr (.inl hr), h4, h5⟩
    · exact ⟨by omega, by omega, p, List.mem_append.mpr (.inr (by simp)), by omega, fun k a b => st k a (by omega)⟩
  · rintro ⟨h0, h3, r, hr, h4, h5⟩
    rcases List.mem_append.mp hr with hr | hr
    · exact .inl ⟨h0, h3, r, hr, h4, h5⟩
    · have er : r = p := by
        have := List.mem_singleton.mp hr
        omega
      subst er
      refine .inr ⟨by omega, ?_⟩
      rcases stop with z | z
      · omega
      · by_cases hq : j ≤ (q : Int)
        · exact hq
        · exact absurd (h5 q h1 (by omega)) z
/-- keys in a small range are few -/
theorem few_of {ks : List Int} (n : Nat) (nd : ks.Nodup) (h : ∀ j ∈ ks, 0 ≤ j ∧ j ≤ n) : ks.length ≤ n + 1 := by
  have e : ks.length = (ks.map Int.toNat).length := by rw [List.length_map]
  rw [e]
  have nd2 : (ks.map Int.toNat).Nodup := by
    refine List.Pairwise.map _ (R := fun a b => a ≠ b ∧ 0 ≤ a ∧ 0 ≤ b) (fun a b ⟨h1, h2, h3⟩ => by omega) ?_
    exact List.Pairwise.imp_of_mem (fun {a b} ha hb hn => ⟨hn, (h a ha).1, (h b hb).1⟩) nd
  have sub : ∀ x ∈ ks.map Int.toNat, x ∈ List.range (n + 1) := by
    intro x hx
    obtain ⟨j, hj, rfl⟩ := List.mem_map.mp hx
    have := h j hj
    exact List.mem_range.mpr (by omega)
  have := nd_sub nd2 sub
  rwa [List.length_range] at this
end Fk

set_option Elab.async false
set_option linter.all false
set_option maxRecDepth 100000
set_option maxHeartbeats 4000000
/-! dicts with whole numbers as keys, told of their keys -/
namespace Fk
open PySem PySem.Spec PyProof.Rows L2 He
open Evl (Ex Ev EvT EvL EvA)
/-- the keys of kvs are ks -/
def KsI (kvs : List (Key × V)) (ks : List Int) : Prop := kvs.map (·.1) = ks.map Sum.inl
theorem ksI_nil : KsI [] [] := rfl
theorem KsI.none {kvs : List (Key × V)} {ks : List Int} (h : KsI kvs ks) {i : Int} (n : i ∉ ks) : valV kvs (.inl i) = none := by
  induction kvs generalizing ks with
  | nil => rfl
  | cons p r ih =>
    cases ks with
    | nil => exact absurd h (by simp [KsI])
    | cons j s =>
      have h1 : p.1 = Sum.inl j ∧ KsI r s := by simpa [KsI] using h
      have e : ¬ p.1 = Sum.inl i := by
        rw [h1.1]
        intro z
        exact n (by rw [Sum.inl.inj z]; exact List.mem_cons_self)
      rw [valV_neg e]
      exact ih h1.2 fun m => n (List.mem_cons_of_mem _ m)
theorem KsI.put {kvs : List (Key × V)} {ks : List Int} (h : KsI kvs ks) (nd : ks.Nodup) (i : Int) (v : V) : ∃ ks', KsI (putK kvs (.inl i) v) ks' ∧ ks'.Nodup ∧ (∀ j, j ∈ ks' ↔ j ∈ ks ∨ j = i) ∧ ks'.length ≤ ks.length + 1 := by
  by_cases m : i ∈ ks
  · refine ⟨ks, ?_, nd, fun j => ⟨.inl, fun o => o.elim id fun e => e ▸ m⟩, Nat.le_succ _⟩
    have any : (kvs.any fun kv => decide (kv.1 = (Sum.inl i : Key))) = true := by
      have : (Sum.inl i : Key) ∈ kvs.map (·.1) := by rw [h]; exact List.mem_map_of_mem m
      obtain ⟨kv, hkv, e⟩ := List.mem_map.mp this
      exact List.any_eq_true.mpr ⟨kv, hkv, by simpa using e⟩
    unfold KsI putK
    rw [if_pos any, List.map_map, ← h]
    refine List.map_congr_left fun kv _ => ?_
    show (if kv.1 = Sum.inl i then (kv.1, v) else kv).1 = kv.1
    split <;> rfl
  · refine ⟨ks ++ [i], ?_, ?_, fun j => by simp, by simp⟩
    · rw [putK_new v (h.none m)]
      unfold KsI at h ⊢
      rw [List.map_append, List.map_append, h]
      rfl
    · rw [List.nodup_append]
      exact ⟨nd, by simp, fun a ha b hb => by rw [List.mem_singleton.mp hb]; exact fun e => m (e ▸ ha)⟩
theorem KsI.length {kvs : List (Key × V)} {ks : List Int} (h : KsI kvs ks) : kvs.length = ks.length := by
  have := congrArg List.length h
  simpa using this
section
variable {K : PySem.W.Frag} {σ : L2.St} {H : Hp} {td ty tv te : TE} {a : Addr} {kvs : List (Key × V)} {i : Int} {v : V} {De : Ends} {tz : L2.TS}
/-- d[i] = v -/
theorem q_dputI (hv : Ev tv σ H v) (hd : Ev td σ H (.ref a)) (hi : DV ty σ H (.num i)) (ha : H a = some (.dK kvs)) (hl : kvs.length < 100000) (k : ∀ H1, Ex H H1 → tz De σ (upd H1 a (.dK (putK kvs (.inl i) v)))) : tSeq (sDPut td ty tv) tz De σ H :=
  hv H (Ex.refl _) _ fun H1 x => hd H1 x _ fun H2 y => hi H2 (x.trans y) _ fun w H3 z iw => by
    have e := z _ _ (y _ _ (x _ _ ha))
    obtain rfl := iw.num
    exact ⟨a, _, rfl, DPut.k (k := .inl i) e (Evl.sz_lt hl), k H3 (x.trans (y.trans z))⟩
theorem q_dnew {j : Nat} (k : ∀ a, H a = none → tz De (σ.set j (some (.ref a))) (upd H a (.dK []))) : tSeq (tAsg tDNewK (gName j)) tz De σ H := fun a ha => k a ha
/-- sorted(d), tuple(..) -/
abbrev rSortDI : List V → Hp → VK → Prop := fun xs H Q => ∃ (a : Addr) (kvs : List (Key × V)) (ks : List Int), xs = [.ref a] ∧ Rd H a (.dK kvs) ∧ kvs.map (·.1) = ks.map Sum.inl ∧ ks.length < 64 ∧
    ∀ (ys : List Int) (p : Addr), ys.Perm ks → ys.Pairwise (· ≤ ·) → H p = none → Q (.ref p) (upd H p (.lst (ys.map V.int)))
theorem dl_sortD {ks : List Int} {pat : Tx} {S : List Int} (h : Ev te σ H (.ref a)) (ha : H a = some (.dK kvs)) (hk : KsI kvs ks) (nd : ks.Nodup) (hl : ks.length < 64) (m : ∀ j, j ∈ ks ↔ 0 ≤ j ∧ j ≤ pat.length ∧ ledB pat S j.toNat = true) :
    DL (tCB rSortDI (tCons te tNil)) σ H ((ledF pat S).map .num) := fun H1 x Q q =>
  h H1 x _ fun H2 y => ⟨a, kvs, ks, rfl, .inl (y _ _ (x _ _ ha)), hk, hl, fun ys p hp hs hn => by
    have e : ys = ledF pat S := ledF_of (lt_of_le_nd hs (hp.nodup_iff.mpr nd)) fun j => hp.mem_iff.trans (m j)
    subst e
    exact q p _ _ (Evl.fresh_back y hn) (y.trans (Ex.new hn)) upd_same (iml_ints _)⟩
abbrev rTupOf (K : PySem.W.Frag) : List V → Hp → VK → Prop := fun xs H Q => ∃ p ys, xs = [.ref p] ∧ ((SqL K H p ys ∧ ∀ l, H l = none → Q (.ref l) (upd H l (.tup ys))) ∨ (SqT K H p ys ∧ Q (.ref p) H))
/-- tuple(new list) -/
theorem dv_tupL {ds : List D} (h : DL te σ H ds) : DV (tCB (rTupOf K) (tCons te tNil)) σ H (.tup ds) := fun H1 x Q q =>
  h H1 x _ fun p vs H2 hp y e iv => ⟨p, vs, rfl, .inl ⟨SqL.of e, fun l hl => q _ _ (y.trans (Ex.new hl)) (im_tup upd_same (iv.ts (TS.new hl)))⟩⟩
/-- sorted(list of whole numbers) -/
theorem dl_sortI {S : List Int} {p : Addr} (h : Ev te σ H (.ref p)) (hp : H p = some (.lst (S.map V.int))) {Pm : List Int → Prop} (k : ∀ ys, ys.Perm S → ys.Pairwise (· ≤ ·) → Pm ys) :
    ∀ H1, Ex H H1 → ∀ Q : VK, (∀ ys l H2, Pm ys → H1 l = none → Ex H1 H2 → H2 l = some (.lst (ys.map V.int)) → Q (.ref l) H2) → (tCB (rSortedI K) (tCons te tNil)) σ H1 Q := fun H1 x Q q =>
  h H1 x _ fun H2 y => ⟨p, S, rfl, SqL.of (y _ _ (x _ _ hp)), fun ys l hy hs hl => q ys l _ (k ys hy hs) (Evl.fresh_back y hl) (y.trans (Ex.new hl)) upd_same⟩
end
/-- all but dicts by keys stay -/
def NDk (H H' : Hp) : Prop := ∀ p o, H p = some o → (∀ kvs, o ≠ .dK kvs) → H' p = some o
theorem NDk.ex {H H' : Hp} (x : Ex H H') : NDk H H' := fun p o e _ => x p o e
theorem NDk.trans {H H1 H2 : Hp} (a : NDk H H1) (b : NDk H1 H2) : NDk H H2 := fun p o e n => b p o (a p o e n) n
theorem NDk.mut {H : Hp} {p : Addr} {kvs : List (Key × V)} {u : HO} (h : H p = some (.dK kvs)) : NDk H (upd H p u) := fun b o e n => by
  have : b ≠ p := fun z => by rw [z, h] at e; exact n kvs (Option.some.inj e).symm
  rw [upd_ne this]
  exact e
theorem NDk.ts {H H' : Hp} (x : NDk H H') : TS H H' := fun a xs e => x a _ e fun _ z => nomatch z
theorem NDk.ls {H H' : Hp} (x : NDk H H') {a : Addr} {us : List V} (e : H a = some (.lst us)) : H' a = some (.lst us) := x a _ e fun _ z => nomatch z
/-- a walk told in two ways -/
def iAlt (i j : TI) : TI := fun σ H R => i σ H R ∨ j σ H R
theorem pi_alt {X : Cx} {tg e : Expr} {i j : TI} (h : PI X tg e i) (g : PI X tg e j) : PI X tg e (iAlt i j) := ⟨fun pins s σ H R I q => q.elim (h.run pins s σ H R I) (g.run pins s σ H R I)⟩
section
variable {K : PySem.W.Frag} {σ : L2.St} {H : Hp} {te : TE} {ds : List D} {De : Ends} {tu ty : L2.TS} {g : TG}
theorem q_forSeq (h : DV te σ H (.tup ds) ∨ ∃ a us, Ev te σ H (.ref a) ∧ H a = some (.lst us) ∧ ImL H ds us) (Pv : Hp → Nat → St → Hp → Prop) (h0 : ∀ H1, Ex H H1 → Pv H1 0 σ H1) (hk : ∀ H1 n σ' H', Pv H1 n σ' H' → NDk H1 H')
    (hs : ∀ H1 n d v σ' H', Ex H H1 → ds[n]? = some d → Pv H1 n σ' H' → Im H' d v → g v σ' H' fun σ2 H2 => tu { De with nx := Pv H1 (n + 1), ct := Pv H1 (n + 1), bk := ty De } σ2 H2)
    (hd : ∀ H1 σ' H', Ex H H1 → Pv H1 ds.length σ' H' → ty De σ' H') : tSeq (tFor (iAlt (iList K te) (iTup K te)) g tu) ty De σ H := by
  rcases h with h | ⟨a, us, h, ha, hl⟩
  · exact .inr (q_forTu (K := K) h Pv h0 (fun H1 n σ' H' p => (hk H1 n σ' H' p).ts) hs hd)
  · refine .inl (h H (Ex.refl _) _ fun H1 x => ⟨a, rfl, ⟨us, SqL.of (x _ _ ha)⟩, ?_⟩)
    refine for_it (walk_list (K := K) (a := a) (xs := us)) (Pv H1) (h0 H1 x) (fun n σ' H' _ p => SqL.of ((hk H1 n σ' H' p).ls (x _ _ ha))) ?_ (by rw [hl.length]; exact fun σ' H' p => hd H1 σ' H' x p)
    rintro n y σ' H' H'' hn p ⟨rfl, hy⟩
    obtain ⟨d, hd', im⟩ := hl.back hy
    exact hs H1 n d y σ' _ x hd' p ((im.ex x).ts (hk H1 n σ' _ p).ts)
end
end Fk

set_option Elab.async false
set_option linter.all false
set_option maxRecDepth 100000
set_option maxHeartbeats 4000000
/-! conditions: what stars lead to -/
namespace Fk
open PySem PySem.Spec PyProof.Rows L2 He
open Evl (Ex Ev EvT EvL EvA ev_andV ev_orV ev_notV et_and et_or et_not)
section
variable {P : Program} {w : World} {K : PySem.W.Frag} {mg : Str → Option Value} {base : Heap}
/-- places: a tuple or a list -/
def PlS (H : Hp) (S : List Int) (v : V) : Prop := Im H (.tup (S.map .num)) v ∨ ∃ p, v = .ref p ∧ H p = some (.lst (S.map V.int))
abbrev sp_led_on : Sp := fun vs H Q _ => ∃ v1 v2 pat S, vs = [v1, v2] ∧ Im H (tx pat) v1 ∧ pat.length ≤ 4 ∧ (∀ i ∈ S, 0 ≤ i ∧ i ≤ (pat.length : Int)) ∧ PlS H S v2 ∧ ∀ v H', Ex H H' → Im H' (.tup ((ledF pat S).map .num)) v → Q v H'
/-- within the inner loop -/
abbrev LedIn (H H1 : Hp) (v1 v2 : V) (a : Addr) (pat : Tx) (S : List Int) (n p m : Nat) (σ2 : St) (H2 : Hp) : Prop := ∃ (q : Nat) (kvs : List (Key × V)) (ks : List Int), m = pat.length - q ∧ p ≤ q ∧ q ≤ pat.length ∧ NDk H1 H2 ∧ Ex H H2 ∧ σ2 = [some v1, some v2, some (.ref a), some (.int (q : Int))] ∧
  H2 a = some (.dK kvs) ∧ KsI kvs ks ∧ ks.Nodup ∧ (∀ k, p ≤ k → k < q → pat.getD k 0 = sr) ∧ ∀ j, j ∈ ks ↔ (0 ≤ j ∧ j ≤ pat.length ∧ ledB pat (S.take n) j.toNat = true) ∨ ((p : Int) ≤ j ∧ j ≤ q)
theorem sc_led_on : FnScope ["pattern", "places", "found", "place"] ["pattern", "places"] (defScope s_led_on) := ⟨rfl, rfl, rfl, by decide +kernel, rfl, by decide +kernel, by decide +kernel⟩
theorem ok_led_on (T : Txt K mg) : FnR P w K mg base CX0 1 (a_led_on K) (sp_led_on) := by
  refine okR T.F_led_on sc_led_on (fun _ _ _ _ _ _ us hl => match us, hl with | [_, _], _ => rfl) ?_ fun cdv A outer s H vs Q E hr q => ?_
  · rintro vs H Q E ⟨_, _, _, _, rfl, _⟩
    rfl
  obtain ⟨v1, v2, pat, S, rfl, i1, hz, hS, pl, q⟩ := q
  refine ⟨_, (pss_cons (ps_set (i := 2) sc_led_on.nd rfl (by first | exact .inl rfl | exact .inr rfl) pe_dnewK) (pss_cons (ps_for PassesOwn.never rfl (pi_alt (show PI _ _ _ (iList K _) from pi_list (pv 1)) (show PI _ _ _ (iTup K _) from pi_tup (pv 1))) (pg_name (i := 3) sc_led_on.nd rfl (by first | exact .inl rfl | exact .inr rfl)) (pss_cons (ps_dput (Room.units1 hr) (pv 2) (pv 3) pe_bl (by rfl)) (pss_one (ps_while PassesOwn.never (PW.pt (pw_and (pt_cmpR op_lt (pv 3) (pe_callB (id := "len") call_len_str (by rfl) T.n_len (by decide +kernel) (pa_cons (pv 0) pa_nil)) (by rfl)) (pw_and1 (pt_cmpR op_eq (pe_ix ix_str (pv 0) (pv 3) (fun _ _ => rfl)) pe_str (by rfl))))) (pss_cons (ps_aug (i := 3) sc_led_on.nd rfl (by first | exact .inl rfl | exact .inr rfl) pe_int ip_add) (pss_one (ps_dput (Room.units1 hr) (pv 2) (pv 3) pe_bl (by rfl)))))))) (pss_one (ps_ret (pe_callTy call_tuple_of (by rfl) T.n_tuple (by decide +kernel) (pa_cons (pe_callB (id := "sorted") (call_sortedDI rfl) (by rfl) T.n_sorted (by decide +kernel) (pa_cons (pv 2) pa_nil)) pa_nil)))))), ?_⟩
  refine q_dnew fun a ha => ?_
  have x0 : Ex H (upd H a (.dK [])) := Ex.new ha
  refine q_forSeq (ds := S.map .num) ?_ (fun H1 n σ' H' => NDk H1 H' ∧ Ex H H' ∧ ∃ u3 kvs ks, σ' = [some v1, some v2, some (.ref a), u3] ∧ H' a = some (.dK kvs) ∧ KsI kvs ks ∧ ks.Nodup ∧ ∀ j, j ∈ ks ↔ 0 ≤ j ∧ j ≤ pat.length ∧ ledB pat (S.take n) j.toNat = true) ?_ ?_ ?_ ?_
  · rcases pl with pl | ⟨p, rfl, hp⟩
    · exact .inl (dv_var (pl.ex x0))
    · exact .inr ⟨p, _, ev_vr, x0 _ _ hp, iml_ints S⟩
  · intro H1 x1
    refine ⟨.ex (Ex.refl _), x0.trans x1, _, [], [], rfl, x1 _ _ upd_same, ksI_nil, List.nodup_nil, fun j => ?_⟩
    rw [List.take_zero]
    constructor
    · intro h; exact nomatch h
    · rintro ⟨_, _, h⟩; exact nomatch h
  · exact fun H1 n σ' H' p => p.1
  · rintro H1 n d v σ' H' x1 hd ⟨x2, x3, u3, kvs, ks, rfl, hk, kk, nd, mem⟩ im
    obtain ⟨i, hi, rfl⟩ : ∃ i, S[n]? = some i ∧ NestedKey.num i = d := by simpa using hd
    have hiS := hS i (List.mem_of_getElem? hi)
    obtain rfl := im.num
    obtain ⟨p, rfl⟩ : ∃ p : Nat, i = (p : Int) := ⟨i.toNat, (Int.toNat_of_nonneg hiS.1).symm⟩
    have few : kvs.length < 100000 := by
      rw [kk.length]
      have := few_of pat.length nd fun j hj => ⟨((mem j).mp hj).1, ((mem j).mp hj).2.1⟩
      omega
    refine q_dputI (Evl.ev_c) ev_vr (dv_var im_num) hk few fun H4 x4 => ?_
    obtain ⟨ks1, kk1, nd1, mem1, _⟩ := kk.put nd (p : Int) (.bl true)
    have hk4 : H4 a = some (.dK kvs) := x4 _ _ hk
    refine s_of (Evl.q_while (fun m σ2 H2 => LedIn H H1 v1 v2 a pat S n p m σ2 H2) (pat.length - p) ?_ ?_)
    · refine ⟨p, _, ks1, rfl, Nat.le_refl _, by omega, (x2.trans (.ex x4)).trans (.mut hk4), Evl.Ex.mut (x3.trans x4) ha, rfl, upd_same, kk1, nd1, fun k h1 h2 => by omega, fun j => ?_⟩
      rw [mem1, mem]
      refine or_congr_right ⟨fun e => by omega, fun e => by omega⟩
    · rintro m σ2 H2 ⟨q, kvs2, ks2, rfl, h1, h2, n2, e2, rfl, d2, kk2, nd2, st2, mem2⟩
      have i1' := i1.ex e2
      by_cases hq : q < pat.length
      · by_cases hst : pat.getD q 0 = sr
        · refine ⟨true, dt_is (et_and (dt_t (db_I (dv_var im_num) (dv_lenS (dv_var i1') (by omega)))) fun _ => dt_t (db_eqS (c := [sr]) (dv_ixS (n := q) (c := sr) (dv_var i1') (dv_var im_num) (by rw [List.getD_eq_getElem?_getD, List.getElem?_eq_getElem hq] at hst; rw [List.getElem?_eq_getElem hq]; simpa using hst) (by omega)) dv_str)) (by simp [hq]), fun _ H3 x5 => ?_, fun z => nomatch z⟩
          obtain ⟨ks3, kk3, nd3, mem3, _⟩ := kk2.put nd2 ((q : Int) + 1) (.bl true)
          have few2 : kvs2.length < 100000 := by
            rw [kk2.length]
            have := few_of pat.length nd2 fun j hj => by rcases (mem2 j).mp hj with z | z <;> omega
            omega
          have d3 : H3 a = some (.dK kvs2) := x5 _ _ d2
          refine ⟨fun σ' H' => ∃ m', m' < pat.length - q ∧ LedIn H H1 v1 v2 a pat S n p m' σ' H', fun _ _ h => h, ?_⟩
          refine Evl.q_aug rfl Evl.ev_c fun H5 x6 => ?_
          refine s_of (q_dputI (Evl.ev_c) ev_vr (dv_var im_num) (x6 _ _ d3) few2 fun H6 x7 => ?_)
          refine ⟨pat.length - (q + 1), by omega, q + 1, _, ks3, rfl, by omega, hq, ((n2.trans (.ex x5)).trans (.ex (x6.trans x7))).trans (.mut (x7 _ _ (x6 _ _ d3))), Evl.Ex.mut (e2.trans (x5.trans (x6.trans x7))) ha, rfl, upd_same, kk3, nd3, fun k h3 h4 => ?_, fun j => ?_⟩
          · by_cases e : k = q
            · subst e; exact hst
            · exact st2 k h3 (by omega)
          · rw [mem3, mem2]
            constructor
            · rintro ((z | z) | z)
              · exact .inl z
              · exact .inr (by omega)
              · exact .inr (by omega)
            · rintro (z | z)
              · exact .inl (.inl z)
              · by_cases e : j = (q : Int) + 1
                · exact .inr e
                · exact .inl (.inr (by omega))
        · obtain ⟨cc, hg⟩ : ∃ cc, pat[q]? = some cc := ⟨_, List.getElem?_eq_getElem hq⟩
          refine ⟨false, ?_, (fun z => nomatch z), fun _ H3 x5 => ?_⟩
          · refine dt_is (et_and (dt_t (db_I (dv_var im_num) (dv_lenS (dv_var i1') (by omega)))) fun _ => dt_t (db_eqS (c := [sr]) (dv_ixS (n := q) (c := cc) (dv_var i1') (dv_var im_num) hg (by omega)) dv_str)) ?_
            rw [List.getD_eq_getElem?_getD, hg] at hst
            simp at hst
            simp [hq, hst]
          · exact ⟨n2.trans (.ex x5), e2.trans x5, _, _, ks2, rfl, x5 _ _ d2, kk2, nd2, fun j => (mem2 j).trans (led_step hi h1 h2 st2 (.inr hst) j)⟩
      · refine ⟨false, ?_, (fun z => nomatch z), fun _ H3 x5 => ?_⟩
        · have t1 : EvT (tTest (tOp (rI0 fun i j => V.bl (decide (i < j))) (tVar 3) (tCB rLenZ (tCons (tVar 0) tNil)))) [some v1, some v2, some (.ref a), some (.int (q : Int))] H2 false := dt_is (dt_t (db_I (dv_var im_num) (dv_lenS (dv_var i1') (by omega)))) (by simp; omega)
          exact et_and (b := false) t1 fun z => nomatch z
        exact ⟨n2.trans (.ex x5), e2.trans x5, _, _, ks2, rfl, x5 _ _ d2, kk2, nd2, fun j => (mem2 j).trans (led_step hi h1 h2 st2 (.inl (by omega)) j)⟩
  · rintro H1 σ' H' x1 ⟨x2, x3, u3, kvs, ks, rfl, hk, kk, nd, mem⟩
    rw [List.length_map, List.take_length] at mem
    have few := few_of pat.length nd fun j hj => ⟨((mem j).mp hj).1, ((mem j).mp hj).2.1⟩
    exact s_re (dv_tupL (dl_sortD ev_vr hk kk nd (by omega) mem)) fun v H2 x4 im => q v H2 (x3.trans x4) im
end
end Fk

set_option Elab.async false
set_option linter.all false
set_option maxRecDepth 100000
set_option maxHeartbeats 4000000
/-! == and in over data -/
namespace Fk
open PySem PySem.Spec PyProof.Rows L2 He
open Evl (Ex Ev EvT EvL EvA)
mutual
def pdD : D → PyData
  | .none => .none
  | .num i => .int i
  | .text x => .str x
  | .tup ks => .tuple (pdL ks)
def pdL : List D → List PyData
  | [] => []
  | k :: ks => pdD k :: pdL ks
end
mutual
/-- no texts within -/
def ntx : D → Bool
  | .none => true
  | .num _ => true
  | .text _ => false
  | .tup ks => ntxL ks
def ntxL : List D → Bool
  | [] => true
  | k :: ks => ntx k && ntxL ks
end
mutual
theorem pd_lay : ∀ d : D, ntx d = true → (pdD d).canLay0 = true
  | .none, _ => by simp [pdD, PyData.canLay0]
  | .num _, _ => by simp [pdD, PyData.canLay0]
  | .text _, h => by simp [ntx] at h
  | .tup ks, h => by
    simp only [pdD, PyData.canLay0]
    exact pdL_lay ks (by simpa [ntx] using h)
theorem pdL_lay : ∀ ks : List D, ntxL ks = true → PyData.canLayAll0 (pdL ks) = true
  | [], _ => by simp [pdL, PyData.canLayAll0]
  | k :: ks, h => by
    simp only [ntxL, Bool.and_eq_true] at h
    simp only [pdL, PyData.canLayAll0, Bool.and_eq_true]
    exact ⟨pd_lay k h.1, pdL_lay ks h.2⟩
end
mutual
theorem pd_depth : ∀ d : D, (pdD d).depth = d.depth
  | .none => by simp [pdD, PyData.depth, NestedKey.depth]
  | .num _ => by simp [pdD, PyData.depth, NestedKey.depth]
  | .text _ => by simp [pdD, PyData.depth, NestedKey.depth]
  | .tup ks => by simp only [pdD, PyData.depth, NestedKey.depth, pdL_depth ks]
theorem pdL_depth : ∀ ks : List D, PyData.depthAll (pdL ks) = NestedKey.depthAll ks
  | [] => by simp [pdL, PyData.depthAll, NestedKey.depthAll]
  | k :: ks => by simp only [pdL, PyData.depthAll, NestedKey.depthAll, pd_depth k, pdL_depth ks]
end
mutual
theorem pd_eqv : ∀ a b : D, PyData.eqv (pdD a) (pdD b) = decide (a = b)
  | .none, b => by cases b <;> simp [pdD, PyData.eqv]
  | .num i, b => by
    cases b <;> simp [pdD, PyData.eqv]
    rfl
  | .text x, b => by
    cases b <;> simp [pdD, PyData.eqv]
    rfl
  | .tup ks, b => by
    cases b with
    | tup ls =>
      simp only [pdD, PyData.eqv, pdL_eqv ks ls, NestedKey.tup.injEq]
    | _ => simp [pdD, PyData.eqv]
theorem pdL_eqv : ∀ a b : List D, PyData.eqvAll (pdL a) (pdL b) = decide (a = b)
  | [], b => by cases b <;> simp [pdL, PyData.eqvAll]
  | k :: ks, b => by
    cases b with
    | nil => simp [pdL, PyData.eqvAll]
    | cons l ls =>
      simp only [pdL, PyData.eqvAll, pd_eqv k l, pdL_eqv ks ls, List.cons.injEq]
      rw [Bool.decide_and]
end
mutual
theorem Im.dp {K : PySem.W.Frag} {H : Hp} : ∀ (d : D) {v : V}, Im H d v → Dp K H v (pdD d)
  | .none, v, h => by rw [h.non]; unfold pdD; exact .non
  | .num i, v, h => by rw [h.num]; unfold pdD; exact .int i
  | .text x, v, h => by rw [h.text]; unfold pdD; exact .str x
  | .tup ks, v, h => by
    obtain ⟨a, vs, rfl, ha, hl⟩ := h.tup
    unfold pdD
    exact .tup (SqT.of ha) (ImL.dp ks hl)
theorem ImL.dp {K : PySem.W.Frag} {H : Hp} : ∀ (ds : List D) {vs : List V}, ImL H ds vs → DpAll K H vs (pdL ds)
  | [], vs, h => by rw [h.nil]; unfold pdL; exact .nil
  | k :: ks, vs, h => by
    obtain ⟨v, r, rfl, hv, hr⟩ := h.cons
    unfold pdL
    exact .cons (Im.dp k hv) (ImL.dp ks hr)
end
theorem shaped_pd {d : D} (n : ntx d = true) (z : d.depth ≤ 60) : SeqAt.shaped (pdD d) = true := by
  unfold SeqAt.shaped
  rw [pd_lay d n, pd_depth d]
  simp
  omega
theorem shaped_pdL {ds : List D} (n : ∀ d ∈ ds, ntx d = true ∧ d.depth ≤ 60) : SeqAt.shaped (.list (pdL ds)) = true := by
  have h1 : ntxL ds = true := by
    induction ds with
    | nil => rfl
    | cons d r ih =>
      simp only [ntxL, Bool.and_eq_true]
      exact ⟨(n d List.mem_cons_self).1, ih fun e he => n e (List.mem_cons_of_mem _ he)⟩
  have h2 : NestedKey.depthAll ds ≤ 60 := by
    clear h1
    induction ds with
    | nil => simp [NestedKey.depthAll]
    | cons d r ih =>
      simp only [NestedKey.depthAll]
      exact Nat.max_le.mpr ⟨(n d List.mem_cons_self).2, ih fun e he => n e (List.mem_cons_of_mem _ he)⟩
  unfold SeqAt.shaped
  simp only [PyData.canLay0, pdL_lay ds h1, PyData.depth, pdL_depth ds]
  simp
  omega
theorem pdL_any {d : D} : ∀ {ds : List D}, (pdL ds).any (fun z => PyData.eqv z (pdD d)) = decide (d ∈ ds)
  | [] => by simp [pdL]
  | e :: r => by
    rw [pdL, List.any_cons, pdL_any (ds := r), pd_eqv]
    by_cases h : e = d
    · subst h; simp
    · have h' : ¬ d = e := fun z => h z.symm
      simp [h, h']
section
variable {K : PySem.W.Frag} {σ : L2.St} {H : Hp} {ta tb : TE} {d e : D} {ds : List D}
theorem db_eqD (h : DV ta σ H d) (h2 : DV tb σ H e) (n : ntx d = true ∧ d.depth ≤ 60) (m : ntx e = true ∧ e.depth ≤ 60) : DB (tOp (rEqD K) ta tb) σ H (decide (d = e)) := fun H1 x Q q =>
  h H1 x _ fun v H2 y iv => h2 H2 (x.trans y) _ fun w H3 z iw => ⟨pdD d, pdD e, (iv.ex z).dp, iw.dp, shaped_pd n.1 n.2, shaped_pd m.1 m.2, by rw [pd_eqv]; exact q H3 (y.trans z)⟩
theorem db_inLi {a : Addr} {us : List V} (h : DV ta σ H d) (h2 : Ev tb σ H (.ref a)) (ha : H a = some (.lst us)) (hl : ImL H ds us) (n : ntx d = true ∧ d.depth ≤ 60) (m : ∀ d ∈ ds, ntx d = true ∧ d.depth ≤ 60) : DB (tOp (rInD K) ta tb) σ H (decide (d ∈ ds)) := fun H1 x Q q =>
  h H1 x _ fun v H2 y iv => h2 H2 (x.trans y) _ fun H3 z => ⟨pdD d, pdL ds, (iv.ex z).dp, .lst (SqL.of (z _ _ (y _ _ (x _ _ ha)))) (ImL.dp ds (hl.ex ((x.trans y).trans z))), shaped_pd n.1 n.2, shaped_pdL m, by rw [pdL_any]; exact q H3 (y.trans z)⟩
end
end Fk

set_option Elab.async false
set_option linter.all false
set_option maxRecDepth 100000
set_option maxHeartbeats 4000000
/-! slices, KINDS, and the plain facts of stands -/
namespace Fk
open PySem PySem.Spec PyProof.Rows L2 He
open Evl (Ex Ev EvT EvL EvA)
theorem ImL.take {H : Hp} : ∀ {ds : List D} {vs : List V} (n : Nat), ImL H ds vs → ImL H (ds.take n) (vs.take n)
  | _, _, 0, _ => by rw [List.take_zero, List.take_zero]; exact iml_nil
  | [], _, n + 1, h => by rw [h.nil]; exact iml_nil
  | d :: ds, _, n + 1, h => by
    obtain ⟨v, r, rfl, hv, hr⟩ := h.cons
    exact iml_cons hv (ImL.take n hr)
theorem ImL.drop {H : Hp} : ∀ {ds : List D} {vs : List V} (n : Nat), ImL H ds vs → ImL H (ds.drop n) (vs.drop n)
  | _, _, 0, h => h
  | [], _, n + 1, h => by rw [h.nil]; exact iml_nil
  | d :: ds, _, n + 1, h => by
    obtain ⟨v, r, rfl, hv, hr⟩ := h.cons
    exact ImL.drop n hr
section
variable {K : PySem.W.Frag} {σ : L2.St} {H : Hp} {ta tb te : TE} {tl th : TO} {d e : D} {ds : List D}
/-- t[:n] -/
theorem dv_slTake {n : Nat} (h : DV te σ H (.tup ds)) (hh : Evl.EvO th σ H (some (n : Int))) : DV (tSl (rSlA K) te tNoPart th) σ H (.tup (ds.take n)) := fun H1 x Q q =>
  h H1 x _ fun v H2 y iv => hh H2 (x.trans y) _ fun H3 z => by
    obtain ⟨a, vs, rfl, ha, hl⟩ := (iv.ex z).tup
    refine ⟨a, vs, rfl, SqT.of ha, fun hw => ?_, fun _ p hp => ?_⟩
    · have e : ds.take n = ds := by
        rw [HT.sIx_nat] at hw
        have := hl.length
        exact List.take_of_length_le (by omega)
      rw [e] at q
      exact q _ H3 (y.trans z) (im_tup ha hl)
    · refine q _ _ ((y.trans z).trans (Ex.new hp)) (im_tup upd_same ?_)
      have e : cutV vs none (some (n : Int)) = vs.take n := by
        unfold cutV
        rw [HT.sIx_none, HT.sIx_nat, List.drop_zero, Nat.sub_zero]
        by_cases hn : n ≤ vs.length
        · rw [Nat.min_eq_left hn]
        · rw [Nat.min_eq_right (by omega), List.take_length, List.take_of_length_le (by omega)]
      rw [e]
      exact (hl.take n).ts (TS.new hp)
/-- t[n:] -/
theorem dv_slDrop {n : Nat} (h : DV te σ H (.tup ds)) (hh : Evl.EvO tl σ H (some (n : Int))) : DV (tSl (rSlA K) te tl tNoPart) σ H (.tup (ds.drop n)) := fun H1 x Q q =>
  h H1 x _ fun v H2 y iv => hh H2 (x.trans y) _ fun H3 z => by
    obtain ⟨a, vs, rfl, ha, hl⟩ := (iv.ex z).tup
    refine ⟨a, vs, rfl, SqT.of ha, fun hw => ?_, fun _ p hp => ?_⟩
    · have e : ds.drop n = ds := by
        rw [HT.sIx_nat] at hw
        have := hl.length
        by_cases hn : n = 0
        · subst hn; rfl
        · have : ds.length = 0 := by omega
          rw [List.eq_nil_of_length_eq_zero this, List.drop_nil]
      rw [e] at q
      exact q _ H3 (y.trans z) (im_tup ha hl)
    · refine q _ _ ((y.trans z).trans (Ex.new hp)) (im_tup upd_same ?_)
      have e : cutV vs (some (n : Int)) none = vs.drop n := by
        unfold cutV
        rw [HT.sIx_none, HT.sIx_nat]
        by_cases hn : n ≤ vs.length
        · rw [Nat.min_eq_left hn]
          exact List.take_of_length_le (by rw [List.length_drop]; exact Nat.le_refl _)
        · rw [Nat.min_eq_right (by omega), List.drop_length, List.drop_eq_nil_of_le (by omega), List.take_nil]
      rw [e]
      exact (hl.drop n).ts (TS.new hp)
theorem eo_nat {n : Nat} (h : DV te σ H (.num (n : Int))) : Evl.EvO (tPart te) σ H (some (n : Int)) := Evl.eo_some h.evI
/-- x not in KINDS -/
theorem db_niK {x : Str} {a : Addr} {ks : List Str} (h : DV ta σ H (.text x)) (hk : ∀ H : Hp, SqT K H a (ks.map V.str)) : DB (tOp (rIn K true) ta (tC (.ref a))) σ H (!decide (x ∈ ks)) := by
  have fl : (ks.map V.str).all flatV = true := by
    rw [List.all_eq_true]
    intro v hv
    obtain ⟨y, _, rfl⟩ := List.mem_map.mp hv
    rfl
  refine Evl.ev_is (Evl.ev_op h.evS Evl.ev_c (Evl.rv_niT (hk H) rfl fl)) ?_
  have : inV (V.str x) (ks.map V.str) = decide (x ∈ ks) := by
    have := inV_flat (d := NestedKey.text x) rfl (ds := ks.map NestedKey.text) (by rw [List.all_eq_true]; intro v hv; obtain ⟨y, _, rfl⟩ := List.mem_map.mp hv; rfl)
    rw [List.map_map] at this
    have e : (ks.map (flatD ∘ NestedKey.text)) = ks.map V.str := rfl
    rw [e] at this
    rw [show V.str x = flatD (NestedKey.text x) from rfl, this]
    simp
  rw [this]
theorem dv_strX {x : Str} {l : Tx} (h : x = tS l := by rfl) : DV (tC (.str x)) σ H (tx l) := dv_is dv_str (by rw [h]; rfl)
end
/-! ### stands -/
theorem besideI_rng {L b : Tx} {i : Int} {c : Nat} (h : -2 ≤ i ∧ i ≤ b.length) : -2 ≤ besideI L b i c ∧ besideI L b i c ≤ b.length := by
  unfold besideI
  repeat' split
  all_goals omega
theorem eqNext_rng {p : Tx} {i : Int} {c : Nat} : -1 ≤ eqNext p i c ∧ eqNext p i c ≤ p.length := by
  unfold eqNext
  split <;> omega
theorem ledF_rng {pat : Tx} {S : List Int} : ∀ i ∈ ledF pat S, 0 ≤ i ∧ i ≤ (pat.length : Int) := fun i hi => ⟨(mem_ledF.mp hi).1, (mem_ledF.mp hi).2.1⟩
theorem StOk.first (c : Cond) : StOk c (firstS c) := by
  cases c with
  | eq p => exact ⟨by omega, by omega⟩
  | be p => exact ⟨by omega, by omega⟩
  | btw p q => exact ⟨⟨by omega, by omega⟩, by omega, by omega⟩
  | lk p => exact ⟨ledF_idem _ _, ledF_rng⟩
theorem StOk.next {L : Tx} {c : Cond} {s : StT} {x : Nat} (h : StOk c s) : StOk c (nextS L c s x) := by
  cases c with
  | eq p =>
    cases s with
    | n i => exact eqNext_rng
    | _ => exact h.elim
  | be p =>
    cases s with
    | n i =>
      show -1 ≤ (if i = p.length then i else eqNext p i x) ∧ (if i = p.length then i else eqNext p i x) ≤ p.length
      split
      · exact h
      · exact eqNext_rng
    | _ => exact h.elim
  | btw p q =>
    cases s with
    | p i j => exact ⟨besideI_rng h.1, besideI_rng h.2⟩
    | _ => exact h.elim
  | lk p =>
    cases s with
    | l S => exact ⟨ledF_idem _ _, ledF_rng⟩
    | _ => exact h.elim
theorem StOk.read {L : Tx} {c : Cond} (l : Tx) : StOk c (readS L c l) := by
  unfold readS
  have key : ∀ (l : Tx) s, StOk c s → StOk c (l.foldl (nextS L c) s) := by
    intro l
    induction l with
    | nil => exact fun s h => h
    | cons x r ih => exact fun s h => ih _ h.next
  exact key l _ (StOk.first c)
theorem lkFound_rng {pat : Tx} {S : List Int} {c : Nat} (h : ∀ i ∈ S, 0 ≤ i ∧ i ≤ (pat.length : Int)) : ∀ i ∈ lkFound pat S c, 0 ≤ i ∧ i ≤ (pat.length : Int) := by
  intro i hi
  unfold lkFound at hi
  rcases List.mem_append.mp hi with z | z
  · exact h i (List.mem_filter.mp z).1
  · obtain ⟨j, hj, rfl⟩ := List.mem_map.mp z
    have h1 := (List.mem_filter.mp hj)
    have h2 := h j h1.1
    have h3 := h1.2
    simp only [decide_eq_true_eq] at h3
    omega
theorem st_len {c : Cond} {L : Tx} (hc : CondOk L c) {pat : Tx} {S : List Int} (e : ledF pat S = S) (hp : pat.length ≤ 4) : S.length ≤ 5 := by
  have := ledF_len pat S
  rw [e] at this
  omega
theorem ntxL_num : ∀ S : List Int, ntxL (S.map .num) = true ∧ NestedKey.depthAll (S.map NestedKey.num) = 0
  | [] => ⟨rfl, rfl⟩
  | i :: S => by
    have := ntxL_num S
    simp [ntxL, ntx, NestedKey.depthAll, NestedKey.depth, this.1, this.2]
theorem StT.ntx (s : StT) : ntx s.d = true ∧ s.d.depth ≤ 1 := by
  cases s with
  | n i => exact ⟨by simp [StT.d, Fk.ntx], by simp [StT.d, NestedKey.depth]⟩
  | p i j => exact ⟨by simp [StT.d, Fk.ntx, ntxL], by simp [StT.d, NestedKey.depth, NestedKey.depthAll]⟩
  | l S =>
    have := ntxL_num S
    exact ⟨by simp [StT.d, Fk.ntx, this.1], by simp [StT.d, NestedKey.depth, this.2]⟩
/-- the word and the texts of a condition -/
def Cond.word : Cond → Str
  | .eq _ => "equal"
  | .be _ => "begins"
  | .btw _ _ => "between"
  | .lk _ => "like"
def Cond.txs : Cond → List Tx
  | .eq p => [p]
  | .be p => [p]
  | .btw p q => [p, q]
  | .lk p => [p]
theorem Cond.d_eq (c : Cond) : c.d = .tup (.text c.word :: c.txs.map tx) := by cases c <;> rfl
end Fk

set_option Elab.async false
set_option linter.all false
set_option maxRecDepth 100000
set_option maxHeartbeats 4000000
/-! conditions, def by def -/
namespace Fk
open PySem PySem.Spec PyProof.Rows L2 He
open Evl (Ex Ev EvT EvL EvA ev_andV ev_orV ev_notV et_and et_or et_not)
section
variable {P : Program} {w : World} {K : PySem.W.Frag} {mg : Str → Option Value} {base : Heap}
abbrev sp_is_pattern : Sp := spB fun ds b => ∃ L p, ds = [tx L, tx p] ∧ LetOk L ∧ CondOk L (.lk p) ∧ b = true
theorem sc_is_pattern : FnScope ["letters", "thing", "sign"] ["letters", "thing"] (defScope s_is_pattern) := ⟨rfl, rfl, rfl, by decide +kernel, rfl, by decide +kernel, by decide +kernel⟩
theorem ok_is_pattern (T : Txt K mg) : FnR P w K mg base CX0 1 (a_is_pattern K) (sp_is_pattern) := by
  refine okR T.F_is_pattern sc_is_pattern (fun _ _ _ _ _ _ us hl => match us, hl with | [_, _], _ => rfl) ?_ fun cdv A outer s H vs Q E hr q => ?_
  · exact spB_len fun _ _ ⟨_, _, e, _⟩ => by rw [e]; rfl
  obtain ⟨ds, b, il, ⟨L, p, rfl, hL, hp, rfl⟩, q⟩ := q
  obtain ⟨v1, v2, rfl, i1, i2⟩ := il.two
  have F := LetOk.facts L hL
  refine ⟨_, (pss_one (ps_ret (pe_and (pe_callB (id := "isinstance") (show CallR _ _ (rIsi K) from call_isi) (by rfl) T.n_isinstance (by decide +kernel) (pa_cons (pv 1) (pa_cons (pe_bltn (v := .ty "str") (u := .type "str") (by rfl) T.n_str (by decide +kernel) rfl) pa_nil))) (pe_and (pe_cmpR op_le (pe_callB (id := "len") call_len_str (by rfl) T.n_len (by decide +kernel) (pa_cons (pv 1) pa_nil)) (pe_gi (by rfl) T.i_MOST_SIGNS) (by rfl)) (pe_one (pe_callB (id := "all") (show CallR _ _ (rAll K) from cr_all rfl) (by rfl) T.n_all (by decide +kernel) (pa_cons (pe_lc (own := [("sign", 2)]) rfl sc_is_pattern.nd (pi_str (pv 1)) (blkOk_by (own := [("sign", 2)]) (N := ["letters", "thing", "sign"]) (sc := defScope s_is_pattern) (by decide +kernel)) (fun _ _ _ _ _ => (pg_name (i := 2) sc_is_pattern.nd rfl (by first | exact .inl rfl | exact .inr rfl))) (fun _ _ _ _ _ => pts_nil) (fun _ _ _ _ _ => (pe_cmpR op_in_sign (pv 2) (pe_op op_add_str (pv 0) pe_str) (by rfl)))) pa_nil))))))), ?_⟩
  have h4 : p.length ≤ 100000 := by have := hp.1; omega
  have hL4 : L.length + 2 ≤ 100000 := by omega
  refine s_reB (db_is (ev_andV (db_isiD (b := true) (dv_var i2) rfl) fun _ => ev_andV (db_I (dv_lenS (dv_var i2) h4) dv_int) fun _ =>
    db_allT (lc_textA (f := fun _ => true) isB_mono (dv_var i2) h4 (fun x => rfl) fun c H2 hc x2 => db_m (db_is (db_inS (dv_var im_text) (dv_addS (dv_var (i1.ex x2)) (dv_strX (l := [qm, sr])) hL4)) ?_)) ?_) ?_) fun H1 x => q H1 x
  · simpa using hp.2 c hc
  · simp
  · have := hp.1
    simp
    omega
abbrev sp_is_short : Sp := spB fun ds b => ∃ L p, ds = [tx L, tx p] ∧ p.length ≤ 4 ∧ (∀ c ∈ p, c ∈ L) ∧ b = true
theorem sc_is_short : FnScope ["letters", "thing"] ["letters", "thing"] (defScope s_is_short) := ⟨rfl, rfl, rfl, by decide +kernel, rfl, by decide +kernel, by decide +kernel⟩
theorem ok_is_short (T : Txt K mg) : FnR P w K mg base CX0 2 (a_is_short K) (sp_is_short) := by
  refine okR T.F_is_short sc_is_short (fun _ _ _ _ _ _ us hl => match us, hl with | [_, _], _ => rfl) ?_ fun cdv A outer s H vs Q E hr q => ?_
  · exact spB_len fun _ _ ⟨_, _, e, _⟩ => by rw [e]; rfl
  obtain ⟨ds, b, il, ⟨L, p, rfl, h4, hp, rfl⟩, q⟩ := q
  obtain ⟨v1, v2, rfl, i1, i2⟩ := il.two
  refine ⟨_, (pss_one (ps_ret (pe_and (pe_fn (ok_is_value T) (hr.mono (by decide)) (by rfl) T.g_is_value (kp_of T.F_is_value) pass0 (pa_cons (pv 0) (pa_cons (pv 1) pa_nil))) (pe_one (pe_cmpR op_le (pe_callB (id := "len") call_len_str (by rfl) T.n_len (by decide +kernel) (pa_cons (pv 1) pa_nil)) (pe_gi (by rfl) T.i_MOST_SIGNS) (by rfl)))))), ?_⟩
  refine s_reB (db_is (ev_andV (db_fn (da_cons (dv_var i1) (da_cons (dv_var i2) da_nil)) ⟨L, p, rfl, by omega, rfl⟩) fun _ => db_I (dv_lenS (dv_var i2) (by omega)) dv_int) ?_) fun H1 x => q H1 x
  simp [h4]
  exact ⟨hp, by omega⟩
abbrev sp_is_condition_of : Sp := spB fun ds b => ∃ L c, ds = [tx L, Cond.d c] ∧ LetOk L ∧ CondOk L c ∧ b = true
theorem sc_is_condition_of : FnScope ["letters", "thing", "one"] ["letters", "thing"] (defScope s_is_condition_of) := ⟨rfl, rfl, rfl, by decide +kernel, rfl, by decide +kernel, by decide +kernel⟩
theorem ok_is_condition_of (T : Txt K mg) : FnR P w K mg base CX0 3 (a_is_condition_of K) (sp_is_condition_of) := by
  refine okR T.F_is_condition_of sc_is_condition_of (fun _ _ _ _ _ _ us hl => match us, hl with | [_, _], _ => rfl) ?_ fun cdv A outer s H vs Q E hr q => ?_
  · exact spB_len fun _ _ ⟨_, _, e, _⟩ => by rw [e]; rfl
  obtain ⟨ds, b, il, ⟨L, c, rfl, hL, hc, rfl⟩, q⟩ := q
  obtain ⟨v1, v2, rfl, i1, i2⟩ := il.two
  refine ⟨_, (pss_cons (ps_if (PW.pt (pw_or (pt_not (pt_val (pe_callB (id := "isinstance") (show CallR _ _ (rIsi K) from call_isi) (by rfl) T.n_isinstance (by decide +kernel) (pa_cons (pv 1) (pa_cons (pe_bltn (v := .ty "tuple") (u := .type "tuple") (by rfl) T.n_tuple (by decide +kernel) rfl) pa_nil))))) (pw_or (pt_cmpR op_lt (pe_callB (id := "len") (show CallR _ _ (rLenQ K) from call_len_seq) (by rfl) T.n_len (by decide +kernel) (pa_cons (pv 1) pa_nil)) pe_int (by rfl)) (pw_or (pt_not (pt_val (pe_callB (id := "isinstance") (show CallR _ _ (rIsi K) from call_isi) (by rfl) T.n_isinstance (by decide +kernel) (pa_cons (pe_ix (show IxR _ (rIxT K) from ix_tup) (pv 1) pe_int (fun _ _ => rfl)) (pa_cons (pe_bltn (v := .ty "str") (u := .type "str") (by rfl) T.n_str (by decide +kernel) rfl) pa_nil))))) (pw_or1 (pt_cmpR (show OpR _ _ (rIn K true) from op_notIn_seq) (pe_ix (show IxR _ (rIxT K) from ix_tup) (pv 1) pe_int (fun _ _ => rfl)) (pe_glob (v := .ref _) (by rfl) T.g_KINDS rfl) (by rfl))))))) (pss_one (ps_ret pe_bl)) pss_nil) (pss_cons (ps_if (pt_cmpR op_ne (pe_callB (id := "len") (show CallR _ _ (rLenQ K) from call_len_seq) (by rfl) T.n_len (by decide +kernel) (pa_cons (pv 1) pa_nil)) (pe_ifExp (pt_cmpR op_eq (pe_ix (show IxR _ (rIxT K) from ix_tup) (pv 1) pe_int (fun _ _ => rfl)) pe_str (by rfl)) pe_int pe_int) (by rfl)) (pss_one (ps_ret pe_bl)) pss_nil) (pss_cons (ps_if (pt_cmpR op_eq (pe_ix (show IxR _ (rIxT K) from ix_tup) (pv 1) pe_int (fun _ _ => rfl)) pe_str (by rfl)) (pss_one (ps_ret (pe_fn (ok_is_pattern T) (hr.mono (by decide)) (by rfl) T.g_is_pattern (kp_of T.F_is_pattern) pass0 (pa_cons (pv 0) (pa_cons (pe_ix (show IxR _ (rIxT K) from ix_tup) (pv 1) pe_int (fun _ _ => rfl)) pa_nil))))) pss_nil) (pss_one (ps_ret (pe_callB (id := "all") (show CallR _ _ (rAll K) from cr_all rfl) (by rfl) T.n_all (by decide +kernel) (pa_cons (pe_lc (own := [("one", 2)]) rfl sc_is_condition_of.nd (show PI _ _ _ (iTup K _) from pi_tup (pe_slice (show SlR _ (rSlA K) from sl_tupA) (pv 1) (po_some pe_int) po_none)) (blkOk_by (own := [("one", 2)]) (N := ["letters", "thing", "one"]) (sc := defScope s_is_condition_of) (by decide +kernel)) (fun _ _ _ _ _ => (pg_name (i := 2) sc_is_condition_of.nd rfl (by first | exact .inl rfl | exact .inr rfl))) (fun _ _ _ _ _ => pts_nil) (fun _ _ _ _ _ => (pe_fn (ok_is_short T) (hr.mono (by decide)) (by rfl) T.g_is_short (kp_of T.F_is_short) pass0 (pa_cons (pv 0) (pa_cons (pv 2) pa_nil))))) pa_nil))))))), ?_⟩
  rw [Cond.d_eq] at i2
  have w1 : ∀ {H1 : Hp} (x : Ex H H1) {st : St}, st[1]? = some (some v2) → DV (tOp (rIxT K) (tVar 1) (tC (.int 0))) st H1 (.text c.word) := fun x st e => dv_ix (n := 0) (dv_var (i2.ex x) e) dv_int rfl
  refine q_un (dt_is (et_or (et_not (dt_b (db_isiD (b := true) (dv_var i2) rfl))) fun _ => et_or (dt_t (db_I (dv_lenT (dv_var i2)) dv_int)) fun _ => et_or (et_not (dt_b (db_isiD (b := true) (w1 (Ex.refl _) rfl) rfl))) fun _ => dt_t (db_niK (ks := ["equal", "begins", "between", "like"]) (w1 (Ex.refl _) rfl) T.t_KINDS)) ?_) fun H1 x1 => ?_
  · cases c <;> rfl
  refine q_un (dt_t (db_is (db_neI (i := ((c.txs.length + 1 : Nat) : Int)) (j := if c.word = "between" then 3 else 2) (dv_is (dv_lenT (dv_var (i2.ex x1))) (by simp)) (dv_if (dt_t (db_eqT (y := "between") (w1 x1 rfl) dv_str)) (fun e => dv_is dv_int (by rw [if_pos (by simpa using e)])) fun e => dv_is dv_int (by rw [if_neg (by simpa using e)]))) ?_)) fun H2 x2 => ?_
  · cases c <;> rfl
  have x12 := x1.trans x2
  have tl : (∀ p, c ≠ .lk p) → ∀ H3, Ex H H3 → DB (tCB (rAll K) (tCons (tLc (iTup K (tSl (rSlA K) (tVar 1) (tPart (tC (.int 1))) tNoPart)) (gName 2) tYes (tFn sp_is_short E0 (tCons (tVar 0) (tCons (tVar 2) tNil))) [2]) tNil)) (start ["letters", "thing", "one"] [v1, v2]) H3 true := by
    intro nl H3 x3
    refine db_allT (lc_tup1A (f := fun _ => true) isB_mono (dv_slDrop (n := 1) (dv_var (i2.ex x3)) (eo_nat dv_int)) ?_ ?_) ?_
    · cases c <;> exact Nat.le_of_ble_eq_true rfl
    · intro d v H4 hd x4 im
      refine ⟨_, tgt1, rfl, db_m (db_fn (da_cons (dv_var ((i1.ex x3).ex x4)) (da_cons (dv_var im) da_nil)) ?_)⟩
      rw [List.drop_one, List.tail_cons] at hd
      obtain ⟨p, hp, rfl⟩ := List.mem_map.mp hd
      cases c with
      | eq p => obtain rfl := List.mem_singleton.mp hp; exact ⟨L, _, rfl, hc.1, hc.2, rfl⟩
      | be p => obtain rfl := List.mem_singleton.mp hp; exact ⟨L, _, rfl, hc.1, hc.2, rfl⟩
      | btw p1 p2 =>
        rcases List.mem_cons.mp hp with e | hp
        · subst e; exact ⟨L, _, rfl, hc.1.1, hc.1.2, rfl⟩
        · obtain rfl := List.mem_singleton.mp hp; exact ⟨L, _, rfl, hc.2.1, hc.2.2, rfl⟩
      | lk p => exact absurd rfl (nl p)
    · simp
  have nl : c.word ≠ "like" → ∀ p, c ≠ .lk p := fun h p e => by subst e; exact h rfl
  refine q_if2 (dt_t (db_eqT (y := "like") (w1 x12 rfl) dv_str)) (fun e H3 x3 => ?_) fun e H3 x3 => ?_
  · have e : c.word = "like" := by simpa using e
    cases c with
    | lk p => exact s_reB (db_fn (da_cons (dv_var (i1.ex (x12.trans x3))) (da_cons (dv_ix (n := 1) (dv_var (i2.ex (x12.trans x3))) dv_int rfl) da_nil)) ⟨L, p, rfl, hL, hc, rfl⟩) fun H4 x4 => q H4 ((x12.trans x3).trans x4)
    | eq p => exact absurd (show ("equal" : Str) = "like" from e) (by decide)
    | be p => exact absurd (show ("begins" : Str) = "like" from e) (by decide)
    | btw p1 p2 => exact absurd (show ("between" : Str) = "like" from e) (by decide)
  · have e : c.word ≠ "like" := by simpa using e
    exact s_reB (tl (nl e) H3 (x12.trans x3)) fun H4 x4 => q H4 ((x12.trans x3).trans x4)
abbrev sp_check_condition : Sp := spD fun ds d => ∃ L c, ds = [tx L, Cond.d c] ∧ LetOk L ∧ CondOk L c ∧ d = .none
theorem sc_check_condition : FnScope ["letters", "condition"] ["letters", "condition"] (defScope s_check_condition) := ⟨rfl, rfl, rfl, by decide +kernel, rfl, by decide +kernel, by decide +kernel⟩
theorem ok_check_condition (T : Txt K mg) : FnR P w K mg base CX0 4 (a_check_condition K) (sp_check_condition) := by
  refine okR T.F_check_condition sc_check_condition (fun _ _ _ _ _ _ us hl => match us, hl with | [_, _], _ => rfl) ?_ fun cdv A outer s H vs Q E hr q => ?_
  · exact spD_len fun _ _ ⟨_, _, e, _⟩ => by rw [e]; rfl
  obtain ⟨ds, b, il, ⟨L, c, rfl, hL, hc, rfl⟩, q⟩ := q
  obtain ⟨v1, v2, rfl, i1, i2⟩ := il.two
  refine ⟨_, (pss_one (ps_if (pt_not (pt_val (pe_fn (ok_is_condition_of T) (hr.mono (by decide)) (by rfl) T.g_is_condition_of (kp_of T.F_is_condition_of) pass0 (pa_cons (pv 0) (pa_cons (pv 1) pa_nil))))) (pss_one ps_never) pss_nil)), ?_⟩
  exact s_un (dt_is (et_not (dt_b (db_fn (da_cons (dv_var i1) (da_cons (dv_var i2) da_nil)) ⟨L, c, rfl, hL, hc, rfl⟩))) rfl) fun H1 x1 => q _ H1 x1 im_none
end
end Fk

set_option Elab.async false
set_option linter.all false
set_option maxRecDepth 100000
set_option maxHeartbeats 4000000
/-! lists that grow; comprehensions over whole numbers -/
namespace Fk
open PySem PySem.Spec PyProof.Rows L2 He
open Evl (Ex Ev EvT EvL EvA)
section
variable {K : PySem.W.Frag} {σ : L2.St} {H : Hp} {ta tb te tz : TE} {tt : TT} {d e : D} {ds : List D} {De : Ends} {ty : L2.TS} {l : Addr} {us : List V} {S : List Int}
/-- found.append(x) -/
theorem q_appD (hl : H l = some (.lst us)) (ha : Ev ta σ H (.ref l)) (h : DV te σ H d) (hz : us.length < 100000) (k : ∀ v H1, Ex H H1 → Im H1 d v → ty De σ (upd H1 l (.lst (us ++ [v])))) :
    tSeq (tDrop (tBM K "list" rAppend ta (tCons te tNil))) ty De σ H :=
  ha H (Ex.refl _) _ fun H1 x => ⟨.inl ⟨rfl, us, SqL.of (x _ _ hl)⟩, h H1 x _ fun v H2 y iv => ⟨l, us, v, rfl, rfl, y _ _ (x _ _ hl), Evl.sz_lt hz, k v H2 (x.trans y) iv⟩⟩
/-- found.extend(new list) -/
theorem q_extD (hl : H l = some (.lst us)) (ha : Ev ta σ H (.ref l)) (h : DL te σ H ds) (hz : us.length + ds.length ≤ 100000) (k : ∀ vs H1, Ex H H1 → ImL H1 ds vs → ty De σ (upd H1 l (.lst (us ++ vs)))) :
    tSeq (tDrop (tBM K "list" rExtend ta (tCons te tNil))) ty De σ H :=
  ha H (Ex.refl _) _ fun H1 x => ⟨.inl ⟨rfl, us, SqL.of (x _ _ hl)⟩, h H1 x _ fun p vs H2 _ y e iv => ⟨l, p, us, vs, rfl, rfl, y _ _ (x _ _ hl), e, by rw [iv.length]; exact Evl.sz_of hz, k vs H2 (x.trans y) iv⟩⟩
/-- [.. for i in tuple of whole numbers if ..] -/
theorem lc_tupI {j : Nat} {vs : List Nat} (p : Int → Bool) (f : Int → Int) (h : DV tz σ H (.tup (S.map .num))) (hz : S.length ≤ 100000) (hw : ∀ x, wipe ((wipe σ vs).set j (some x)) vs = wipe σ vs)
    (ht : ∀ i H1, i ∈ S → Ex H H1 → EvT tt ((wipe σ vs).set j (some (.int i))) H1 (p i)) (he : ∀ i H1, i ∈ S → Ex H H1 → p i = true → DV te ((wipe σ vs).set j (some (.int i))) H1 (.num (f i))) :
    DL (tLc (iTup K tz) (gName j) tt te vs) σ H (((S.filter p).map f).map .num) := fun H0 e Q q => h H0 e _ fun w H1 e1 iw => by
  obtain ⟨a, us, rfl, ha, hl⟩ := iw.tup
  refine ⟨a, rfl, ⟨us, SqT.of ha⟩, fun Dl hD => ?_⟩
  have hus := hl.ints
  subst hus
  refine lc_gen (M := Im) walk_tup im_mono S (by rw [List.length_map]) (by rw [List.length_map]; omega) p (fun i => NestedKey.num (f i)) hD (fun H' e2 => SqT.of (e2 _ _ ha)) ?_ fun H' us e2 hus pr => q Dl us H' (Evl.fresh_back e1 hD) (e1.trans e2) hus ?_
  · rintro i d H' x H'' hd e2 ⟨rfl, hx⟩
    rw [List.getElem?_map, hd] at hx
    cases hx
    have hm := List.mem_of_getElem? hd
    exact ⟨Ex.refl _, _, tgt1, hw _, ht d _ hm ((e.trans e1).trans e2), fun hp => (he d _ hm ((e.trans e1).trans e2) hp).m⟩
  · rw [List.map_map]
    exact iml_paired pr
theorem DL.is {es : List D} (h : DL te σ H ds) (e : ds = es) : DL te σ H es := e ▸ h
/-- places, whatever they are -/
def PlE (tb : TE) (σ : L2.St) (H : Hp) (S : List Int) : Prop := ∀ H1, Ex H H1 → ∀ Q : VK, (∀ v H2 (S' : List Int), Ex H1 H2 → (∀ j, j ∈ S' ↔ j ∈ S) → (Im H2 (.tup (S'.map .num)) v ∨ ∃ p, v = .ref p ∧ H2 p = some (.lst (S'.map V.int))) → Q v H2) → tb σ H1 Q
theorem DL.ple (h : DL te σ H (S.map .num)) : PlE te σ H S := fun H1 x Q q => h H1 x _ fun p vs H2 _ y e iv => q _ H2 S y (fun _ => Iff.rfl) (.inr ⟨p, rfl, by rw [e, iv.ints]⟩)
theorem DV.ple (h : DV te σ H (.tup (S.map .num))) : PlE te σ H S := fun H1 x Q q => h H1 x _ fun v H2 y iv => q _ H2 S y (fun _ => Iff.rfl) (.inl iv)
theorem ple_sort {p : Addr} (h : Ev te σ H (.ref p)) (hp : H p = some (.lst (S.map V.int))) : PlE (tCB (rSortedI K) (tCons te tNil)) σ H S := fun H1 x Q q =>
  dl_sortI h hp (Pm := fun ys => ∀ j, j ∈ ys ↔ j ∈ S) (fun ys hy _ j => hy.mem_iff) H1 x _ fun ys l H2 hy _ y e => q _ H2 ys y hy (.inr ⟨l, rfl, e⟩)
theorem ple_list {p : Addr} (h : Ev te σ H (.ref p)) (hp : H p = some (.lst (S.map V.int))) : PlE te σ H S := fun H1 x Q q =>
  h H1 x _ fun H2 y => q _ H2 S y (fun _ => Iff.rfl) (.inr ⟨p, rfl, y _ _ (x _ _ hp)⟩)
end
end Fk

set_option Elab.async false
set_option linter.all false
set_option maxRecDepth 100000
set_option maxHeartbeats 4000000
/-! stands, def by def -/
namespace Fk
open PySem PySem.Spec PyProof.Rows L2 He
open Evl (Ex Ev EvT EvL EvA ev_andV ev_orV ev_notV et_and et_or et_not)
theorem dv_led {σ : L2.St} {H : Hp} {ta tb : TE} {pat : Tx} {S : List Int} {E : XK} (h : DV ta σ H (tx pat)) (h2 : PlE tb σ H S) (hz : pat.length ≤ 4) (hS : ∀ i ∈ S, 0 ≤ i ∧ i ≤ (pat.length : Int)) :
    DV (tFn sp_led_on E (tCons ta (tCons tb tNil))) σ H (.tup ((ledF pat S).map .num)) := fun H1 x Q q =>
  h H1 x _ fun v H2 y iv => h2 H2 (x.trans y) _ fun w H3 S' z m pl => ⟨v, w, pat, S', rfl, iv.ex z, hz, fun i hi => hS i ((m i).mp hi), pl, fun u H4 z2 iu => q u H4 ((y.trans z).trans z2) (by rw [← ledF_congr m]; exact iu)⟩
theorem in_two {a b : Nat} {c : Nat} : decide (tx [c] ∈ [tx [a], tx [b]]) = decide (c = a ∨ c = b) := by
  have : tx [c] ∈ [tx [a], tx [b]] ↔ (c = a ∨ c = b) := by
    simp only [List.mem_cons, List.not_mem_nil, or_false]
    constructor
    · rintro (h | h)
      · exact .inl (List.cons.inj (tx_inj h)).1
      · exact .inr (List.cons.inj (tx_inj h)).1
    · rintro (h | h) <;> subst h
      · exact .inl rfl
      · exact .inr rfl
  by_cases h : c = a ∨ c = b
  · rw [decide_eq_true h, decide_eq_true (this.mpr h)]
  · rw [decide_eq_false h, decide_eq_false (fun z => h (this.mp z))]
theorem get_at {p : Tx} {i : Int} (h0 : 0 ≤ i) (h1 : i < p.length) : p[i.toNat]? = some (p.getD i.toNat 0) := by
  rw [List.getD_eq_getElem?_getD, List.getElem?_eq_getElem (by omega), Option.getD_some]
theorem dec_one {a b : Nat} : decide ([a] = [b]) = decide (a = b) := by simp
section
variable {P : Program} {w : World} {K : PySem.W.Frag} {mg : Str → Option Value} {base : Heap}
abbrev sp_first_stand : Sp := spD fun ds d => ∃ L c, ds = [Cond.d c] ∧ CondOk L c ∧ d = (firstS c).d
theorem sc_first_stand : FnScope ["condition"] ["condition"] (defScope s_first_stand) := ⟨rfl, rfl, rfl, by decide +kernel, rfl, by decide +kernel, by decide +kernel⟩
theorem ok_first_stand (T : Txt K mg) : FnR P w K mg base CX0 2 (a_first_stand K) (sp_first_stand) := by
  refine okR T.F_first_stand sc_first_stand (fun _ _ _ _ _ _ us hl => match us, hl with | [_], _ => rfl) ?_ fun cdv A outer s H vs Q E hr q => ?_
  · exact spD_len fun _ _ ⟨_, _, e, _⟩ => by rw [e]; rfl
  obtain ⟨ds, b, il, ⟨L, c, rfl, hc, rfl⟩, q⟩ := q
  obtain ⟨v1, rfl, i1⟩ := il.one
  refine ⟨_, (pss_cons (ps_if (pt_cmpR op_eq (pe_ix (show IxR _ (rIxT K) from ix_tup) (pv 0) pe_int (fun _ _ => rfl)) pe_str (by rfl)) (pss_one (ps_ret (pe_fn (ok_led_on T) (hr.mono (by decide)) (by rfl) T.g_led_on (kp_of T.F_led_on) pass0 (pa_cons (pe_ix (show IxR _ (rIxT K) from ix_tup) (pv 0) pe_int (fun _ _ => rfl)) (pa_cons (pe_lst (pa_cons pe_int pa_nil)) pa_nil))))) pss_nil) (pss_one (ps_ret (pe_ifExp (pt_cmpR op_eq (pe_ix (show IxR _ (rIxT K) from ix_tup) (pv 0) pe_int (fun _ _ => rfl)) pe_str (by rfl)) (pe_tup (pa_cons pe_int (pa_cons pe_int pa_nil))) pe_int)))), ?_⟩
  cases c with
  | eq p =>
    refine q_un (dt_t (db_is (db_eqT (y := "like") (dv_ix (n := 0) (dv_var i1) dv_int rfl) dv_str) rfl)) fun H1 x1 => ?_
    exact s_re (dv_if (b := false) (dt_t (db_is (db_eqT (y := "between") (dv_ix (n := 0) (dv_var (i1.ex x1)) dv_int rfl) dv_str) rfl)) (fun z => nomatch z) fun _ => dv_int) fun v H2 x2 im => q v H2 (x1.trans x2) im
  | be p =>
    refine q_un (dt_t (db_is (db_eqT (y := "like") (dv_ix (n := 0) (dv_var i1) dv_int rfl) dv_str) rfl)) fun H1 x1 => ?_
    exact s_re (dv_if (b := false) (dt_t (db_is (db_eqT (y := "between") (dv_ix (n := 0) (dv_var (i1.ex x1)) dv_int rfl) dv_str) rfl)) (fun z => nomatch z) fun _ => dv_int) fun v H2 x2 im => q v H2 (x1.trans x2) im
  | btw p1 p2 =>
    refine q_un (dt_t (db_is (db_eqT (y := "like") (dv_ix (n := 0) (dv_var i1) dv_int rfl) dv_str) rfl)) fun H1 x1 => ?_
    exact s_re (dv_if (b := true) (dt_t (db_is (db_eqT (y := "between") (dv_ix (n := 0) (dv_var (i1.ex x1)) dv_int rfl) dv_str) rfl)) (fun _ => dv_tup (da_cons dv_int (da_cons dv_int da_nil))) fun z => nomatch z) fun v H2 x2 im => q v H2 (x1.trans x2) im
  | lk p =>
    refine q_if2 (b := true) (dt_t (db_is (db_eqT (y := "like") (dv_ix (n := 0) (dv_var i1) dv_int rfl) dv_str) rfl)) (fun _ H1 x1 => ?_) fun z => nomatch z
    refine s_re (dv_led (S := [0]) (dv_ix (n := 1) (dv_var (i1.ex x1)) dv_int rfl) (dl_lst (da_cons dv_int da_nil)).ple hc.1 ?_) fun v H2 x2 im => q v H2 (x1.trans x2) im
    intro i hi
    obtain rfl := List.mem_singleton.mp hi
    exact ⟨by omega, by omega⟩
abbrev sp_beside : Sp := spD fun ds d => ∃ L b i x, ds = [tx L, tx b, .num i, tx [x]] ∧ LetOk L ∧ (∀ c ∈ b, c ∈ L) ∧ b.length ≤ 4 ∧ x ∈ L ∧ i ≤ (b.length : Int) ∧ d = .num (besideI L b i x)
theorem sc_beside : FnScope ["letters", "bound", "stand", "letter"] ["letters", "bound", "stand", "letter"] (defScope s_beside) := ⟨rfl, rfl, rfl, by decide +kernel, rfl, by decide +kernel, by decide +kernel⟩
theorem ok_beside (T : Txt K mg) : FnR P w K mg base CX0 1 (a_beside K) (sp_beside) := by
  refine okR T.F_beside sc_beside (fun _ _ _ _ _ _ us hl => match us, hl with | [_, _, _, _], _ => rfl) ?_ fun cdv A outer s H vs Q E hr q => ?_
  · exact spD_len fun _ _ ⟨_, _, _, _, e, _⟩ => by rw [e]; rfl
  obtain ⟨ds, d, il, ⟨L, b, i, x, rfl, hL, hb, h4, hx, hi, rfl⟩, q⟩ := q
  obtain ⟨v1, v2, v3, v4, rfl, i1, i2, i3, i4⟩ := il.four
  refine ⟨_, (pss_cons (ps_if (pt_cmpR op_lt (pv 2) pe_int (by rfl)) (pss_one (ps_ret (pv 2))) pss_nil) (pss_cons (ps_if (pt_cmpR op_eq (pv 2) (pe_callB (id := "len") call_len_str (by rfl) T.n_len (by decide +kernel) (pa_cons (pv 1) pa_nil)) (by rfl)) (pss_one (ps_ret (pe_gi (by rfl) T.i_GREATER))) pss_nil) (pss_cons (ps_if (pt_cmpR op_eq (pv 3) (pe_ix ix_str (pv 1) (pv 2) (fun _ _ => rfl)) (by rfl)) (pss_one (ps_ret (pe_op op_add (pv 2) pe_int))) pss_nil) (pss_one (ps_ret (pe_ifExp (pt_cmpR op_lt (pe_m1 PySem.F.slot_str_index PySem.F.type_str_index mt_sindex (pv 0) (pv 3)) (pe_m1 PySem.F.slot_str_index PySem.F.type_str_index mt_sindex (pv 0) (pe_ix ix_str (pv 1) (pv 2) (fun _ _ => rfl))) (by rfl)) (pe_gi (by rfl) T.i_LESS) (pe_gi (by rfl) T.i_GREATER))))))), ?_⟩
  unfold besideI at q
  refine q_if2 (dt_t (db_I (dv_var i3) dv_int)) (fun e H1 x1 => ?_) fun e H1 x1 => ?_
  · rw [if_pos (by simpa using e)] at q
    exact s_re (dv_var (i3.ex x1)) fun v H2 x2 im => q v H2 (x1.trans x2) im
  rw [if_neg (by simpa using e)] at q
  have h0 : 0 ≤ i := by simpa using e
  refine q_if2 (dt_t (db_eqI (dv_var (i3.ex x1)) (dv_lenS (dv_var (i2.ex x1)) (by omega)))) (fun e H2 x2 => ?_) fun e H2 x2 => ?_
  · rw [if_pos (by simpa using e)] at q
    exact s_re dv_int fun v H3 x3 im => q v H3 (x1.trans (x2.trans x3)) im
  have e' : ¬ i = (b.length : Int) := by simpa using e
  rw [if_neg e'] at q
  obtain ⟨n, rfl⟩ : ∃ n : Nat, i = (n : Int) := ⟨i.toNat, (Int.toNat_of_nonneg h0).symm⟩
  have x12 := x1.trans x2
  have hn := get_at (p := b) (Int.natCast_nonneg n) (by omega)
  rw [Int.toNat_natCast] at hn q
  refine q_if2 (dt_t (db_eqS (dv_var (i4.ex x12)) (dv_ixS (n := n) (dv_var (i2.ex x12)) (dv_var (i3.ex x12)) hn (by omega)))) (fun e H3 x3 => ?_) fun e H3 x3 => ?_
  · rw [if_pos (by simpa using e)] at q
    exact s_re (dv_opI (dv_var (i3.ex (x12.trans x3))) dv_int) fun v H4 x4 im => q v H4 ((x12.trans x3).trans x4) im
  rw [if_neg (by simpa using e)] at q
  have x123 := x12.trans x3
  refine s_re (dv_if (dt_t (db_I (dv_index (dv_var (i1.ex x123)) (dv_var (i4.ex x123)) hL hx) (dv_index (dv_var (i1.ex x123)) (dv_ixS (n := n) (dv_var (i2.ex x123)) (dv_var (i3.ex x123)) hn (by omega)) hL (hb _ (List.mem_of_getElem? hn))))) (fun e => ?_) fun e => ?_) fun v H4 x4 im => q v H4 (x123.trans x4) im
  · rw [if_pos (by simpa using e)]
    exact dv_int
  · rw [if_neg (by simpa using e)]
    exact dv_int
abbrev sp_stand_after : Sp := spD fun ds d => ∃ L c s x, ds = [tx L, Cond.d c, StT.d s, tx [x]] ∧ LetOk L ∧ CondOk L c ∧ StOk c s ∧ x ∈ L ∧ d = (nextS L c s x).d
theorem sc_stand_after : FnScope ["letters", "condition", "stand", "letter", "word", "text", "found", "place"] ["letters", "condition", "stand", "letter"] (defScope s_stand_after) := ⟨rfl, rfl, rfl, by decide +kernel, rfl, by decide +kernel, by decide +kernel⟩
theorem ok_stand_after (T : Txt K mg) : FnR P w K mg base CX0 2 (a_stand_after K) (sp_stand_after) := by
  refine okR T.F_stand_after sc_stand_after (fun _ _ _ _ _ _ us hl => match us, hl with | [_, _, _, _], _ => rfl) ?_ fun cdv A outer s H vs Q E hr q => ?_
  · exact spD_len fun _ _ ⟨_, _, _, _, e, _⟩ => by rw [e]; rfl
  obtain ⟨ds, d, il, ⟨L, c, s', x, rfl, hL, hc, hs, hx, rfl⟩, q⟩ := q
  obtain ⟨v1, v2, v3, v4, rfl, i1, i2, i3, i4⟩ := il.four
  refine ⟨_, (pss_cons (ps_asg (pe_slice (show SlR _ (rSlA K) from sl_tupA) (pv 1) po_none (po_some pe_int)) (show PG _ _ (gTup K 2 _) from pg_tup rfl (pgs_cons (pg_name (i := 4) sc_stand_after.nd rfl (by first | exact .inl rfl | exact .inr rfl)) (pgs_cons (pg_name (i := 5) sc_stand_after.nd rfl (by first | exact .inl rfl | exact .inr rfl)) pgs_nil)))) (pss_cons (ps_if (pt_cmpR op_eq (pv 4) pe_str (by rfl)) (pss_one (ps_ret (pe_tup (pa_cons (pe_fn (ok_beside T) (hr.mono (by decide)) (by rfl) T.g_beside (kp_of T.F_beside) pass0 (pa_cons (pv 0) (pa_cons (pv 5) (pa_cons (pe_ix (show IxR _ (rIxT K) from ix_tup) (pv 2) pe_int (fun _ _ => rfl)) (pa_cons (pv 3) pa_nil))))) (pa_cons (pe_fn (ok_beside T) (hr.mono (by decide)) (by rfl) T.g_beside (kp_of T.F_beside) pass0 (pa_cons (pv 0) (pa_cons (pe_ix (show IxR _ (rIxT K) from ix_tup) (pv 1) pe_int (fun _ _ => rfl)) (pa_cons (pe_ix (show IxR _ (rIxT K) from ix_tup) (pv 2) pe_int (fun _ _ => rfl)) (pa_cons (pv 3) pa_nil))))) pa_nil))))) pss_nil) (pss_cons (ps_if (pt_cmpR op_eq (pv 4) pe_str (by rfl)) (pss_cons (ps_setLc (i := 6) (own := [("place", 7)]) rfl sc_stand_after.nd rfl rfl (sw_true rfl rfl rfl (by decide +kernel)) (show PI _ _ _ (iTup K _) from pi_tup (pv 2)) (blkOk_by (own := [("place", 7)]) (N := ["letters", "condition", "stand", "letter", "word", "text", "found", "place"]) (sc := defScope s_stand_after) (by decide +kernel)) (fun _ _ _ _ _ => (pg_name (i := 7) sc_stand_after.nd rfl (by first | exact .inl rfl | exact .inr rfl))) (fun _ _ _ _ _ => (pts_one (PW.pt (pw_and (pt_cmpR op_lt (pv 7) (pe_callB (id := "len") call_len_str (by rfl) T.n_len (by decide +kernel) (pa_cons (pv 5) pa_nil)) (by rfl)) (pw_and1 (pt_cmpR op_eq (pe_ix ix_str (pv 5) (pv 7) (fun _ _ => rfl)) pe_str (by rfl))))))) (fun _ _ _ _ _ => (pv 7))) (pss_cons (ps_expr (pe_bm PySem.F.plainAttrs_list PySem.F.slot_list_extend PySem.F.type_list_extend mt_extend (pv 6) (pa_cons (pe_lc (own := [("place", 7)]) rfl sc_stand_after.nd (show PI _ _ _ (iTup K _) from pi_tup (pv 2)) (blkOk_by (own := [("place", 7)]) (N := ["letters", "condition", "stand", "letter", "word", "text", "found", "place"]) (sc := defScope s_stand_after) (by decide +kernel)) (fun _ _ _ _ _ => (pg_name (i := 7) sc_stand_after.nd rfl (by first | exact .inl rfl | exact .inr rfl))) (fun _ _ _ _ _ => (pts_one (PW.pt (pw_and (pt_cmpR op_lt (pv 7) (pe_callB (id := "len") call_len_str (by rfl) T.n_len (by decide +kernel) (pa_cons (pv 5) pa_nil)) (by rfl)) (pw_and1 (pt_cmpR (show OpR _ _ (rIn K false) from op_in_seq) (pe_ix ix_str (pv 5) (pv 7) (fun _ _ => rfl)) (pe_tup (pa_cons pe_str (pa_cons (pv 3) pa_nil))) (by rfl))))))) (fun _ _ _ _ _ => (pe_op op_add (pv 7) pe_int))) pa_nil))) (pss_one (ps_ret (pe_fn (ok_led_on T) (hr.mono (by decide)) (by rfl) T.g_led_on (kp_of T.F_led_on) pass0 (pa_cons (pv 5) (pa_cons (pe_callB (id := "sorted") cr_sortedI (by rfl) T.n_sorted (by decide +kernel) (pa_cons (pv 6) pa_nil)) pa_nil))))))) pss_nil) (pss_cons (ps_if (PW.pt (pw_and (pt_cmpR op_eq (pv 2) (pe_callB (id := "len") call_len_str (by rfl) T.n_len (by decide +kernel) (pa_cons (pv 5) pa_nil)) (by rfl)) (pw_and1 (pt_cmpR op_eq (pv 4) pe_str (by rfl))))) (pss_one (ps_ret (pv 2))) pss_nil) (pss_one (ps_ret (pe_ifExp (PW.pt (pw_and (pt_chain op_le op_lt pe_int (pv 2) (pe_callB (id := "len") call_len_str (by rfl) T.n_len (by decide +kernel) (pa_cons (pv 5) pa_nil))) (pw_and1 (pt_cmpR op_eq (pe_ix ix_str (pv 5) (pv 2) (fun _ _ => rfl)) (pv 3) (by rfl))))) (pe_op op_add (pv 2) pe_int) (pe_gi (by rfl) T.i_LESS)))))))), ?_⟩
  have tail : ∀ (p : Tx) (i : Int) (H1 : Hp) (σ : St), p.length ≤ 4 → -1 ≤ i → i ≤ p.length → σ[2]? = some (some (.int i)) → σ[3]? = some (some v4) → σ[5]? = some (some (.str (tS p))) → Im H1 (tx [x]) v4 →
      DV (tIf (tAnd (tTest (tChain (rI0 fun i j => V.bl (decide (i ≤ j))) (rI0 fun i j => V.bl (decide (i < j))) (tC (.int 0)) (tVar 2) (tCB rLenZ (tCons (tVar 5) tNil)))) (tTest (tOp rEq (tOp rIxS (tVar 5) (tVar 2)) (tVar 3)))) (tOp (rI0 fun i j => V.int (i + j)) (tVar 2) (tC (.int 1))) (tC (.int (-1)))) σ H1 (.num (eqNext p i x)) := by
    intro p i H1 σ hp h0 h1 e2 e3 e5 j4
    have tst : EvT (tAnd (tTest (tChain (rI0 fun i j => V.bl (decide (i ≤ j))) (rI0 fun i j => V.bl (decide (i < j))) (tC (.int 0)) (tVar 2) (tCB rLenZ (tCons (tVar 5) tNil)))) (tTest (tOp rEq (tOp rIxS (tVar 5) (tVar 2)) (tVar 3)))) σ H1 (decide (0 ≤ i ∧ i < p.length ∧ p.getD i.toNat 0 = x)) := by
      refine dt_is (et_and (b := decide (p.getD i.toNat 0 = x)) (dt_t (db_chainI dv_int (dv_var im_num e2) (dv_lenS (dv_var im_text e5) (by omega)))) fun z => ?_) ?_
      · have z' : 0 ≤ i ∧ i < p.length := by simpa using z
        refine dt_t (db_is (db_eqS (a := [p.getD i.toNat 0]) (dv_ixS (n := i.toNat) (dv_var im_text e5) (dv_is (dv_var im_num e2) (by rw [Int.toNat_of_nonneg z'.1])) (get_at z'.1 z'.2) (by omega)) (dv_var j4 e3)) dec_one)
      · simp [Bool.decide_and, Bool.and_assoc]
    unfold eqNext
    refine dv_if tst (fun e => ?_) fun e => ?_
    · rw [if_pos (by simpa using e)]
      exact dv_opI (dv_var im_num e2) dv_int
    · rw [if_neg (by simpa using e)]
      exact dv_int
  cases c with
  | eq p =>
    cases s' with
    | n i =>
      obtain rfl := i3.num
      refine q_un2 (dv_slTake (n := 2) (ds := [.text "equal", tx p]) (dv_var i2) (eo_nat dv_int)) fun u1 u2 H1 x1 k1 k2 => ?_
      obtain rfl := k1.text
      obtain rfl := k2.text
      refine q_un (dt_t (db_is (db_eqT (y := "between") (dv_var im_text) dv_str) rfl)) fun H2 x2 => ?_
      refine q_un (dt_t (db_is (db_eqT (y := "like") (dv_var im_text) dv_str) rfl)) fun H3 x3 => ?_
      refine q_un (dt_is (et_and (dt_t (db_eqI (dv_var im_num) (dv_lenS (dv_var im_text) (by have := hc.1; omega)))) fun _ => dt_t (db_is (db_eqT (y := "begins") (dv_var im_text) dv_str) (c := false) rfl)) (by simp)) fun H4 x4 => ?_
      have x14 := x1.trans (x2.trans (x3.trans x4))
      exact s_re (tail p i H4 _ hc.1 hs.1 hs.2 rfl rfl rfl (i4.ex x14)) fun v H5 x5 im => q v H5 (x14.trans x5) im
    | _ => exact hs.elim
  | be p =>
    cases s' with
    | n i =>
      obtain rfl := i3.num
      refine q_un2 (dv_slTake (n := 2) (ds := [.text "begins", tx p]) (dv_var i2) (eo_nat dv_int)) fun u1 u2 H1 x1 k1 k2 => ?_
      obtain rfl := k1.text
      obtain rfl := k2.text
      refine q_un (dt_t (db_is (db_eqT (y := "between") (dv_var im_text) dv_str) rfl)) fun H2 x2 => ?_
      refine q_un (dt_t (db_is (db_eqT (y := "like") (dv_var im_text) dv_str) rfl)) fun H3 x3 => ?_
      have x13 := x1.trans (x2.trans x3)
      refine q_if2 (dt_is (c := decide (i = p.length)) (et_and (dt_t (db_eqI (dv_var im_num) (dv_lenS (dv_var im_text) (by have := hc.1; omega)))) fun _ => dt_t (db_is (db_eqT (y := "begins") (dv_var im_text) dv_str) (c := true) rfl)) (by simp)) (fun e H4 x4 => ?_) fun e H4 x4 => ?_
      · refine s_re (dv_var im_num) fun v H5 x5 im => q v H5 (x13.trans (x4.trans x5)) ?_
        show Im H5 (.num (if i = p.length then i else eqNext p i x)) v
        rw [if_pos (by simpa using e)]
        exact im
      · refine s_re (tail p i H4 _ hc.1 hs.1 hs.2 rfl rfl rfl (i4.ex (x13.trans x4))) fun v H5 x5 im => q v H5 (x13.trans (x4.trans x5)) ?_
        show Im H5 (.num (if i = p.length then i else eqNext p i x)) v
        rw [if_neg (by simpa using e)]
        exact im
    | _ => exact hs.elim
  | btw p1 p2 =>
    cases s' with
    | p i j =>
      refine q_un2 (dv_slTake (n := 2) (ds := [.text "between", tx p1, tx p2]) (dv_var i2) (eo_nat dv_int)) fun u1 u2 H1 x1 k1 k2 => ?_
      obtain rfl := k1.text
      obtain rfl := k2.text
      refine q_if2 (b := true) (dt_t (db_is (db_eqT (y := "between") (dv_var im_text) dv_str) rfl)) (fun _ H2 x2 => ?_) fun z => nomatch z
      have x12 := x1.trans x2
      refine s_re (dv_tup (da_cons (dv_fn (da_cons (dv_var (i1.ex x12)) (da_cons (dv_var im_text) (da_cons (dv_ix (n := 0) (dv_var (i3.ex x12)) dv_int rfl) (da_cons (dv_var (i4.ex x12)) da_nil)))) ⟨L, p1, i, x, rfl, hL, hc.1.2, hc.1.1, hx, hs.1.2, rfl⟩)
        (da_cons (dv_fn (da_cons (dv_var (i1.ex x12)) (da_cons (dv_ix (n := 2) (dv_var (i2.ex x12)) dv_int rfl) (da_cons (dv_ix (n := 1) (dv_var (i3.ex x12)) dv_int rfl) (da_cons (dv_var (i4.ex x12)) da_nil)))) ⟨L, p2, j, x, rfl, hL, hc.2.2, hc.2.1, hx, hs.2.2, rfl⟩) da_nil))) fun v H5 x5 im => q v H5 (x12.trans x5) im
    | _ => exact hs.elim
  | lk p =>
    cases s' with
    | l S =>
      refine q_un2 (dv_slTake (n := 2) (ds := [.text "like", tx p]) (dv_var i2) (eo_nat dv_int)) fun u1 u2 H1 x1 k1 k2 => ?_
      obtain rfl := k1.text
      obtain rfl := k2.text
      refine q_un (dt_t (db_is (db_eqT (y := "between") (dv_var im_text) dv_str) rfl)) fun H2 x2 => ?_
      refine q_if2 (b := true) (dt_t (db_is (db_eqT (y := "like") (dv_var im_text) dv_str) rfl)) (fun _ H3 x3 => ?_) fun z => nomatch z
      have x13 := x1.trans (x2.trans x3)
      have l4 : p.length ≤ 100000 := by have := hc.1; omega
      have lS : S.length ≤ 5 := st_len (L := L) (c := .lk p) hc hs.1 hc.1
      have tst : ∀ (i : Int) (H1 : Hp) (σ : St), i ∈ S → σ[5]? = some (some (.str (tS p))) → σ[7]? = some (some (.int i)) → ∀ {tq : TE} {b : Bool}, (∀ H2, Ex H1 H2 → i < p.length → DB (tq) σ H2 b) → EvT (tAnd (tTest (tOp (rI0 fun i j => V.bl (decide (i < j))) (tVar 7) (tCB rLenZ (tCons (tVar 5) tNil)))) (tTest tq)) σ H1 (decide (i < p.length) && b) := by
        intro i H1 σ hi e5 e7 tq b h
        exact et_and (dt_t (db_I (dv_var im_num e7) (dv_lenS (dv_var im_text e5) l4))) fun z => dt_t (h H1 (Ex.refl _) (by simpa using z))
      have ixp : ∀ (i : Int) (H1 : Hp) (σ : St), i ∈ S → i < p.length → σ[5]? = some (some (.str (tS p))) → σ[7]? = some (some (.int i)) → DV (tOp rIxS (tVar 5) (tVar 7)) σ H1 (tx [p.getD i.toNat 0]) := by
        intro i H1 σ hi hlt e5 e7
        have h0 := (hs.2 i hi).1
        exact dv_ixS (n := i.toNat) (dv_var im_text e5) (dv_is (dv_var im_num e7) (by rw [Int.toNat_of_nonneg h0])) (get_at h0 hlt) l4
      refine q_asL (ds := (S.filter (fun i : Int => decide (i < (p.length : Int) ∧ p.getD i.toNat 0 = sr))).map .num) (DL.is (lc_tupI (fun i : Int => decide (i < (p.length : Int) ∧ p.getD i.toNat 0 = sr)) (fun i => i) (dv_var (i3.ex x13)) (by omega) (fun x => rfl) (fun i H4 hi x4 => dt_is (tst i H4 _ hi rfl rfl fun H5 x5 hlt => db_eqS (c := [sr]) (ixp i H5 _ hi hlt rfl rfl) dv_str) (by simp [dec_one])) fun i H4 hi x4 hp => dv_var im_num) (by simp)) fun a us H4 ha x4 hA il4 => ?_
      have x14 := x13.trans x4
      obtain rfl := il4.ints
      refine s_of (q_extD (ds := ((S.filter fun i : Int => decide (i < (p.length : Int) ∧ (p.getD i.toNat 0 = qm ∨ p.getD i.toNat 0 = x))).map (· + 1)).map .num) hA ev_vr (lc_tupI (fun i : Int => decide (i < (p.length : Int) ∧ (p.getD i.toNat 0 = qm ∨ p.getD i.toNat 0 = x))) (· + 1) (dv_var (i3.ex x14)) (by omega) (fun x => rfl)
        (fun i H5 hi x5 => dt_is (tst i H5 _ hi rfl rfl fun H6 x6 hlt => db_in (ds := [tx [qm], tx [x]]) (ixp i H6 _ hi hlt rfl rfl) (dv_tup (da_cons (dv_strX (l := [qm])) (da_cons (dv_var (((i4.ex x14).ex x5).ex x6)) da_nil))) rfl rfl) ?_) fun i H5 hi x5 hp => dv_opI (dv_var im_num) dv_int) ?_ fun vs H5 x5 il5 => ?_)
      · rw [in_two, Bool.decide_and]
      · have h1 := List.length_filter_le (fun i : Int => decide (i < (p.length : Int) ∧ p.getD i.toNat 0 = sr)) S
        have h2 := List.length_filter_le (fun i : Int => decide (i < (p.length : Int) ∧ (p.getD i.toNat 0 = qm ∨ p.getD i.toNat 0 = x))) S
        simp only [List.length_map]
        omega
      obtain rfl := il5.ints
      have hf : (upd H5 a (.lst ((S.filter (fun i : Int => decide (i < (p.length : Int) ∧ p.getD i.toNat 0 = sr))).map V.int ++ ((S.filter fun i : Int => decide (i < (p.length : Int) ∧ (p.getD i.toNat 0 = qm ∨ p.getD i.toNat 0 = x))).map (· + 1)).map V.int))) a = some (.lst ((lkFound p S x).map V.int)) := by
        rw [upd_same, ← List.map_append]
        rfl
      exact s_re (dv_led (S := lkFound p S x) (dv_var im_text) (ple_sort ev_vr hf) hc.1 (lkFound_rng hs.2)) fun v H6 x6 im => q v H6 ((Evl.Ex.mut (x14.trans x5) (Evl.fresh_back x13 ha)).trans x6) im
    | _ => exact hs.elim
end
end Fk

set_option Elab.async false
set_option linter.all false
set_option maxRecDepth 100000
set_option maxHeartbeats 4000000
/-! stands, def by def: met, read, what is a stand -/
namespace Fk
open PySem PySem.Spec PyProof.Rows L2 He
open Evl (Ex Ev EvT EvL EvA ev_andV ev_orV ev_notV et_and et_or et_not)
theorem mem_num {i : Int} {S : List Int} : decide (NestedKey.num i ∈ S.map NestedKey.num) = decide (i ∈ S) := by
  have : NestedKey.num i ∈ S.map NestedKey.num ↔ i ∈ S := by
    rw [List.mem_map]
    exact ⟨fun ⟨j, hj, e⟩ => NestedKey.num.inj e ▸ hj, fun h => ⟨i, h, rfl⟩⟩
  by_cases h : i ∈ S
  · rw [decide_eq_true h, decide_eq_true (this.mpr h)]
  · rw [decide_eq_false h, decide_eq_false (fun z => h (this.mp z))]
theorem flat_nums (S : List Int) : (S.map NestedKey.num).all isFlat = true := by
  rw [List.all_eq_true]
  intro d hd
  obtain ⟨i, _, rfl⟩ := List.mem_map.mp hd
  rfl
theorem readS_take {L : Tx} {c : Cond} {l : Tx} {n x : Nat} (h : l[n]? = some x) : readS L c (l.take (n + 1)) = nextS L c (readS L c (l.take n)) x := by
  rw [take_snoc h]
  unfold readS
  rw [List.foldl_append]
  rfl
section
variable {P : Program} {w : World} {K : PySem.W.Frag} {mg : Str → Option Value} {base : Heap}
abbrev sp_is_met : Sp := spB fun ds b => ∃ L c s, ds = [Cond.d c, StT.d s] ∧ CondOk L c ∧ StOk c s ∧ b = metS c s
theorem sc_is_met : FnScope ["condition", "stand", "word", "text"] ["condition", "stand"] (defScope s_is_met) := ⟨rfl, rfl, rfl, by decide +kernel, rfl, by decide +kernel, by decide +kernel⟩
theorem ok_is_met (T : Txt K mg) : FnR P w K mg base CX0 1 (a_is_met K) (sp_is_met) := by
  refine okR T.F_is_met sc_is_met (fun _ _ _ _ _ _ us hl => match us, hl with | [_, _], _ => rfl) ?_ fun cdv A outer s H vs Q E hr q => ?_
  · exact spB_len fun _ _ ⟨_, _, _, e, _⟩ => by rw [e]; rfl
  obtain ⟨ds, b, il, ⟨L, c, s', rfl, hc, hs, rfl⟩, q⟩ := q
  obtain ⟨v1, v2, rfl, i1, i2⟩ := il.two
  refine ⟨_, (pss_cons (ps_asg (pe_slice (show SlR _ (rSlA K) from sl_tupA) (pv 0) po_none (po_some pe_int)) (show PG _ _ (gTup K 2 _) from pg_tup rfl (pgs_cons (pg_name (i := 2) sc_is_met.nd rfl (by first | exact .inl rfl | exact .inr rfl)) (pgs_cons (pg_name (i := 3) sc_is_met.nd rfl (by first | exact .inl rfl | exact .inr rfl)) pgs_nil)))) (pss_cons (ps_if (pt_cmpR op_eq (pv 2) pe_str (by rfl)) (pss_one (ps_ret (pe_and (pe_cmpR (show OpR _ _ (rIn K false) from op_in_seq) (pe_ix (show IxR _ (rIxT K) from ix_tup) (pv 1) pe_int (fun _ _ => rfl)) (pe_tup (pa_cons (pe_gi (by rfl) T.i_GREATER) (pa_cons (pe_callB (id := "len") call_len_str (by rfl) T.n_len (by decide +kernel) (pa_cons (pv 3) pa_nil)) pa_nil))) (by rfl)) (pe_one (pe_cmpR op_ne (pe_ix (show IxR _ (rIxT K) from ix_tup) (pv 1) pe_int (fun _ _ => rfl)) (pe_gi (by rfl) T.i_GREATER) (by rfl)))))) pss_nil) (pss_one (ps_ret (pe_ifExp (pt_cmpR op_eq (pv 2) pe_str (by rfl)) (pe_cmpR (show OpR _ _ (rIn K false) from op_in_seq) (pe_callB (id := "len") call_len_str (by rfl) T.n_len (by decide +kernel) (pa_cons (pv 3) pa_nil)) (pv 1) (by rfl)) (pe_cmpR op_eq (pv 1) (pe_callB (id := "len") call_len_str (by rfl) T.n_len (by decide +kernel) (pa_cons (pv 3) pa_nil)) (by rfl))))))), ?_⟩
  cases c with
  | eq p =>
    cases s' with
    | n i =>
      refine q_un2 (dv_slTake (n := 2) (ds := [.text "equal", tx p]) (dv_var i1) (eo_nat dv_int)) fun u1 u2 H1 x1 k1 k2 => ?_
      obtain rfl := k1.text
      obtain rfl := k2.text
      refine q_un (dt_t (db_is (db_eqT (y := "between") (dv_var im_text) dv_str) rfl)) fun H2 x2 => ?_
      exact s_reB (Evl.ev_if (b := false) (dt_t (db_is (db_eqT (y := "like") (dv_var im_text) dv_str) rfl)) (fun z => nomatch z) fun _ => db_eqI (dv_var (i2.ex (x1.trans x2))) (dv_lenS (dv_var im_text) (by have := hc.1; omega))) fun H3 x3 => q H3 (x1.trans (x2.trans x3))
    | _ => exact hs.elim
  | be p =>
    cases s' with
    | n i =>
      refine q_un2 (dv_slTake (n := 2) (ds := [.text "begins", tx p]) (dv_var i1) (eo_nat dv_int)) fun u1 u2 H1 x1 k1 k2 => ?_
      obtain rfl := k1.text
      obtain rfl := k2.text
      refine q_un (dt_t (db_is (db_eqT (y := "between") (dv_var im_text) dv_str) rfl)) fun H2 x2 => ?_
      exact s_reB (Evl.ev_if (b := false) (dt_t (db_is (db_eqT (y := "like") (dv_var im_text) dv_str) rfl)) (fun z => nomatch z) fun _ => db_eqI (dv_var (i2.ex (x1.trans x2))) (dv_lenS (dv_var im_text) (by have := hc.1; omega))) fun H3 x3 => q H3 (x1.trans (x2.trans x3))
    | _ => exact hs.elim
  | btw p1 p2 =>
    cases s' with
    | p i j =>
      refine q_un2 (dv_slTake (n := 2) (ds := [.text "between", tx p1, tx p2]) (dv_var i1) (eo_nat dv_int)) fun u1 u2 H1 x1 k1 k2 => ?_
      obtain rfl := k1.text
      obtain rfl := k2.text
      refine q_if2 (b := true) (dt_t (db_is (db_eqT (y := "between") (dv_var im_text) dv_str) rfl)) (fun _ H2 x2 => ?_) fun z => nomatch z
      have x12 := x1.trans x2
      refine s_reB (db_is (ev_andV (db_in (ds := [.num (-2), .num (p1.length : Int)]) (dv_ix (n := 0) (dv_var (i2.ex x12)) dv_int rfl) (dv_tup (da_cons dv_int (da_cons (dv_lenS (dv_var im_text) (by have := hc.1.1; omega)) da_nil))) rfl rfl) fun _ =>
        db_neI (dv_ix (n := 1) (dv_var (i2.ex x12)) dv_int rfl) dv_int) ?_) fun H3 x3 => q H3 (x12.trans x3)
      rw [show [NestedKey.num (-2), .num (p1.length : Int)] = [(-2 : Int), (p1.length : Int)].map NestedKey.num from rfl, mem_num]
      show _ = (decide (i = -2 ∨ i = p1.length) && decide (j ≠ -2))
      simp
    | _ => exact hs.elim
  | lk p =>
    cases s' with
    | l S =>
      refine q_un2 (dv_slTake (n := 2) (ds := [.text "like", tx p]) (dv_var i1) (eo_nat dv_int)) fun u1 u2 H1 x1 k1 k2 => ?_
      obtain rfl := k1.text
      obtain rfl := k2.text
      refine q_un (dt_t (db_is (db_eqT (y := "between") (dv_var im_text) dv_str) rfl)) fun H2 x2 => ?_
      refine s_reB (Evl.ev_if (b := true) (dt_t (db_is (db_eqT (y := "like") (dv_var im_text) dv_str) rfl)) (fun _ => db_is (db_in (ds := S.map .num) (dv_lenS (dv_var im_text) (by have := hc.1; omega)) (dv_var (i2.ex (x1.trans x2))) rfl (flat_nums S)) mem_num) fun z => nomatch z) fun H3 x3 => q H3 (x1.trans (x2.trans x3))
    | _ => exact hs.elim
abbrev sp_read_by : Sp := spD fun ds d => ∃ L c l, ds = [tx L, Cond.d c, tx l] ∧ LetOk L ∧ CondOk L c ∧ (∀ x ∈ l, x ∈ L) ∧ d = (readS L c l).d
theorem sc_read_by : FnScope ["letters", "condition", "text", "stand", "letter"] ["letters", "condition", "text"] (defScope s_read_by) := ⟨rfl, rfl, rfl, by decide +kernel, rfl, by decide +kernel, by decide +kernel⟩
theorem ok_read_by (T : Txt K mg) : FnR P w K mg base CX0 3 (a_read_by K) (sp_read_by) := by
  refine okR T.F_read_by sc_read_by (fun _ _ _ _ _ _ us hl => match us, hl with | [_, _, _], _ => rfl) ?_ fun cdv A outer s H vs Q E hr q => ?_
  · exact spD_len fun _ _ ⟨_, _, _, e, _⟩ => by rw [e]; rfl
  obtain ⟨ds, d, il, ⟨L, c, l, rfl, hL, hc, hl, rfl⟩, q⟩ := q
  obtain ⟨v1, v2, v3, rfl, i1, i2, i3⟩ := il.three
  refine ⟨_, (pss_cons (ps_set (i := 3) sc_read_by.nd rfl (by first | exact .inl rfl | exact .inr rfl) (pe_fn (ok_first_stand T) (hr.mono (by decide)) (by rfl) T.g_first_stand (kp_of T.F_first_stand) pass0 (pa_cons (pv 1) pa_nil))) (pss_cons (ps_for PassesOwn.never rfl (pi_str (pv 2)) (pg_name (i := 4) sc_read_by.nd rfl (by first | exact .inl rfl | exact .inr rfl)) (pss_one (ps_set (i := 3) sc_read_by.nd rfl (by first | exact .inl rfl | exact .inr rfl) (pe_fn (ok_stand_after T) (hr.mono (by decide)) (by rfl) T.g_stand_after (kp_of T.F_stand_after) pass0 (pa_cons (pv 0) (pa_cons (pv 1) (pa_cons (pv 3) (pa_cons (pv 4) pa_nil)))))))) (pss_one (ps_ret (pv 3))))), ?_⟩
  refine q_as (dv_fn (da_cons (dv_var i2) da_nil) ⟨L, c, rfl, hc, rfl⟩) fun u H1 x1 k1 => ?_
  refine q_forS (dv_var (i3.ex x1)) (fun n σ' H' => Ex H H' ∧ ∃ u4 u5, σ' = [some v1, some v2, some v3, some u4, u5] ∧ Im H' (readS L c (l.take n)).d u4) (fun H2 x2 => ⟨x1.trans x2, _, _, rfl, k1.ex x2⟩) ?_ ?_
  · rintro n x σ' H' hx ⟨x2, u4, u5, rfl, k2⟩
    refine s_of (q_as (dv_fn (da_cons (dv_var (i1.ex x2)) (da_cons (dv_var (i2.ex x2)) (da_cons (dv_var k2) (da_cons (dv_var im_text) da_nil)))) ⟨L, c, _, x, rfl, hL, hc, StOk.read _, hl x (List.mem_of_getElem? hx), rfl⟩) fun u6 H3 x3 k3 => ?_)
    simp only [readS_take hx]
    exact ⟨x2.trans x3, _, _, rfl, k3⟩
  · rintro σ' H' ⟨x2, u4, u5, rfl, k2⟩
    rw [List.take_length] at k2
    exact s_re (dv_var k2) fun v H3 x3 im => q v H3 (x2.trans x3) im
abbrev sp_is_place_of : Sp := spB fun ds b => ∃ p i, ds = [tx p, .num i] ∧ p.length ≤ 4 ∧ (-2 ≤ i ∧ i ≤ (p.length : Int)) ∧ b = true
theorem sc_is_place_of : FnScope ["bound", "thing"] ["bound", "thing"] (defScope s_is_place_of) := ⟨rfl, rfl, rfl, by decide +kernel, rfl, by decide +kernel, by decide +kernel⟩
theorem ok_is_place_of (T : Txt K mg) : FnR P w K mg base CX0 2 (a_is_place_of K) (sp_is_place_of) := by
  refine okR T.F_is_place_of sc_is_place_of (fun _ _ _ _ _ _ us hl => match us, hl with | [_, _], _ => rfl) ?_ fun cdv A outer s H vs Q E hr q => ?_
  · exact spB_len fun _ _ ⟨_, _, e, _⟩ => by rw [e]; rfl
  obtain ⟨ds, d, il, ⟨p, i, rfl, h4, hi, rfl⟩, q⟩ := q
  obtain ⟨v1, v2, rfl, i1, i2⟩ := il.two
  refine ⟨_, (pss_one (ps_ret (pe_fn (ok_is_number T) (hr.mono (by decide)) (by rfl) T.g_is_number (kp_of T.F_is_number) pass0 (pa_cons (pv 1) (pa_cons (pe_gi (by rfl) T.i_GREATER) (pa_cons (pe_callB (id := "len") call_len_str (by rfl) T.n_len (by decide +kernel) (pa_cons (pv 0) pa_nil)) pa_nil)))))), ?_⟩
  exact s_reB (db_fn (da_cons (dv_var i2) (da_cons dv_int (da_cons (dv_lenS (dv_var i1) (by omega)) da_nil))) ⟨_, _, _, rfl, (decide_eq_true hi).symm⟩) fun H1 x1 => q H1 x1
abbrev sp_is_stand_of : Sp := spB fun ds b => ∃ L c s, ds = [Cond.d c, StT.d s] ∧ CondOk L c ∧ StOk c s ∧ b = true
theorem sc_is_stand_of : FnScope ["condition", "thing", "word", "text", "place"] ["condition", "thing"] (defScope s_is_stand_of) := ⟨rfl, rfl, rfl, by decide +kernel, rfl, by decide +kernel, by decide +kernel⟩
theorem ok_is_stand_of (T : Txt K mg) : FnR P w K mg base CX0 3 (a_is_stand_of K) (sp_is_stand_of) := by
  refine okR T.F_is_stand_of sc_is_stand_of (fun _ _ _ _ _ _ us hl => match us, hl with | [_, _], _ => rfl) ?_ fun cdv A outer s H vs Q E hr q => ?_
  · exact spB_len fun _ _ ⟨_, _, _, e, _⟩ => by rw [e]; rfl
  obtain ⟨ds, b, il, ⟨L, c, s', rfl, hc, hs, rfl⟩, q⟩ := q
  obtain ⟨v1, v2, rfl, i1, i2⟩ := il.two
  refine ⟨_, (pss_cons (ps_asg (pe_slice (show SlR _ (rSlA K) from sl_tupA) (pv 0) po_none (po_some pe_int)) (show PG _ _ (gTup K 2 _) from pg_tup rfl (pgs_cons (pg_name (i := 2) sc_is_stand_of.nd rfl (by first | exact .inl rfl | exact .inr rfl)) (pgs_cons (pg_name (i := 3) sc_is_stand_of.nd rfl (by first | exact .inl rfl | exact .inr rfl)) pgs_nil)))) (pss_cons (ps_if (pt_cmpR op_eq (pv 2) pe_str (by rfl)) (pss_cons (ps_if (PW.pt (pw_or (pt_not (pt_val (pe_callB (id := "isinstance") (show CallR _ _ (rIsi K) from call_isi) (by rfl) T.n_isinstance (by decide +kernel) (pa_cons (pv 1) (pa_cons (pe_bltn (v := .ty "tuple") (u := .type "tuple") (by rfl) T.n_tuple (by decide +kernel) rfl) pa_nil))))) (pw_or1 (pt_cmpR op_ne (pe_callB (id := "len") (show CallR _ _ (rLenQ K) from call_len_seq) (by rfl) T.n_len (by decide +kernel) (pa_cons (pv 1) pa_nil)) pe_int (by rfl))))) (pss_one (ps_ret pe_bl)) pss_nil) (pss_one (ps_ret (pe_and (pe_fn (ok_is_place_of T) (hr.mono (by decide)) (by rfl) T.g_is_place_of (kp_of T.F_is_place_of) pass0 (pa_cons (pv 3) (pa_cons (pe_ix (show IxR _ (rIxT K) from ix_tup) (pv 1) pe_int (fun _ _ => rfl)) pa_nil))) (pe_one (pe_fn (ok_is_place_of T) (hr.mono (by decide)) (by rfl) T.g_is_place_of (kp_of T.F_is_place_of) pass0 (pa_cons (pe_ix (show IxR _ (rIxT K) from ix_tup) (pv 0) pe_int (fun _ _ => rfl)) (pa_cons (pe_ix (show IxR _ (rIxT K) from ix_tup) (pv 1) pe_int (fun _ _ => rfl)) pa_nil)))))))) pss_nil) (pss_cons (ps_if (pt_cmpR op_eq (pv 2) pe_str (by rfl)) (pss_cons (ps_if (PW.pt (pw_or (pt_not (pt_val (pe_callB (id := "isinstance") (show CallR _ _ (rIsi K) from call_isi) (by rfl) T.n_isinstance (by decide +kernel) (pa_cons (pv 1) (pa_cons (pe_bltn (v := .ty "tuple") (u := .type "tuple") (by rfl) T.n_tuple (by decide +kernel) rfl) pa_nil))))) (pw_or1 (pt_not (pt_val (pe_callB (id := "all") (show CallR _ _ (rAll K) from cr_all rfl) (by rfl) T.n_all (by decide +kernel) (pa_cons (pe_lc (own := [("place", 4)]) rfl sc_is_stand_of.nd (show PI _ _ _ (iTup K _) from pi_tup (pv 1)) (blkOk_by (own := [("place", 4)]) (N := ["condition", "thing", "word", "text", "place"]) (sc := defScope s_is_stand_of) (by decide +kernel)) (fun _ _ _ _ _ => (pg_name (i := 4) sc_is_stand_of.nd rfl (by first | exact .inl rfl | exact .inr rfl))) (fun _ _ _ _ _ => pts_nil) (fun _ _ _ _ _ => (pe_fn (ok_is_number T) (hr.mono (by decide)) (by rfl) T.g_is_number (kp_of T.F_is_number) pass0 (pa_cons (pv 4) (pa_cons pe_int (pa_cons (pe_callB (id := "len") call_len_str (by rfl) T.n_len (by decide +kernel) (pa_cons (pv 3) pa_nil)) pa_nil)))))) pa_nil))))))) (pss_one (ps_ret pe_bl)) pss_nil) (pss_one (ps_ret (pe_cmpR (op_eqD hr.units) (pe_fn (ok_led_on T) (hr.mono (by decide)) (by rfl) T.g_led_on (kp_of T.F_led_on) pass0 (pa_cons (pv 3) (pa_cons (pv 1) pa_nil))) (pv 1) (by rfl))))) pss_nil) (pss_one (ps_ret (pe_fn (ok_is_number T) (hr.mono (by decide)) (by rfl) T.g_is_number (kp_of T.F_is_number) pass0 (pa_cons (pv 1) (pa_cons (pe_gi (by rfl) T.i_LESS) (pa_cons (pe_callB (id := "len") call_len_str (by rfl) T.n_len (by decide +kernel) (pa_cons (pv 3) pa_nil)) pa_nil))))))))), ?_⟩
  cases c with
  | eq p =>
    cases s' with
    | n i =>
      refine q_un2 (dv_slTake (n := 2) (ds := [.text "equal", tx p]) (dv_var i1) (eo_nat dv_int)) fun u1 u2 H1 x1 k1 k2 => ?_
      obtain rfl := k1.text
      obtain rfl := k2.text
      refine q_un (dt_t (db_is (db_eqT (y := "between") (dv_var im_text) dv_str) rfl)) fun H2 x2 => ?_
      refine q_un (dt_t (db_is (db_eqT (y := "like") (dv_var im_text) dv_str) rfl)) fun H3 x3 => ?_
      have x13 := x1.trans (x2.trans x3)
      exact s_reB (db_fn (da_cons (dv_var (i2.ex x13)) (da_cons dv_int (da_cons (dv_lenS (dv_var im_text) (by have := hc.1; omega)) da_nil))) ⟨_, _, _, rfl, (decide_eq_true (show -1 ≤ i ∧ i ≤ (p.length : Int) from hs)).symm⟩) fun H4 x4 => q H4 (x13.trans x4)
    | _ => exact hs.elim
  | be p =>
    cases s' with
    | n i =>
      refine q_un2 (dv_slTake (n := 2) (ds := [.text "begins", tx p]) (dv_var i1) (eo_nat dv_int)) fun u1 u2 H1 x1 k1 k2 => ?_
      obtain rfl := k1.text
      obtain rfl := k2.text
      refine q_un (dt_t (db_is (db_eqT (y := "between") (dv_var im_text) dv_str) rfl)) fun H2 x2 => ?_
      refine q_un (dt_t (db_is (db_eqT (y := "like") (dv_var im_text) dv_str) rfl)) fun H3 x3 => ?_
      have x13 := x1.trans (x2.trans x3)
      exact s_reB (db_fn (da_cons (dv_var (i2.ex x13)) (da_cons dv_int (da_cons (dv_lenS (dv_var im_text) (by have := hc.1; omega)) da_nil))) ⟨_, _, _, rfl, (decide_eq_true (show -1 ≤ i ∧ i ≤ (p.length : Int) from hs)).symm⟩) fun H4 x4 => q H4 (x13.trans x4)
    | _ => exact hs.elim
  | btw p1 p2 =>
    cases s' with
    | p i j =>
      refine q_un2 (dv_slTake (n := 2) (ds := [.text "between", tx p1, tx p2]) (dv_var i1) (eo_nat dv_int)) fun u1 u2 H1 x1 k1 k2 => ?_
      obtain rfl := k1.text
      obtain rfl := k2.text
      refine q_if2 (b := true) (dt_t (db_is (db_eqT (y := "between") (dv_var im_text) dv_str) rfl)) (fun _ H2 x2 => ?_) fun z => nomatch z
      have x12 := x1.trans x2
      refine q_un (dt_is (et_or (et_not (dt_b (db_isiD (b := true) (dv_var (i2.ex x12)) rfl))) fun _ => dt_t (db_neI (dv_lenT (ds := [.num i, .num j]) (dv_var (i2.ex x12))) dv_int)) rfl) fun H3 x3 => ?_
      have x13 := x12.trans x3
      exact s_reB (db_is (c := true) (ev_andV (db_fn (b := true) (da_cons (dv_var im_text) (da_cons (dv_ix (n := 0) (dv_var (i2.ex x13)) dv_int rfl) da_nil)) ⟨p1, i, rfl, hc.1.1, hs.1, rfl⟩) fun _ =>
        db_fn (b := true) (da_cons (dv_ix (n := 2) (dv_var (i1.ex x13)) dv_int rfl) (da_cons (dv_ix (n := 1) (dv_var (i2.ex x13)) dv_int rfl) da_nil)) ⟨p2, j, rfl, hc.2.1, hs.2, rfl⟩) rfl) fun H4 x4 => q H4 (x13.trans x4)
    | _ => exact hs.elim
  | lk p =>
    cases s' with
    | l S =>
      refine q_un2 (dv_slTake (n := 2) (ds := [.text "like", tx p]) (dv_var i1) (eo_nat dv_int)) fun u1 u2 H1 x1 k1 k2 => ?_
      obtain rfl := k1.text
      obtain rfl := k2.text
      refine q_un (dt_t (db_is (db_eqT (y := "between") (dv_var im_text) dv_str) rfl)) fun H2 x2 => ?_
      refine q_if2 (b := true) (dt_t (db_is (db_eqT (y := "like") (dv_var im_text) dv_str) rfl)) (fun _ H3 x3 => ?_) fun z => nomatch z
      have x13 := x1.trans (x2.trans x3)
      have lS : S.length ≤ 5 := st_len (L := L) (c := .lk p) hc hs.1 hc.1
      refine q_un (dt_is (et_or (et_not (dt_b (db_isiD (b := true) (dv_var (i2.ex x13)) rfl))) fun _ => et_not (dt_b (db_allT (lc_tup1A (ds := S.map .num) (f := fun _ => true) isB_mono (dv_var (i2.ex x13)) ?_ ?_) ?_))) rfl) fun H4 x4 => ?_
      · rw [List.length_map]; omega
      · intro d v H4 hd x4 im
        obtain ⟨i, hi, rfl⟩ := List.mem_map.mp hd
        refine ⟨_, tgt1, rfl, db_m (db_fn (da_cons (dv_var im) (da_cons dv_int (da_cons (dv_lenS (dv_var im_text) (by have := hc.1; omega)) da_nil))) ⟨_, _, _, rfl, (decide_eq_true (hs.2 i hi)).symm⟩)⟩
      · simp
      have x14 := x13.trans x4
      have n := StT.ntx (.l S)
      have e : ledF p S = S := hs.1
      exact s_reB (db_is (db_eqD (d := .tup ((ledF p S).map .num)) (e := StT.d (.l S)) (dv_led (S := S) (dv_var im_text) (DV.ple (dv_var (i2.ex x14))) hc.1 hs.2) (dv_var (i2.ex x14)) (by rw [e]; exact ⟨n.1, Nat.le_trans n.2 (by decide)⟩) ⟨n.1, Nat.le_trans n.2 (by decide)⟩) (by rw [e]; simp [StT.d])) fun H5 x5 => q H5 (x14.trans x5)
    | _ => exact hs.elim
/-- the stand of a leg -/
abbrev sp_is_wished : Sp := spB fun ds b => ∃ L c g, ds = [Cond.d c, Leg.d g] ∧ CondOk L c ∧ StOk c g.st ∧ b = metS c g.st
theorem sc_is_wished : FnScope ["condition", "leg"] ["condition", "leg"] (defScope s_is_wished) := ⟨rfl, rfl, rfl, by decide +kernel, rfl, by decide +kernel, by decide +kernel⟩
theorem ok_is_wished (T : Txt K mg) : FnR P w K mg base CX0 2 (a_is_wished K) (sp_is_wished) := by
  refine okR T.F_is_wished sc_is_wished (fun _ _ _ _ _ _ us hl => match us, hl with | [_, _], _ => rfl) ?_ fun cdv A outer s H vs Q E hr q => ?_
  · exact spB_len fun _ _ ⟨_, _, _, e, _⟩ => by rw [e]; rfl
  obtain ⟨ds, b, il, ⟨L, c, g, rfl, hc, hs, rfl⟩, q⟩ := q
  obtain ⟨v1, v2, rfl, i1, i2⟩ := il.two
  refine ⟨_, (pss_one (ps_ret (pe_fn (ok_is_met T) (hr.mono (by decide)) (by rfl) T.g_is_met (kp_of T.F_is_met) pass0 (pa_cons (pv 0) (pa_cons (pe_ix (show IxR _ (rIxT K) from ix_tup) (pv 1) pe_int (fun _ _ => rfl)) pa_nil))))), ?_⟩
  exact s_reB (db_fn (da_cons (dv_var i1) (da_cons (dv_ix (n := 2) (dv_var i2) dv_int rfl) da_nil)) ⟨L, c, g.st, rfl, hc, hs, rfl⟩) fun H1 x1 => q H1 x1
end
end Fk

set_option Elab.async false
set_option linter.all false
set_option maxRecDepth 100000
set_option maxHeartbeats 4000000
/-! lists of whole numbers, sets, slices of texts, lists glued -/
namespace Fk
open PySem PySem.Spec PyProof.Rows L2 He
open Evl (Ex Ev EvT EvL EvA)
theorem flat_numsV (S : List Int) : (S.map V.int).all flatV = true := by
  rw [List.all_eq_true]
  intro d hd
  obtain ⟨i, _, rfl⟩ := List.mem_map.mp hd
  rfl
theorem inV_nums {i : Int} {S : List Int} : inV (V.int i) (S.map V.int) = decide (i ∈ S) := by
  have h := inV_flat (d := NestedKey.num i) rfl (ds := S.map NestedKey.num) (by rw [List.all_eq_true]; intro d hd; obtain ⟨j, _, rfl⟩ := List.mem_map.mp hd; rfl)
  rw [List.map_map] at h
  have e : S.map (flatD ∘ NestedKey.num) = S.map V.int := rfl
  rw [e] at h
  rw [show V.int i = flatD (NestedKey.num i) from rfl, h]
  have : NestedKey.num i ∈ S.map NestedKey.num ↔ i ∈ S := by
    rw [List.mem_map]
    exact ⟨fun ⟨j, hj, e⟩ => NestedKey.num.inj e ▸ hj, fun h => ⟨i, h, rfl⟩⟩
  by_cases h : i ∈ S
  · rw [decide_eq_true h, decide_eq_true (this.mpr h)]
  · rw [decide_eq_false h, decide_eq_false (fun z => h (this.mp z))]
abbrev rListOf (K : PySem.W.Frag) : List V → Hp → VK → Prop := fun xs H Q => ∃ p ys, xs = [.ref p] ∧ (SqL K H p ys ∨ SqT K H p ys) ∧ ∀ l, H l = none → Q (.ref l) (upd H l (.lst ys))
abbrev rSetLI (K : PySem.W.Frag) (w : World) : List V → Hp → VK → Prop := fun ws H Q => ∃ (a : Addr) (ns : List Int), ws = [V.ref a] ∧ SqL K H a (ns.map V.int) ∧ ns.length ≤ 1000 ∧ ∀ p c, c ≤ ns.length → H p = none → Q (.ref p) (upd H p (SetO w p (fun j => decide (j ∈ ns)) c))
section
variable {K : PySem.W.Frag} {w : World} {σ : L2.St} {H : Hp} {ta tb te tz : TE} {tt : TT} {d e : D} {ds es : List D} {De : Ends} {ty : L2.TS} {l : Addr} {us : List V} {S : List Int} {i : Int}
theorem db_inI (h : DV ta σ H (.num i)) (h2 : Ev tb σ H (.ref l)) (hl : H l = some (.lst (S.map V.int))) : DB (tOp (rIn K false) ta tb) σ H (decide (i ∈ S)) :=
  Evl.ev_is (Evl.ev_op h.evI h2 (Evl.rv_isL (SqL.of hl) rfl (flat_numsV S))) (by rw [inV_nums])
theorem db_niI (h : DV ta σ H (.num i)) (h2 : Ev tb σ H (.ref l)) (hl : H l = some (.lst (S.map V.int))) : DB (tOp (rIn K true) ta tb) σ H (!decide (i ∈ S)) :=
  Evl.ev_is (Evl.ev_op h.evI h2 (Evl.rv_niL (SqL.of hl) rfl (flat_numsV S))) (by rw [inV_nums])
theorem dv_inc {n : Nat} (h : DV ta σ H (.num (n : Int))) : DV (tOp (rI0 fun i j => .int (i + j)) ta (tC (.int 1))) σ H (.num ((n + 1 : Nat) : Int)) := dv_is (dv_opI h dv_int) (by rw [Int.natCast_add]; rfl)
/-- list(places) -/
theorem dl_list (h : PlE te σ H S) {Qs : List Int → Prop} (hq : ∀ S', (∀ j, j ∈ S' ↔ j ∈ S) → Qs S') : ∀ H1, Ex H H1 → ∀ Q : VK, (∀ p S' H2, Qs S' → H1 p = none → Ex H1 H2 → H2 p = some (.lst (S'.map V.int)) → Q (.ref p) H2) → tCB (rListOf K) (tCons te tNil) σ H1 Q := fun H1 x Q q =>
  h H1 x _ fun v H2 S' y m pl => by
    rcases pl with pl | ⟨p, rfl, hp⟩
    · obtain ⟨a, vs, rfl, ha, hl⟩ := pl.tup
      have := hl.ints
      subst this
      exact ⟨a, _, rfl, .inr (SqT.of ha), fun p hp => q p S' _ (hq S' m) (Evl.fresh_back y hp) (y.trans (Ex.new hp)) upd_same⟩
    · exact ⟨p, _, rfl, .inl (SqL.of hp), fun l hl => q l S' _ (hq S' m) (Evl.fresh_back y hl) (y.trans (Ex.new hl)) upd_same⟩
theorem q_asQ {j : Nat} {Pq : V → Hp → Prop} (h : ∀ Q : VK, (∀ v H1, Pq v H1 → Q v H1) → te σ H Q) (k : ∀ v H1, Pq v H1 → ty De (σ.set j (some v)) H1) : tSeq (tAsg te (gName j)) ty De σ H := h _ k
/-- tuple(sorted(set(list))) -/
theorem dv_tss {pat : Tx} {F : List Int} (h : Ev te σ H (.ref l)) (hl : H l = some (.lst (F.map V.int))) (z : F.length < 64) (m : ∀ j, j ∈ F ↔ 0 ≤ j ∧ j ≤ pat.length ∧ ledB pat S j.toNat = true) :
    DV (tCB (rTupOf K) (tCons (tCB (rSortedSet w) (tCons (tCB (rSetLI K w) (tCons te tNil)) tNil)) tNil)) σ H (.tup ((ledF pat S).map .num)) := fun H1 x Q q =>
  h H1 x _ fun H2 y => ⟨l, F, rfl, SqL.of (y _ _ (x _ _ hl)), by omega, fun p c hc hp => ⟨p, _, c, rfl, upd_same, by omega, fun ns r hs hm _ hr => by
    have e : ns = ledF pat S := ledF_of hs fun j => (hm j).trans ((by simp : (decide (j ∈ F) = true) ↔ j ∈ F).trans (m j))
    subst e
    refine ⟨r, _, rfl, .inl ⟨SqL.of upd_same, fun t ht => q _ _ ?_ (im_tup upd_same (iml_ints _))⟩⟩
    exact y.trans ((Ex.new hp).trans ((Ex.new hr).trans (Ex.new ht)))⟩⟩
/-- a slice of one sign -/
theorem dv_slS1 {z : Tx} {tl th : TO} {n : Nat} (h : DV te σ H (tx z)) (h1 : Evl.EvO tl σ H (some (n : Int))) (h2 : Evl.EvO th σ H (some ((n + 1 : Nat) : Int))) (hz : z.length ≤ 100000) : DV (tSl rSlS te tl th) σ H (tx ((z.drop n).take 1)) := fun H1 x Q q =>
  h H1 x _ fun v H2 y iv => h1 H2 (x.trans y) _ fun H3 y2 => h2 H3 (x.trans (y.trans y2)) _ fun H4 y3 => ⟨tS z, iv.text, by rw [tS_len]; exact Evl.sz_of hz, q _ H4 (y.trans (y2.trans y3)) (by
    have e : cutS (tS z) (some (n : Int)) (some ((n + 1 : Nat) : Int)) = tS ((z.drop n).take 1) := by
      unfold cutS
      rw [HT.sIx_nat, HT.sIx_nat, tS_cps, tS_len]
      unfold tS
      congr 2
      by_cases hn : n < z.length
      · rw [Nat.min_eq_left (by omega), Nat.min_eq_left (by omega)]
        congr 1
        omega
      · have e1 : z.drop (min n z.length) = [] := List.drop_eq_nil_of_le (by omega)
        have e2 : z.drop n = [] := List.drop_eq_nil_of_le (by omega)
        rw [e1, e2, List.take_nil, List.take_nil]
    rw [e]
    exact im_text)⟩
theorem cut1 {z : Tx} {n : Nat} (h : n < z.length) : (z.drop n).take 1 = [z.getD n 0] := by
  rw [List.getD_eq_getElem?_getD, List.getElem?_eq_getElem h, Option.getD_some, List.drop_eq_getElem_cons h, List.take_succ_cons, List.take_zero]
theorem cut0 {z : Tx} {n : Nat} (h : ¬ n < z.length) : (z.drop n).take 1 = [] := by rw [List.drop_eq_nil_of_le (by omega), List.take_nil]
/-- list + new list -/
theorem dl_cat (h : Ev ta σ H (.ref l)) (hl : H l = some (.lst us)) (il : ImL H ds us) (h2 : DL tb σ H es) (z : ds.length + es.length ≤ 100000) : DL (tOp rCat ta tb) σ H (ds ++ es) := fun H1 x Q q =>
  h H1 x _ fun H2 y => h2 H2 (x.trans y) _ fun p vs H3 hp y2 e iv => ⟨l, p, us, vs, rfl, rfl, y2 _ _ (y _ _ (x _ _ hl)), e, by rw [il.length, iv.length]; exact Evl.sz_of z, fun r hr =>
    q r _ _ (Evl.fresh_back (y.trans y2) hr) ((y.trans y2).trans (Ex.new hr)) upd_same (((il.ex (x.trans (y.trans y2))).append iv).ts (TS.new hr))⟩
end
end Fk

set_option Elab.async false
set_option linter.all false
set_option maxRecDepth 100000
set_option maxHeartbeats 4000000
/-! the law's own machines and stands -/
namespace Fk
open PySem PySem.Spec PyProof.Rows L2 He
open Evl (Ex Ev EvT EvL EvA ev_andV ev_orV ev_notV et_and et_or et_not)
section
variable {P : Program} {w : World} {K : PySem.W.Frag} {mg : Str → Option Value} {base : Heap}
abbrev sp_law_turn : Sp := spD fun ds d => ∃ (M : Mac) (s c : Nat), ds = [tx M.L, rowsD M.rows, .num (s : Int), tx [c]] ∧ MacOk M ∧ s < M.rows.length ∧ c ∈ M.L ∧ d = turnD (M.turn s c)
theorem sc_law_turn : FnScope ["letters", "rows", "state", "letter"] ["letters", "rows", "state", "letter"] (defScope s_law_turn) := ⟨rfl, rfl, rfl, by decide +kernel, rfl, by decide +kernel, by decide +kernel⟩
theorem ok_law_turn (T : Txt K mg) : FnR P w K mg base CX0 1 (a_law_turn K) (sp_law_turn) := by
  refine okR T.F_law_turn sc_law_turn (fun _ _ _ _ _ _ us hl => match us, hl with | [_, _, _, _], _ => rfl) ?_ fun cdv A outer s H vs Q E hr q => ?_
  · exact spD_len fun _ _ ⟨_, _, _, e, _⟩ => by rw [e]; rfl
  obtain ⟨ds, d, il, ⟨M, st, c, rfl, hM, hs, hc, rfl⟩, q⟩ := q
  obtain ⟨v1, v2, v3, v4, rfl, i1, i2, i3, i4⟩ := il.four
  obtain ⟨r, hr1, hr2, _⟩ := hM.turn hs hc
  refine ⟨_, (pss_one (ps_ret (pe_ix (show IxR _ (rIxT K) from ix_tup) (pe_ix (show IxR _ (rIxT K) from ix_tup) (pv 1) (pv 2) (fun _ _ => rfl)) (pe_m1 PySem.F.slot_str_index PySem.F.type_str_index mt_sindex (pv 0) (pv 3)) (fun _ _ => rfl)))), ?_⟩
  exact s_re (dv_ix (dv_ix (dv_var i2) (dv_var i3) (by rw [List.getElem?_map, hr1]; rfl)) (dv_index (dv_var i1) (dv_var i4) hM.let_ hc) (by rw [List.getElem?_map, hr2]; rfl)) fun v H1 x im => q v H1 x im
abbrev sp_law_ends : Sp := spD fun ds d => ∃ (M : Mac) (l : Tx), ds = [tx M.L, rowsD M.rows, tx l] ∧ MacOk M ∧ l.length ≤ 50000 ∧ (∀ c ∈ l, c ∈ M.L) ∧ d = .tup [.num ((M.ends l).1 : Nat), tx (M.ends l).2]
theorem sc_law_ends : FnScope ["letters", "rows", "value", "state", "found", "letter", "out"] ["letters", "rows", "value"] (defScope s_law_ends) := ⟨rfl, rfl, rfl, by decide +kernel, rfl, by decide +kernel, by decide +kernel⟩
theorem ok_law_ends (T : Txt K mg) : FnR P w K mg base CX0 2 (a_law_ends K) (sp_law_ends) := by
  refine okR T.F_law_ends sc_law_ends (fun _ _ _ _ _ _ us hl => match us, hl with | [_, _, _], _ => rfl) ?_ fun cdv A outer s H vs Q E hr q => ?_
  · exact spD_len fun _ _ ⟨_, _, e, _⟩ => by rw [e]; rfl
  obtain ⟨ds, d, il, ⟨M, l, rfl, hM, hz, hl, rfl⟩, q⟩ := q
  obtain ⟨v1, v2, v3, rfl, j1, j2, j3⟩ := il.three
  refine ⟨_, (pss_cons (ps_asg (pe_tup (pa_cons pe_int (pa_cons pe_str pa_nil))) (show PG _ _ (gTup K 2 _) from pg_tup rfl (pgs_cons (pg_name (i := 3) sc_law_ends.nd rfl (by first | exact .inl rfl | exact .inr rfl)) (pgs_cons (pg_name (i := 4) sc_law_ends.nd rfl (by first | exact .inl rfl | exact .inr rfl)) pgs_nil)))) (pss_cons (ps_for PassesOwn.never rfl (pi_str (pv 2)) (pg_name (i := 5) sc_law_ends.nd rfl (by first | exact .inl rfl | exact .inr rfl)) (pss_cons (ps_asg (pe_fn (ok_law_turn T) (hr.mono (by decide)) (by rfl) T.g_law_turn (kp_of T.F_law_turn) pass0 (pa_cons (pv 0) (pa_cons (pv 1) (pa_cons (pv 3) (pa_cons (pv 5) pa_nil))))) (show PG _ _ (gTup K 2 _) from pg_tup rfl (pgs_cons (pg_name (i := 3) sc_law_ends.nd rfl (by first | exact .inl rfl | exact .inr rfl)) (pgs_cons (pg_name (i := 6) sc_law_ends.nd rfl (by first | exact .inl rfl | exact .inr rfl)) pgs_nil)))) (pss_one (ps_set (i := 4) sc_law_ends.nd rfl (by first | exact .inl rfl | exact .inr rfl) (pe_op op_add_str (pv 4) (pv 6)))))) (pss_one (ps_ret (pe_tup (pa_cons (pv 3) (pa_cons (pv 4) pa_nil))))))), ?_⟩
  refine q_un2 (dv_tup (da_cons (dv_int (i := 0)) (da_cons (dv_is dv_str (e := tx []) rfl) da_nil))) fun u1 u2 H1 x1 k1 k2 => ?_
  obtain rfl := k1.num
  obtain rfl := k2.text
  refine q_forS (dv_var (j3.ex x1)) (fun n σ' H' => Ex H H' ∧ ∃ u5 u6, σ' = [some v1, some v2, some v3, some (.int ((M.ends (l.take n)).1 : Nat)), some (.str (tS (M.ends (l.take n)).2)), u5, u6]) (fun H2 x2 => ⟨x1.trans x2, _, _, rfl⟩) ?_ ?_
  · rintro n c σ' H' hc ⟨x2, u3, u4, rfl⟩
    have hc' : c ∈ M.L := hl c (List.mem_of_getElem? hc)
    have E := Mac.ends_ok hM (l := l.take n) fun c h => hl c (List.mem_of_mem_take h)
    have hl2 : (l.take n).length ≤ 50000 := by rw [List.length_take]; omega
    have es := (congrArg M.ends (take_snoc hc)).trans Mac.ends_snoc
    refine q_un2 (dv_fn (da_cons (dv_var (j1.ex x2)) (da_cons (dv_var (j2.ex x2)) (da_cons (dv_var im_num) (da_cons (dv_var im_text) da_nil)))) ⟨M, _, c, rfl, hM, E.1, hc', rfl⟩) fun w1 w2 H3 x3 l1 l2 => ?_
    obtain rfl := l1.num
    obtain rfl := l2.text
    have := @ot_len (M.turn (M.ends (l.take n)).1 c).2
    refine s_of (q_as (dv_addS (dv_var im_text) (dv_var im_text) (by omega)) fun v4 H4 x4 im4 => ?_)
    obtain rfl := im4.text
    simp only [es]
    exact ⟨x2.trans (x3.trans x4), _, _, rfl⟩
  · rintro σ' H' ⟨x2, u3, u4, rfl⟩
    rw [List.take_length]
    exact s_re (dv_tup (da_cons (dv_var im_num) (da_cons (dv_var im_text) da_nil))) fun v H3 x3 im => q v H3 (x2.trans x3) im
abbrev sp_law_led : Sp := fun vs H Q _ => ∃ v1 v2 pat S, vs = [v1, v2] ∧ Im H (tx pat) v1 ∧ pat.length ≤ 4 ∧ S.length ≤ 30 ∧ (∀ i ∈ S, 0 ≤ i ∧ i ≤ (pat.length : Int)) ∧ PlS H S v2 ∧ ∀ v H', Ex H H' → Im H' (.tup ((ledF pat S).map .num)) v → Q v H'
theorem sc_law_led : FnScope ["text", "places", "found", "place"] ["text", "places"] (defScope s_law_led) := ⟨rfl, rfl, rfl, by decide +kernel, rfl, by decide +kernel, by decide +kernel⟩
theorem ok_law_led (T : Txt K mg) : FnR P w K mg base CX0 1 (a_law_led K) (sp_law_led) := by
  refine okR T.F_law_led sc_law_led (fun _ _ _ _ _ _ us hl => match us, hl with | [_, _], _ => rfl) ?_ fun cdv A outer s H vs Q E hr q => ?_
  · rintro vs H Q E ⟨_, _, _, _, rfl, _⟩
    rfl
  obtain ⟨v1, v2, pat, S, rfl, i1, hz, h30, hS, pl, q⟩ := q
  refine ⟨_, (pss_cons (ps_set (i := 2) sc_law_led.nd rfl (by first | exact .inl rfl | exact .inr rfl) (pe_callTy call_list_of (by rfl) T.n_list (by decide +kernel) (pa_cons (pv 1) pa_nil))) (pss_cons (ps_for PassesOwn.never rfl (pi_range1 (by rfl) T.n_range (pa_cons (pe_callB (id := "len") call_len_str (by rfl) T.n_len (by decide +kernel) (pa_cons (pv 0) pa_nil)) pa_nil)) (pg_name (i := 3) sc_law_led.nd rfl (by first | exact .inl rfl | exact .inr rfl)) (pss_one (ps_if (PW.pt (pw_and (pt_cmpR (show OpR _ _ (rIn K false) from op_in_seq) (pv 3) (pv 2) (by rfl)) (pw_and (pt_cmpR op_eq (pe_ix ix_str (pv 0) (pv 3) (fun _ _ => rfl)) pe_str (by rfl)) (pw_and1 (pt_cmpR (show OpR _ _ (rIn K true) from op_notIn_seq) (pe_op op_add (pv 3) pe_int) (pv 2) (by rfl)))))) (pss_one (ps_expr (pe_bm PySem.F.plainAttrs_list PySem.F.slot_list_append PySem.F.type_list_append mt_append (pv 2) (pa_cons (pe_op op_add (pv 3) pe_int) pa_nil)))) pss_nil))) (pss_one (ps_ret (pe_callTy call_tuple_of (by rfl) T.n_tuple (by decide +kernel) (pa_cons (pe_callB (id := "sorted") (cr_sortedSet rfl) (by rfl) T.n_sorted (by decide +kernel) (pa_cons (pe_callTy (cr_setListI rfl) (by rfl) T.n_set (by decide +kernel) (pa_cons (pv 2) pa_nil)) pa_nil)) pa_nil)))))), ?_⟩
  have pe : PlE (tVar 1) (start ["text", "places", "found", "place"] [v1, v2]) H S := by
    rcases pl with pl | ⟨p, rfl, hp⟩
    · exact DV.ple (dv_var pl)
    · exact ple_list ev_vr hp
  have first : ∀ (Q : VK), (∀ v H1, (∃ a, v = .ref a ∧ H a = none ∧ Ex H H1 ∧ H1 a = some (.lst (S.map V.int))) → Q v H1) → tCB (rListOf K) (tCons (tVar 1) tNil) (start ["text", "places", "found", "place"] [v1, v2]) H Q := by
    intro Q q
    rcases pl with pl | ⟨p, rfl, hp⟩
    · obtain ⟨a, vs, rfl, ha, hl⟩ := pl.tup
      have := hl.ints
      subst this
      exact (Evl.ev_var rfl) H (Ex.refl _) _ fun H2 y => ⟨a, _, rfl, .inr (SqT.of (y _ _ ha)), fun p hp => q _ _ ⟨p, rfl, Evl.fresh_back y hp, y.trans (Ex.new hp), upd_same⟩⟩
    · exact (Evl.ev_var rfl) H (Ex.refl _) _ fun H2 y => ⟨p, _, rfl, .inl (SqL.of (y _ _ hp)), fun p hp => q _ _ ⟨p, rfl, Evl.fresh_back y hp, y.trans (Ex.new hp), upd_same⟩⟩
  refine q_asQ first ?_
  rintro _ H1 ⟨a, rfl, ha, x1, hA⟩
  have l4 : pat.length ≤ 100000 := by omega
  refine q_forRg (n := pat.length) (da_cons (dv_lenS (dv_var (i1.ex x1)) l4) da_nil) l4 (fun n σ' H' => Ex H H' ∧ ∃ (u3 : Option V) (F : List Int), σ' = [some v1, some v2, some (.ref a), u3] ∧ H' a = some (.lst (F.map V.int)) ∧ F.length ≤ S.length + n ∧ (∀ j ∈ F, 0 ≤ j ∧ j ≤ (pat.length : Int)) ∧
    (∀ k : Nat, k ≤ n → ((k : Int) ∈ F ↔ ledB pat S k = true)) ∧ ∀ k : Nat, n < k → ((k : Int) ∈ F ↔ (k : Int) ∈ S)) ?_ ?_ ?_
  · intro H2 x2
    refine ⟨x1.trans x2, _, S, rfl, x2 _ _ hA, Nat.le_refl _, hS, fun k hk => ?_, fun k hk => Iff.rfl⟩
    have : k = 0 := by omega
    subst this
    exact ledB_zero.symm
  · rintro n σ' H' hn ⟨x2, u3, F, rfl, hF, lF, rF, m1, m2⟩
    obtain ⟨c, hc⟩ : ∃ c, pat[n]? = some c := ⟨_, List.getElem?_eq_getElem hn⟩
    have gc : pat.getD n 0 = c := by rw [List.getD_eq_getElem?_getD, hc, Option.getD_some]
    have hn1 := m2 (n + 1) (by omega)
    have step := @ledB_succ pat S n
    refine s_of (q_if2 (dt_is (c := decide ((n : Int) ∈ F) && (decide (c = sr) && !decide (((n + 1 : Nat) : Int) ∈ F))) (et_and (dt_t (db_inI (dv_var im_num) ev_vr hF)) fun _ => et_and (dt_t (db_eqS (c := [sr]) (dv_ixS (n := n) (dv_var (i1.ex x2)) (dv_var im_num) hc l4) dv_str)) fun _ => dt_t (db_niI (i := ((n + 1 : Nat) : Int)) (dv_inc (dv_var im_num)) ev_vr hF)) (by simp)) (fun e H3 x3 => ?_) fun e H3 x3 => ?_)
    · have e' : (n : Int) ∈ F ∧ c = sr ∧ ¬ ((n + 1 : Nat) : Int) ∈ F := by simpa using e
      refine s_of (q_appD (d := .num ((n + 1 : Nat) : Int)) (x3 _ _ hF) ev_vr (dv_inc (dv_var im_num)) (by rw [List.length_map]; omega) fun v H4 x4 im => ?_)
      obtain rfl := im.num
      refine ⟨Evl.Ex.mut (x2.trans (x3.trans x4)) ha, _, F ++ [((n + 1 : Nat) : Int)], rfl, by rw [upd_same, List.map_append]; rfl, by rw [List.length_append]; simp; omega, ?_, ?_, ?_⟩
      · intro j hj
        rcases List.mem_append.mp hj with z | z
        · exact rF j z
        · obtain rfl := List.mem_singleton.mp z
          omega
      · intro k hk
        rw [List.mem_append, List.mem_singleton]
        by_cases e : k = n + 1
        · subst e
          exact ⟨fun _ => step.mpr (.inr ⟨(m1 n (Nat.le_refl _)).mp e'.1, gc.trans e'.2.1⟩), fun _ => .inr rfl⟩
        · rw [← m1 k (by omega)]
          exact ⟨fun z => z.elim id fun z => absurd (Int.ofNat.inj z) e, .inl⟩
      · intro k hk
        rw [List.mem_append, List.mem_singleton, ← m2 k (by omega)]
        exact ⟨fun z => z.elim id fun z => absurd (Int.ofNat.inj z) (by omega), .inl⟩
    · have e' : (n : Int) ∈ F → c = sr → ((n + 1 : Nat) : Int) ∈ F := by simpa using e
      refine ⟨x2.trans x3, _, F, rfl, x3 _ _ hF, by omega, rF, ?_, fun k hk => m2 k (by omega)⟩
      intro k hk
      by_cases e : k = n + 1
      · subst e
        rw [step]
        constructor
        · intro z; exact .inl (hn1.mp z)
        · rintro (z | ⟨z1, z2⟩)
          · exact hn1.mpr z
          · exact e' ((m1 n (Nat.le_refl _)).mpr z1) (gc.symm.trans z2)
      · exact m1 k (by omega)
  · rintro σ' H' ⟨x2, u3, F, rfl, hF, lF, rF, m1, m2⟩
    refine s_re (dv_tss (S := S) (pat := pat) ev_vr hF (by omega) fun j => ?_) fun v H3 x3 im => q v H3 (x2.trans x3) im
    constructor
    · intro hj
      have r := rF j hj
      refine ⟨r.1, r.2, (m1 j.toNat (by omega)).mp ?_⟩
      rw [Int.toNat_of_nonneg r.1]
      exact hj
    · rintro ⟨h0, h1, h2⟩
      have := (m1 j.toNat (by omega)).mpr h2
      rwa [Int.toNat_of_nonneg h0] at this
end
end Fk

set_option Elab.async false
set_option linter.all false
set_option maxRecDepth 100000
set_option maxHeartbeats 4000000
/-! the law's own stands -/
namespace Fk
open PySem PySem.Spec PyProof.Rows L2 He
open Evl (Ex Ev EvT EvL EvA ev_andV ev_orV ev_notV et_and et_or et_not)
theorem dv_ledL {σ : L2.St} {H : Hp} {ta tb : TE} {pat : Tx} {S : List Int} {E : XK} (h : DV ta σ H (tx pat)) (h2 : (∀ H1, Ex H H1 → ∀ Q : VK, (∀ v H2, Ex H1 H2 → PlS H2 S v → Q v H2) → tb σ H1 Q)) (hz : pat.length ≤ 4) (h30 : S.length ≤ 30) (hS : ∀ i ∈ S, 0 ≤ i ∧ i ≤ (pat.length : Int)) :
    DV (tFn sp_law_led E (tCons ta (tCons tb tNil))) σ H (.tup ((ledF pat S).map .num)) := fun H1 x Q q =>
  h H1 x _ fun v H2 y iv => h2 H2 (x.trans y) _ fun w H3 z pl => ⟨v, w, pat, S, rfl, iv.ex z, hz, h30, hS, pl, fun u H4 z2 iu => q u H4 ((y.trans z).trans z2) iu⟩
theorem DL.pls {σ : L2.St} {H : Hp} {te : TE} {S : List Int} (h : DL te σ H (S.map .num)) : ∀ H1, Ex H H1 → ∀ Q : VK, (∀ v H2, Ex H1 H2 → PlS H2 S v → Q v H2) → te σ H1 Q := fun H1 x Q q => h H1 x _ fun p vs H2 _ y e iv => q _ H2 y (.inr ⟨p, rfl, by rw [e, iv.ints]⟩)
theorem pls_var {σ : L2.St} {H : Hp} {i : Nat} {p : Addr} {S : List Int} (hp : H p = some (.lst (S.map V.int))) (e : σ[i]? = some (some (.ref p)) := by rfl) : ∀ H1, Ex H H1 → ∀ Q : VK, (∀ v H2, Ex H1 H2 → PlS H2 S v → Q v H2) → tVar i σ H1 Q := fun H1 x Q q => (Evl.ev_var e) H1 (Ex.refl _) _ fun H2 y => q _ H2 y (.inr ⟨p, rfl, y _ _ (x _ _ hp)⟩)
section
variable {P : Program} {w : World} {K : PySem.W.Frag} {mg : Str → Option Value} {base : Heap}
abbrev sp_law_first_stand : Sp := spD fun ds d => ∃ L c, ds = [Cond.d c] ∧ CondOk L c ∧ d = (firstS c).d
theorem sc_law_first_stand : FnScope ["condition"] ["condition"] (defScope s_law_first_stand) := ⟨rfl, rfl, rfl, by decide +kernel, rfl, by decide +kernel, by decide +kernel⟩
theorem ok_law_first_stand (T : Txt K mg) : FnR P w K mg base CX0 2 (a_law_first_stand K) (sp_law_first_stand) := by
  refine okR T.F_law_first_stand sc_law_first_stand (fun _ _ _ _ _ _ us hl => match us, hl with | [_], _ => rfl) ?_ fun cdv A outer s H vs Q E hr q => ?_
  · exact spD_len fun _ _ ⟨_, _, e, _⟩ => by rw [e]; rfl
  obtain ⟨ds, b, il, ⟨L, c, rfl, hc, rfl⟩, q⟩ := q
  obtain ⟨v1, rfl, i1⟩ := il.one
  refine ⟨_, (pss_cons (ps_if (pt_cmpR op_eq (pe_ix (show IxR _ (rIxT K) from ix_tup) (pv 0) pe_int (fun _ _ => rfl)) pe_str (by rfl)) (pss_one (ps_ret (pe_fn (ok_law_led T) (hr.mono (by decide)) (by rfl) T.g_law_led (kp_of T.F_law_led) pass0 (pa_cons (pe_ix (show IxR _ (rIxT K) from ix_tup) (pv 0) pe_int (fun _ _ => rfl)) (pa_cons (pe_lst (pa_cons pe_int pa_nil)) pa_nil))))) pss_nil) (pss_one (ps_ret (pe_ifExp (pt_cmpR op_eq (pe_ix (show IxR _ (rIxT K) from ix_tup) (pv 0) pe_int (fun _ _ => rfl)) pe_str (by rfl)) (pe_tup (pa_cons pe_int (pa_cons pe_int pa_nil))) pe_int)))), ?_⟩
  cases c with
  | eq p =>
    refine q_un (dt_t (db_is (db_eqT (y := "like") (dv_ix (n := 0) (dv_var i1) dv_int rfl) dv_str) rfl)) fun H1 x1 => ?_
    exact s_re (dv_if (b := false) (dt_t (db_is (db_eqT (y := "between") (dv_ix (n := 0) (dv_var (i1.ex x1)) dv_int rfl) dv_str) rfl)) (fun z => nomatch z) fun _ => dv_int) fun v H2 x2 im => q v H2 (x1.trans x2) im
  | be p =>
    refine q_un (dt_t (db_is (db_eqT (y := "like") (dv_ix (n := 0) (dv_var i1) dv_int rfl) dv_str) rfl)) fun H1 x1 => ?_
    exact s_re (dv_if (b := false) (dt_t (db_is (db_eqT (y := "between") (dv_ix (n := 0) (dv_var (i1.ex x1)) dv_int rfl) dv_str) rfl)) (fun z => nomatch z) fun _ => dv_int) fun v H2 x2 im => q v H2 (x1.trans x2) im
  | btw p1 p2 =>
    refine q_un (dt_t (db_is (db_eqT (y := "like") (dv_ix (n := 0) (dv_var i1) dv_int rfl) dv_str) rfl)) fun H1 x1 => ?_
    exact s_re (dv_if (b := true) (dt_t (db_is (db_eqT (y := "between") (dv_ix (n := 0) (dv_var (i1.ex x1)) dv_int rfl) dv_str) rfl)) (fun _ => dv_tup (da_cons dv_int (da_cons dv_int da_nil))) fun z => nomatch z) fun v H2 x2 im => q v H2 (x1.trans x2) im
  | lk p =>
    refine q_if2 (b := true) (dt_t (db_is (db_eqT (y := "like") (dv_ix (n := 0) (dv_var i1) dv_int rfl) dv_str) rfl)) (fun _ H1 x1 => ?_) fun z => nomatch z
    refine s_re (dv_ledL (S := [0]) (dv_ix (n := 1) (dv_var (i1.ex x1)) dv_int rfl) (dl_lst (da_cons dv_int da_nil)).pls hc.1 (by decide) ?_) fun v H2 x2 im => q v H2 (x1.trans x2) im
    intro i hi
    obtain rfl := List.mem_singleton.mp hi
    exact ⟨by omega, by omega⟩
abbrev sp_law_beside : Sp := spD fun ds d => ∃ L b i x, ds = [tx L, tx b, .num i, tx [x]] ∧ LetOk L ∧ (∀ c ∈ b, c ∈ L) ∧ b.length ≤ 4 ∧ x ∈ L ∧ i ≤ (b.length : Int) ∧ d = .num (besideI L b i x)
theorem sc_law_beside : FnScope ["letters", "bound", "place", "letter"] ["letters", "bound", "place", "letter"] (defScope s_law_beside) := ⟨rfl, rfl, rfl, by decide +kernel, rfl, by decide +kernel, by decide +kernel⟩
theorem ok_law_beside (T : Txt K mg) : FnR P w K mg base CX0 1 (a_law_beside K) (sp_law_beside) := by
  refine okR T.F_law_beside sc_law_beside (fun _ _ _ _ _ _ us hl => match us, hl with | [_, _, _, _], _ => rfl) ?_ fun cdv A outer s H vs Q E hr q => ?_
  · exact spD_len fun _ _ ⟨_, _, _, _, e, _⟩ => by rw [e]; rfl
  obtain ⟨ds, d, il, ⟨L, b, i, x, rfl, hL, hb, h4, hx, hi, rfl⟩, q⟩ := q
  obtain ⟨v1, v2, v3, v4, rfl, i1, i2, i3, i4⟩ := il.four
  refine ⟨_, (pss_cons (ps_if (pt_cmpR op_lt (pv 2) pe_int (by rfl)) (pss_one (ps_ret (pv 2))) pss_nil) (pss_cons (ps_if (pt_cmpR op_eq (pv 2) (pe_callB (id := "len") call_len_str (by rfl) T.n_len (by decide +kernel) (pa_cons (pv 1) pa_nil)) (by rfl)) (pss_one (ps_ret (pe_un un_neg pe_int))) pss_nil) (pss_cons (ps_if (pt_cmpR op_eq (pe_ix ix_str (pv 1) (pv 2) (fun _ _ => rfl)) (pv 3) (by rfl)) (pss_one (ps_ret (pe_op op_add (pv 2) pe_int))) pss_nil) (pss_one (ps_ret (pe_ifExp (pt_cmpR op_lt (pe_m1 PySem.F.slot_str_index PySem.F.type_str_index mt_sindex (pv 0) (pv 3)) (pe_m1 PySem.F.slot_str_index PySem.F.type_str_index mt_sindex (pv 0) (pe_ix ix_str (pv 1) (pv 2) (fun _ _ => rfl))) (by rfl)) (pe_un un_neg pe_int) (pe_un un_neg pe_int))))))), ?_⟩
  unfold besideI at q
  refine q_if2 (dt_t (db_I (dv_var i3) dv_int)) (fun e H1 x1 => ?_) fun e H1 x1 => ?_
  · rw [if_pos (by simpa using e)] at q
    exact s_re (dv_var (i3.ex x1)) fun v H2 x2 im => q v H2 (x1.trans x2) im
  rw [if_neg (by simpa using e)] at q
  have h0 : 0 ≤ i := by simpa using e
  refine q_if2 (dt_t (db_eqI (dv_var (i3.ex x1)) (dv_lenS (dv_var (i2.ex x1)) (by omega)))) (fun e H2 x2 => ?_) fun e H2 x2 => ?_
  · rw [if_pos (by simpa using e)] at q
    exact s_re (dv_neg dv_int) fun v H3 x3 im => q v H3 (x1.trans (x2.trans x3)) im
  have e' : ¬ i = (b.length : Int) := by simpa using e
  rw [if_neg e'] at q
  obtain ⟨n, rfl⟩ : ∃ n : Nat, i = (n : Int) := ⟨i.toNat, (Int.toNat_of_nonneg h0).symm⟩
  have x12 := x1.trans x2
  have hn := get_at (p := b) (Int.natCast_nonneg n) (by omega)
  rw [Int.toNat_natCast] at hn q
  refine q_if2 (dt_t (db_eqS (dv_ixS (n := n) (dv_var (i2.ex x12)) (dv_var (i3.ex x12)) hn (by omega)) (dv_var (i4.ex x12)))) (fun e H3 x3 => ?_) fun e H3 x3 => ?_
  · rw [if_pos (by simpa using (of_decide_eq_true e).symm)] at q
    exact s_re (dv_opI (dv_var (i3.ex (x12.trans x3))) dv_int) fun v H4 x4 im => q v H4 ((x12.trans x3).trans x4) im
  rw [if_neg (fun z => (of_decide_eq_false e) (by rw [z]))] at q
  have x123 := x12.trans x3
  refine s_re (dv_if (dt_t (db_I (dv_index (dv_var (i1.ex x123)) (dv_var (i4.ex x123)) hL hx) (dv_index (dv_var (i1.ex x123)) (dv_ixS (n := n) (dv_var (i2.ex x123)) (dv_var (i3.ex x123)) hn (by omega)) hL (hb _ (List.mem_of_getElem? hn))))) (fun e => ?_) fun e => ?_) fun v H4 x4 im => q v H4 (x123.trans x4) im
  · rw [if_pos (by simpa using e)]
    exact dv_neg dv_int
  · rw [if_neg (by simpa using e)]
    exact dv_neg dv_int
abbrev sp_law_next_stand : Sp := spD fun ds d => ∃ L c s x, ds = [tx L, Cond.d c, StT.d s, tx [x]] ∧ LetOk L ∧ CondOk L c ∧ StOk c s ∧ x ∈ L ∧ d = (nextS L c s x).d
theorem sc_law_next_stand : FnScope ["letters", "condition", "mark", "letter", "text", "found", "place"] ["letters", "condition", "mark", "letter"] (defScope s_law_next_stand) := ⟨rfl, rfl, rfl, by decide +kernel, rfl, by decide +kernel, by decide +kernel⟩
theorem ok_law_next_stand (T : Txt K mg) : FnR P w K mg base CX0 2 (a_law_next_stand K) (sp_law_next_stand) := by
  refine okR T.F_law_next_stand sc_law_next_stand (fun _ _ _ _ _ _ us hl => match us, hl with | [_, _, _, _], _ => rfl) ?_ fun cdv A outer s H vs Q E hr q => ?_
  · exact spD_len fun _ _ ⟨_, _, _, _, e, _⟩ => by rw [e]; rfl
  obtain ⟨ds, d, il, ⟨L, c, s', x, rfl, hL, hc, hs, hx, rfl⟩, q⟩ := q
  obtain ⟨v1, v2, v3, v4, rfl, i1, i2, i3, i4⟩ := il.four
  refine ⟨_, (pss_cons (ps_set (i := 4) sc_law_next_stand.nd rfl (by first | exact .inl rfl | exact .inr rfl) (pe_ix (show IxR _ (rIxT K) from ix_tup) (pv 1) pe_int (fun _ _ => rfl))) (pss_cons (ps_if (pt_cmpR op_eq (pe_ix (show IxR _ (rIxT K) from ix_tup) (pv 1) pe_int (fun _ _ => rfl)) pe_str (by rfl)) (pss_one (ps_ret (pe_tup (pa_cons (pe_fn (ok_law_beside T) (hr.mono (by decide)) (by rfl) T.g_law_beside (kp_of T.F_law_beside) pass0 (pa_cons (pv 0) (pa_cons (pv 4) (pa_cons (pe_ix (show IxR _ (rIxT K) from ix_tup) (pv 2) pe_int (fun _ _ => rfl)) (pa_cons (pv 3) pa_nil))))) (pa_cons (pe_fn (ok_law_beside T) (hr.mono (by decide)) (by rfl) T.g_law_beside (kp_of T.F_law_beside) pass0 (pa_cons (pv 0) (pa_cons (pe_ix (show IxR _ (rIxT K) from ix_tup) (pv 1) pe_int (fun _ _ => rfl)) (pa_cons (pe_ix (show IxR _ (rIxT K) from ix_tup) (pv 2) pe_int (fun _ _ => rfl)) (pa_cons (pv 3) pa_nil))))) pa_nil))))) pss_nil) (pss_cons (ps_if (pt_cmpR op_eq (pe_ix (show IxR _ (rIxT K) from ix_tup) (pv 1) pe_int (fun _ _ => rfl)) pe_str (by rfl)) (pss_cons (ps_setLc (i := 5) (own := [("place", 6)]) rfl sc_law_next_stand.nd rfl rfl (sw_true rfl rfl rfl (by decide +kernel)) (show PI _ _ _ (iTup K _) from pi_tup (pv 2)) (blkOk_by (own := [("place", 6)]) (N := ["letters", "condition", "mark", "letter", "text", "found", "place"]) (sc := defScope s_law_next_stand) (by decide +kernel)) (fun _ _ _ _ _ => (pg_name (i := 6) sc_law_next_stand.nd rfl (by first | exact .inl rfl | exact .inr rfl))) (fun _ _ _ _ _ => (pts_one (pt_cmpR op_eq (pe_slice sl_str (pv 4) (po_some (pv 6)) (po_some (pe_op op_add (pv 6) pe_int))) pe_str (by rfl)))) (fun _ _ _ _ _ => (pv 6))) (pss_cons (ps_set (i := 5) sc_law_next_stand.nd rfl (by first | exact .inl rfl | exact .inr rfl) (pe_op op_cat (pv 5) (pe_lc (own := [("place", 6)]) rfl sc_law_next_stand.nd (show PI _ _ _ (iTup K _) from pi_tup (pv 2)) (blkOk_by (own := [("place", 6)]) (N := ["letters", "condition", "mark", "letter", "text", "found", "place"]) (sc := defScope s_law_next_stand) (by decide +kernel)) (fun _ _ _ _ _ => (pg_name (i := 6) sc_law_next_stand.nd rfl (by first | exact .inl rfl | exact .inr rfl))) (fun _ _ _ _ _ => (pts_one (pt_cmpR (show OpR _ _ (rIn K false) from op_in_seq) (pe_slice sl_str (pv 4) (po_some (pv 6)) (po_some (pe_op op_add (pv 6) pe_int))) (pe_tup (pa_cons pe_str (pa_cons (pv 3) pa_nil))) (by rfl)))) (fun _ _ _ _ _ => (pe_op op_add (pv 6) pe_int))))) (pss_one (ps_ret (pe_fn (ok_law_led T) (hr.mono (by decide)) (by rfl) T.g_law_led (kp_of T.F_law_led) pass0 (pa_cons (pv 4) (pa_cons (pv 5) pa_nil))))))) pss_nil) (pss_cons (ps_if (PW.pt (pw_and (pt_cmpR op_eq (pe_ix (show IxR _ (rIxT K) from ix_tup) (pv 1) pe_int (fun _ _ => rfl)) pe_str (by rfl)) (pw_and1 (pt_cmpR op_eq (pv 2) (pe_callB (id := "len") call_len_str (by rfl) T.n_len (by decide +kernel) (pa_cons (pv 4) pa_nil)) (by rfl))))) (pss_one (ps_ret (pv 2))) pss_nil) (pss_one (ps_ret (pe_ifExp (PW.pt (pw_and (pt_cmpR op_ge (pv 2) pe_int (by rfl)) (pw_and1 (pt_cmpR op_eq (pe_slice sl_str (pv 4) (po_some (pv 2)) (po_some (pe_op op_add (pv 2) pe_int))) (pv 3) (by rfl))))) (pe_op op_add (pv 2) pe_int) (pe_un un_neg pe_int)))))))), ?_⟩
  have tail : ∀ (p : Tx) (i : Int) (H1 : Hp) (σ : St), p.length ≤ 4 → -1 ≤ i → i ≤ p.length → σ[2]? = some (some (.int i)) → σ[3]? = some (some v4) → σ[4]? = some (some (.str (tS p))) → Im H1 (tx [x]) v4 →
      DV (tIf (tAnd (tTest (tOp (rI0 fun i j => V.bl (decide (j ≤ i))) (tVar 2) (tC (.int 0)))) (tTest (tOp rEq (tSl rSlS (tVar 4) (tPart (tVar 2)) (tPart (tOp (rI0 fun i j => V.int (i + j)) (tVar 2) (tC (.int 1))))) (tVar 3)))) (tOp (rI0 fun i j => V.int (i + j)) (tVar 2) (tC (.int 1))) (tUn (rU fun i => V.int (-i)) (tC (.int 1)))) σ H1 (.num (eqNext p i x)) := by
    intro p i H1 σ hp h0 h1 e2 e3 e5 j4
    have tst : EvT (tAnd (tTest (tOp (rI0 fun i j => V.bl (decide (j ≤ i))) (tVar 2) (tC (.int 0)))) (tTest (tOp rEq (tSl rSlS (tVar 4) (tPart (tVar 2)) (tPart (tOp (rI0 fun i j => V.int (i + j)) (tVar 2) (tC (.int 1))))) (tVar 3)))) σ H1 (decide (0 ≤ i ∧ i < p.length ∧ p.getD i.toNat 0 = x)) := by
      refine dt_is (et_and (b := decide (i < p.length ∧ p.getD i.toNat 0 = x)) (dt_t (db_I (dv_var im_num e2) dv_int)) fun z => ?_) ?_
      · have z' : 0 ≤ i := by simpa using z
        obtain ⟨n, rfl⟩ : ∃ n : Nat, i = (n : Int) := ⟨i.toNat, (Int.toNat_of_nonneg z').symm⟩
        refine dt_t (db_is (db_eqS (dv_slS1 (n := n) (dv_var im_text e5) (eo_nat (dv_var im_num e2)) (eo_nat (dv_inc (dv_var im_num e2))) (by omega)) (dv_var j4 e3)) ?_)
        by_cases hn : n < p.length
        · rw [cut1 hn, Int.toNat_natCast, dec_one]
          simp [hn]
        · rw [cut0 hn]
          simp [hn]
      · simp [Bool.decide_and]
    unfold eqNext
    refine dv_if tst (fun e => ?_) fun e => ?_
    · rw [if_pos (by simpa using e)]
      exact dv_opI (dv_var im_num e2) dv_int
    · rw [if_neg (by simpa using e)]
      exact dv_neg dv_int
  cases c with
  | eq p =>
    cases s' with
    | n i =>
      obtain rfl := i3.num
      refine q_as (dv_ix (n := 1) (d := tx p) (dv_var i2) dv_int rfl) fun u1 H1 x1 k1 => ?_
      obtain rfl := k1.text
      refine q_un (dt_t (db_is (db_eqT (y := "between") (dv_ix (n := 0) (dv_var (i2.ex x1)) dv_int rfl) dv_str) rfl)) fun H2 x2 => ?_
      refine q_un (dt_t (db_is (db_eqT (y := "like") (dv_ix (n := 0) (dv_var (i2.ex (x1.trans x2))) dv_int rfl) dv_str) rfl)) fun H3 x3 => ?_
      have x13 := x1.trans (x2.trans x3)
      refine q_un (dt_is (et_and (b := false) (dt_t (db_is (db_eqT (y := "begins") (dv_ix (n := 0) (dv_var (i2.ex x13)) dv_int rfl) dv_str) (c := false) rfl)) fun z => nomatch z) rfl) fun H4 x4 => ?_
      have x14 := x13.trans x4
      exact s_re (tail p i H4 _ hc.1 hs.1 hs.2 rfl rfl rfl (i4.ex x14)) fun v H5 x5 im => q v H5 (x14.trans x5) im
    | _ => exact hs.elim
  | be p =>
    cases s' with
    | n i =>
      obtain rfl := i3.num
      refine q_as (dv_ix (n := 1) (d := tx p) (dv_var i2) dv_int rfl) fun u1 H1 x1 k1 => ?_
      obtain rfl := k1.text
      refine q_un (dt_t (db_is (db_eqT (y := "between") (dv_ix (n := 0) (dv_var (i2.ex x1)) dv_int rfl) dv_str) rfl)) fun H2 x2 => ?_
      refine q_un (dt_t (db_is (db_eqT (y := "like") (dv_ix (n := 0) (dv_var (i2.ex (x1.trans x2))) dv_int rfl) dv_str) rfl)) fun H3 x3 => ?_
      have x13 := x1.trans (x2.trans x3)
      refine q_if2 (dt_is (c := decide (i = p.length)) (et_and (dt_t (db_is (db_eqT (y := "begins") (dv_ix (n := 0) (dv_var (i2.ex x13)) dv_int rfl) dv_str) (c := true) rfl)) fun _ => dt_t (db_eqI (dv_var im_num) (dv_lenS (dv_var im_text) (by have := hc.1; omega)))) (by simp)) (fun e H4 x4 => ?_) fun e H4 x4 => ?_
      · refine s_re (dv_var im_num) fun v H5 x5 im => q v H5 (x13.trans (x4.trans x5)) ?_
        show Im H5 (.num (if i = p.length then i else eqNext p i x)) v
        rw [if_pos (by simpa using e)]
        exact im
      · refine s_re (tail p i H4 _ hc.1 hs.1 hs.2 rfl rfl rfl (i4.ex (x13.trans x4))) fun v H5 x5 im => q v H5 (x13.trans (x4.trans x5)) ?_
        show Im H5 (.num (if i = p.length then i else eqNext p i x)) v
        rw [if_neg (by simpa using e)]
        exact im
    | _ => exact hs.elim
  | btw p1 p2 =>
    cases s' with
    | p i j =>
      refine q_as (dv_ix (n := 1) (d := tx p1) (dv_var i2) dv_int rfl) fun u1 H1 x1 k1 => ?_
      obtain rfl := k1.text
      refine q_if2 (b := true) (dt_t (db_is (db_eqT (y := "between") (dv_ix (n := 0) (dv_var (i2.ex x1)) dv_int rfl) dv_str) rfl)) (fun _ H2 x2 => ?_) fun z => nomatch z
      have x12 := x1.trans x2
      refine s_re (dv_tup (da_cons (dv_fn (da_cons (dv_var (i1.ex x12)) (da_cons (dv_var im_text) (da_cons (dv_ix (n := 0) (dv_var (i3.ex x12)) dv_int rfl) (da_cons (dv_var (i4.ex x12)) da_nil)))) ⟨L, p1, i, x, rfl, hL, hc.1.2, hc.1.1, hx, hs.1.2, rfl⟩)
        (da_cons (dv_fn (da_cons (dv_var (i1.ex x12)) (da_cons (dv_ix (n := 2) (dv_var (i2.ex x12)) dv_int rfl) (da_cons (dv_ix (n := 1) (dv_var (i3.ex x12)) dv_int rfl) (da_cons (dv_var (i4.ex x12)) da_nil)))) ⟨L, p2, j, x, rfl, hL, hc.2.2, hc.2.1, hx, hs.2.2, rfl⟩) da_nil))) fun v H5 x5 im => q v H5 (x12.trans x5) im
    | _ => exact hs.elim
  | lk p =>
    cases s' with
    | l S =>
      refine q_as (dv_ix (n := 1) (d := tx p) (dv_var i2) dv_int rfl) fun u1 H1 x1 k1 => ?_
      obtain rfl := k1.text
      refine q_un (dt_t (db_is (db_eqT (y := "between") (dv_ix (n := 0) (dv_var (i2.ex x1)) dv_int rfl) dv_str) rfl)) fun H2 x2 => ?_
      refine q_if2 (b := true) (dt_t (db_is (db_eqT (y := "like") (dv_ix (n := 0) (dv_var (i2.ex (x1.trans x2))) dv_int rfl) dv_str) rfl)) (fun _ H3 x3 => ?_) fun z => nomatch z
      have x13 := x1.trans (x2.trans x3)
      have l4 : p.length ≤ 100000 := by have := hc.1; omega
      have lS : S.length ≤ 5 := st_len (L := L) (c := .lk p) hc hs.1 hc.1
      have ixp : ∀ (i : Int) (H1 : Hp) (σ : St), i ∈ S → σ[4]? = some (some (.str (tS p))) → σ[6]? = some (some (.int i)) → DV (tSl rSlS (tVar 4) (tPart (tVar 6)) (tPart (tOp (rI0 fun i j => V.int (i + j)) (tVar 6) (tC (.int 1))))) σ H1 (tx ((p.drop i.toNat).take 1)) := by
        intro i H1 σ hi e5 e7
        have h0 := (hs.2 i hi).1
        obtain ⟨n, rfl⟩ : ∃ n : Nat, i = (n : Int) := ⟨i.toNat, (Int.toNat_of_nonneg h0).symm⟩
        rw [Int.toNat_natCast]
        exact dv_slS1 (n := n) (dv_var im_text e5) (eo_nat (dv_var im_num e7)) (eo_nat (dv_inc (dv_var im_num e7))) l4
      have cutI : ∀ (i : Int) (c : Nat), i ∈ S → decide ((p.drop i.toNat).take 1 = [c]) = decide (i < (p.length : Int) ∧ p.getD i.toNat 0 = c) := by
        intro i c hi
        have h0 := (hs.2 i hi).1
        by_cases hn : i.toNat < p.length
        · rw [cut1 hn, dec_one]
          have : i < (p.length : Int) := by omega
          simp [this]
        · rw [cut0 hn]
          have : ¬ i < (p.length : Int) := by omega
          simp [this]
      refine q_asL (ds := (S.filter (fun i : Int => decide (i < (p.length : Int) ∧ p.getD i.toNat 0 = sr))).map .num) (DL.is (lc_tupI (fun i : Int => decide (i < (p.length : Int) ∧ p.getD i.toNat 0 = sr)) (fun i => i) (dv_var (i3.ex x13)) (by omega) (fun x => rfl) (fun i H4 hi x4 => dt_is (dt_t (db_eqS (c := [sr]) (ixp i H4 _ hi rfl rfl) dv_str)) (cutI i sr hi)) fun i H4 hi x4 hp => dv_var im_num) (by simp)) fun a us H4 ha x4 hA il4 => ?_
      have x14 := x13.trans x4
      have e2 : ∀ i ∈ S, decide (tx ((p.drop i.toNat).take 1) ∈ [tx [qm], tx [x]]) = decide (i < (p.length : Int) ∧ (p.getD i.toNat 0 = qm ∨ p.getD i.toNat 0 = x)) := by
        intro i hi
        have h0 := (hs.2 i hi).1
        by_cases hn : i.toNat < p.length
        · rw [cut1 hn, in_two]
          have : i < (p.length : Int) := by omega
          simp [this]
        · rw [cut0 hn]
          have : ¬ i < (p.length : Int) := by omega
          have h2 : ¬ (i < (p.length : Int) ∧ (p.getD i.toNat 0 = qm ∨ p.getD i.toNat 0 = x)) := fun z => this z.1
          rw [decide_eq_false h2]
          refine decide_eq_false fun z => ?_
          simp only [List.mem_cons, List.not_mem_nil, or_false] at z
          rcases z with z | z
          · exact nomatch tx_inj z
          · exact nomatch tx_inj z
      refine q_asL (ds := (lkFound p S x).map .num) (DL.is (dl_cat ev_vr hA il4 (lc_tupI (fun i : Int => decide (i < (p.length : Int) ∧ (p.getD i.toNat 0 = qm ∨ p.getD i.toNat 0 = x))) (· + 1) (dv_var (i3.ex x14)) (by omega) (fun x => rfl)
        (fun i H5 hi x5 => dt_is (dt_t (db_in (ds := [tx [qm], tx [x]]) (ixp i H5 _ hi rfl rfl) (dv_tup (da_cons (dv_strX (l := [qm])) (da_cons (dv_var ((i4.ex x14).ex x5)) da_nil))) rfl rfl)) (e2 i hi)) fun i H5 hi x5 hp => dv_opI (dv_var im_num) dv_int) ?_) ?_) fun b us2 H5 hb x5 hB il5 => ?_
      · have h1 := List.length_filter_le (fun i : Int => decide (i < (p.length : Int) ∧ p.getD i.toNat 0 = sr)) S
        have h2 := List.length_filter_le (fun i : Int => decide (i < (p.length : Int) ∧ (p.getD i.toNat 0 = qm ∨ p.getD i.toNat 0 = x))) S
        simp only [List.length_map]
        omega
      · rw [← List.map_append]; rfl
      have x15 := x14.trans x5
      have l30 : (lkFound p S x).length ≤ 30 := by
        have h1 := List.length_filter_le (fun i : Int => decide (i < (p.length : Int) ∧ p.getD i.toNat 0 = sr)) S
        have h2 := List.length_filter_le (fun i : Int => decide (i < (p.length : Int) ∧ (p.getD i.toNat 0 = qm ∨ p.getD i.toNat 0 = x))) S
        unfold lkFound
        simp only [List.length_append, List.length_map]
        omega
      obtain rfl := il5.ints
      exact s_re (dv_ledL (S := lkFound p S x) (dv_var im_text) (pls_var hB) hc.1 l30 (lkFound_rng hs.2)) fun v H6 x6 im => q v H6 (x15.trans x6) im
    | _ => exact hs.elim
abbrev sp_law_met : Sp := spB fun ds b => ∃ L c s, ds = [Cond.d c, StT.d s] ∧ CondOk L c ∧ StOk c s ∧ b = metS c s
theorem sc_law_met : FnScope ["condition", "mark"] ["condition", "mark"] (defScope s_law_met) := ⟨rfl, rfl, rfl, by decide +kernel, rfl, by decide +kernel, by decide +kernel⟩
theorem ok_law_met (T : Txt K mg) : FnR P w K mg base CX0 1 (a_law_met K) (sp_law_met) := by
  refine okR T.F_law_met sc_law_met (fun _ _ _ _ _ _ us hl => match us, hl with | [_, _], _ => rfl) ?_ fun cdv A outer s H vs Q E hr q => ?_
  · exact spB_len fun _ _ ⟨_, _, _, e, _⟩ => by rw [e]; rfl
  obtain ⟨ds, b, il, ⟨L, c, s', rfl, hc, hs, rfl⟩, q⟩ := q
  obtain ⟨v1, v2, rfl, i1, i2⟩ := il.two
  refine ⟨_, (pss_cons (ps_if (pt_cmpR op_eq (pe_ix (show IxR _ (rIxT K) from ix_tup) (pv 0) pe_int (fun _ _ => rfl)) pe_str (by rfl)) (pss_one (ps_ret (pe_and (pe_cmpR (show OpR _ _ (rIn K false) from op_in_seq) (pe_ix (show IxR _ (rIxT K) from ix_tup) (pv 1) pe_int (fun _ _ => rfl)) (pe_tup (pa_cons (pe_un un_neg pe_int) (pa_cons (pe_callB (id := "len") call_len_str (by rfl) T.n_len (by decide +kernel) (pa_cons (pe_ix (show IxR _ (rIxT K) from ix_tup) (pv 0) pe_int (fun _ _ => rfl)) pa_nil)) pa_nil))) (by rfl)) (pe_one (pe_cmpR op_ne (pe_ix (show IxR _ (rIxT K) from ix_tup) (pv 1) pe_int (fun _ _ => rfl)) (pe_un un_neg pe_int) (by rfl)))))) pss_nil) (pss_one (ps_ret (pe_ifExp (pt_cmpR op_eq (pe_ix (show IxR _ (rIxT K) from ix_tup) (pv 0) pe_int (fun _ _ => rfl)) pe_str (by rfl)) (pe_cmpR (show OpR _ _ (rIn K false) from op_in_seq) (pe_callB (id := "len") call_len_str (by rfl) T.n_len (by decide +kernel) (pa_cons (pe_ix (show IxR _ (rIxT K) from ix_tup) (pv 0) pe_int (fun _ _ => rfl)) pa_nil)) (pv 1) (by rfl)) (pe_cmpR op_eq (pv 1) (pe_callB (id := "len") call_len_str (by rfl) T.n_len (by decide +kernel) (pa_cons (pe_ix (show IxR _ (rIxT K) from ix_tup) (pv 0) pe_int (fun _ _ => rfl)) pa_nil)) (by rfl)))))), ?_⟩
  cases c with
  | eq p =>
    cases s' with
    | n i =>
      refine q_un (dt_t (db_is (db_eqT (y := "between") (dv_ix (n := 0) (dv_var i1) dv_int rfl) dv_str) rfl)) fun H1 x1 => ?_
      exact s_reB (Evl.ev_if (b := false) (dt_t (db_is (db_eqT (y := "like") (dv_ix (n := 0) (dv_var (i1.ex x1)) dv_int rfl) dv_str) rfl)) (fun z => nomatch z) fun _ => db_eqI (dv_var (i2.ex x1)) (dv_lenS (dv_ix (n := 1) (dv_var (i1.ex x1)) dv_int rfl) (by have := hc.1; omega))) fun H2 x2 => q H2 (x1.trans x2)
    | _ => exact hs.elim
  | be p =>
    cases s' with
    | n i =>
      refine q_un (dt_t (db_is (db_eqT (y := "between") (dv_ix (n := 0) (dv_var i1) dv_int rfl) dv_str) rfl)) fun H1 x1 => ?_
      exact s_reB (Evl.ev_if (b := false) (dt_t (db_is (db_eqT (y := "like") (dv_ix (n := 0) (dv_var (i1.ex x1)) dv_int rfl) dv_str) rfl)) (fun z => nomatch z) fun _ => db_eqI (dv_var (i2.ex x1)) (dv_lenS (dv_ix (n := 1) (dv_var (i1.ex x1)) dv_int rfl) (by have := hc.1; omega))) fun H2 x2 => q H2 (x1.trans x2)
    | _ => exact hs.elim
  | btw p1 p2 =>
    cases s' with
    | p i j =>
      refine q_if2 (b := true) (dt_t (db_is (db_eqT (y := "between") (dv_ix (n := 0) (dv_var i1) dv_int rfl) dv_str) rfl)) (fun _ H1 x1 => ?_) fun z => nomatch z
      refine s_reB (db_is (ev_andV (db_in (ds := [.num (-2), .num (p1.length : Int)]) (dv_ix (n := 0) (dv_var (i2.ex x1)) dv_int rfl) (dv_tup (da_cons (dv_neg dv_int) (da_cons (dv_lenS (dv_ix (n := 1) (dv_var (i1.ex x1)) dv_int rfl) (by have := hc.1.1; omega)) da_nil))) rfl rfl) fun _ =>
        db_neI (dv_ix (n := 1) (dv_var (i2.ex x1)) dv_int rfl) (dv_neg dv_int)) ?_) fun H3 x3 => q H3 (x1.trans x3)
      rw [show [NestedKey.num (-2), .num (p1.length : Int)] = [(-2 : Int), (p1.length : Int)].map NestedKey.num from rfl, mem_num]
      show _ = (decide (i = -2 ∨ i = p1.length) && decide (j ≠ -2))
      simp
    | _ => exact hs.elim
  | lk p =>
    cases s' with
    | l S =>
      refine q_un (dt_t (db_is (db_eqT (y := "between") (dv_ix (n := 0) (dv_var i1) dv_int rfl) dv_str) rfl)) fun H1 x1 => ?_
      exact s_reB (Evl.ev_if (b := true) (dt_t (db_is (db_eqT (y := "like") (dv_ix (n := 0) (dv_var (i1.ex x1)) dv_int rfl) dv_str) rfl)) (fun _ => db_is (db_in (ds := S.map .num) (dv_lenS (dv_ix (n := 1) (dv_var (i1.ex x1)) dv_int rfl) (by have := hc.1; omega)) (dv_var (i2.ex x1)) rfl (flat_nums S)) mem_num) fun z => nomatch z) fun H2 x2 => q H2 (x1.trans x2)
    | _ => exact hs.elim
end
end Fk

set_option Elab.async false
set_option linter.all false
set_option maxRecDepth 100000
set_option maxHeartbeats 4000000
/-! legs and steps -/
namespace Fk
open PySem PySem.Spec PyProof.Rows L2 He
open Evl (Ex Ev EvT EvL EvA ev_andV ev_orV ev_notV et_and et_or et_not)
def planD (P : Plan) : D := .tup [tx P.I.L, rowsD P.I.rows, rowsD P.M.rows, P.c.d]
theorem turnOkM {Pl : Plan} (h : PlanOk Pl) {s x : Nat} (hs : s < Pl.M.rows.length) (hx : x ∈ Pl.I.L) : (Pl.M.turn s x).1 < Pl.M.rows.length ∧ OutOk Pl.I.L (Pl.M.turn s x).2 := by
  obtain ⟨r, _, _, h3, h4⟩ := h.m.turn hs (by rw [h.same]; exact hx)
  exact ⟨h3, by rw [← h.same]; exact h4⟩
theorem turnOkI {Pl : Plan} (h : PlanOk Pl) {s x : Nat} (hs : s < Pl.I.rows.length) (hx : x ∈ Pl.I.L) : (Pl.I.turn s x).1 < Pl.I.rows.length ∧ OutOk Pl.I.L (Pl.I.turn s x).2 := by
  obtain ⟨r, _, _, h3, h4⟩ := h.i.turn hs hx
  exact ⟨h3, h4⟩
theorem LegOk.first {Pl : Plan} (h : PlanOk Pl) : LegOk Pl Pl.first := ⟨h.i.one, h.m.one, StOk.first _⟩
theorem LegOk.step {Pl : Plan} (h : PlanOk Pl) {g : Leg} (hg : LegOk Pl g) {x : Nat} (hx : x ∈ Pl.I.L) : LegOk Pl (Pl.step g x).leg := by
  refine ⟨(turnOkI h hg.s hx).1, (turnOkM h hg.p hx).1, ?_⟩
  show StOk Pl.c (match (Pl.M.turn g.p x).2 with | none => g.st | some y => nextS Pl.I.L Pl.c g.st y)
  cases (Pl.M.turn g.p x).2 with
  | none => exact hg.st
  | some y => exact hg.st.next
theorem step_key {Pl : Plan} (h : PlanOk Pl) {g : Leg} (hg : LegOk Pl g) {x : Nat} (hx : x ∈ Pl.I.L) : OutOk Pl.I.L (Pl.step g x).key ∧ OutOk Pl.I.L (Pl.step g x).made := ⟨(turnOkI h hg.s hx).2, (turnOkM h hg.p hx).2⟩
section
variable {P : Program} {w : World} {K : PySem.W.Frag} {mg : Str → Option Value} {base : Heap}
abbrev sp_law_is_met : Sp := spB fun ds b => ∃ (M : Mac) (c : Cond) (l : Tx), ds = [tx M.L, rowsD M.rows, c.d, tx l] ∧ MacOk M ∧ CondOk M.L c ∧ l.length ≤ 50000 ∧ (∀ x ∈ l, x ∈ M.L) ∧ b = metS c (readS M.L c (M.ends l).2)
theorem sc_law_is_met : FnScope ["letters", "rows", "condition", "value", "mark", "letter"] ["letters", "rows", "condition", "value"] (defScope s_law_is_met) := ⟨rfl, rfl, rfl, by decide +kernel, rfl, by decide +kernel, by decide +kernel⟩
theorem ok_law_is_met (T : Txt K mg) : FnR P w K mg base CX0 3 (a_law_is_met K) (sp_law_is_met) := by
  refine okR T.F_law_is_met sc_law_is_met (fun _ _ _ _ _ _ us hl => match us, hl with | [_, _, _, _], _ => rfl) ?_ fun cdv A outer s H vs Q E hr q => ?_
  · exact spB_len fun _ _ ⟨_, _, _, e, _⟩ => by rw [e]; rfl
  obtain ⟨ds, d, il, ⟨M, c, l, rfl, hM, hc, hz, hl, rfl⟩, q⟩ := q
  obtain ⟨v1, v2, v3, v4, rfl, i1, i2, i3, i4⟩ := il.four
  refine ⟨_, (pss_cons (ps_set (i := 4) sc_law_is_met.nd rfl (by first | exact .inl rfl | exact .inr rfl) (pe_fn (ok_law_first_stand T) (hr.mono (by decide)) (by rfl) T.g_law_first_stand (kp_of T.F_law_first_stand) pass0 (pa_cons (pv 2) pa_nil))) (pss_cons (ps_for PassesOwn.never rfl (pi_str (pe_ix (show IxR _ (rIxT K) from ix_tup) (pe_fn (ok_law_ends T) (hr.mono (by decide)) (by rfl) T.g_law_ends (kp_of T.F_law_ends) pass0 (pa_cons (pv 0) (pa_cons (pv 1) (pa_cons (pv 3) pa_nil)))) pe_int (fun _ _ => rfl))) (pg_name (i := 5) sc_law_is_met.nd rfl (by first | exact .inl rfl | exact .inr rfl)) (pss_one (ps_set (i := 4) sc_law_is_met.nd rfl (by first | exact .inl rfl | exact .inr rfl) (pe_fn (ok_law_next_stand T) (hr.mono (by decide)) (by rfl) T.g_law_next_stand (kp_of T.F_law_next_stand) pass0 (pa_cons (pv 0) (pa_cons (pv 2) (pa_cons (pv 4) (pa_cons (pv 5) pa_nil)))))))) (pss_one (ps_ret (pe_fn (ok_law_met T) (hr.mono (by decide)) (by rfl) T.g_law_met (kp_of T.F_law_met) pass0 (pa_cons (pv 2) (pa_cons (pv 4) pa_nil))))))), ?_⟩
  have E := Mac.ends_ok hM hl
  refine q_as (dv_fn (da_cons (dv_var i3) da_nil) ⟨M.L, c, rfl, hc, rfl⟩) fun u H1 x1 k1 => ?_
  refine q_forS (z := (M.ends l).2) (dv_ix (n := 1) (dv_fn (da_cons (dv_var (i1.ex x1)) (da_cons (dv_var (i2.ex x1)) (da_cons (dv_var (i4.ex x1)) da_nil))) ⟨M, l, rfl, hM, hz, hl, rfl⟩) dv_int rfl) (fun n σ' H' => Ex H H' ∧ ∃ u4 u5, σ' = [some v1, some v2, some v3, some v4, some u4, u5] ∧ Im H' (readS M.L c ((M.ends l).2.take n)).d u4) (fun H2 x2 => ⟨x1.trans x2, _, _, rfl, k1.ex x2⟩) ?_ ?_
  · rintro n x σ' H' hx ⟨x2, u4, u5, rfl, k2⟩
    refine s_of (q_as (dv_fn (da_cons (dv_var (i1.ex x2)) (da_cons (dv_var (i3.ex x2)) (da_cons (dv_var k2) (da_cons (dv_var im_text) da_nil)))) ⟨M.L, c, _, x, rfl, hM.let_, hc, StOk.read _, E.2.2 x (List.mem_of_getElem? hx), rfl⟩) fun u6 H3 x3 k3 => ?_)
    simp only [readS_take hx]
    exact ⟨x2.trans x3, _, _, rfl, k3⟩
  · rintro σ' H' ⟨x2, u4, u5, rfl, k2⟩
    rw [List.take_length] at k2
    exact s_reB (db_fn (da_cons (dv_var (i3.ex x2)) (da_cons (dv_var k2) da_nil)) ⟨M.L, c, _, rfl, hc, StOk.read _, rfl⟩) fun H3 x3 => q H3 (x2.trans x3)
abbrev sp_law_first_pair : Sp := spD fun ds d => ∃ Pl, ds = [planD Pl] ∧ PlanOk Pl ∧ d = pairD (Pl.first, Pl.first)
theorem sc_law_first_pair : FnScope ["plan", "leg"] ["plan"] (defScope s_law_first_pair) := ⟨rfl, rfl, rfl, by decide +kernel, rfl, by decide +kernel, by decide +kernel⟩
theorem ok_law_first_pair (T : Txt K mg) : FnR P w K mg base CX0 3 (a_law_first_pair K) (sp_law_first_pair) := by
  refine okR T.F_law_first_pair sc_law_first_pair (fun _ _ _ _ _ _ us hl => match us, hl with | [_], _ => rfl) ?_ fun cdv A outer s H vs Q E hr q => ?_
  · exact spD_len fun _ _ ⟨_, e, _⟩ => by rw [e]; rfl
  obtain ⟨ds, d, il, ⟨Pl, rfl, hP, rfl⟩, q⟩ := q
  obtain ⟨v1, rfl, i1⟩ := il.one
  refine ⟨_, (pss_cons (ps_set (i := 1) sc_law_first_pair.nd rfl (by first | exact .inl rfl | exact .inr rfl) (pe_ifExp (pt_cmpR op_isN (pe_ix (show IxR _ (rIxT K) from ix_tup) (pv 0) pe_int (fun _ _ => rfl)) pe_non (by rfl)) (pe_tup (pa_cons pe_int (pa_cons pe_int pa_nil))) (pe_tup (pa_cons pe_int (pa_cons pe_int (pa_cons (pe_fn (ok_law_first_stand T) (hr.mono (by decide)) (by rfl) T.g_law_first_stand (kp_of T.F_law_first_stand) pass0 (pa_cons (pe_ix (show IxR _ (rIxT K) from ix_tup) (pv 0) pe_int (fun _ _ => rfl)) pa_nil)) pa_nil)))))) (pss_one (ps_ret (pe_tup (pa_cons (pv 1) (pa_cons (pv 1) pa_nil)))))), ?_⟩
  have ix : ∀ {σ : St} {H1 : Hp}, σ[0]? = some (some v1) → Ex H H1 → DV (tOp (rIxT K) (tVar 0) (tC (.int 3))) σ H1 Pl.c.d := fun e x => dv_ix (n := 3) (dv_var (i1.ex x) e) dv_int rfl
  refine q_as (dv_if (b := false) (dt_t (db_is (db_isN (ix rfl (Ex.refl _))) (by cases Pl.c <;> rfl))) (fun z => nomatch z) fun _ => dv_tup (da_cons (dv_int (i := 0)) (da_cons (dv_int (i := 0)) (da_cons (dv_fn (da_cons (ix rfl (Ex.refl _)) da_nil) ⟨Pl.I.L, Pl.c, rfl, hP.c, rfl⟩) da_nil)))) fun u H1 x1 k1 => ?_
  exact s_re (dv_tup (da_cons (dv_var k1) (da_cons (dv_var k1) da_nil))) fun v H2 x2 im => q v H2 (x1.trans x2) im
abbrev sp_law_step : Sp := spD fun ds d => ∃ Pl g x, ds = [planD Pl, Leg.d g, tx [x]] ∧ PlanOk Pl ∧ LegOk Pl g ∧ x ∈ Pl.I.L ∧ d = (Pl.step g x).d
theorem sc_law_step : FnScope ["plan", "leg", "letter", "letters", "index", "rows", "condition", "state", "key", "place", "made", "wished"] ["plan", "leg", "letter"] (defScope s_law_step) := ⟨rfl, rfl, rfl, by decide +kernel, rfl, by decide +kernel, by decide +kernel⟩
theorem ok_law_step (T : Txt K mg) : FnR P w K mg base CX0 3 (a_law_step K) (sp_law_step) := by
  refine okR T.F_law_step sc_law_step (fun _ _ _ _ _ _ us hl => match us, hl with | [_, _, _], _ => rfl) ?_ fun cdv A outer s H vs Q E hr q => ?_
  · exact spD_len fun _ _ ⟨_, _, _, e, _⟩ => by rw [e]; rfl
  obtain ⟨ds, d, il, ⟨Pl, g, x, rfl, hP, hg, hx, rfl⟩, q⟩ := q
  obtain ⟨v1, v2, v3, rfl, i1, i2, i3⟩ := il.three
  refine ⟨_, (pss_cons (ps_asg (pv 0) (show PG _ _ (gTup K 4 _) from pg_tup rfl (pgs_cons (pg_name (i := 3) sc_law_step.nd rfl (by first | exact .inl rfl | exact .inr rfl)) (pgs_cons (pg_name (i := 4) sc_law_step.nd rfl (by first | exact .inl rfl | exact .inr rfl)) (pgs_cons (pg_name (i := 5) sc_law_step.nd rfl (by first | exact .inl rfl | exact .inr rfl)) (pgs_cons (pg_name (i := 6) sc_law_step.nd rfl (by first | exact .inl rfl | exact .inr rfl)) pgs_nil)))))) (pss_cons (ps_asg (pe_fn (ok_law_turn T) (hr.mono (by decide)) (by rfl) T.g_law_turn (kp_of T.F_law_turn) pass0 (pa_cons (pv 3) (pa_cons (pv 4) (pa_cons (pe_ix (show IxR _ (rIxT K) from ix_tup) (pv 1) pe_int (fun _ _ => rfl)) (pa_cons (pv 2) pa_nil))))) (show PG _ _ (gTup K 2 _) from pg_tup rfl (pgs_cons (pg_name (i := 7) sc_law_step.nd rfl (by first | exact .inl rfl | exact .inr rfl)) (pgs_cons (pg_name (i := 8) sc_law_step.nd rfl (by first | exact .inl rfl | exact .inr rfl)) pgs_nil)))) (pss_cons (ps_asg (pe_fn (ok_law_turn T) (hr.mono (by decide)) (by rfl) T.g_law_turn (kp_of T.F_law_turn) pass0 (pa_cons (pv 3) (pa_cons (pv 5) (pa_cons (pe_ix (show IxR _ (rIxT K) from ix_tup) (pv 1) pe_int (fun _ _ => rfl)) (pa_cons (pv 2) pa_nil))))) (show PG _ _ (gTup K 2 _) from pg_tup rfl (pgs_cons (pg_name (i := 9) sc_law_step.nd rfl (by first | exact .inl rfl | exact .inr rfl)) (pgs_cons (pg_name (i := 10) sc_law_step.nd rfl (by first | exact .inl rfl | exact .inr rfl)) pgs_nil)))) (pss_cons (ps_if (pt_cmpR op_isN (pv 6) pe_non (by rfl)) (pss_one (ps_ret (pe_tup (pa_cons (pe_tup (pa_cons (pv 7) (pa_cons (pv 9) pa_nil))) (pa_cons (pv 8) (pa_cons (pv 10) pa_nil)))))) pss_nil) (pss_cons (ps_set (i := 11) sc_law_step.nd rfl (by first | exact .inl rfl | exact .inr rfl) (pe_ifExp (pt_cmpR op_eq (pv 10) pe_str (by rfl)) (pe_ix (show IxR _ (rIxT K) from ix_tup) (pv 1) pe_int (fun _ _ => rfl)) (pe_fn (ok_law_next_stand T) (hr.mono (by decide)) (by rfl) T.g_law_next_stand (kp_of T.F_law_next_stand) pass0 (pa_cons (pv 3) (pa_cons (pv 6) (pa_cons (pe_ix (show IxR _ (rIxT K) from ix_tup) (pv 1) pe_int (fun _ _ => rfl)) (pa_cons (pv 10) pa_nil))))))) (pss_one (ps_ret (pe_tup (pa_cons (pe_tup (pa_cons (pv 7) (pa_cons (pv 9) (pa_cons (pv 11) pa_nil)))) (pa_cons (pv 8) (pa_cons (pv 10) pa_nil))))))))))), ?_⟩
  refine q_un4 (dv_var (show Im H (.tup [tx Pl.I.L, rowsD Pl.I.rows, rowsD Pl.M.rows, Pl.c.d]) v1 from i1)) fun w1 w2 w3 w4 H1 x1 k1 k2 k3 k4 => ?_
  refine q_un2 (dv_fn (da_cons (dv_var k1) (da_cons (dv_var k2) (da_cons (dv_ix (n := 0) (dv_var (i2.ex x1)) dv_int rfl) (da_cons (dv_var (i3.ex x1)) da_nil)))) ⟨Pl.I, g.s, x, rfl, hP.i, hg.s, hx, rfl⟩) fun y1 y2 H2 x2 l1 l2 => ?_
  have x12 := x1.trans x2
  refine q_un2 (dv_fn (da_cons (dv_var (k1.ex x2)) (da_cons (dv_var (k3.ex x2)) (da_cons (dv_ix (n := 1) (dv_var (i2.ex x12)) dv_int rfl) (da_cons (dv_var (i3.ex x12)) da_nil)))) ⟨Pl.M, g.p, x, by rw [hP.same], hP.m, hg.p, by rw [hP.same]; exact hx, rfl⟩) fun y3 y4 H3 x3 l3 l4 => ?_
  have x13 := x12.trans x3
  have k4' := k4.ex (x2.trans x3)
  refine q_un (dt_t (db_is (db_isN (dv_var k4')) (by cases Pl.c <;> rfl))) fun H4 x4 => ?_
  have x14 := x13.trans x4
  refine q_as (d := (Pl.step g x).leg.st.d) (dv_if (dt_t (db_eqS (c := []) (dv_var (l4.ex x4)) (dv_strX (l := [])))) (fun e => ?_) fun e => ?_) fun u H5 x5 k5 => ?_
  · have e' : ot (Pl.M.turn g.p x).2 = [] := by simpa using e
    refine dv_is (dv_ix (n := 2) (d := g.st.d) (dv_var (i2.ex x14)) dv_int rfl) ?_
    show g.st.d = StT.d (match (Pl.M.turn g.p x).2 with | none => g.st | some y => nextS Pl.I.L Pl.c g.st y)
    cases h : (Pl.M.turn g.p x).2 with
    | none => rfl
    | some y => rw [h] at e'; exact nomatch e'
  · have e' : ¬ ot (Pl.M.turn g.p x).2 = [] := by simpa using e
    cases h : (Pl.M.turn g.p x).2 with
    | none => rw [h] at e'; exact absurd rfl e'
    | some y =>
      rw [h] at l4
      refine dv_is (dv_fn (da_cons (dv_var ((k1.ex (x2.trans x3)).ex x4)) (da_cons (dv_var (k4'.ex x4)) (da_cons (dv_ix (n := 2) (d := g.st.d) (dv_var (i2.ex x14)) dv_int rfl) (da_cons (dv_var (l4.ex x4)) da_nil)))) ⟨Pl.I.L, Pl.c, g.st, y, rfl, hP.i.let_, hP.c, hg.st, (turnOkM hP hg.p hx).2 y h, rfl⟩) ?_
      show (nextS Pl.I.L Pl.c g.st y).d = StT.d (match (Pl.M.turn g.p x).2 with | none => g.st | some y => nextS Pl.I.L Pl.c g.st y)
      rw [h]
  exact s_re (dv_tup (da_cons (dv_tup (da_cons (dv_var (((l1.ex x3).ex x4).ex x5)) (da_cons (dv_var ((l3.ex x4).ex x5)) (da_cons (dv_var k5) da_nil)))) (da_cons (dv_var (((l2.ex x3).ex x4).ex x5)) (da_cons (dv_var ((l4.ex x4).ex x5)) da_nil)))) fun v H6 x6 im => q v H6 (x14.trans (x5.trans x6)) im
end
end Fk

set_option Elab.async false
set_option linter.all false
set_option maxRecDepth 100000
set_option maxHeartbeats 4000000
/-! lists of data: comprehensions, loops, promises; legs -/
namespace Fk
open PySem PySem.Spec PyProof.Rows L2 He
open Evl (Ex Ev EvT EvL EvA)
/-- all stays but at a -/
def ExB (a : Addr) (H H' : Hp) : Prop := ∀ b o, b ≠ a → H b = some o → H' b = some o
theorem ExB.of {a : Addr} {H H' : Hp} (x : Ex H H') : ExB a H H' := fun b o _ e => x b o e
theorem ExB.trans {a : Addr} {H H1 H2 : Hp} (x : ExB a H H1) (y : ExB a H1 H2) : ExB a H H2 := fun b o n e => y b o n (x b o n e)
theorem ExB.put {a : Addr} {H : Hp} {u : HO} : ExB a H (upd H a u) := fun b o n e => by rw [upd_ne n]; exact e
theorem ExB.ts {a : Addr} {H H' : Hp} {us : List V} (x : ExB a H H') (h : H a = some (.lst us)) : TS H H' := fun b xs e => x b _ (fun z => by rw [z, h] at e; cases e) e
theorem ExB.ex {a : Addr} {H0 H H' : Hp} (x : ExB a H H') (e : Ex H0 H) (h : H0 a = none) : Ex H0 H' := fun b o q => x b o (ne_of_none q h) (e b o q)
section
variable {α β : Type} {M : Hp → α → V → Prop} {K : PySem.W.Frag} {σ : L2.St} {H : Hp} {te tz ta : TE} {tr : TA} {tt : TT} {d : D} {ds es : List D} {De : Ends} {tu ty : L2.TS} {E : XK} {R : List D → List D → Prop}
/-- [.. for x in xs if ..] over coded things -/
theorem lc_listG {enc : β → D} {items : List β} {a : Addr} {us : List V} {vs : List Nat} {g : TG} (mono : TsMono M) (p : β → Bool) (f : β → α) (h : Ev tz σ H (.ref a)) (ha : H a = some (.lst us)) (hl : ImL H (items.map enc) us) (hz : items.length ≤ 100000)
    (step : ∀ b v H1, b ∈ items → Ex H H1 → Im H1 (enc b) v → ∃ σ2, (∀ Q : St → Hp → Prop, Q σ2 H1 → g v (wipe σ vs) H1 Q) ∧ wipe σ2 vs = wipe σ vs ∧ EvT tt σ2 H1 (p b) ∧ (p b = true → EvM M te σ2 H1 (f b))) :
    ELM M (tLc (iList K tz) g tt te vs) σ H ((items.filter p).map f) := fun H0 e Q q => h H0 e _ fun H1 e1 => ⟨a, rfl, ⟨us, SqL.of ((e.trans e1) _ _ ha)⟩, fun Dl hD => by
  have len : us.length = items.length := by rw [hl.length, List.length_map]
  refine lc_gen walk_list mono items len.symm (by omega) p f hD (fun H' e2 => SqL.of (((e.trans e1).trans e2) _ _ ha)) ?_ fun H' us e2 hus pr => q Dl us H' (Evl.fresh_back e1 hD) (e1.trans e2) hus pr
  rintro i b H' x H'' hb e2 ⟨rfl, hx⟩
  obtain ⟨v, hv, iv⟩ := hl.get (show (items.map enc)[i]? = some (enc b) by rw [List.getElem?_map, hb]; rfl)
  rw [hv] at hx
  cases hx
  exact ⟨Ex.refl _, step b x _ (List.mem_of_getElem? hb) ((e.trans e1).trans e2) (iv.ex ((e.trans e1).trans e2))⟩⟩
/-- a turn of a comprehension whose target has three, four names -/
theorem step4 {vs : List Nat} {i j l m : Nat} {b : Addr} {w1 w2 w3 w4 : V} {H1 : Hp} {c : Bool} {x : α} (hb : H1 b = some (.tup [w1, w2, w3, w4])) (hw : wipe (((((wipe σ vs).set i (some w1)).set j (some w2)).set l (some w3)).set m (some w4)) vs = wipe σ vs)
    (ht : EvT tt (((((wipe σ vs).set i (some w1)).set j (some w2)).set l (some w3)).set m (some w4)) H1 c) (he : c = true → EvM M te (((((wipe σ vs).set i (some w1)).set j (some w2)).set l (some w3)).set m (some w4)) H1 x) :
    ∃ σ2, (∀ Q : St → Hp → Prop, Q σ2 H1 → gTup K 4 (gCons (gName i) (gCons (gName j) (gCons (gName l) (gCons (gName m) gNil)))) (.ref b) (wipe σ vs) H1 Q) ∧ wipe σ2 vs = wipe σ vs ∧ EvT tt σ2 H1 c ∧ (c = true → EvM M te σ2 H1 x) :=
  ⟨_, tgt_tup hb rfl (tgt_cons (tgt_cons (tgt_cons (tgt_cons tgt_nil)))), hw, ht, he⟩
theorem step3 {vs : List Nat} {i j l : Nat} {b : Addr} {w1 w2 w3 : V} {H1 : Hp} {c : Bool} {x : α} (hb : H1 b = some (.tup [w1, w2, w3])) (hw : wipe ((((wipe σ vs).set i (some w1)).set j (some w2)).set l (some w3)) vs = wipe σ vs)
    (ht : EvT tt ((((wipe σ vs).set i (some w1)).set j (some w2)).set l (some w3)) H1 c) (he : c = true → EvM M te ((((wipe σ vs).set i (some w1)).set j (some w2)).set l (some w3)) H1 x) :
    ∃ σ2, (∀ Q : St → Hp → Prop, Q σ2 H1 → gTup K 3 (gCons (gName i) (gCons (gName j) (gCons (gName l) gNil))) (.ref b) (wipe σ vs) H1 Q) ∧ wipe σ2 vs = wipe σ vs ∧ EvT tt σ2 H1 c ∧ (c = true → EvM M te σ2 H1 x) :=
  ⟨_, tgt_tup hb rfl (tgt_cons (tgt_cons (tgt_cons tgt_nil))), hw, ht, he⟩
theorem step1 {vs : List Nat} {i : Nat} {v : V} {H1 : Hp} {c : Bool} {x : α} (hw : wipe ((wipe σ vs).set i (some v)) vs = wipe σ vs) (ht : EvT tt ((wipe σ vs).set i (some v)) H1 c) (he : c = true → EvM M te ((wipe σ vs).set i (some v)) H1 x) :
    ∃ σ2, (∀ Q : St → Hp → Prop, Q σ2 H1 → gName i v (wipe σ vs) H1 Q) ∧ wipe σ2 vs = wipe σ vs ∧ EvT tt σ2 H1 c ∧ (c = true → EvM M te σ2 H1 x) := ⟨_, tgt1, hw, ht, he⟩
/-- for .. in new list, with one list that grows -/
theorem q_forDL {g : TG} {fa : Addr} {fs : List V} (h : DL te σ H ds) (hf : H fa = some (.lst fs)) (Pv : Hp → Nat → St → Hp → Prop) (h0 : ∀ H1, Ex H H1 → Pv H1 0 σ H1) (hk : ∀ H1 n σ' H', Pv H1 n σ' H' → ExB fa H1 H')
    (hs : ∀ H1 n d v σ' H', Ex H H1 → ds[n]? = some d → Pv H1 n σ' H' → Im H' d v → g v σ' H' fun σ2 H2 => tu { De with nx := Pv H1 (n + 1), ct := Pv H1 (n + 1), bk := ty De } σ2 H2)
    (hd : ∀ H1 σ' H', Ex H H1 → Pv H1 ds.length σ' H' → ty De σ' H') : tSeq (tFor (iList K te) g tu) ty De σ H :=
  h H (Ex.refl _) _ fun a us H1 ha x hA hl => by
    have na : a ≠ fa := fun z => by rw [z, hf] at ha; cases ha
    refine ⟨a, rfl, ⟨us, SqL.of hA⟩, ?_⟩
    refine for_it (walk_list (K := K) (a := a) (xs := us)) (Pv H1) (h0 H1 x) (fun n σ' H' _ p => SqL.of (hk H1 n σ' H' p _ _ na hA)) ?_ (by rw [hl.length]; exact fun σ' H' p => hd H1 σ' H' x p)
    rintro n y σ' H' H'' hn p ⟨rfl, hy⟩
    obtain ⟨d, hd', im⟩ := hl.back hy
    exact hs H1 n d y σ' _ x hd' p (im.ts ((hk H1 n σ' _ p).ts (x _ _ hf)))
/-- promises of a new list -/
def spLs (R : List D → List D → Prop) : Sp := fun vs H Q _ => ∃ ds es, ImL H ds vs ∧ R ds es ∧ ∀ p us H', H p = none → Ex H H' → H' p = some (.lst us) → ImL H' es us → Q (.ref p) H'
theorem dl_fn (h : DA tr σ H ds) (r : R ds es) : DL (tFn (spLs R) E tr) σ H es := fun H1 x Q q => h H1 x _ fun vs H2 y ivs => ⟨ds, es, ivs, r, fun p us H3 hp z e il => q p us H3 (Evl.fresh_back y hp) (y.trans z) e il⟩
theorem spLs_len {n : Nat} (h : ∀ ds b, R ds b → ds.length = n) : ∀ (vs : List V) (H : Hp) (Q : VK) (E : XK), spLs R vs H Q E → vs.length = n := fun vs H Q E ⟨ds, b, il, r, _⟩ => il.length.trans (h ds b r)
theorem s_reL (h : DL te σ H ds) (k : ∀ p vs H1, H p = none → Ex H H1 → H1 p = some (.lst vs) → ImL H1 ds vs → De.rt (.ref p) H1) : tRet te De σ H := h H (Ex.refl _) _ k
/-- x, y = [], .. -/
theorem q_parL {i j : Nat} (h : DV te σ H d) (k : ∀ a v H1, H a = none → Ex H H1 → H1 a = some (.lst []) → Im H1 d v → ty De ((σ.set i (some (.ref a))).set j (some v)) H1) : tSeq (tPar i j (tCons (tLst tNil) (tCons te tNil))) ty De σ H :=
  ⟨Nat.zero_le _, fun a ha => h _ (Ex.new ha) _ fun v H2 y iv => ⟨_, _, rfl, k a v H2 ha ((Ex.new ha).trans y) (y _ _ upd_same) iv⟩⟩
theorem q_parR {i j : Nat} (h : DV te σ H d) (k : ∀ a v H1, H a = none → Ex H H1 → H1 a = some (.lst []) → Im H1 d v → ty De ((σ.set i (some v)).set j (some (.ref a))) H1) : tSeq (tPar i j (tCons te (tCons (tLst tNil) tNil))) ty De σ H :=
  h H (Ex.refl _) _ fun v H2 y iv => ⟨Nat.zero_le _, fun a ha => ⟨_, _, rfl, k a v _ (Evl.fresh_back y ha) (y.trans (Ex.new ha)) upd_same (iv.ts (TS.new ha))⟩⟩
theorem dl_nil : DL (tLst tNil) σ H [] := dl_lst da_nil
end
/-! ### legs -/
def LegsAt (K : PySem.W.Frag) (H : Hp) (a : Addr) (Pl : Plan) : Prop := PlanOk Pl ∧ ∃ dx c ka ma, SlX.Slt H a (ga K "Legs") dx [some c, some (.ref ka), some (.ref ma)] ∧ Im H Pl.c.d c ∧ MacAt K H ka Pl.I ∧ MacAt K H ma Pl.M
theorem LegsAt.ex {K : PySem.W.Frag} {H H' : Hp} {a : Addr} {Pl : Plan} (x : Ex H H') (m : LegsAt K H a Pl) : LegsAt K H' a Pl := by
  obtain ⟨ok, dx, c, ka, ma, s, i, j, k⟩ := m
  exact ⟨ok, dx, c, ka, ma, slt_ex x s, i.ex x, j.ex x, k.ex x⟩
/-- one legs, data | a datum, a truth value, a new list -/
def spG (K : PySem.W.Frag) (R : Plan → List D → D → Prop) : Sp := fun vs H Q _ => ∃ a Pl ds d ws, vs = .ref a :: ws ∧ LegsAt K H a Pl ∧ ImL H ds ws ∧ R Pl ds d ∧ ∀ v H', Ex H H' → Im H' d v → Q v H'
def spGB (K : PySem.W.Frag) (R : Plan → List D → Bool → Prop) : Sp := fun vs H Q _ => ∃ a Pl ds b ws, vs = .ref a :: ws ∧ LegsAt K H a Pl ∧ ImL H ds ws ∧ R Pl ds b ∧ ∀ H', Ex H H' → Q (.bl b) H'
def spGL (K : PySem.W.Frag) (R : Plan → List D → List D → Prop) : Sp := fun vs H Q _ => ∃ a Pl ds es ws, vs = .ref a :: ws ∧ LegsAt K H a Pl ∧ ImL H ds ws ∧ R Pl ds es ∧ ∀ p us H', H p = none → Ex H H' → H' p = some (.lst us) → ImL H' es us → Q (.ref p) H'
section
variable {K : PySem.W.Frag} {σ : L2.St} {H : Hp} {a : Addr} {Pl : Plan} {ta : TE} {tr : TA} {E : XK} {d : D} {ds es : List D} {b : Bool} {n : Nat}
theorem spG_len {R : Plan → List D → D → Prop} (h : ∀ M ds b, R M ds b → ds.length = n) : ∀ (vs : List V) (H : Hp) (Q : VK) (E : XK), spG K R vs H Q E → vs.length = n + 1 := fun vs H Q E ⟨a, M, ds, d, ws, e, _, il, r, _⟩ => by rw [e, List.length_cons, il.length, h M ds d r]
theorem spGB_len {R : Plan → List D → Bool → Prop} (h : ∀ M ds b, R M ds b → ds.length = n) : ∀ (vs : List V) (H : Hp) (Q : VK) (E : XK), spGB K R vs H Q E → vs.length = n + 1 := fun vs H Q E ⟨a, M, ds, d, ws, e, _, il, r, _⟩ => by rw [e, List.length_cons, il.length, h M ds d r]
theorem spGL_len {R : Plan → List D → List D → Prop} (h : ∀ M ds b, R M ds b → ds.length = n) : ∀ (vs : List V) (H : Hp) (Q : VK) (E : XK), spGL K R vs H Q E → vs.length = n + 1 := fun vs H Q E ⟨a, M, ds, d, ws, e, _, il, r, _⟩ => by rw [e, List.length_cons, il.length, h M ds d r]
theorem dv_methG {R : Plan → List D → D → Prop} (h : Ev ta σ H (.ref a)) (m : LegsAt K H a Pl) (g : DA tr σ H ds) (r : R Pl ds d) : DV (SlX.tMethSl (ga K "Legs") (spG K R) E ta tr) σ H d := by
  obtain ⟨_, dx, c, ka, ma, s, _⟩ := id m
  exact dv_meth h s g fun ws H1 x iws Q q => ⟨a, Pl, ds, d, ws, rfl, m.ex x, iws, r, q⟩
theorem db_methG {R : Plan → List D → Bool → Prop} (h : Ev ta σ H (.ref a)) (m : LegsAt K H a Pl) (g : DA tr σ H ds) (r : R Pl ds b) : DB (SlX.tMethSl (ga K "Legs") (spGB K R) E ta tr) σ H b := by
  obtain ⟨_, dx, c, ka, ma, s, _⟩ := id m
  exact db_meth h s g fun ws H1 x iws Q q => ⟨a, Pl, ds, b, ws, rfl, m.ex x, iws, r, q⟩
theorem dl_methG {R : Plan → List D → List D → Prop} (h : Ev ta σ H (.ref a)) (m : LegsAt K H a Pl) (g : DA tr σ H ds) (r : R Pl ds es) : DL (SlX.tMethSl (ga K "Legs") (spGL K R) E ta tr) σ H es := by
  obtain ⟨_, dx, c, ka, ma, s, _⟩ := id m
  exact fun H1 x Q q => h H1 x _ fun H2 y => ⟨a, dx, _, rfl, slt_ex (x.trans y) s, g H2 (x.trans y) _ fun ws H3 z iws => ⟨a, Pl, ds, es, ws, rfl, m.ex ((x.trans y).trans z), iws, r, fun p us H4 hp z2 e il => q p us H4 (Evl.fresh_back (y.trans z) hp) ((y.trans z).trans z2) e il⟩⟩
end
end Fk

set_option Elab.async false
set_option linter.all false
set_option maxRecDepth 100000
set_option maxHeartbeats 4000000
/-! the class of legs -/
namespace Fk
open PySem PySem.Spec PyProof.Rows L2 He
open Evl (Ex Ev EvT EvL EvA ev_andV ev_orV ev_notV et_and et_or et_not)
/-- a letter and the step by it -/
def rowE (Pl : Plan) (g : Leg) (x : Nat) : D := .tup [tx [x], (Pl.step g x).leg.d, tx (ot (Pl.step g x).key), tx (ot (Pl.step g x).made)]
theorem dec_ot {o : Option Nat} : decide (ot o = []) = o.isNone := by cases o <;> rfl
theorem nd_ot {o : Option Nat} : (!decide (ot o = [])) = o.isSome := by cases o <;> rfl
theorem dec_ot2 {o u : Option Nat} : decide (ot o = ot u) = decide (o = u) := by
  cases o <;> cases u <;> simp [ot]
theorem Cond.notN (c : Cond) : decide (c.d = .none) = false := by cases c <;> rfl
theorem let_len {L : Tx} (h : LetOk L) : L.length ≤ 4 := (LetOk.facts L h).2.1
section
variable {P : Program} {w : World} {K : PySem.W.Frag} {mg : Str → Option Value} {base : Heap}
abbrev sp_Legs_init (K : PySem.W.Frag) : Sp := spMk (ga K "Legs") fun H us sl => ∃ k m c, us = [k, m, c] ∧ sl = [some c, some k, some m]
theorem sc_Legs_init : FnScope ["self", "index", "machine", "condition"] ["self", "index", "machine", "condition"] (defScope s_Legs_init) := ⟨rfl, rfl, rfl, by decide +kernel, rfl, by decide +kernel, by decide +kernel⟩
theorem ok_Legs_init (T : Txt K mg) : FnR P w K mg base CX0 1 (a_Legs_init K) (sp_Legs_init K) := by
  refine okR T.F_Legs_init sc_Legs_init (fun _ _ _ _ _ _ us hl => match us, hl with | [_, _, _, _], _ => rfl) ?_ fun cdv A outer s H vs Q E hr q => ?_
  · rintro vs H Q E ⟨x, dx, us, sl, rfl, _, _, ⟨k, m, c, rfl, _⟩, _⟩
    rfl
  obtain ⟨a, dx, us, sl, rfl, ha, ne, ⟨k, m, c, rfl, rfl⟩, q⟩ := q
  refine ⟨_, (pss_cons (SlX.ps_sl (pv 0) (pv 1)) (pss_cons (SlX.ps_sl (pv 0) (pv 2)) (pss_one (SlX.ps_sl (pv 0) (pv 3))))), ?_⟩
  have sl4 : SlX.Slt H a (ga K "Legs") dx [] := .inl ⟨ha, rfl⟩
  refine q_sl (ev_vr) (ev_vr) sl4 T.c_Legs T.s_Legs_keeper fun H5 x5 => ?_
  have sl5 : SlX.Slt (SlX.slH H5 a (ga K "Legs") dx (SlX.putS 1 k [])) a (ga K "Legs") dx (SlX.putS 1 k []) := SlX.slH_slt ne
  refine q_sl (ev_vr) (ev_vr) sl5 T.c_Legs T.s_Legs_machine fun H6 x6 => ?_
  have sl6 : SlX.Slt (SlX.slH H6 a (ga K "Legs") dx (SlX.putS 2 m (SlX.putS 1 k []))) a (ga K "Legs") dx (SlX.putS 2 m (SlX.putS 1 k [])) := SlX.slH_slt ne
  refine s_of (q_sl (ev_vr) (ev_vr) sl6 T.c_Legs T.s_Legs_condition fun H7 x7 => ?_)
  refine q _ (fun b o n1 n2 e => ?_) (SlX.slH_slt ne)
  rw [SlX.slH_ne n1 n2]
  refine x7 _ _ ?_
  rw [SlX.slH_ne n1 n2]
  refine x6 _ _ ?_
  rw [SlX.slH_ne n1 n2]
  exact x5 _ _ e
abbrev sp_Legs_first (K : PySem.W.Frag) : Sp := spG K fun Pl ds d => ds = [] ∧ d = pairD (Pl.first, Pl.first)
theorem sc_Legs_first : FnScope ["self", "leg"] ["self"] (defScope s_Legs_first) := ⟨rfl, rfl, rfl, by decide +kernel, rfl, by decide +kernel, by decide +kernel⟩
theorem ok_Legs_first (T : Txt K mg) : FnR P w K mg base CX0 3 (a_Legs_first K) (sp_Legs_first K) := by
  refine okR T.F_Legs_first sc_Legs_first (fun _ _ _ _ _ _ us hl => match us, hl with | [_], _ => rfl) ?_ fun cdv A outer s H vs Q E hr q => ?_
  · exact spG_len fun _ _ _ ⟨e, _⟩ => by rw [e]; rfl
  obtain ⟨a, Pl, ds, d, ws, rfl, m, il, ⟨rfl, rfl⟩, q⟩ := q
  obtain rfl := il.nil
  obtain ⟨hP, dx, c, ka, ma, s, ic, mk, mm⟩ := id m
  refine ⟨_, (pss_cons (ps_set (i := 1) sc_Legs_first.nd rfl (by first | exact .inl rfl | exact .inr rfl) (pe_ifExp (pt_cmpR op_isN (show PE _ _ (SlX.tSl K _ _) from SlX.pe_sl (pv 0)) pe_non (by rfl)) (pe_tup (pa_cons pe_int (pa_cons pe_int pa_nil))) (pe_tup (pa_cons pe_int (pa_cons pe_int (pa_cons (pe_fn (ok_first_stand T) (hr.mono (by decide)) (by rfl) T.g_first_stand (kp_of T.F_first_stand) pass0 (pa_cons (show PE _ _ (SlX.tSl K _ _) from SlX.pe_sl (pv 0)) pa_nil)) pa_nil)))))) (pss_one (ps_ret (pe_tup (pa_cons (pv 1) (pa_cons (pv 1) pa_nil)))))), ?_⟩
  refine q_as (dv_if (b := false) (dt_t (db_is (db_isN (dv_sl ev_vr s T.c_Legs T.s_Legs_condition ic)) (Cond.notN _))) (fun z => nomatch z) fun _ => dv_tup (da_cons (dv_int (i := 0)) (da_cons (dv_int (i := 0)) (da_cons (dv_fn (da_cons (dv_sl ev_vr s T.c_Legs T.s_Legs_condition ic) da_nil) ⟨Pl.I.L, Pl.c, rfl, hP.c, rfl⟩) da_nil)))) fun u H1 x1 k1 => ?_
  exact s_re (dv_tup (da_cons (dv_var k1) (da_cons (dv_var k1) da_nil))) fun v H2 x2 im => q v H2 (x1.trans x2) im
abbrev sp_Legs_step (K : PySem.W.Frag) : Sp := spG K fun Pl ds d => ∃ g x, ds = [Leg.d g, tx [x]] ∧ LegOk Pl g ∧ x ∈ Pl.I.L ∧ d = (Pl.step g x).d
theorem sc_Legs_step : FnScope ["self", "leg", "letter", "state", "key", "place", "made", "wished"] ["self", "leg", "letter"] (defScope s_Legs_step) := ⟨rfl, rfl, rfl, by decide +kernel, rfl, by decide +kernel, by decide +kernel⟩
theorem ok_Legs_step (T : Txt K mg) : FnR P w K mg base CX0 3 (a_Legs_step K) (sp_Legs_step K) := by
  refine okR T.F_Legs_step sc_Legs_step (fun _ _ _ _ _ _ us hl => match us, hl with | [_, _, _], _ => rfl) ?_ fun cdv A outer s H vs Q E hr q => ?_
  · exact spG_len fun _ _ _ ⟨_, _, e, _⟩ => by rw [e]; rfl
  obtain ⟨a, Pl, ds, d, ws, rfl, m, il, ⟨g, x, rfl, hg, hx, rfl⟩, q⟩ := q
  obtain ⟨v1, v2, rfl, i2, i3⟩ := il.two
  obtain ⟨hP, dx, c, ka, ma, s, ic, mk, mm⟩ := id m
  refine ⟨_, (pss_cons (ps_asg (SlX.pe_methSl (show PE _ _ (SlX.tSl K _ _) from SlX.pe_sl (pv 0)) T.c_Machine T.m_Machine_turn (ok_Machine_turn T) (hr.mono (by decide)) pass0 (pa_cons (pe_ix (show IxR _ (rIxT K) from ix_tup) (pv 1) pe_int (fun _ _ => rfl)) (pa_cons (pv 2) pa_nil))) (show PG _ _ (gTup K 2 _) from pg_tup rfl (pgs_cons (pg_name (i := 3) sc_Legs_step.nd rfl (by first | exact .inl rfl | exact .inr rfl)) (pgs_cons (pg_name (i := 4) sc_Legs_step.nd rfl (by first | exact .inl rfl | exact .inr rfl)) pgs_nil)))) (pss_cons (ps_asg (SlX.pe_methSl (show PE _ _ (SlX.tSl K _ _) from SlX.pe_sl (pv 0)) T.c_Machine T.m_Machine_turn (ok_Machine_turn T) (hr.mono (by decide)) pass0 (pa_cons (pe_ix (show IxR _ (rIxT K) from ix_tup) (pv 1) pe_int (fun _ _ => rfl)) (pa_cons (pv 2) pa_nil))) (show PG _ _ (gTup K 2 _) from pg_tup rfl (pgs_cons (pg_name (i := 5) sc_Legs_step.nd rfl (by first | exact .inl rfl | exact .inr rfl)) (pgs_cons (pg_name (i := 6) sc_Legs_step.nd rfl (by first | exact .inl rfl | exact .inr rfl)) pgs_nil)))) (pss_cons (ps_if (pt_cmpR op_isN (show PE _ _ (SlX.tSl K _ _) from SlX.pe_sl (pv 0)) pe_non (by rfl)) (pss_one (ps_ret (pe_tup (pa_cons (pe_tup (pa_cons (pv 3) (pa_cons (pv 5) pa_nil))) (pa_cons (pv 4) (pa_cons (pv 6) pa_nil)))))) pss_nil) (pss_cons (ps_set (i := 7) sc_Legs_step.nd rfl (by first | exact .inl rfl | exact .inr rfl) (pe_ix (show IxR _ (rIxT K) from ix_tup) (pv 1) pe_int (fun _ _ => rfl))) (pss_cons (ps_if (pt_cmpR op_ne (pv 6) pe_str (by rfl)) (pss_one (ps_set (i := 7) sc_Legs_step.nd rfl (by first | exact .inl rfl | exact .inr rfl) (pe_fn (ok_stand_after T) (hr.mono (by decide)) (by rfl) T.g_stand_after (kp_of T.F_stand_after) pass0 (pa_cons (SlX.pe_propSl (show PE _ _ (SlX.tSl K _ _) from SlX.pe_sl (pv 0)) T.c_Machine T.p_at T.p_get T.p_tak T.p_rec (ok_Machine_letters T) (hr.mono (by decide)) (E := E0) (fun _ _ _ _ h => h.elim)) (pa_cons (show PE _ _ (SlX.tSl K _ _) from SlX.pe_sl (pv 0)) (pa_cons (pv 7) (pa_cons (pv 6) pa_nil))))))) pss_nil) (pss_one (ps_ret (pe_tup (pa_cons (pe_tup (pa_cons (pv 3) (pa_cons (pv 5) (pa_cons (pv 7) pa_nil)))) (pa_cons (pv 4) (pa_cons (pv 6) pa_nil))))))))))), ?_⟩
  refine q_un2 (dv_methM (ev_sl ev_vr s T.c_Legs T.s_Legs_keeper rfl) mk (da_cons (dv_ix (n := 0) (dv_var i2) dv_int rfl) (da_cons (dv_var i3) da_nil)) ⟨g.s, x, rfl, hg.s, hx, rfl⟩) fun y1 y2 H2 x12 l1 l2 => ?_
  refine q_un2 (dv_methM (ev_sl ev_vr (slt_ex x12 s) T.c_Legs T.s_Legs_machine rfl) (mm.ex x12) (da_cons (dv_ix (n := 1) (dv_var (i2.ex x12)) dv_int rfl) (da_cons (dv_var (i3.ex x12)) da_nil)) ⟨g.p, x, rfl, hg.p, by rw [hP.same]; exact hx, rfl⟩) fun y3 y4 H3 x3 l3 l4 => ?_
  have x13 := x12.trans x3
  refine q_un (dt_t (db_is (db_isN (dv_sl ev_vr (slt_ex x13 s) T.c_Legs T.s_Legs_condition (ic.ex x13))) (Cond.notN _))) fun H4 x4 => ?_
  have x14 := x13.trans x4
  refine q_as (dv_ix (n := 2) (d := g.st.d) (dv_var (i2.ex x14)) dv_int rfl) fun u H5 x5 k5 => ?_
  have x15 := x14.trans x5
  have fin : ∀ (H6 : Hp) (u' : V) (st : St), Ex H5 H6 → Im H6 (Pl.step g x).leg.st.d u' → st[3]? = some (some y1) → st[4]? = some (some y2) → st[5]? = some (some y3) → st[6]? = some (some y4) → st[7]? = some (some u') →
      DV (tTup (tCons (tTup (tCons (tVar 3) (tCons (tVar 5) (tCons (tVar 7) tNil)))) (tCons (tVar 4) (tCons (tVar 6) tNil)))) st H6 (Pl.step g x).d := by
    intro H6 u' st x6 k6 e3 e4 e5 e6 e7
    exact dv_tup (da_cons (dv_tup (da_cons (dv_var ((((l1.ex x3).ex x4).ex x5).ex x6) e3) (da_cons (dv_var (((l3.ex x4).ex x5).ex x6) e5) (da_cons (dv_var k6 e7) da_nil)))) (da_cons (dv_var ((((l2.ex x3).ex x4).ex x5).ex x6) e4) (da_cons (dv_var (((l4.ex x4).ex x5).ex x6) e6) da_nil)))
  have stE : (Pl.step g x).leg.st = (match (Pl.M.turn g.p x).2 with | none => g.st | some y => nextS Pl.I.L Pl.c g.st y) := rfl
  refine q_if2 (dt_t (db_neS (c := []) (dv_var ((l4.ex x4).ex x5)) (dv_strX (l := [])))) (fun e H6 x6 => ?_) fun e H6 x6 => ?_
  · rw [nd_ot] at e
    obtain ⟨y, hy⟩ := Option.isSome_iff_exists.mp e
    rw [hy] at stE
    rw [hy] at l4
    refine s_of (q_as (dv_fn (da_cons (dv_propM (ev_sl ev_vr (slt_ex (x15.trans x6) s) T.c_Legs T.s_Legs_keeper rfl) (mk.ex (x15.trans x6)) ⟨rfl, rfl⟩) (da_cons (dv_sl ev_vr (slt_ex (x15.trans x6) s) T.c_Legs T.s_Legs_condition (ic.ex (x15.trans x6))) (da_cons (dv_var (k5.ex x6)) (da_cons (dv_var (((l4.ex x4).ex x5).ex x6)) da_nil)))) ⟨Pl.I.L, Pl.c, g.st, y, rfl, hP.i.let_, hP.c, hg.st, (turnOkM hP hg.p hx).2 y hy, rfl⟩) fun u6 H7 x7 k7 => ?_)
    refine s_re (fin H7 u6 _ (x6.trans x7) (by rw [stE]; exact k7) rfl rfl rfl rfl rfl) fun v H8 x8 im => q v H8 (x15.trans (x6.trans (x7.trans x8))) im
  · rw [nd_ot] at e
    have hy : (Pl.M.turn g.p x).2 = none := by cases h : (Pl.M.turn g.p x).2 with
      | none => rfl
      | some y => rw [h] at e; cases e
    rw [hy] at stE
    exact s_re (fin H6 u _ x6 (by rw [stE]; exact k5.ex x6) rfl rfl rfl rfl rfl) fun v H8 x8 im => q v H8 (x15.trans (x6.trans x8)) im
end
end Fk

set_option Elab.async false
set_option linter.all false
set_option maxRecDepth 100000
set_option maxHeartbeats 4000000
/-! Legs.moves -/
namespace Fk
open PySem PySem.Spec PyProof.Rows L2 He
open Evl (Ex Ev EvT EvL EvA ev_andV ev_orV ev_notV et_and et_or et_not)
/-- the two steps together -/
def mv2 (Pl : Plan) (q : Pair) (x y : Nat) : Mv := ⟨some x, some y, ((Pl.step q.1 x).leg, (Pl.step q.2 y).leg), (Pl.step q.1 x).made, (Pl.step q.2 y).made⟩
def mvA (Pl : Plan) (q : Pair) (x : Nat) : Mv := ⟨some x, none, ((Pl.step q.1 x).leg, q.2), (Pl.step q.1 x).made, none⟩
def mvB (Pl : Plan) (q : Pair) (x : Nat) : Mv := ⟨none, some x, (q.1, (Pl.step q.2 x).leg), none, (Pl.step q.2 x).made⟩
def inn (Pl : Plan) (q : Pair) (x : Nat) : List Nat := Pl.I.L.filter fun y => decide ((Pl.step q.2 y).key = (Pl.step q.1 x).key)
theorem moves_eq (Pl : Plan) (q : Pair) : (Pl.moves q).map Mv.d = ((Pl.I.L.filter fun x => (Pl.step q.1 x).key.isNone).map fun x => (mvA Pl q x).d) ++ ((Pl.I.L.filter fun x => (Pl.step q.2 x).key.isNone).map fun x => (mvB Pl q x).d) ++
    (Pl.I.L.filter fun x => (Pl.step q.1 x).key.isSome).flatMap fun x => (inn Pl q x).map fun y => (mv2 Pl q x y).d := by
  unfold Plan.moves
  rw [List.map_append, List.map_append, List.map_map, List.map_map, List.map_flatMap]
  congr 2
  funext x
  rw [List.map_map]
  rfl
theorem flatMap_snoc {α β : Type} {l : List α} {f : α → List β} {n : Nat} {x : α} (h : l[n]? = some x) : (l.take (n + 1)).flatMap f = (l.take n).flatMap f ++ f x := by
  rw [take_snoc h, List.flatMap_append, List.flatMap_singleton]
section
variable {P : Program} {w : World} {K : PySem.W.Frag} {mg : Str → Option Value} {base : Heap}
abbrev sp_Legs_moves (K : PySem.W.Frag) : Sp := spGL K fun Pl ds es => ∃ q, ds = [pairD q] ∧ LegOk Pl q.1 ∧ LegOk Pl q.2 ∧ es = (Pl.moves q).map Mv.d
theorem sc_Legs_moves : FnScope ["self", "pair", "found", "letters", "mine", "theirs", "letter", "leg", "key", "made", "other", "late", "same", "told", "row"] ["self", "pair"] (defScope s_Legs_moves) := ⟨rfl, rfl, rfl, by decide +kernel, rfl, by decide +kernel, by decide +kernel⟩
theorem ok_Legs_moves (T : Txt K mg) : FnR P w K mg base CX0 4 (a_Legs_moves K) (sp_Legs_moves K) := by
  refine okR T.F_Legs_moves sc_Legs_moves (fun _ _ _ _ _ _ us hl => match us, hl with | [_, _], _ => rfl) ?_ fun cdv A outer s H vs Q E hr q => ?_
  · exact spGL_len fun _ _ _ ⟨_, e, _⟩ => by rw [e]; rfl
  obtain ⟨a, Pl, ds, es, ws, rfl, m, il, ⟨qq, rfl, hq1, hq2, rfl⟩, q⟩ := q
  obtain ⟨v1, rfl, i1⟩ := il.one
  obtain ⟨hP, dx, c, ka, ma, s, ic, mk, mm⟩ := id m
  have l4 := let_len hP.i.let_
  refine ⟨_, (pss_cons (ps_par (i := 2) (j := 3) rfl sc_Legs_moves.nd rfl rfl (by decide) rfl rfl (pa_cons (pe_lst pa_nil) (pa_cons (SlX.pe_propSl (show PE _ _ (SlX.tSl K _ _) from SlX.pe_sl (pv 0)) T.c_Machine T.p_at T.p_get T.p_tak T.p_rec (ok_Machine_letters T) (hr.mono (by decide)) (E := E0) (fun _ _ _ _ h => h.elim)) pa_nil)) rfl) (pss_cons (ps_setLc (i := 4) (own := [("letter", 6)]) rfl sc_Legs_moves.nd rfl rfl (sw_true rfl rfl rfl (by decide +kernel)) (pi_str (pv 3)) (blkOk_by (own := [("letter", 6)]) (N := ["self", "pair", "found", "letters", "mine", "theirs", "letter", "leg", "key", "made", "other", "late", "same", "told", "row"]) (sc := defScope s_Legs_moves) (by decide +kernel)) (fun _ _ _ _ _ => (pg_name (i := 6) sc_Legs_moves.nd rfl (by first | exact .inl rfl | exact .inr rfl))) (fun _ _ _ _ _ => pts_nil) (fun _ _ _ _ _ => (pe_tup (pa_cons (pv 6) (show PA _ _ (StX.tStar K _ _) from StX.pa_star (SlX.pe_methSl (pv 0) T.c_Legs T.m_Legs_step (ok_Legs_step T) (hr.mono (by decide)) pass0 (pa_cons (pe_ix (show IxR _ (rIxT K) from ix_tup) (pv 1) pe_int (fun _ _ => rfl)) (pa_cons (pv 6) pa_nil))) pa_nil))))) (pss_cons (ps_setLc (i := 5) (own := [("letter", 6)]) rfl sc_Legs_moves.nd rfl rfl (sw_true rfl rfl rfl (by decide +kernel)) (pi_str (pv 3)) (blkOk_by (own := [("letter", 6)]) (N := ["self", "pair", "found", "letters", "mine", "theirs", "letter", "leg", "key", "made", "other", "late", "same", "told", "row"]) (sc := defScope s_Legs_moves) (by decide +kernel)) (fun _ _ _ _ _ => (pg_name (i := 6) sc_Legs_moves.nd rfl (by first | exact .inl rfl | exact .inr rfl))) (fun _ _ _ _ _ => pts_nil) (fun _ _ _ _ _ => (pe_tup (pa_cons (pv 6) (show PA _ _ (StX.tStar K _ _) from StX.pa_star (SlX.pe_methSl (pv 0) T.c_Legs T.m_Legs_step (ok_Legs_step T) (hr.mono (by decide)) pass0 (pa_cons (pe_ix (show IxR _ (rIxT K) from ix_tup) (pv 1) pe_int (fun _ _ => rfl)) (pa_cons (pv 6) pa_nil))) pa_nil))))) (pss_cons (ps_expr (pe_bm PySem.F.plainAttrs_list PySem.F.slot_list_extend PySem.F.type_list_extend mt_extend (pv 2) (pa_cons (pe_lc (own := [("letter", 6), ("leg", 7), ("key", 8), ("made", 9)]) rfl sc_Legs_moves.nd (show PI _ _ _ (iList K _) from pi_list (pv 4)) (blkOk_by (own := [("letter", 6), ("leg", 7), ("key", 8), ("made", 9)]) (N := ["self", "pair", "found", "letters", "mine", "theirs", "letter", "leg", "key", "made", "other", "late", "same", "told", "row"]) (sc := defScope s_Legs_moves) (by decide +kernel)) (fun _ _ _ _ _ => (show PG _ _ (gTup K 4 _) from pg_tup rfl (pgs_cons (pg_name (i := 6) sc_Legs_moves.nd rfl (by first | exact .inl rfl | exact .inr rfl)) (pgs_cons (pg_name (i := 7) sc_Legs_moves.nd rfl (by first | exact .inl rfl | exact .inr rfl)) (pgs_cons (pg_name (i := 8) sc_Legs_moves.nd rfl (by first | exact .inl rfl | exact .inr rfl)) (pgs_cons (pg_name (i := 9) sc_Legs_moves.nd rfl (by first | exact .inl rfl | exact .inr rfl)) pgs_nil)))))) (fun _ _ _ _ _ => (pts_one (pt_cmpR op_eq (pv 8) pe_str (by rfl)))) (fun _ _ _ _ _ => (pe_tup (pa_cons (pe_tup (pa_cons (pv 6) (pa_cons pe_str pa_nil))) (pa_cons (pe_tup (pa_cons (pv 7) (pa_cons (pe_ix (show IxR _ (rIxT K) from ix_tup) (pv 1) pe_int (fun _ _ => rfl)) pa_nil))) (pa_cons (pe_tup (pa_cons (pv 9) (pa_cons pe_str pa_nil))) pa_nil)))))) pa_nil))) (pss_cons (ps_expr (pe_bm PySem.F.plainAttrs_list PySem.F.slot_list_extend PySem.F.type_list_extend mt_extend (pv 2) (pa_cons (pe_lc (own := [("letter", 6), ("leg", 7), ("key", 8), ("made", 9)]) rfl sc_Legs_moves.nd (show PI _ _ _ (iList K _) from pi_list (pv 5)) (blkOk_by (own := [("letter", 6), ("leg", 7), ("key", 8), ("made", 9)]) (N := ["self", "pair", "found", "letters", "mine", "theirs", "letter", "leg", "key", "made", "other", "late", "same", "told", "row"]) (sc := defScope s_Legs_moves) (by decide +kernel)) (fun _ _ _ _ _ => (show PG _ _ (gTup K 4 _) from pg_tup rfl (pgs_cons (pg_name (i := 6) sc_Legs_moves.nd rfl (by first | exact .inl rfl | exact .inr rfl)) (pgs_cons (pg_name (i := 7) sc_Legs_moves.nd rfl (by first | exact .inl rfl | exact .inr rfl)) (pgs_cons (pg_name (i := 8) sc_Legs_moves.nd rfl (by first | exact .inl rfl | exact .inr rfl)) (pgs_cons (pg_name (i := 9) sc_Legs_moves.nd rfl (by first | exact .inl rfl | exact .inr rfl)) pgs_nil)))))) (fun _ _ _ _ _ => (pts_one (pt_cmpR op_eq (pv 8) pe_str (by rfl)))) (fun _ _ _ _ _ => (pe_tup (pa_cons (pe_tup (pa_cons pe_str (pa_cons (pv 6) pa_nil))) (pa_cons (pe_tup (pa_cons (pe_ix (show IxR _ (rIxT K) from ix_tup) (pv 1) pe_int (fun _ _ => rfl)) (pa_cons (pv 7) pa_nil))) (pa_cons (pe_tup (pa_cons pe_str (pa_cons (pv 9) pa_nil))) pa_nil)))))) pa_nil))) (pss_cons (ps_for PassesOwn.never rfl (show PI _ _ _ (iList K _) from pi_list (pe_lc (own := [("row", 14)]) rfl sc_Legs_moves.nd (show PI _ _ _ (iList K _) from pi_list (pv 4)) (blkOk_by (own := [("row", 14)]) (N := ["self", "pair", "found", "letters", "mine", "theirs", "letter", "leg", "key", "made", "other", "late", "same", "told", "row"]) (sc := defScope s_Legs_moves) (by decide +kernel)) (fun _ _ _ _ _ => (pg_name (i := 14) sc_Legs_moves.nd rfl (by first | exact .inl rfl | exact .inr rfl))) (fun _ _ _ _ _ => (pts_one (pt_cmpR op_ne (pe_ix (show IxR _ (rIxT K) from ix_tup) (pv 14) pe_int (fun _ _ => rfl)) pe_str (by rfl)))) (fun _ _ _ _ _ => (pv 14)))) (show PG _ _ (gTup K 4 _) from pg_tup rfl (pgs_cons (pg_name (i := 6) sc_Legs_moves.nd rfl (by first | exact .inl rfl | exact .inr rfl)) (pgs_cons (pg_name (i := 7) sc_Legs_moves.nd rfl (by first | exact .inl rfl | exact .inr rfl)) (pgs_cons (pg_name (i := 8) sc_Legs_moves.nd rfl (by first | exact .inl rfl | exact .inr rfl)) (pgs_cons (pg_name (i := 9) sc_Legs_moves.nd rfl (by first | exact .inl rfl | exact .inr rfl)) pgs_nil))))) (pss_one (ps_for PassesOwn.never rfl (show PI _ _ _ (iList K _) from pi_list (pe_lc (own := [("row", 14)]) rfl sc_Legs_moves.nd (show PI _ _ _ (iList K _) from pi_list (pv 5)) (blkOk_by (own := [("row", 14)]) (N := ["self", "pair", "found", "letters", "mine", "theirs", "letter", "leg", "key", "made", "other", "late", "same", "told", "row"]) (sc := defScope s_Legs_moves) (by decide +kernel)) (fun _ _ _ _ _ => (pg_name (i := 14) sc_Legs_moves.nd rfl (by first | exact .inl rfl | exact .inr rfl))) (fun _ _ _ _ _ => (pts_one (pt_cmpR op_eq (pe_ix (show IxR _ (rIxT K) from ix_tup) (pv 14) pe_int (fun _ _ => rfl)) (pv 8) (by rfl)))) (fun _ _ _ _ _ => (pv 14)))) (show PG _ _ (gTup K 4 _) from pg_tup rfl (pgs_cons (pg_name (i := 10) sc_Legs_moves.nd rfl (by first | exact .inl rfl | exact .inr rfl)) (pgs_cons (pg_name (i := 11) sc_Legs_moves.nd rfl (by first | exact .inl rfl | exact .inr rfl)) (pgs_cons (pg_name (i := 12) sc_Legs_moves.nd rfl (by first | exact .inl rfl | exact .inr rfl)) (pgs_cons (pg_name (i := 13) sc_Legs_moves.nd rfl (by first | exact .inl rfl | exact .inr rfl)) pgs_nil))))) (pss_one (ps_expr (pe_bm PySem.F.plainAttrs_list PySem.F.slot_list_append PySem.F.type_list_append mt_append (pv 2) (pa_cons (pe_tup (pa_cons (pe_tup (pa_cons (pv 6) (pa_cons (pv 10) pa_nil))) (pa_cons (pe_tup (pa_cons (pv 7) (pa_cons (pv 11) pa_nil))) (pa_cons (pe_tup (pa_cons (pv 9) (pa_cons (pv 13) pa_nil))) pa_nil)))) pa_nil))))))) (pss_one (ps_ret (pv 2))))))))), ?_⟩
  refine q_parL (dv_propM (ev_sl ev_vr s T.c_Legs T.s_Legs_keeper rfl) mk ⟨rfl, rfl⟩) fun fa v3 H1 hfa x1 hF k3 => ?_
  obtain rfl := k3.text
  refine q_asL (ds := Pl.I.L.map (rowE Pl qq.1)) (ELM.dl (lc_textA im_mono (f := rowE Pl qq.1) (dv_var im_text) (by omega) (fun x => rfl) fun x H2 hx x2 => DV.m (dv_is (dv_tup (da_cons (dv_var im_text) (da_star (K := K) (ds := [(Pl.step qq.1 x).leg.d, tx (ot (Pl.step qq.1 x).key), tx (ot (Pl.step qq.1 x).made)])
    (dv_methG ev_vr (m.ex (x1.trans x2)) (da_cons (dv_ix (n := 0) (dv_var (i1.ex (x1.trans x2))) dv_int rfl) (da_cons (dv_var im_text) da_nil)) ⟨qq.1, x, rfl, hq1, hx, rfl⟩) da_nil))) rfl))) fun mi us4 H2 hmi x2 hM il4 => ?_
  have x12 := x1.trans x2
  refine q_asL (ds := Pl.I.L.map (rowE Pl qq.2)) (ELM.dl (lc_textA im_mono (f := rowE Pl qq.2) (dv_var im_text) (by omega) (fun x => rfl) fun x H3 hx x3 => DV.m (dv_is (dv_tup (da_cons (dv_var im_text) (da_star (K := K) (ds := [(Pl.step qq.2 x).leg.d, tx (ot (Pl.step qq.2 x).key), tx (ot (Pl.step qq.2 x).made)])
    (dv_methG ev_vr (m.ex (x12.trans x3)) (da_cons (dv_ix (n := 1) (dv_var (i1.ex (x12.trans x3))) dv_int rfl) (da_cons (dv_var im_text) da_nil)) ⟨qq.2, x, rfl, hq2, hx, rfl⟩) da_nil))) rfl))) fun th us5 H3 hth x3 hT il5 => ?_
  have x13 := x12.trans x3
  show tSeq _ _ _ [some (.ref a), some v1, some (.ref fa), some (.str (tS Pl.I.L)), some (.ref mi), some (.ref th), none, none, none, none, none, none, none, none, none] _
  have hM3 := x3 _ _ hM
  have hF3 := x3 _ _ (x2 _ _ hF)
  have il4' := il4.ex x3
  have fm : fa ≠ mi := fun z => by rw [← z, hF] at hmi; cases hmi
  have ft : fa ≠ th := fun z => by rw [← z, x2 _ _ hF] at hth; cases hth
  refine q_extD (ds := (Pl.I.L.filter fun x => (Pl.step qq.1 x).key.isNone).map fun x => (mvA Pl qq x).d) hF3 ev_vr (ELM.dl (lc_listG (enc := rowE Pl qq.1) im_mono (fun x => (Pl.step qq.1 x).key.isNone) (fun x => (mvA Pl qq x).d) ev_vr hM3 il4' (by omega) fun x v H4 hx x4 im => ?_)) ?_ fun us6 H4 x4 il6 => ?_
  · obtain ⟨b, vs, rfl, hb, hl⟩ := im.tup
    obtain ⟨w1, w2, w3, w4, rfl, j1, j2, j3, j4⟩ := hl.four
    refine step4 hb rfl (dt_is (dt_t (db_eqS (c := []) (dv_var j3) (dv_strX (l := [])))) dec_ot) (fun _ => DV.m (dv_is (dv_tup (da_cons (dv_tup (da_cons (dv_var j1) (da_cons (dv_strX (l := [])) da_nil))) (da_cons (dv_tup (da_cons (dv_var j2) (da_cons (dv_ix (n := 1) (dv_var (i1.ex (x13.trans x4))) dv_int rfl) da_nil))) (da_cons (dv_tup (da_cons (dv_var j4) (da_cons (dv_strX (l := [])) da_nil))) da_nil)))) rfl))
  · have := List.length_filter_le (fun x => (Pl.step qq.1 x).key.isNone) Pl.I.L
    rw [List.length_map]; simp; omega
  have y4 : Ex H (upd H4 fa (.lst ([] ++ us6))) := Evl.Ex.mut (x13.trans x4) hfa
  have hT4 : (upd H4 fa (.lst ([] ++ us6))) th = some (.lst us5) := by rw [upd_ne ft.symm]; exact x4 _ _ hT
  have hM4 : (upd H4 fa (.lst ([] ++ us6))) mi = some (.lst us4) := by rw [upd_ne fm.symm]; exact x4 _ _ hM3
  have t4 : TS H4 (upd H4 fa (.lst ([] ++ us6))) := TS.mut (x4 _ _ hF3) (fun _ z => nomatch z)
  have il5' := (il5.ex x4).ts t4
  have il4'' := (il4'.ex x4).ts t4
  have il6' := il6.ts t4
  have n6 : us6.length ≤ 4 := by
    have := List.length_filter_le (fun x => (Pl.step qq.1 x).key.isNone) Pl.I.L
    rw [il6.length, List.length_map]; omega
  refine q_extD (ds := (Pl.I.L.filter fun x => (Pl.step qq.2 x).key.isNone).map fun x => (mvB Pl qq x).d) upd_same ev_vr (ELM.dl (lc_listG (enc := rowE Pl qq.2) im_mono (fun x => (Pl.step qq.2 x).key.isNone) (fun x => (mvB Pl qq x).d) ev_vr hT4 il5' (by omega) fun x v H5 hx x5 im => ?_)) ?_ fun us7 H5 x5 il7 => ?_
  · obtain ⟨b, vs, rfl, hb, hl⟩ := im.tup
    obtain ⟨w1, w2, w3, w4, rfl, j1, j2, j3, j4⟩ := hl.four
    refine step4 hb rfl (dt_is (dt_t (db_eqS (c := []) (dv_var j3) (dv_strX (l := [])))) dec_ot) (fun _ => DV.m (dv_is (dv_tup (da_cons (dv_tup (da_cons (dv_strX (l := [])) (da_cons (dv_var j1) da_nil))) (da_cons (dv_tup (da_cons (dv_ix (n := 0) (dv_var (i1.ex (y4.trans x5))) dv_int rfl) (da_cons (dv_var j2) da_nil))) (da_cons (dv_tup (da_cons (dv_strX (l := [])) (da_cons (dv_var j4) da_nil))) da_nil)))) rfl))
  · have := List.length_filter_le (fun x => (Pl.step qq.2 x).key.isNone) Pl.I.L
    rw [List.length_map]; simp; omega
  generalize hu4 : upd H4 fa (.lst ([] ++ us6)) = G4 at *
  have hfa5 : H5 fa = some (.lst ([] ++ us6)) := x5 _ _ (by rw [← hu4]; exact upd_same)
  have t5 : TS H5 (upd H5 fa (.lst ([] ++ us6 ++ us7))) := TS.mut hfa5 (fun _ z => nomatch z)
  have y5 : Ex H (upd H5 fa (.lst ([] ++ us6 ++ us7))) := Evl.Ex.mut (y4.trans x5) hfa
  have hT5 : (upd H5 fa (.lst ([] ++ us6 ++ us7))) th = some (.lst us5) := by rw [upd_ne ft.symm]; exact x5 _ _ hT4
  have hM5 : (upd H5 fa (.lst ([] ++ us6 ++ us7))) mi = some (.lst us4) := by rw [upd_ne fm.symm]; exact x5 _ _ hM4
  have n7 : us7.length ≤ 4 := by
    have := List.length_filter_le (fun x => (Pl.step qq.2 x).key.isNone) Pl.I.L
    rw [il7.length, List.length_map]; omega
  have hB5 : ImL (upd H5 fa (.lst ([] ++ us6 ++ us7))) (((Pl.I.L.filter fun x => (Pl.step qq.1 x).key.isNone).map fun x => (mvA Pl qq x).d) ++ ((Pl.I.L.filter fun x => (Pl.step qq.2 x).key.isNone).map fun x => (mvB Pl qq x).d)) ([] ++ us6 ++ us7) := by
    rw [List.nil_append]
    exact ((il6'.ex x5).ts t5).append (il7.ts t5)
  have il5'' := (il5'.ex x5).ts t5
  have il4''' := (il4''.ex x5).ts t5
  have hF5 : (upd H5 fa (.lst ([] ++ us6 ++ us7))) fa = some (.lst ([] ++ us6 ++ us7)) := upd_same
  have nB : ([] ++ us6 ++ us7).length ≤ 8 := by simp; omega
  generalize hu5 : upd H5 fa (.lst ([] ++ us6 ++ us7)) = G5 at *
  generalize hub : ([] ++ us6 ++ us7) = ub at *
  generalize hbd : (((Pl.I.L.filter fun x => (Pl.step qq.1 x).key.isNone).map fun x => (mvA Pl qq x).d) ++ ((Pl.I.L.filter fun x => (Pl.step qq.2 x).key.isNone).map fun x => (mvB Pl qq x).d)) = bd at *
  have lF : (Pl.I.L.filter fun x => (Pl.step qq.1 x).key.isSome).length ≤ 4 := Nat.le_trans (List.length_filter_le _ _) l4
  refine q_forDL (ds := (Pl.I.L.filter fun x => (Pl.step qq.1 x).key.isSome).map (rowE Pl qq.1)) (ELM.dl (lc_listG (enc := rowE Pl qq.1) im_mono (fun x => (Pl.step qq.1 x).key.isSome) (rowE Pl qq.1) ev_vr hM5 il4''' (by omega) fun x v H6 hx x6 im => ?_)) hF5
    (fun H1 n σ' H' => ExB fa H1 H' ∧ ∃ (us : List V) (s6 s7 s8 s9 s10 s11 s12 s13 s14 : Option V), σ' = [some (.ref a), some v1, some (.ref fa), some (.str (tS Pl.I.L)), some (.ref mi), some (.ref th), s6, s7, s8, s9, s10, s11, s12, s13, s14] ∧ H' fa = some (.lst us) ∧ us.length ≤ 8 + 4 * n ∧
      ImL H' (bd ++ ((Pl.I.L.filter fun x => (Pl.step qq.1 x).key.isSome).take n).flatMap fun x => (inn Pl qq x).map fun y => (mv2 Pl qq x y).d) us) ?_ ?_ ?_ ?_
  · exact step1 rfl (dt_is (dt_t (db_neS (c := []) (dv_ix (n := 2) (dv_var im) dv_int rfl) (dv_strX (l := [])))) nd_ot) fun _ => DV.m (dv_var im)
  · intro H6 x6
    refine ⟨.of (Ex.refl _), ub, _, _, _, _, _, _, _, _, _, rfl, x6 _ _ hF5, by omega, ?_⟩
    rw [List.take_zero, List.flatMap_nil, List.append_nil]
    exact hB5.ex x6
  · exact fun H1 n σ' H' p => p.1
  · rintro H6 n d v σ' H' x6 hd ⟨b6, us, s6, s7, s8, s9, s10, s11, s12, s13, s14, rfl, hF6, nu, iu⟩ im
    obtain ⟨x, hx, rfl⟩ : ∃ x, (Pl.I.L.filter fun x => (Pl.step qq.1 x).key.isSome)[n]? = some x ∧ rowE Pl qq.1 x = d := by simpa using hd
    have hxL : x ∈ Pl.I.L := (List.mem_filter.mp (List.mem_of_getElem? hx)).1
    have hn4 : n < 4 := by
      have := (List.getElem?_eq_some_iff.mp hx).1
      omega
    obtain ⟨b, vs, rfl, hb, hl⟩ := im.tup
    obtain ⟨w1, w2, w3, w4, rfl, j1, j2, j3, j4⟩ := hl.four
    refine tgt_tup hb rfl (tgt_cons (tgt_cons (tgt_cons (tgt_cons tgt_nil)))) _ ?_
    have y6 : Ex H H' := b6.ex (y5.trans x6) hfa
    have tsG : TS G5 H' := (TS.ex x6).trans (b6.ts (x6 _ _ hF5))
    have hT6 : H' th = some (.lst us5) := b6 _ _ ft.symm (x6 _ _ hT5)
    refine s_of (q_forDL (ds := (inn Pl qq x).map (rowE Pl qq.2)) (ELM.dl (lc_listG (enc := rowE Pl qq.2) im_mono (fun y => decide ((Pl.step qq.2 y).key = (Pl.step qq.1 x).key)) (rowE Pl qq.2) ev_vr hT6 (il5''.ts tsG) (by omega) fun y v H7 hy x7 im2 => ?_)) hF6
      (fun H1 k σ' H'' => ExB fa H1 H'' ∧ ∃ (us : List V) (s10 s11 s12 s13 s14 : Option V), σ' = [some (.ref a), some v1, some (.ref fa), some (.str (tS Pl.I.L)), some (.ref mi), some (.ref th), some w1, some w2, some w3, some w4, s10, s11, s12, s13, s14] ∧ H'' fa = some (.lst us) ∧ us.length ≤ 8 + 4 * n + k ∧
      ImL H'' (bd ++ (((Pl.I.L.filter fun x => (Pl.step qq.1 x).key.isSome).take n).flatMap fun x => (inn Pl qq x).map fun y => (mv2 Pl qq x y).d) ++ ((inn Pl qq x).take k).map fun y => (mv2 Pl qq x y).d) us) ?_ ?_ ?_ ?_)
    · exact step1 rfl (dt_is (dt_t (db_eqS (dv_ix (n := 2) (dv_var im2) dv_int rfl) (dv_var (j3.ex x7)))) dec_ot2) fun _ => DV.m (dv_var im2)
    · intro H7 x7
      refine ⟨.of (Ex.refl _), us, _, _, _, _, _, rfl, x7 _ _ hF6, by omega, ?_⟩
      rw [List.take_zero, List.map_nil, List.append_nil]
      exact iu.ex x7
    · exact fun H1 n σ' H' p => p.1
    · rintro H7 k d v σ2 H'' x7 hd2 ⟨b7, us8, s10, s11, s12, s13, s14, rfl, hF7, nu2, iu2⟩ im2
      obtain ⟨y, hy, rfl⟩ : ∃ y, (inn Pl qq x)[k]? = some y ∧ rowE Pl qq.2 y = d := by simpa using hd2
      obtain ⟨b2, vs, rfl, hb2, hl2⟩ := im2.tup
      obtain ⟨z1, z2, z3, z4, rfl, l1, l2, l3, l4'⟩ := hl2.four
      have hk4 : k < 4 := by
        have h1 := (List.getElem?_eq_some_iff.mp hy).1
        have h2 : (inn Pl qq x).length ≤ 4 := Nat.le_trans (List.length_filter_le _ _) l4
        omega
      refine tgt_tup hb2 rfl (tgt_cons (tgt_cons (tgt_cons (tgt_cons tgt_nil)))) _ ?_
      have ts7 : TS H' H'' := (TS.ex x7).trans (b7.ts (x7 _ _ hF6))
      refine s_of (q_appD (d := (mv2 Pl qq x y).d) hF7 ev_vr (dv_is (dv_tup (da_cons (dv_tup (da_cons (dv_var (j1.ts ts7)) (da_cons (dv_var l1) da_nil))) (da_cons (dv_tup (da_cons (dv_var (j2.ts ts7)) (da_cons (dv_var l2) da_nil))) (da_cons (dv_tup (da_cons (dv_var (j4.ts ts7)) (da_cons (dv_var l4') da_nil))) da_nil)))) rfl) (by omega) fun v8 H8 x8 im8 => ?_)
      refine ⟨b7.trans ((ExB.of x8).trans .put), _, _, _, _, _, _, rfl, upd_same, by simp; omega, ?_⟩
      rw [take_snoc hy, List.map_append, ← List.append_assoc]
      have t8 : TS H8 (upd H8 fa (.lst (us8 ++ [v8]))) := TS.mut (x8 _ _ hF7) (fun _ z => nomatch z)
      exact ((iu2.ex x8).ts t8).snoc (im8.ts t8)
    · rintro H7 σ2 H'' x7 ⟨b7, us8, s10, s11, s12, s13, s14, rfl, hF7, nu2, iu2⟩
      have h2 : (inn Pl qq x).length ≤ 4 := Nat.le_trans (List.length_filter_le _ _) l4
      rw [List.length_map] at nu2 iu2
      rw [List.take_length] at iu2
      refine ⟨(b6.trans (.of x7)).trans b7, us8, _, _, _, _, _, _, _, _, _, rfl, hF7, by omega, ?_⟩
      rw [flatMap_snoc hx, ← List.append_assoc]
      exact iu2
  · rintro H6 σ' H' x6 ⟨b6, us, s6, s7, s8, s9, s10, s11, s12, s13, s14, rfl, hF6, nu, iu⟩
    rw [List.length_map, List.take_length] at iu
    have y6 : Ex H H' := b6.ex (y5.trans x6) hfa
    refine (Evl.ev_var rfl) H' (Ex.refl _) _ fun H7 x7 => q fa us H7 hfa (y6.trans x7) (x7 _ _ hF6) ?_
    rw [moves_eq, hbd]
    exact iu.ex x7
end
end Fk

set_option Elab.async false
set_option linter.all false
set_option maxRecDepth 100000
set_option maxHeartbeats 4000000
/-! the law's moves -/
namespace Fk
open PySem PySem.Spec PyProof.Rows L2 He
open Evl (Ex Ev EvT EvL EvA ev_andV ev_orV ev_notV et_and et_or et_not)
def stL (Pl : Plan) (q : Pair) (x : Nat) : List Mv := match (Pl.step q.1 x).key with
  | none => [mvA Pl q x]
  | some k => (Pl.I.L.filter fun y => decide ((Pl.step q.2 y).key = some k)).map (mv2 Pl q x)
theorem movesL_eq (Pl : Plan) (q : Pair) : (Pl.movesL q).map Mv.dL = (Pl.I.L.flatMap fun x => (stL Pl q x).map Mv.dL) ++ (Pl.I.L.filter fun x => (Pl.step q.2 x).key.isNone).map fun x => (mvB Pl q x).dL := by
  unfold Plan.movesL
  rw [List.map_append, List.map_map, List.map_flatMap]
  rfl
theorem stL_len {Pl : Plan} {q : Pair} {x : Nat} (h : Pl.I.L.length ≤ 4) : (stL Pl q x).length ≤ 4 := by
  unfold stL
  split
  · simp
  · rw [List.length_map]; exact Nat.le_trans (List.length_filter_le _ _) h
section
variable {P : Program} {w : World} {K : PySem.W.Frag} {mg : Str → Option Value} {base : Heap}
abbrev sp_law_moves : Sp := spLs fun ds es => ∃ Pl q, ds = [planD Pl, pairD q] ∧ PlanOk Pl ∧ LegOk Pl q.1 ∧ LegOk Pl q.2 ∧ es = (Pl.movesL q).map Mv.dL
theorem sc_law_moves : FnScope ["plan", "pair", "found", "mine", "theirs", "letter", "leg", "key", "made", "late", "same", "told"] ["plan", "pair"] (defScope s_law_moves) := ⟨rfl, rfl, rfl, by decide +kernel, rfl, by decide +kernel, by decide +kernel⟩
theorem ok_law_moves (T : Txt K mg) : FnR P w K mg base CX0 4 (a_law_moves K) (sp_law_moves) := by
  refine okR T.F_law_moves sc_law_moves (fun _ _ _ _ _ _ us hl => match us, hl with | [_, _], _ => rfl) ?_ fun cdv A outer s H vs Q E hr q => ?_
  · exact spLs_len fun _ _ ⟨_, _, e, _⟩ => by rw [e]; rfl
  obtain ⟨ds, es, il, ⟨Pl, qq, rfl, hP, hq1, hq2, rfl⟩, q⟩ := q
  obtain ⟨v0, v1, rfl, i0, i1⟩ := il.two
  have l4 := let_len hP.i.let_
  refine ⟨_, (pss_cons (ps_par3 (i := 2) (j := 3) (l := 4) rfl sc_law_moves.nd rfl rfl rfl (by decide) (by decide) (by decide) rfl rfl rfl (pa_cons (pe_lst pa_nil) (pa_cons (pe_lst pa_nil) (pa_cons (pe_lst pa_nil) pa_nil))) rfl) (pss_cons (ps_for PassesOwn.never rfl (pi_str (pe_ix (show IxR _ (rIxT K) from ix_tup) (pv 0) pe_int (fun _ _ => rfl))) (pg_name (i := 5) sc_law_moves.nd rfl (by first | exact .inl rfl | exact .inr rfl)) (pss_cons (ps_expr (pe_bm PySem.F.plainAttrs_list PySem.F.slot_list_append PySem.F.type_list_append mt_append (pv 3) (pa_cons (pe_fn (ok_law_step T) (hr.mono (by decide)) (by rfl) T.g_law_step (kp_of T.F_law_step) pass0 (pa_cons (pv 0) (pa_cons (pe_ix (show IxR _ (rIxT K) from ix_tup) (pv 1) pe_int (fun _ _ => rfl)) (pa_cons (pv 5) pa_nil)))) pa_nil))) (pss_one (ps_expr (pe_bm PySem.F.plainAttrs_list PySem.F.slot_list_append PySem.F.type_list_append mt_append (pv 4) (pa_cons (pe_fn (ok_law_step T) (hr.mono (by decide)) (by rfl) T.g_law_step (kp_of T.F_law_step) pass0 (pa_cons (pv 0) (pa_cons (pe_ix (show IxR _ (rIxT K) from ix_tup) (pv 1) pe_int (fun _ _ => rfl)) (pa_cons (pv 5) pa_nil)))) pa_nil)))))) (pss_cons (ps_for PassesOwn.never rfl (show PI _ _ _ (iList K _) from pi_list (pv 3)) (show PG _ _ (gTup K 3 _) from pg_tup rfl (pgs_cons (pg_name (i := 6) sc_law_moves.nd rfl (by first | exact .inl rfl | exact .inr rfl)) (pgs_cons (pg_name (i := 7) sc_law_moves.nd rfl (by first | exact .inl rfl | exact .inr rfl)) (pgs_cons (pg_name (i := 8) sc_law_moves.nd rfl (by first | exact .inl rfl | exact .inr rfl)) pgs_nil)))) (pss_one (ps_if (pt_cmpR op_eq (pv 7) pe_str (by rfl)) (pss_one (ps_expr (pe_bm PySem.F.plainAttrs_list PySem.F.slot_list_append PySem.F.type_list_append mt_append (pv 2) (pa_cons (pe_tup (pa_cons pe_int (pa_cons (pe_tup (pa_cons (pv 6) (pa_cons (pe_ix (show IxR _ (rIxT K) from ix_tup) (pv 1) pe_int (fun _ _ => rfl)) pa_nil))) (pa_cons (pe_tup (pa_cons (pv 8) (pa_cons pe_str pa_nil))) pa_nil)))) pa_nil)))) (pss_one (ps_set (i := 2) sc_law_moves.nd rfl (by first | exact .inl rfl | exact .inr rfl) (pe_op op_cat (pv 2) (pe_lc (own := [("late", 9), ("same", 10), ("told", 11)]) rfl sc_law_moves.nd (show PI _ _ _ (iList K _) from pi_list (pv 4)) (blkOk_by (own := [("late", 9), ("same", 10), ("told", 11)]) (N := ["plan", "pair", "found", "mine", "theirs", "letter", "leg", "key", "made", "late", "same", "told"]) (sc := defScope s_law_moves) (by decide +kernel)) (fun _ _ _ _ _ => (show PG _ _ (gTup K 3 _) from pg_tup rfl (pgs_cons (pg_name (i := 9) sc_law_moves.nd rfl (by first | exact .inl rfl | exact .inr rfl)) (pgs_cons (pg_name (i := 10) sc_law_moves.nd rfl (by first | exact .inl rfl | exact .inr rfl)) (pgs_cons (pg_name (i := 11) sc_law_moves.nd rfl (by first | exact .inl rfl | exact .inr rfl)) pgs_nil))))) (fun _ _ _ _ _ => (pts_one (pt_cmpR op_eq (pv 10) (pv 7) (by rfl)))) (fun _ _ _ _ _ => (pe_tup (pa_cons pe_int (pa_cons (pe_tup (pa_cons (pv 6) (pa_cons (pv 9) pa_nil))) (pa_cons (pe_tup (pa_cons (pv 8) (pa_cons (pv 11) pa_nil))) pa_nil)))))))))))) (pss_one (ps_ret (pe_op op_cat (pv 2) (pe_lc (own := [("leg", 6), ("key", 7), ("made", 8)]) rfl sc_law_moves.nd (show PI _ _ _ (iList K _) from pi_list (pv 4)) (blkOk_by (own := [("leg", 6), ("key", 7), ("made", 8)]) (N := ["plan", "pair", "found", "mine", "theirs", "letter", "leg", "key", "made", "late", "same", "told"]) (sc := defScope s_law_moves) (by decide +kernel)) (fun _ _ _ _ _ => (show PG _ _ (gTup K 3 _) from pg_tup rfl (pgs_cons (pg_name (i := 6) sc_law_moves.nd rfl (by first | exact .inl rfl | exact .inr rfl)) (pgs_cons (pg_name (i := 7) sc_law_moves.nd rfl (by first | exact .inl rfl | exact .inr rfl)) (pgs_cons (pg_name (i := 8) sc_law_moves.nd rfl (by first | exact .inl rfl | exact .inr rfl)) pgs_nil))))) (fun _ _ _ _ _ => (pts_one (pt_cmpR op_eq (pv 7) pe_str (by rfl)))) (fun _ _ _ _ _ => (pe_tup (pa_cons pe_int (pa_cons (pe_tup (pa_cons (pe_ix (show IxR _ (rIxT K) from ix_tup) (pv 1) pe_int (fun _ _ => rfl)) (pa_cons (pv 6) pa_nil))) (pa_cons (pe_tup (pa_cons pe_str (pa_cons (pv 8) pa_nil))) pa_nil)))))))))))), ?_⟩
  refine ⟨Nat.zero_le _, fun fa hfa => ⟨Nat.zero_le _, fun mi hmi => ⟨Nat.zero_le _, fun th hth => ⟨_, _, _, rfl, ?_⟩⟩⟩⟩
  have mf : mi ≠ fa := fun z => by rw [z, upd_same] at hmi; cases hmi
  have tm : th ≠ mi := fun z => by rw [z, upd_same] at hth; cases hth
  have tf : th ≠ fa := fun z => by rw [z, upd_ne mf.symm, upd_same] at hth; cases hth
  have hmi0 : H mi = none := by rw [upd_ne mf] at hmi; exact hmi
  have hth0 : H th = none := by rw [upd_ne tm, upd_ne tf] at hth; exact hth
  have y0 : Ex H (upd (upd (upd H fa (.lst [])) mi (.lst [])) th (.lst [])) := (Ex.new hfa).trans ((Ex.new hmi).trans (Ex.new hth))
  have hF0 : (upd (upd (upd H fa (.lst [])) mi (.lst [])) th (.lst [])) fa = some (.lst []) := by rw [upd_ne tf.symm, upd_ne mf.symm, upd_same]
  have hM0 : (upd (upd (upd H fa (.lst [])) mi (.lst [])) th (.lst [])) mi = some (.lst []) := by rw [upd_ne tm.symm, upd_same]
  have hT0 : (upd (upd (upd H fa (.lst [])) mi (.lst [])) th (.lst [])) th = some (.lst []) := upd_same
  show tSeq _ _ _ [some v0, some v1, some (.ref fa), some (.ref mi), some (.ref th), none, none, none, none, none, none, none] _
  generalize upd (upd (upd H fa (.lst [])) mi (.lst [])) th (.lst []) = G0 at *
  refine q_forS (dv_ix (n := 0) (d := tx Pl.I.L) (dv_var (show Im G0 (.tup [tx Pl.I.L, rowsD Pl.I.rows, rowsD Pl.M.rows, Pl.c.d]) v0 from i0.ex y0)) dv_int rfl) (fun n σ' H' => Ex H H' ∧ ∃ (u5 : Option V) (us4 us5 : List V), σ' = [some v0, some v1, some (.ref fa), some (.ref mi), some (.ref th), u5, none, none, none, none, none, none] ∧
    H' fa = some (.lst []) ∧ H' mi = some (.lst us4) ∧ H' th = some (.lst us5) ∧ us4.length ≤ n ∧ us5.length ≤ n ∧ ImL H' ((Pl.I.L.take n).map fun x => (Pl.step qq.1 x).d) us4 ∧ ImL H' ((Pl.I.L.take n).map fun x => (Pl.step qq.2 x).d) us5) ?_ ?_ ?_
  · intro H1 x1
    exact ⟨y0.trans x1, _, [], [], rfl, x1 _ _ hF0, x1 _ _ hM0, x1 _ _ hT0, Nat.le_refl _, Nat.le_refl _, iml_nil, iml_nil⟩
  · rintro n x σ' H' hx ⟨y1, u5, us4, us5, rfl, hF, hM, hT, n4, n5, j4, j5⟩
    have hxL := List.mem_of_getElem? hx
    have hn : n < 4 := by
      have := (List.getElem?_eq_some_iff.mp hx).1
      omega
    refine q_appD (d := (Pl.step qq.1 x).d) hM ev_vr (dv_fn (da_cons (dv_var (i0.ex y1)) (da_cons (dv_ix (n := 0) (dv_var (i1.ex y1)) dv_int rfl) (da_cons (dv_var im_text) da_nil))) ⟨Pl, qq.1, x, rfl, hP, hq1, hxL, rfl⟩) (by omega) fun v H2 x2 k2 => ?_
    have t2 : TS H2 (upd H2 mi (.lst (us4 ++ [v]))) := TS.mut (x2 _ _ hM) (fun _ z => nomatch z)
    have y2 : Ex H (upd H2 mi (.lst (us4 ++ [v]))) := Evl.Ex.mut (y1.trans x2) hmi0
    have hM2 : (upd H2 mi (.lst (us4 ++ [v]))) mi = some (.lst (us4 ++ [v])) := upd_same
    have hF2 : (upd H2 mi (.lst (us4 ++ [v]))) fa = some (.lst []) := by rw [upd_ne mf.symm]; exact x2 _ _ hF
    have hT2 : (upd H2 mi (.lst (us4 ++ [v]))) th = some (.lst us5) := by rw [upd_ne tm]; exact x2 _ _ hT
    have j4' := ((j4.ex x2).ts t2).snoc (k2.ts t2)
    have j5' := (j5.ex x2).ts t2
    generalize upd H2 mi (.lst (us4 ++ [v])) = G2 at *
    refine s_of (q_appD (d := (Pl.step qq.2 x).d) hT2 ev_vr (dv_fn (da_cons (dv_var (i0.ex y2)) (da_cons (dv_ix (n := 1) (dv_var (i1.ex y2)) dv_int rfl) (da_cons (dv_var im_text) da_nil))) ⟨Pl, qq.2, x, rfl, hP, hq2, hxL, rfl⟩) (by omega) fun u H3 x3 k3 => ?_)
    have t3 : TS H3 (upd H3 th (.lst (us5 ++ [u]))) := TS.mut (x3 _ _ hT2) (fun _ z => nomatch z)
    refine ⟨Evl.Ex.mut (y2.trans x3) hth0, _, us4 ++ [v], us5 ++ [u], rfl, by rw [upd_ne tf.symm]; exact x3 _ _ hF2, by rw [upd_ne tm.symm]; exact x3 _ _ hM2, upd_same, by simp; omega, by simp; omega, ?_, ?_⟩
    · rw [take_snoc hx, List.map_append]; exact (j4'.ex x3).ts t3
    · rw [take_snoc hx, List.map_append]; exact ((j5'.ex x3).ts t3).snoc (k3.ts t3)
  · rintro σ' G1 ⟨y1, u5, us4, us5, rfl, hF, hM, hT, n4, n5, j4, j5⟩
    rw [List.take_length] at j4 j5
    refine q_forLi (ds := Pl.I.L.map fun x => (Pl.step qq.1 x).d) ev_vr hM j4 (fun n σ' H' => Ex H H' ∧ TS G1 H' ∧ H' mi = some (.lst us4) ∧ H' th = some (.lst us5) ∧ ∃ (cu : Addr) (us : List V) (s5 s6 s7 s8 : Option V), σ' = [some v0, some v1, some (.ref cu), some (.ref mi), some (.ref th), s5, s6, s7, s8, none, none, none] ∧
      H cu = none ∧ cu ≠ mi ∧ cu ≠ th ∧ H' cu = some (.lst us) ∧ us.length ≤ 4 * n ∧ ImL H' ((Pl.I.L.take n).flatMap fun x => (stL Pl qq x).map Mv.dL) us) ?_ ?_ ?_ ?_
    · intro H1 x1
      exact ⟨y1.trans x1, TS.ex x1, x1 _ _ hM, x1 _ _ hT, fa, [], _, _, _, _, rfl, hfa, mf.symm, tf.symm, x1 _ _ hF, Nat.zero_le _, iml_nil⟩
    · exact fun n σ' H' p => ⟨p.2.1, p.2.2.1⟩
    · rintro n d v σ' H' hd ⟨y2, t2, hM2, hT2, cu, us, s5, s6, s7, s8, rfl, c0, cm, ct, hC, nu, iu⟩ im
      obtain ⟨x, hx, rfl⟩ : ∃ x, Pl.I.L[n]? = some x ∧ (Pl.step qq.1 x).d = d := by simpa using hd
      have hxL := List.mem_of_getElem? hx
      have hn : n < 4 := by
        have := (List.getElem?_eq_some_iff.mp hx).1
        omega
      obtain ⟨b, vs, rfl, hb, hl⟩ := im.tup
      obtain ⟨w1, w2, w3, rfl, k1, k2, k3⟩ := hl.three
      refine tgt_tup hb rfl (tgt_cons (tgt_cons (tgt_cons tgt_nil))) _ ?_
      show tIfS _ _ _ _ [some v0, some v1, some (.ref cu), some (.ref mi), some (.ref th), s5, some w1, some w2, some w3, none, none, none] _
      have fm : (Pl.I.L.take (n + 1)).flatMap (fun x => (stL Pl qq x).map Mv.dL) = (Pl.I.L.take n).flatMap (fun x => (stL Pl qq x).map Mv.dL) ++ (stL Pl qq x).map Mv.dL := flatMap_snoc hx
      refine s_of (q_if2 (dt_is (dt_t (db_eqS (c := []) (dv_var k2) (dv_strX (l := [])))) dec_ot) (fun e H3 x3 => ?_) fun e H3 x3 => ?_)
      · have e1 : stL Pl qq x = [mvA Pl qq x] := by
          unfold stL
          cases h : (Pl.step qq.1 x).key with
          | none => rfl
          | some k => rw [h] at e; cases e
        refine s_of (q_appD (d := (mvA Pl qq x).dL) (x3 _ _ hC) ev_vr (dv_is (dv_tup (da_cons (dv_int (i := 1)) (da_cons (dv_tup (da_cons (dv_var (k1.ex x3)) (da_cons (dv_ix (n := 1) (dv_var (i1.ex (y2.trans x3))) dv_int rfl) da_nil))) (da_cons (dv_tup (da_cons (dv_var (k3.ex x3)) (da_cons (dv_strX (l := [])) da_nil))) da_nil)))) rfl) (by omega) fun v H4 x4 k4 => ?_)
        have t4 : TS H4 (upd H4 cu (.lst (us ++ [v]))) := TS.mut (x4 _ _ (x3 _ _ hC)) (fun _ z => nomatch z)
        refine ⟨Evl.Ex.mut (y2.trans (x3.trans x4)) c0, t2.trans ((TS.ex (x3.trans x4)).trans t4), by rw [upd_ne cm.symm]; exact x4 _ _ (x3 _ _ hM2), by rw [upd_ne ct.symm]; exact x4 _ _ (x3 _ _ hT2), cu, us ++ [v], _, _, _, _, rfl, c0, cm, ct, upd_same, by simp; omega, ?_⟩
        rw [fm, e1]
        exact ((iu.ex (x3.trans x4)).ts t4).snoc (k4.ts t4)
      · obtain ⟨k, hk⟩ : ∃ k, (Pl.step qq.1 x).key = some k := by
          cases h : (Pl.step qq.1 x).key with
          | none => rw [h] at e; cases e
          | some k => exact ⟨k, rfl⟩
        have e1 : stL Pl qq x = (Pl.I.L.filter fun y => decide ((Pl.step qq.2 y).key = some k)).map (mv2 Pl qq x) := by unfold stL; rw [hk]
        have nst := @stL_len Pl qq x l4
        have hM3 := x3 _ _ hM2
        have hT3 := x3 _ _ hT2
        refine s_of (q_asL (ds := ((Pl.I.L.take n).flatMap fun x => (stL Pl qq x).map Mv.dL) ++ (stL Pl qq x).map Mv.dL) (dl_cat ev_vr (x3 _ _ hC) (iu.ex x3) (DL.is (ELM.dl (lc_listG (enc := fun y => (Pl.step qq.2 y).d) im_mono (fun y => decide ((Pl.step qq.2 y).key = some k)) (fun y => (mv2 Pl qq x y).dL) ev_vr hT3 ((j5.ts t2).ex x3) (by omega) fun y v H4 hy x4 im2 => ?_)) ?_) ?_) fun p us8 H4 hp x4 hP4 il8 => ?_)
        · obtain ⟨b2, vs, rfl, hb2, hl2⟩ := im2.tup
          obtain ⟨z1, z2, z3, rfl, m1, m2, m3⟩ := hl2.three
          refine step3 hb2 rfl (dt_is (dt_t (db_eqS (dv_var m2) (dv_var (k2.ex (x3.trans x4))))) ?_) fun _ => DV.m (dv_is (dv_tup (da_cons (dv_int (i := 2)) (da_cons (dv_tup (da_cons (dv_var (k1.ex (x3.trans x4))) (da_cons (dv_var m1) da_nil))) (da_cons (dv_tup (da_cons (dv_var (k3.ex (x3.trans x4))) (da_cons (dv_var m3) da_nil))) da_nil)))) rfl)
          rw [hk]; exact dec_ot2 (u := some k)
        · rw [e1, List.map_map]; rfl
        · rw [List.length_map]
          have := iu.length
          omega
        · have y4 := y2.trans (x3.trans x4)
          have pm : p ≠ mi := fun z => by rw [z, hM3] at hp; cases hp
          have pt : p ≠ th := fun z => by rw [z, hT3] at hp; cases hp
          refine ⟨y4, t2.trans (TS.ex (x3.trans x4)), x4 _ _ hM3, x4 _ _ hT3, p, us8, _, _, _, _, rfl, Evl.fresh_back (y2.trans x3) hp, pm, pt, hP4, ?_, ?_⟩
          · have := iu.length
            rw [il8.length, List.length_append, List.length_map]
            omega
          · rw [fm]; exact il8
    · rintro σ' H' ⟨y2, t2, hM2, hT2, cu, us, s5, s6, s7, s8, rfl, c0, cm, ct, hC, nu, iu⟩
      rw [List.length_map] at nu iu
      rw [List.take_length] at iu
      refine s_reL (ds := (Pl.movesL qq).map Mv.dL) (DL.is (dl_cat ev_vr hC iu (ELM.dl (lc_listG (enc := fun y => (Pl.step qq.2 y).d) im_mono (fun x => (Pl.step qq.2 x).key.isNone) (fun x => (mvB Pl qq x).dL) ev_vr hT2 (j5.ts t2) (by omega) fun y v H4 hy x4 im2 => ?_)) ?_) ?_) fun p us8 H4 hp x4 hP4 il8 => q p us8 H4 (Evl.fresh_back y2 hp) (y2.trans x4) hP4 il8
      · obtain ⟨b2, vs, rfl, hb2, hl2⟩ := im2.tup
        obtain ⟨z1, z2, z3, rfl, m1, m2, m3⟩ := hl2.three
        exact step3 hb2 rfl (dt_is (dt_t (db_eqS (c := []) (dv_var m2) (dv_strX (l := [])))) dec_ot) fun _ => DV.m (dv_is (dv_tup (da_cons (dv_int (i := 1)) (da_cons (dv_tup (da_cons (dv_ix (n := 0) (dv_var (i1.ex (y2.trans x4))) dv_int rfl) (da_cons (dv_var m1) da_nil))) (da_cons (dv_tup (da_cons (dv_strX (l := [])) (da_cons (dv_var m3) da_nil))) da_nil)))) rfl)
      · have h1 := List.length_filter_le (fun x => (Pl.step qq.2 x).key.isNone) Pl.I.L
        have := iu.length
        rw [List.length_map]
        omega
      · exact (movesL_eq Pl qq).symm
end
end Fk

set_option Elab.async false
set_option linter.all false
set_option maxRecDepth 100000
set_option maxHeartbeats 4000000
/-! a dict from whole numbers to lists that grow -/
namespace Fk
open PySem PySem.Spec PyProof.Rows L2 He
open Evl (Ex Ev EvT EvL EvA)
def lkv (ls : List (Nat × Addr)) : List (Key × V) := ls.map fun p => (Sum.inl (p.1 : Int), V.ref p.2)
theorem nd_map_inj {α β : Type} {f : α → β} : ∀ {l : List α}, (l.map f).Nodup → ∀ {a b : α}, a ∈ l → b ∈ l → f a = f b → a = b
  | [], _, _, _, h, _, _ => nomatch h
  | x :: r, nd, a, b, ha, hb, e => by
    rw [List.map_cons, List.nodup_cons] at nd
    rcases List.mem_cons.mp ha with e1 | e1
    · rcases List.mem_cons.mp hb with e2 | e2
      · rw [e1, e2]
      · exact absurd (List.mem_map.mpr ⟨b, e2, by rw [← e, e1]⟩) nd.1
    · rcases List.mem_cons.mp hb with e2 | e2
      · exact absurd (List.mem_map.mpr ⟨a, e1, by rw [e, e2]⟩) nd.1
      · exact nd_map_inj nd.2 e1 e2 e
structure LinesAt {E : Type} (H : Hp) (la : Addr) (ls : List (Nat × Addr)) (enc : E → D) (W : Nat → List E) : Prop where
  d : H la = some (.dK (lkv ls))
  nk : (ls.map (·.1)).Nodup
  na : (ls.map (·.2)).Nodup
  l : ∀ p ∈ ls, ∃ us, H p.2 = some (.lst us) ∧ ImL H ((W p.1).map enc) us
  ne : ∀ p ∈ ls, W p.1 ≠ []
  e : ∀ k, k ∉ ls.map (·.1) → W k = []
/-- pushes above level i: what they leave -/
structure Stp (i : Nat) (la : Addr) (H : Hp) (ls : List (Nat × Addr)) (H' : Hp) (ls' : List (Nat × Addr)) : Prop where
  new : ∀ p ∈ ls', p ∈ ls ∨ H p.2 = none
  old : ∀ p ∈ ls, p ∈ ls'
  stay : ∀ b o, b ≠ la → (∀ p ∈ ls, i < p.1 → b ≠ p.2) → H b = some o → H' b = some o
  dom : ∀ b, H' b = none → H b = none
section
variable {E : Type} {H H' H1 H2 : Hp} {la : Addr} {ls ls' ls2 : List (Nat × Addr)} {enc : E → D} {W : Nat → List E} {i k : Nat}
theorem LinesAt.ex (x : Ex H H') (h : LinesAt H la ls enc W) : LinesAt H' la ls enc W :=
  ⟨x _ _ h.d, h.nk, h.na, fun p hp => (h.l p hp).imp fun us ⟨a, b⟩ => ⟨x _ _ a, b.ex x⟩, h.ne, h.e⟩
theorem Stp.ex (x : Ex H H') : Stp i la H ls H' ls := ⟨fun p hp => .inl hp, fun p hp => hp, fun b o _ _ e => x b o e, fun _ h => Evl.fresh_back x h⟩
theorem Stp.trans (a : Stp i la H ls H1 ls') (b : Stp i la H1 ls' H2 ls2) : Stp i la H ls H2 ls2 := by
  refine ⟨fun p hp => ?_, fun p hp => b.old p (a.old p hp), fun x o n1 n2 e => ?_, fun x h => a.dom x (b.dom x h)⟩
  · rcases b.new p hp with h | h
    · exact a.new p h
    · exact .inr (a.dom _ h)
  · refine b.stay x o n1 (fun p hp hi => ?_) (a.stay x o n1 n2 e)
    rcases a.new p hp with h | h
    · exact n2 p h hi
    · exact ne_of_none e h
theorem Stp.ts (a : Stp i la H ls H1 ls') (L : LinesAt H la ls enc W) : TS H H1 := fun b xs e => a.stay b _ (fun z => by rw [z, L.d] at e; cases e) (fun p hp _ z => by
  obtain ⟨us, hu, _⟩ := L.l p hp
  rw [z, hu] at e
  cases e) e
theorem LinesAt.inj (h : LinesAt H la ls enc W) {a b : Addr} (h1 : (k, a) ∈ ls) (h2 : (k, b) ∈ ls) : a = b := (Prod.mk.inj (nd_map_inj h.nk h1 h2 rfl)).2
theorem lkv_some {a : Addr} (nk : (ls.map (·.1)).Nodup) (h : (k, a) ∈ ls) : valV (lkv ls) (.inl (k : Int)) = some (.ref a) := by
  induction ls with
  | nil => exact nomatch h
  | cons p r ih =>
    rw [List.map_cons, List.nodup_cons] at nk
    rcases List.mem_cons.mp h with e | e
    · subst e
      exact valV_pos rfl
    · have hne : ¬ (Sum.inl (p.1 : Int) : Key) = Sum.inl (k : Int) := fun z => nk.1 (List.mem_map.mpr ⟨_, e, by have := Sum.inl.inj z; omega⟩)
      rw [show lkv (p :: r) = (Sum.inl (p.1 : Int), V.ref p.2) :: lkv r from rfl, valV_neg hne]
      exact ih nk.2 e
theorem lkv_none (h : k ∉ ls.map (·.1)) : valV (lkv ls) (.inl (k : Int)) = none := by
  induction ls with
  | nil => rfl
  | cons p r ih =>
    rw [List.map_cons, List.mem_cons, not_or] at h
    have hne : ¬ (Sum.inl (p.1 : Int) : Key) = Sum.inl (k : Int) := fun z => h.1 (by have := Sum.inl.inj z; omega)
    rw [show lkv (p :: r) = (Sum.inl (p.1 : Int), V.ref p.2) :: lkv r from rfl, valV_neg hne]
    exact ih h.2
end
section
variable {E : Type} {K : PySem.W.Frag} {σ : L2.St} {H : Hp} {la : Addr} {ls : List (Nat × Addr)} {enc : E → D} {W : Nat → List E} {i k : Nat} {td ty te : TE} {De : Ends} {tz : L2.TS}
/-- max(lines) -/
theorem dv_maxK {mk : Nat} (h : Ev td σ H (.ref la)) (L : LinesAt H la ls enc W) (h1 : W mk ≠ []) (h2 : ∀ k, W k ≠ [] → k ≤ mk) : DV (tCB rMaxK (tCons td tNil)) σ H (.num (mk : Int)) := fun H1 x Q q =>
  h H1 x _ fun H2 y => by
    have hk : mk ∈ ls.map (·.1) := Classical.byContradiction fun z => h1 (L.e mk z)
    refine ⟨la, lkv ls, ls.map fun p => (p.1 : Int), rfl, y _ _ (x _ _ L.d), by unfold lkv; rw [List.map_map, List.map_map]; rfl, fun z => ?_, fun m hm hall => ?_⟩
    · have : ls = [] := List.map_eq_nil_iff.mp z
      rw [this] at hk
      exact nomatch hk
    · obtain ⟨p, hp, rfl⟩ := List.mem_map.mp hm
      obtain ⟨p2, hp2, e2⟩ := List.mem_map.mp hk
      have l1 := h2 p.1 (L.ne p hp)
      have l2 := hall (mk : Int) (List.mem_map.mpr ⟨p2, hp2, by rw [← e2]⟩)
      have : p.1 = mk := by omega
      rw [this]
      exact q _ H2 y im_num
/-- lines.get(i, []) -/
theorem get_lines (h : Ev td σ H (.ref la)) (hi : DV ty σ H (.num (i : Int))) (L : LinesAt H la ls enc W) : ∀ H1, Ex H H1 → ∀ Q : VK, (∀ a us H2, Ex H1 H2 → H2 a = some (.lst us) → ImL H2 ((W i).map enc) us → ((i, a) ∈ ls ∨ (H1 a = none ∧ W i = [])) → Q (.ref a) H2) → tDGet2 td ty (tLst tNil) σ H1 Q := fun H1 x Q q =>
  h H1 x _ fun H2 y => ⟨la, rfl, .inl ⟨lkv ls, .inl (y _ _ (x _ _ L.d))⟩, hi H2 (x.trans y) _ fun v H3 z iv => ⟨Nat.zero_le _, fun p hp => by
    obtain rfl := iv.num
    have x3 := x.trans (y.trans z)
    have hp1 : H1 p = none := Evl.fresh_back (y.trans z) hp
    refine ⟨valV (lkv ls) (.inl (i : Int)), .inl ⟨lkv ls, .inl (i : Int), .inl ((Ex.new hp) _ _ (x3 _ _ L.d)), rfl, rfl⟩, ?_⟩
    by_cases hm : i ∈ ls.map (·.1)
    · obtain ⟨⟨k, a⟩, ha, rfl⟩ := List.mem_map.mp hm
      rw [lkv_some L.nk ha]
      obtain ⟨us, hu, iu⟩ := L.l _ ha
      exact q a us _ ((y.trans z).trans (Ex.new hp)) ((Ex.new hp) _ _ (x3 _ _ hu)) ((iu.ex x3).ex (Ex.new hp)) (.inl ha)
    · rw [lkv_none hm]
      have e := L.e i hm
      refine q p [] _ ((y.trans z).trans (Ex.new hp)) upd_same ?_ (.inr ⟨hp1, e⟩)
      rw [e]
      exact iml_nil⟩⟩
/-- lines.setdefault(k, []).append(x) -/
theorem q_push {e : E} (h : Ev td σ H (.ref la)) (hi : DV ty σ H (.num (k : Int))) (he : ∀ H5, TS H H5 → DV te σ H5 (enc e)) (L : LinesAt H la ls enc W) (hik : i < k) (hz : (W k).length < 1000000) (hl : ls.length < 1000000)
    (kk : ∀ H' ls', LinesAt H' la ls' enc (fun j => if j = k then W k ++ [e] else W j) → Stp i la H ls H' ls' → ls'.length ≤ ls.length + 1 → tz De σ H') : tSeq (tDrop (tBM K "list" rAppend (tDSetd td ty (tLst tNil)) (tCons te tNil))) tz De σ H :=
  h H (Ex.refl _) _ fun H2 y => ⟨la, rfl, .inl ⟨lkv ls, .inl (y _ _ L.d)⟩, hi H2 y _ fun v H3 z iv => ⟨Nat.zero_le _, fun p hp => by
    obtain rfl := iv.num
    have x3 := y.trans z
    have x4 : Ex H (upd H3 p (.lst [])) := x3.trans (Ex.new hp)
    have hd4 := x4 _ _ L.d
    have hp4 : (upd H3 p (.lst [])) p = some (.lst []) := upd_same
    have hp0 : H p = none := Evl.fresh_back x3 hp
    generalize upd H3 p (.lst []) = H4 at *
    refine ⟨lkv ls, .inl (k : Int), hd4, rfl, by unfold lkv; rw [List.length_map]; exact Nat.lt_of_lt_of_le hl (by decide), fun v hv => ?_, fun hv => ?_⟩
    · -- there
      have hm : k ∈ ls.map (·.1) := Classical.byContradiction fun z => by rw [lkv_none z] at hv; cases hv
      obtain ⟨⟨k', a⟩, ha, rfl⟩ := List.mem_map.mp hm
      rw [lkv_some L.nk ha] at hv
      cases hv
      obtain ⟨us, hu, iu⟩ := L.l _ ha
      refine ⟨.inl ⟨rfl, us, SqL.of (x4 _ _ hu)⟩, he H4 (TS.ex x4) H4 (Ex.refl _) _ fun w H5 z5 iw => ⟨a, us, w, rfl, rfl, z5 _ _ (x4 _ _ hu), ?_, ?_⟩⟩
      · have := iu.length
        rw [List.length_map] at this
        exact Nat.lt_of_lt_of_le (show us.length < 1000000 by rw [this]; exact hz) (by decide)
      have x5 := x4.trans z5
      have L5 := L.ex x5
      have t5 : TS H5 (upd H5 a (.lst (us ++ [w]))) := TS.mut (x5 _ _ hu) (fun _ z => nomatch z)
      have al : a ≠ la := fun z => by rw [z, L.d] at hu; cases hu
      refine kk _ ls ⟨by rw [upd_ne al.symm]; exact L5.d, L5.nk, L5.na, fun p hp => ?_, fun p hp => ?_, fun j hj => ?_⟩ ⟨fun p hp => .inl hp, fun p hp => hp, fun b o n1 n2 e => ?_, fun b h => ?_⟩ (Nat.le_succ _)
      · by_cases ep : p.1 = k'
        · have : p.2 = a := L.inj (k := p.1) (by exact hp) (by rw [ep]; exact ha)
          rw [this, if_pos ep, upd_same, List.map_append]
          exact ⟨_, rfl, ((iu.ex x5).ts t5).snoc (iw.ts t5)⟩
        · obtain ⟨us2, hu2, iu2⟩ := L5.l p hp
          have pa : p.2 ≠ a := fun z => ep (by rw [nd_map_inj L.na hp ha z])
          rw [if_neg ep, upd_ne pa]
          exact ⟨us2, hu2, iu2.ts t5⟩
      · show (if p.1 = k' then W k' ++ [e] else W p.1) ≠ []
        split
        · simp
        · exact L.ne p hp
      · show (if j = k' then W k' ++ [e] else W j) = []
        rw [if_neg (fun z => hj (by rw [z]; exact List.mem_map.mpr ⟨_, ha, rfl⟩))]
        exact L.e j hj
      · have ba : b ≠ a := n2 _ ha hik
        rw [upd_ne ba]
        exact x5 _ _ e
      · by_cases eb : b = a
        · rw [eb, upd_same] at h; cases h
        · rw [upd_ne eb] at h; exact Evl.fresh_back x5 h
    · -- new
      have hm : k ∉ ls.map (·.1) := fun z => by
        obtain ⟨⟨k', a⟩, ha, rfl⟩ := List.mem_map.mp z
        rw [lkv_some L.nk ha] at hv
        cases hv
      have e0 := L.e k hm
      have pla : p ≠ la := fun z => by rw [z, hd4] at hp4; cases hp4
      rw [putK_new _ hv]
      have t4 : TS H4 (upd H4 la (.dK (lkv ls ++ [(.inl (k : Int), .ref p)]))) := TS.mut hd4 (fun _ z => nomatch z)
      have hp5 : (upd H4 la (.dK (lkv ls ++ [(.inl (k : Int), .ref p)]))) p = some (.lst []) := by rw [upd_ne pla]; exact hp4
      refine ⟨.inl ⟨rfl, [], SqL.of hp5⟩, he _ ((TS.ex x4).trans t4) _ (Ex.refl _) _ fun w H6 z6 iw => ⟨p, [], w, rfl, rfl, z6 _ _ hp5, by decide, ?_⟩⟩
      have hd6 : H6 la = some (.dK (lkv ls ++ [(.inl (k : Int), .ref p)])) := z6 _ _ upd_same
      have t6 : TS H6 (upd H6 p (.lst ([] ++ [w]))) := TS.mut (z6 _ _ hp5) (fun _ z => nomatch z)
      have get : ∀ b o, b ≠ la → b ≠ p → H b = some o → (upd H6 p (.lst ([] ++ [w]))) b = some o := fun b o n1 n2 e => by
        rw [upd_ne n2]
        refine z6 _ _ ?_
        rw [upd_ne n1]
        exact x4 _ _ e
      refine kk _ (ls ++ [(k, p)]) ⟨?_, ?_, ?_, fun r hr => ?_, fun r hr => ?_, fun j hj => ?_⟩ ⟨fun r hr => ?_, fun r hr => List.mem_append.mpr (.inl hr), fun b o n1 n2 e => ?_, fun b h => ?_⟩ (by simp)
      · rw [upd_ne pla.symm, hd6]
        unfold lkv
        rw [List.map_append]
        rfl
      · rw [List.map_append, List.nodup_append]
        refine ⟨L.nk, by simp, fun a ha b hb e => ?_⟩
        have : b = k := by simpa using hb
        rw [e, this] at ha
        exact hm ha
      · rw [List.map_append, List.nodup_append]
        refine ⟨L.na, by simp, fun a ha b hb e => ?_⟩
        have : b = p := by simpa using hb
        obtain ⟨r, hr, e2⟩ := List.mem_map.mp ha
        obtain ⟨us, hu, _⟩ := L.l r hr
        rw [e2, e, this, hp0] at hu
        cases hu
      · rcases List.mem_append.mp hr with h | h
        · obtain ⟨us, hu, iu⟩ := L.l r h
          have n1 : r.2 ≠ la := fun z => by rw [z, L.d] at hu; cases hu
          have n2 : r.2 ≠ p := ne_of_none hu hp0
          have n3 : ¬ r.1 = k := fun z => hm (by rw [← z]; exact List.mem_map.mpr ⟨r, h, rfl⟩)
          rw [if_neg n3]
          exact ⟨us, get _ _ n1 n2 hu, (((iu.ex x4).ts t4).ex z6).ts t6⟩
        · obtain rfl := List.mem_singleton.mp h
          rw [if_pos rfl, e0]
          exact ⟨_, upd_same, iml_cons (iw.ts t6) iml_nil⟩
      · show (if r.1 = k then W k ++ [e] else W r.1) ≠ []
        split
        · simp
        · rcases List.mem_append.mp hr with h | h
          · exact L.ne r h
          · rename_i n3
            exact absurd (by rw [List.mem_singleton.mp h]) n3
      · rw [List.map_append, List.mem_append, not_or] at hj
        show (if j = k then W k ++ [e] else W j) = []
        rw [if_neg (fun z => hj.2 (by rw [z]; simp))]
        exact L.e j hj.1
      · rcases List.mem_append.mp hr with h | h
        · exact .inl h
        · obtain rfl := List.mem_singleton.mp h
          exact .inr hp0
      · exact get b o n1 (ne_of_none e hp0) e
      · by_cases eb : b = p
        · rw [eb, upd_same] at h; cases h
        · rw [upd_ne eb] at h
          have h6 := Evl.fresh_back z6 h
          by_cases el : b = la
          · rw [el, upd_same] at h6; cases h6
          · rw [upd_ne el] at h6; exact Evl.fresh_back x4 h6⟩⟩
end
section
variable {K : PySem.W.Frag} {σ : L2.St} {H : Hp} {te : TE} {ds : List D} {De : Ends} {tu ty : L2.TS}
/-- for .. in new list, whatever else changes -/
theorem q_forDg {g : TG} (h : DL te σ H ds) (Pv : Hp → Nat → St → Hp → Prop) (h0 : ∀ H1, Ex H H1 → Pv H1 0 σ H1) (hk : ∀ p us H1 n σ' H', H p = none → Ex H H1 → H1 p = some (.lst us) → Pv H1 n σ' H' → TS H1 H' ∧ H' p = some (.lst us))
    (hs : ∀ H1 n d v σ' H', Ex H H1 → ds[n]? = some d → Pv H1 n σ' H' → Im H' d v → g v σ' H' fun σ2 H2 => tu { De with nx := Pv H1 (n + 1), ct := Pv H1 (n + 1), bk := ty De } σ2 H2)
    (hd : ∀ H1 σ' H', Ex H H1 → Pv H1 ds.length σ' H' → ty De σ' H') : tSeq (tFor (iList K te) g tu) ty De σ H :=
  h H (Ex.refl _) _ fun a us H1 ha x hA hl => by
    refine ⟨a, rfl, ⟨us, SqL.of hA⟩, ?_⟩
    refine for_it (walk_list (K := K) (a := a) (xs := us)) (Pv H1) (h0 H1 x) (fun n σ' H' _ p => SqL.of (hk a us H1 n σ' H' ha x hA p).2) ?_ (by rw [hl.length]; exact fun σ' H' p => hd H1 σ' H' x p)
    rintro n y σ' H' H'' hn p ⟨rfl, hy⟩
    obtain ⟨d, hd', im⟩ := hl.back hy
    exact hs H1 n d y σ' _ x hd' p (im.ts (hk a us H1 n σ' _ ha x hA p).1)
end
section
variable {E : Type} {K : PySem.W.Frag} {σ : L2.St} {H : Hp} {la : Addr} {ls : List (Nat × Addr)} {enc : E → D} {W : Nat → List E} {i : Nat} {td ti : TE} {De : Ends} {tu ty : L2.TS} {g : TG}
/-- for .. in lines.get(i, []) -/
theorem q_forGet {te : TE} (h : ∀ H1, Ex H H1 → ∀ Q : VK, (∀ a us H2, Ex H1 H2 → H2 a = some (.lst us) → ImL H2 ((W i).map enc) us → ((i, a) ∈ ls ∨ (H1 a = none ∧ W i = [])) → Q (.ref a) H2) → te σ H1 Q) (Pv : Addr → List V → Hp → Nat → St → Hp → Prop)
    (h0 : ∀ al us H4, Ex H H4 → H4 al = some (.lst us) → ImL H4 ((W i).map enc) us → ((i, al) ∈ ls ∨ (H al = none ∧ W i = [])) → Pv al us H4 0 σ H4) (hl : ∀ al us H4 n σ' H', Pv al us H4 n σ' H' → H' al = some (.lst us))
    (hs : ∀ al us H4 n e v σ' H', Ex H H4 → H4 al = some (.lst us) → (W i)[n]? = some e → Pv al us H4 n σ' H' → Im H4 (enc e) v → g v σ' H' fun σ2 H2 => tu { De with nx := Pv al us H4 (n + 1), ct := Pv al us H4 (n + 1), bk := ty De } σ2 H2)
    (hd : ∀ al us H4 σ' H', Ex H H4 → Pv al us H4 (W i).length σ' H' → ty De σ' H') : tSeq (tFor (iList K te) g tu) ty De σ H :=
  h H (Ex.refl _) _ fun al us H4 x4 hal ial fresh => ⟨al, rfl, ⟨us, SqL.of hal⟩, by
    refine for_it (walk_list (K := K) (a := al) (xs := us)) (Pv al us H4) (h0 al us H4 x4 hal ial fresh) (fun n σ' H' _ p => SqL.of (hl al us H4 n σ' H' p)) ?_ (by rw [ial.length, List.length_map]; exact fun σ' H' p => hd al us H4 σ' H' x4 p)
    rintro n v σ' H5 H5' hn p ⟨rfl, hv⟩
    obtain ⟨d, hd', im⟩ := ial.back hv
    obtain ⟨e, he, rfl⟩ : ∃ e, (W i)[n]? = some e ∧ enc e = d := by simpa using hd'
    exact hs al us H4 n e v σ' _ x4 hal he p im⟩
end
end Fk

set_option Elab.async false
set_option linter.all false
/-! the search by levels, told of sets of pairs -/
namespace Fk
open PySem
/-- what stands at a pair's move -/
def Tg (Pl : Plan) (p : Pair) (c : Nat) (q : Pair) : Prop := ∃ m ∈ Pl.moves p, m.cost = c ∧ m.q = q
/-- found before level i; waiting for level k -/
def lv (Pl : Plan) : Nat → (Pair → Prop) × (Nat → Pair → Prop)
  | 0 => (fun _ => False, fun k p => k = 0 ∧ p = (Pl.first, Pl.first))
  | i + 1 => (fun p => (lv Pl i).1 p ∨ (lv Pl i).2 i p, fun k q => (lv Pl i).2 k q ∨ ∃ p c, (lv Pl i).2 i p ∧ ¬ (lv Pl i).1 p ∧ Tg Pl p c q ∧ k = i + c)
abbrev Fs (Pl : Plan) (i : Nat) (p : Pair) : Prop := (lv Pl i).1 p
abbrev Ws (Pl : Plan) (i k : Nat) (p : Pair) : Prop := (lv Pl i).2 k p
section
variable {Pl : Plan} {i j k c : Nat} {p q : Pair}
theorem fs_succ : Fs Pl (i + 1) p ↔ Fs Pl i p ∨ Ws Pl i i p := Iff.rfl
theorem ws_succ : Ws Pl (i + 1) k q ↔ Ws Pl i k q ∨ ∃ p c, Ws Pl i i p ∧ ¬ Fs Pl i p ∧ Tg Pl p c q ∧ k = i + c := Iff.rfl
theorem fs_mono (h : i ≤ j) (f : Fs Pl i p) : Fs Pl j p := by
  induction h with
  | refl => exact f
  | step _ ih => exact .inl ih
theorem mem_moves {m : Mv} : m ∈ Pl.moves p ↔ (∃ x ∈ Pl.I.L, (Pl.step p.1 x).key = none ∧ m = ⟨some x, none, ((Pl.step p.1 x).leg, p.2), (Pl.step p.1 x).made, none⟩) ∨
    (∃ x ∈ Pl.I.L, (Pl.step p.2 x).key = none ∧ m = ⟨none, some x, (p.1, (Pl.step p.2 x).leg), none, (Pl.step p.2 x).made⟩) ∨
    ∃ x ∈ Pl.I.L, ∃ y ∈ Pl.I.L, (Pl.step p.1 x).key ≠ none ∧ (Pl.step p.2 y).key = (Pl.step p.1 x).key ∧ m = ⟨some x, some y, ((Pl.step p.1 x).leg, (Pl.step p.2 y).leg), (Pl.step p.1 x).made, (Pl.step p.2 y).made⟩ := by
  unfold Plan.moves
  rw [List.mem_append, List.mem_append, or_assoc, List.mem_map, List.mem_map, List.mem_flatMap]
  refine or_congr ?_ (or_congr ?_ ?_)
  · constructor
    · rintro ⟨x, hx, rfl⟩
      rw [List.mem_filter] at hx
      exact ⟨x, hx.1, by simpa using hx.2, rfl⟩
    · rintro ⟨x, hx, hk, rfl⟩
      exact ⟨x, List.mem_filter.mpr ⟨hx, by simpa using hk⟩, rfl⟩
  · constructor
    · rintro ⟨x, hx, rfl⟩
      rw [List.mem_filter] at hx
      exact ⟨x, hx.1, by simpa using hx.2, rfl⟩
    · rintro ⟨x, hx, hk, rfl⟩
      exact ⟨x, List.mem_filter.mpr ⟨hx, by simpa using hk⟩, rfl⟩
  · constructor
    · rintro ⟨x, hx, hm⟩
      rw [List.mem_filter] at hx
      obtain ⟨y, hy, rfl⟩ := List.mem_map.mp hm
      rw [List.mem_filter] at hy
      refine ⟨x, hx.1, y, hy.1, ?_, by simpa using hy.2, rfl⟩
      intro z
      have := hx.2
      rw [z] at this
      cases this
    · rintro ⟨x, hx, y, hy, hn, hk, rfl⟩
      refine ⟨x, List.mem_filter.mpr ⟨hx, ?_⟩, List.mem_map.mpr ⟨y, List.mem_filter.mpr ⟨hy, by simpa using hk⟩, rfl⟩⟩
      cases h : (Pl.step p.1 x).key with
      | none => exact absurd h hn
      | some z => rfl
theorem mem_movesL {m : Mv} : m ∈ Pl.movesL p ↔ m ∈ Pl.moves p := by
  rw [mem_moves]
  unfold Plan.movesL
  rw [List.mem_append, List.mem_flatMap, List.mem_map]
  constructor
  · rintro (⟨x, hx, hm⟩ | ⟨x, hx, rfl⟩)
    · cases h : (Pl.step p.1 x).key with
      | none =>
        rw [h] at hm
        exact .inl ⟨x, hx, h, List.mem_singleton.mp hm⟩
      | some z =>
        rw [h] at hm
        obtain ⟨y, hy, rfl⟩ := List.mem_map.mp hm
        rw [List.mem_filter] at hy
        exact .inr (.inr ⟨x, hx, y, hy.1, by rw [h]; simp, by rw [h]; simpa using hy.2, rfl⟩)
    · rw [List.mem_filter] at hx
      exact .inr (.inl ⟨x, hx.1, by simpa using hx.2, rfl⟩)
  · rintro (⟨x, hx, h, rfl⟩ | ⟨x, hx, h, rfl⟩ | ⟨x, hx, y, hy, hn, hk, rfl⟩)
    · exact .inl ⟨x, hx, by rw [h]; exact List.mem_singleton.mpr rfl⟩
    · exact .inr ⟨x, List.mem_filter.mpr ⟨hx, by simpa using h⟩, rfl⟩
    · refine .inl ⟨x, hx, ?_⟩
      cases h : (Pl.step p.1 x).key with
      | none => exact absurd h hn
      | some z =>
        rw [h] at hk
        exact List.mem_map.mpr ⟨y, List.mem_filter.mpr ⟨hy, by simpa using hk⟩, rfl⟩
theorem tgL : Tg Pl p c q ↔ ∃ m ∈ Pl.movesL p, m.cost = c ∧ m.q = q := by
  unfold Tg
  constructor
  · rintro ⟨m, h, r⟩; exact ⟨m, mem_movesL.mpr h, r⟩
  · rintro ⟨m, h, r⟩; exact ⟨m, mem_movesL.mp h, r⟩
theorem cost_rng {m : Mv} (h : m ∈ Pl.moves p) : 1 ≤ m.cost ∧ m.cost ≤ 2 := by
  rcases mem_moves.mp h with ⟨x, _, _, rfl⟩ | ⟨x, _, _, rfl⟩ | ⟨x, _, y, _, _, _, rfl⟩ <;> simp [Mv.cost, ot]
theorem tg_rng (h : Tg Pl p c q) : 1 ≤ c ∧ c ≤ 2 := by
  obtain ⟨m, hm, rfl, _⟩ := h
  exact cost_rng hm
theorem moves_len (h : Pl.I.L.length ≤ 4) : (Pl.moves p).length ≤ 24 := by
  unfold Plan.moves
  rw [List.length_append, List.length_append, List.length_map, List.length_map]
  have h1 := List.length_filter_le (fun x => (Pl.step p.1 x).key.isNone) Pl.I.L
  have h2 := List.length_filter_le (fun x => (Pl.step p.2 x).key.isNone) Pl.I.L
  have h3 : ∀ l : List Nat, (l.flatMap fun x => (Pl.I.L.filter fun y => decide ((Pl.step p.2 y).key = (Pl.step p.1 x).key)).map fun y => (⟨some x, some y, ((Pl.step p.1 x).leg, (Pl.step p.2 y).leg), (Pl.step p.1 x).made, (Pl.step p.2 y).made⟩ : Mv)).length ≤ 4 * l.length := by
    intro l
    induction l with
    | nil => simp
    | cons x r ih =>
      rw [List.flatMap_cons, List.length_append, List.length_map, List.length_cons]
      have := List.length_filter_le (fun y => decide ((Pl.step p.2 y).key = (Pl.step p.1 x).key)) Pl.I.L
      omega
  have h4 := List.length_filter_le (fun x => (Pl.step p.1 x).key.isSome) Pl.I.L
  have h5 := h3 (Pl.I.L.filter fun x => (Pl.step p.1 x).key.isSome)
  omega
theorem fm_len {f : Nat → List Mv} (h : ∀ x, (f x).length ≤ 4) : ∀ l : List Nat, (l.flatMap f).length ≤ 4 * l.length
  | [] => by simp
  | x :: r => by
    rw [List.flatMap_cons, List.length_append, List.length_cons]
    have := h x
    have := fm_len h r
    omega
theorem movesL_len (h : Pl.I.L.length ≤ 4) : (Pl.movesL p).length ≤ 24 := by
  unfold Plan.movesL
  rw [List.length_append, List.length_map]
  have h1 := List.length_filter_le (fun x => (Pl.step p.2 x).key.isNone) Pl.I.L
  refine Nat.le_trans (Nat.add_le_add (fm_len (fun x => ?_) Pl.I.L) h1) (by omega)
  split
  · simp
  · rw [List.length_map]; exact Nat.le_trans (List.length_filter_le _ _) h
/-! swapped -/
theorem tg_swap (h : Tg Pl p c q) : Tg Pl p.swap c q.swap := by
  obtain ⟨m, hm, rfl, rfl⟩ := h
  rcases mem_moves.mp hm with ⟨x, hx, hk, rfl⟩ | ⟨x, hx, hk, rfl⟩ | ⟨x, hx, y, hy, hn, hk, rfl⟩
  · exact ⟨_, mem_moves.mpr (.inr (.inl ⟨x, hx, hk, rfl⟩)), rfl, rfl⟩
  · exact ⟨_, mem_moves.mpr (.inl ⟨x, hx, hk, rfl⟩), rfl, rfl⟩
  · exact ⟨_, mem_moves.mpr (.inr (.inr ⟨y, hy, x, hx, by show (Pl.step p.2 y).key ≠ none; rw [hk]; exact hn, hk.symm, rfl⟩)), rfl, rfl⟩
theorem lv_swap : ∀ (i : Nat), (∀ p, Fs Pl i p → Fs Pl i p.swap) ∧ ∀ k p, Ws Pl i k p → Ws Pl i k p.swap
  | 0 => ⟨fun _ h => h, fun k p ⟨h1, h2⟩ => ⟨h1, by rw [h2]; rfl⟩⟩
  | i + 1 => by
    obtain ⟨f, w⟩ := lv_swap i
    refine ⟨fun p h => h.elim (fun h => .inl (f p h)) fun h => .inr (w i p h), fun k q h => ?_⟩
    rcases h with h | ⟨p, c, h1, h2, h3, h4⟩
    · exact .inl (w k q h)
    · exact .inr ⟨p.swap, c, w i p h1, fun z => h2 (by simpa using f _ z), tg_swap h3, h4⟩
/-! all are legs -/
def PairOk (Pl : Plan) (p : Pair) : Prop := LegOk Pl p.1 ∧ LegOk Pl p.2
end
/-! runs -/
def Alive (Pl : Plan) (j : Nat) : Prop := ∃ k q, j ≤ k ∧ Ws Pl j k q
def Few (Pl : Plan) (j : Nat) : Prop := ∃ l : List Pair, l.Nodup ∧ (∀ p, p ∈ l ↔ Fs Pl j p) ∧ l.length ≤ 400
def EndsAt (Pl : Plan) (i : Nat) : Prop := (∀ j, j < i → Alive Pl j ∧ Few Pl (j + 1)) ∧ ¬ Alive Pl i
def BigsAt (Pl : Plan) (i : Nat) : Prop := (∀ j, j < i → Alive Pl j ∧ Few Pl (j + 1)) ∧ Alive Pl i ∧ ¬ Few Pl (i + 1)
section
variable {Pl : Plan} {i j k c : Nat} {p q : Pair}
theorem few_iff {l : List Pair} (n : l.Nodup) (h : ∀ p, p ∈ l ↔ Fs Pl j p) : Few Pl j ↔ l.length ≤ 400 := by
  constructor
  · rintro ⟨m, nm, hm, z⟩
    exact Nat.le_trans (nd_sub n fun p hp => (hm p).mpr ((h p).mp hp)) z
  · exact fun z => ⟨l, n, h, z⟩
theorem ends_one (h : EndsAt Pl i) (g : EndsAt Pl j) : i = j := by
  rcases Nat.lt_trichotomy i j with z | z | z
  · exact absurd (g.1 i z).1 h.2
  · exact z
  · exact absurd (h.1 j z).1 g.2
theorem ends_bigs (h : EndsAt Pl i) (g : BigsAt Pl j) : False := by
  rcases Nat.lt_trichotomy i j with z | z | z
  · exact h.2 (g.1 i z).1
  · subst z; exact h.2 g.2.1
  · exact g.2.2 (h.1 j z).2
theorem ends_pos (h : EndsAt Pl i) : 1 ≤ i := by
  cases i with
  | zero => exact absurd ⟨0, _, Nat.le_refl _, rfl, rfl⟩ h.2
  | succ n => omega
theorem first_in (h : EndsAt Pl i) : Fs Pl i (Pl.first, Pl.first) := fs_mono (ends_pos h) (.inr ⟨rfl, rfl⟩)
theorem closing : ∀ (i : Nat) (p q : Pair) (c : Nat), Fs Pl i p → Tg Pl p c q → Fs Pl i q ∨ ∃ k, i ≤ k ∧ Ws Pl i k q
  | 0, _, _, _, h, _ => h.elim
  | i + 1, p, q, c, h, t => by
    have up : (Fs Pl i q ∨ ∃ k, i ≤ k ∧ Ws Pl i k q) → Fs Pl (i + 1) q ∨ ∃ k, i + 1 ≤ k ∧ Ws Pl (i + 1) k q := by
      rintro (z | ⟨k, hk, z⟩)
      · exact .inl (.inl z)
      · by_cases e : k = i
        · subst e; exact .inl (.inr z)
        · exact .inr ⟨k, by omega, .inl z⟩
    by_cases hf : Fs Pl i p
    · exact up (closing i p q c hf t)
    · rcases h with h | h
      · exact absurd h hf
      · exact .inr ⟨i + c, by have := (tg_rng t).1; omega, .inr ⟨p, c, h, hf, t, rfl⟩⟩
theorem closed (h : EndsAt Pl i) (f : Fs Pl i p) (t : Tg Pl p c q) : Fs Pl i q := by
  rcases closing i p q c f t with z | ⟨k, hk, z⟩
  · exact z
  · exact absurd ⟨k, q, hk, z⟩ h.2
/-- the level of a pair -/
def LevelOf (Pl : Plan) (p : Pair) (j : Nat) : Prop := Fs Pl (j + 1) p ∧ ¬ Fs Pl j p
theorem level_one (h : LevelOf Pl p i) (g : LevelOf Pl p j) : i = j := by
  rcases Nat.lt_trichotomy i j with z | z | z
  · exact absurd (fs_mono z h.1) g.2
  · exact z
  · exact absurd (fs_mono z g.1) h.2
theorem level_swap (h : LevelOf Pl p j) : LevelOf Pl p.swap j := ⟨(lv_swap (j + 1)).1 p h.1, fun z => h.2 (by simpa using (lv_swap j).1 _ z)⟩
end
end Fk

set_option Elab.async false
set_option linter.all false
/-! legs by values; all pairs are legs; keys tell pairs -/
namespace Fk
open PySem
theorem LegOk.pair {Pl : Plan} (h : PlanOk Pl) {p : Pair} (hp : PairOk Pl p) {m : Mv} (hm : m ∈ Pl.moves p) : PairOk Pl m.q := by
  rcases mem_moves.mp hm with ⟨x, hx, _, rfl⟩ | ⟨x, hx, _, rfl⟩ | ⟨x, hx, y, hy, _, _, rfl⟩
  · exact ⟨hp.1.step h hx, hp.2⟩
  · exact ⟨hp.1, hp.2.step h hx⟩
  · exact ⟨hp.1.step h hx, hp.2.step h hy⟩
theorem lv_ok {Pl : Plan} (h : PlanOk Pl) : ∀ i, (∀ p, Fs Pl i p → PairOk Pl p) ∧ ∀ k p, Ws Pl i k p → PairOk Pl p
  | 0 => ⟨fun _ z => z.elim, fun k p ⟨_, e⟩ => by rw [e]; exact ⟨LegOk.first h, LegOk.first h⟩⟩
  | i + 1 => by
    obtain ⟨f, w⟩ := lv_ok h i
    refine ⟨fun p z => z.elim (f p) (w i p), fun k q z => ?_⟩
    rcases z with z | ⟨p, c, h1, _, ⟨m, hm, _, rfl⟩, _⟩
    · exact w k q z
    · exact LegOk.pair h (w i p h1) hm
theorem nums_inj : ∀ {S T : List Int}, S.map NestedKey.num = T.map NestedKey.num → S = T
  | [], [], _ => rfl
  | [], _ :: _, e => nomatch e
  | _ :: _, [], e => nomatch e
  | a :: S, b :: T, e => by
    rw [List.map_cons, List.map_cons] at e
    have h := List.cons.inj e
    rw [NestedKey.num.inj h.1, nums_inj h.2]
theorem st_inj {c : Cond} {s t : StT} (hs : StOk c s) (ht : StOk c t) (e : s.d = t.d) : s = t := by
  cases c with
  | eq p =>
    cases s <;> cases t <;> try exact hs.elim
    all_goals try exact ht.elim
    exact congrArg StT.n (NestedKey.num.inj e)
  | be p =>
    cases s <;> cases t <;> try exact hs.elim
    all_goals try exact ht.elim
    exact congrArg StT.n (NestedKey.num.inj e)
  | btw p q =>
    cases s <;> cases t <;> try exact hs.elim
    all_goals try exact ht.elim
    have h := NestedKey.tup.inj e
    have h1 := List.cons.inj h
    have h2 := List.cons.inj h1.2
    rw [NestedKey.num.inj h1.1, NestedKey.num.inj h2.1]
  | lk p =>
    cases s <;> cases t <;> try exact hs.elim
    all_goals try exact ht.elim
    rw [nums_inj (NestedKey.tup.inj e)]
theorem leg_inj {Pl : Plan} {g h : Leg} (hg : LegOk Pl g) (hh : LegOk Pl h) (e : g.d = h.d) : g = h := by
  have h1 := List.cons.inj (NestedKey.tup.inj e)
  have h2 := List.cons.inj h1.2
  have h3 := List.cons.inj h2.2
  cases g
  cases h
  have e1 := Int.ofNat.inj (NestedKey.num.inj h1.1)
  have e2 := Int.ofNat.inj (NestedKey.num.inj h2.1)
  have e3 := st_inj hg.st hh.st h3.1
  simp only at e1 e2 e3
  rw [e1, e2, e3]
theorem pair_inj {Pl : Plan} {p q : Pair} (hp : PairOk Pl p) (hq : PairOk Pl q) (e : pairD p = pairD q) : p = q := by
  have h1 := List.cons.inj (NestedKey.tup.inj e)
  have h2 := List.cons.inj h1.2
  exact Prod.ext (leg_inj hp.1 hq.1 h1.1) (leg_inj hp.2 hq.2 h2.1)
theorem leg_shape (g : Leg) : ntx g.d = true ∧ g.d.depth ≤ 2 := by
  have h := StT.ntx g.st
  constructor
  · simp [Leg.d, ntx, ntxL, h.1]
  · simp only [Leg.d, NestedKey.depth, NestedKey.depthAll]
    have := h.2
    omega
theorem pair_shape (p : Pair) : ntx (pairD p) = true ∧ (pairD p).depth ≤ 3 := by
  have h1 := leg_shape p.1
  have h2 := leg_shape p.2
  constructor
  · simp [pairD, ntx, ntxL, h1.1, h2.1]
  · simp only [pairD, NestedKey.depth, NestedKey.depthAll]
    have := h1.2; have := h2.2
    omega
/-! ### legs by values -/
def legOf (Pl : Plan) (l : Tx) : Leg := ⟨(Pl.I.ends l).1, (Pl.M.ends l).1, readS Pl.I.L Pl.c (Pl.M.ends l).2⟩
theorem legOf_nil (Pl : Plan) : legOf Pl [] = Pl.first := rfl
theorem readS_ot {L : Tx} {c : Cond} {l : Tx} {o : Option Nat} : readS L c (l ++ ot o) = match o with | none => readS L c l | some y => nextS L c (readS L c l) y := by
  unfold readS
  rw [List.foldl_append]
  cases o <;> rfl
theorem legOf_snoc (Pl : Plan) (l : Tx) (x : Nat) : legOf Pl (l ++ [x]) = (Pl.step (legOf Pl l) x).leg ∧ (Pl.I.ends (l ++ [x])).2 = (Pl.I.ends l).2 ++ ot (Pl.step (legOf Pl l) x).key := by
  unfold legOf
  rw [Mac.ends_snoc, Mac.ends_snoc, readS_ot]
  exact ⟨rfl, rfl⟩
abbrev Ent := Pair × Tx × Tx
structure Valid (Pl : Plan) (e : Ent) : Prop where
  at_ : e.1 = (legOf Pl e.2.1, legOf Pl e.2.2)
  key : (Pl.I.ends e.2.1).2 = (Pl.I.ends e.2.2).2
  l1 : ∀ x ∈ e.2.1, x ∈ Pl.I.L
  l2 : ∀ x ∈ e.2.2, x ∈ Pl.I.L
def Ent.size (e : Ent) : Nat := e.2.1.length + e.2.2.length
def Ent.then_ (e : Ent) (m : Mv) : Ent := (m.q, e.2.1 ++ ot m.r1, e.2.2 ++ ot m.r2)
theorem Valid.first (Pl : Plan) : Valid Pl ((Pl.first, Pl.first), [], []) := ⟨rfl, rfl, fun _ h => (nomatch h), fun _ h => (nomatch h)⟩
theorem Valid.next {Pl : Plan} {e : Ent} (h : Valid Pl e) {m : Mv} (hm : m ∈ Pl.moves e.1) : Valid Pl (Ent.then_ e m) := by
  obtain ⟨p, a, b⟩ := e
  obtain ⟨h1, h2, h3, h4⟩ := h
  simp only at h1 h2 h3 h4 hm
  subst h1
  rcases mem_moves.mp hm with ⟨x, hx, hk, rfl⟩ | ⟨x, hx, hk, rfl⟩ | ⟨x, hx, y, hy, hn, hk, rfl⟩
  · obtain ⟨e1, e2⟩ := legOf_snoc Pl a x
    refine ⟨?_, ?_, ?_, ?_⟩
    · show ((Pl.step (legOf Pl a) x).leg, legOf Pl b) = (legOf Pl (a ++ [x]), legOf Pl (b ++ []))
      rw [e1, List.append_nil]
    · show (Pl.I.ends (a ++ [x])).2 = (Pl.I.ends (b ++ [])).2
      rw [e2, List.append_nil, show (Pl.step (legOf Pl a) x).key = none from hk, ← h2]
      exact List.append_nil _
    · intro z hz
      rcases List.mem_append.mp hz with hz | hz
      · exact h3 z hz
      · rw [List.mem_singleton.mp hz]; exact hx
    · intro z hz
      rcases List.mem_append.mp hz with hz | hz
      · exact h4 z hz
      · exact nomatch hz
  · obtain ⟨e1, e2⟩ := legOf_snoc Pl b x
    refine ⟨?_, ?_, ?_, ?_⟩
    · show (legOf Pl a, (Pl.step (legOf Pl b) x).leg) = (legOf Pl (a ++ []), legOf Pl (b ++ [x]))
      rw [e1, List.append_nil]
    · show (Pl.I.ends (a ++ [])).2 = (Pl.I.ends (b ++ [x])).2
      rw [e2, List.append_nil, show (Pl.step (legOf Pl b) x).key = none from hk, h2]
      exact (List.append_nil _).symm
    · intro z hz
      rcases List.mem_append.mp hz with hz | hz
      · exact h3 z hz
      · exact nomatch hz
    · intro z hz
      rcases List.mem_append.mp hz with hz | hz
      · exact h4 z hz
      · rw [List.mem_singleton.mp hz]; exact hx
  · obtain ⟨e1, e2⟩ := legOf_snoc Pl a x
    obtain ⟨e3, e4⟩ := legOf_snoc Pl b y
    refine ⟨?_, ?_, ?_, ?_⟩
    · show ((Pl.step (legOf Pl a) x).leg, (Pl.step (legOf Pl b) y).leg) = (legOf Pl (a ++ [x]), legOf Pl (b ++ [y]))
      rw [e1, e3]
    · show (Pl.I.ends (a ++ [x])).2 = (Pl.I.ends (b ++ [y])).2
      rw [e2, e4, h2, show (Pl.step (legOf Pl b) y).key = (Pl.step (legOf Pl a) x).key from hk]
    · intro z hz
      rcases List.mem_append.mp hz with hz | hz
      · exact h3 z hz
      · rw [List.mem_singleton.mp hz]; exact hx
    · intro z hz
      rcases List.mem_append.mp hz with hz | hz
      · exact h4 z hz
      · rw [List.mem_singleton.mp hz]; exact hy
theorem then_size (e : Ent) (m : Mv) : Ent.size (Ent.then_ e m) = Ent.size e + m.cost := by
  unfold Ent.size Ent.then_ Mv.cost
  simp only [List.length_append]
  omega
end Fk

set_option Elab.async false
set_option linter.all false
set_option maxRecDepth 100000
set_option maxHeartbeats 4000000
/-! Legs.note -/
namespace Fk
open PySem PySem.Spec PyProof.Rows L2 He
open Evl (Ex Ev EvT EvL EvA ev_andV ev_orV ev_notV et_and et_or et_not)
def encE (e : Ent) : D := .tup [pairD e.1, tx e.2.1, tx e.2.2]
/-- what the moves of e push -/
structure Push (mv : List Mv) (e : Ent) (W W' : Nat → List Ent) : Prop where
  mem : ∀ k x, x ∈ W' k ↔ x ∈ W k ∨ ∃ m ∈ mv, k = Ent.size e + m.cost ∧ x = Ent.then_ e m
  len : ∀ k, (W' k).length ≤ (W k).length + mv.length
  low : ∀ k, k ≤ Ent.size e → W' k = W k
theorem LegsAt.stp {K : PySem.W.Frag} {H H' : Hp} {a la : Addr} {Pl : Plan} {E : Type} {enc : E → D} {W : Nat → List E} {i : Nat} {ls ls' : List (Nat × Addr)} (s : Stp i la H ls H' ls') (L : LinesAt H la ls enc W) (m : LegsAt K H a Pl) : LegsAt K H' a Pl := by
  have ts := s.ts L
  have keep : ∀ b o, H b = some o → (∀ kvs, o ≠ .dK kvs) → (∀ us, o ≠ .lst us) → H' b = some o := fun b o e n1 n2 => s.stay b o (fun z => by rw [z, L.d] at e; exact n1 _ (Option.some.inj e).symm) (fun p hp _ z => by
    obtain ⟨us, hu, _⟩ := L.l p hp
    rw [z, hu] at e
    exact n2 us (Option.some.inj e).symm) e
  have slt : ∀ {a C dx : Addr} {vs : List (Option V)}, SlX.Slt H a C dx vs → SlX.Slt H' a C dx vs := fun h => h.imp (fun z => ⟨keep _ _ z.1 (fun _ z => nomatch z) (fun _ z => nomatch z), z.2⟩) (fun z => ⟨keep _ _ z.1 (fun _ q => by unfold SlX.SlO at q; cases q) (fun _ q => by unfold SlX.SlO at q; cases q), keep _ _ z.2 (fun _ z => nomatch z) (fun _ z => nomatch z)⟩)
  obtain ⟨ok, dx, c, ka, ma, sl, i1, ⟨o1, dx1, v1, u1, s1, j1, j2⟩, o2, dx2, v2, u2, s2, l1, l2⟩ := m
  exact ⟨ok, dx, c, ka, ma, slt sl, i1.ts ts, ⟨o1, dx1, v1, u1, slt s1, j1.ts ts, j2.ts ts⟩, o2, dx2, v2, u2, slt s2, l1.ts ts, l2.ts ts⟩
section
variable {P : Program} {w : World} {K : PySem.W.Frag} {mg : Str → Option Value} {base : Heap}
abbrev sp_Legs_note (K : PySem.W.Frag) : Sp := fun vs H Q _ => ∃ a Pl la ls W e v1 v2 v3, vs = [.ref a, .ref la, v1, v2, v3] ∧ LegsAt K H a Pl ∧ LinesAt H la ls encE W ∧ PairOk Pl e.1 ∧ Im H (pairD e.1) v1 ∧ Im H (tx e.2.1) v2 ∧ Im H (tx e.2.2) v3 ∧
  Ent.size e ≤ 40000 ∧ (∀ k, (W k).length ≤ 900000) ∧ ls.length ≤ 900000 ∧ ∀ H' ls' W', LinesAt H' la ls' encE W' → Stp (Ent.size e) la H ls H' ls' → Push (Pl.moves e.1) e W W' → Q .non H'
theorem sc_Legs_note : FnScope ["self", "lines", "pair", "one", "other", "read", "late", "made", "mine", "theirs"] ["self", "lines", "pair", "one", "other"] (defScope s_Legs_note) := ⟨rfl, rfl, rfl, by decide +kernel, rfl, by decide +kernel, by decide +kernel⟩
theorem ok_Legs_note (T : Txt K mg) : FnR P w K mg base CX0 5 (a_Legs_note K) (sp_Legs_note K) := by
  refine okR T.F_Legs_note sc_Legs_note (fun _ _ _ _ _ _ us hl => match us, hl with | [_, _, _, _, _], _ => rfl) ?_ fun cdv A outer s H vs Q E hr q => ?_
  · rintro vs H Q E ⟨_, _, _, _, _, _, _, _, _, rfl, _⟩
    rfl
  obtain ⟨a, Pl, la, ls, W, e, v1, v2, v3, rfl, m, L, hp, i1, i2, i3, hz, hw, hl, q⟩ := q
  obtain ⟨hP, _⟩ := id m
  refine ⟨_, (pss_one (ps_for PassesOwn.never rfl (show PI _ _ _ (iList K _) from pi_list (SlX.pe_methSl (pv 0) T.c_Legs T.m_Legs_moves (ok_Legs_moves T) (hr.mono (by decide)) pass0 (pa_cons (pv 2) pa_nil))) (show PG _ _ (gTup K 3 _) from pg_tup rfl (pgs_cons (pg_name (i := 5) sc_Legs_note.nd rfl (by first | exact .inl rfl | exact .inr rfl)) (pgs_cons (pg_name (i := 6) sc_Legs_note.nd rfl (by first | exact .inl rfl | exact .inr rfl)) (pgs_cons (pg_name (i := 7) sc_Legs_note.nd rfl (by first | exact .inl rfl | exact .inr rfl)) pgs_nil)))) (pss_one (ps_if (PW.pt (pw_or (pt_cmpR op_notN (show PE _ _ (SlX.tSl K _ _) from SlX.pe_sl (pv 0)) pe_non (by rfl)) (pw_or1 (pt_cmpR op_eq (pe_ix (show IxR _ (rIxT K) from ix_tup) (pv 7) pe_int (fun _ _ => rfl)) (pe_ix (show IxR _ (rIxT K) from ix_tup) (pv 7) pe_int (fun _ _ => rfl)) (by rfl))))) (pss_cons (ps_par (i := 8) (j := 9) rfl sc_Legs_note.nd rfl rfl (by decide) rfl rfl (pa_cons (pe_op op_add_str (pv 3) (pe_ix (show IxR _ (rIxT K) from ix_tup) (pv 5) pe_int (fun _ _ => rfl))) (pa_cons (pe_op op_add_str (pv 4) (pe_ix (show IxR _ (rIxT K) from ix_tup) (pv 5) pe_int (fun _ _ => rfl))) pa_nil)) rfl) (pss_one (ps_expr (pe_bm PySem.F.plainAttrs_list PySem.F.slot_list_append PySem.F.type_list_append mt_append (pe_dsetd (pv 1) (pe_op op_add (pe_callB (id := "len") call_len_str (by rfl) T.n_len (by decide +kernel) (pa_cons (pv 8) pa_nil)) (pe_callB (id := "len") call_len_str (by rfl) T.n_len (by decide +kernel) (pa_cons (pv 9) pa_nil))) (pe_lst pa_nil) ⟨rfl, rfl, rfl, rfl⟩) (pa_cons (pe_tup (pa_cons (pv 6) (pa_cons (pv 8) (pa_cons (pv 9) pa_nil)))) pa_nil))))) pss_nil)))), ?_⟩
  have ml : (Pl.moves e.1).length ≤ 24 := moves_len (let_len hP.i.let_)
  have z2 : e.2.1.length + e.2.2.length ≤ 40000 := hz
  refine s_of (q_forDg (ds := (Pl.moves e.1).map Mv.d) (dl_methG ev_vr m (da_cons (dv_var i1) da_nil) ⟨e.1, rfl, hp.1, hp.2, rfl⟩) (fun H1 n σ' H' => ∃ (ls' : List (Nat × Addr)) (W' : Nat → List Ent) (s5 s6 s7 s8 s9 : Option V), σ' = [some (.ref a), some (.ref la), some v1, some v2, some v3, s5, s6, s7, s8, s9] ∧
    LinesAt H1 la ls encE W ∧ LinesAt H' la ls' encE W' ∧ Stp (Ent.size e) la H1 ls H' ls' ∧ Push ((Pl.moves e.1).take n) e W W' ∧ ls'.length ≤ ls.length + n) ?_ ?_ ?_ ?_)
  · intro H1 x1
    refine ⟨ls, W, _, _, _, _, _, rfl, L.ex x1, L.ex x1, .ex (Ex.refl _), ⟨fun k x => ?_, fun k => Nat.le_add_right _ _, fun k _ => rfl⟩, Nat.le_refl _⟩
    rw [List.take_zero]
    constructor
    · exact .inl
    · rintro (h | ⟨_, h, _⟩)
      · exact h
      · exact nomatch h
  · rintro p us H1 n σ' H' hp0 x1 hp1 ⟨ls', W', _, _, _, _, _, _, L1, L2, s, _, _⟩
    refine ⟨s.ts L1, s.stay _ _ (fun z => ?_) (fun r hr _ z => ?_) hp1⟩
    · rw [z, L.d] at hp0; cases hp0
    · obtain ⟨us, hu, _⟩ := L.l r hr
      rw [z, hu] at hp0; cases hp0
  · rintro H1 n d v σ' H' x1 hd ⟨ls', W', s5, s6, s7, s8, s9, rfl, L1, L2, s, pu, nl⟩ im
    obtain ⟨mv, hm, rfl⟩ : ∃ mv, (Pl.moves e.1)[n]? = some mv ∧ Mv.d mv = d := by simpa using hd
    have hmm := List.mem_of_getElem? hm
    have hn : n < 24 := by
      have := (List.getElem?_eq_some_iff.mp hm).1
      omega
    have cr := cost_rng hmm
    obtain ⟨b, vs, rfl, hb, hvs⟩ := im.tup
    obtain ⟨w1, w2, w3, rfl, k1, k2, k3⟩ := hvs.three
    refine tgt_tup hb rfl (tgt_cons (tgt_cons (tgt_cons tgt_nil))) _ ?_
    have ts1 : TS H H' := (TS.ex x1).trans (s.ts L1)
    have mm : LegsAt K H' a Pl := (m.ex x1).stp s L1
    obtain ⟨_, dx, c, ka, ma, sl, ic, _⟩ := id mm
    have r1 := @ot_len mv.r1
    have r2 := @ot_len mv.r2
    refine s_of (q_if2 (b := true) (et_or (a := true) (b := true) (dt_t (db_is (db_notN (dv_sl ev_vr sl T.c_Legs T.s_Legs_condition ic)) (by rw [Cond.notN]; rfl))) fun z => nomatch z) (fun _ H3 x3 => ?_) fun z => nomatch z)
    refine q_par2 (d := tx (e.2.1 ++ ot mv.r1)) (e := tx (e.2.2 ++ ot mv.r2)) (da_cons (dv_addS (dv_var ((i2.ts ts1).ex x3)) (dv_ix (n := 0) (dv_var (k1.ex x3)) dv_int rfl) (by omega)) (da_cons (dv_addS (dv_var ((i3.ts ts1).ex x3)) (dv_ix (n := 1) (dv_var (k1.ex x3)) dv_int rfl) (by omega)) da_nil)) fun y1 y2 H4 x4 l1 l2 => ?_
    have nk : (e.2.1 ++ ot mv.r1).length + (e.2.2 ++ ot mv.r2).length = Ent.size e + mv.cost := then_size e mv
    have bl : ∀ k, (W' k).length ≤ 900024 := fun k => by
      have h1 := pu.len k
      have h2 := hw k
      rw [List.length_take] at h1
      omega
    refine s_of (q_push (K := K) (e := Ent.then_ e mv) (i := Ent.size e) (k := Ent.size e + mv.cost) ev_vr (dv_is (dv_opI (dv_lenS (dv_var l1) (by rw [List.length_append]; omega)) (dv_lenS (dv_var l2) (by rw [List.length_append]; omega))) (by rw [← Int.natCast_add, nk])) (fun H5 t5 => dv_tup (da_cons (dv_var (((k2.ex x3).ex x4).ts t5)) (da_cons (dv_var (l1.ts t5)) (da_cons (dv_var (l2.ts t5)) da_nil)))) (L2.ex (x3.trans x4)) (by omega) (by have := bl (Ent.size e + mv.cost); omega) (by omega) fun H5 ls5 L5 s5 n5 => ?_)
    refine ⟨ls5, _, _, _, _, _, _, rfl, L1, L5, s.trans ((Stp.ex (x3.trans x4)).trans s5), ⟨fun k x => ?_, fun k => ?_, fun k hk => ?_⟩, by omega⟩
    · rw [take_snoc hm]
      constructor
      · intro h
        have h : x ∈ (if k = Ent.size e + mv.cost then W' (Ent.size e + mv.cost) ++ [Ent.then_ e mv] else W' k) := h
        split at h
        · rename_i ek
          rcases List.mem_append.mp h with h | h
          · rcases (pu.mem _ x).mp h with h | ⟨m2, h1, h2, h3⟩
            · exact .inl (by rw [ek]; exact h)
            · exact .inr ⟨m2, List.mem_append.mpr (.inl h1), by rw [ek]; exact h2, h3⟩
          · exact .inr ⟨mv, List.mem_append.mpr (.inr (List.mem_singleton.mpr rfl)), ek, List.mem_singleton.mp h⟩
        · rcases (pu.mem _ x).mp h with h | ⟨m2, h1, h2, h3⟩
          · exact .inl h
          · exact .inr ⟨m2, List.mem_append.mpr (.inl h1), h2, h3⟩
      · intro h
        show x ∈ (if k = Ent.size e + mv.cost then W' (Ent.size e + mv.cost) ++ [Ent.then_ e mv] else W' k)
        have up : x ∈ W' k → x ∈ (if k = Ent.size e + mv.cost then W' (Ent.size e + mv.cost) ++ [Ent.then_ e mv] else W' k) := fun h => by
          split
          · rename_i ek
            exact List.mem_append.mpr (.inl (by rw [← ek]; exact h))
          · exact h
        rcases h with h | ⟨m2, h1, h2, h3⟩
        · exact up ((pu.mem k x).mpr (.inl h))
        · rcases List.mem_append.mp h1 with h1 | h1
          · exact up ((pu.mem k x).mpr (.inr ⟨m2, h1, h2, h3⟩))
          · obtain rfl := List.mem_singleton.mp h1
            rw [if_pos h2]
            exact List.mem_append.mpr (.inr (List.mem_singleton.mpr h3))
    · have h1 := pu.len k
      have e1 : ((Pl.moves e.1).take (n + 1)).length = ((Pl.moves e.1).take n).length + 1 := by rw [take_snoc hm, List.length_append]; rfl
      rw [e1]
      show (if k = Ent.size e + mv.cost then W' (Ent.size e + mv.cost) ++ [Ent.then_ e mv] else W' k).length ≤ _
      split
      · rename_i ek
        rw [List.length_append, ← ek, List.length_singleton]
        omega
      · omega
    · show (if k = Ent.size e + mv.cost then W' (Ent.size e + mv.cost) ++ [Ent.then_ e mv] else W' k) = W k
      rw [if_neg (by omega)]
      exact pu.low k hk
  · rintro H1 σ' H' x1 ⟨ls', W', s5, s6, s7, s8, s9, rfl, L1, L2, s, pu, nl⟩
    rw [List.length_map, List.take_length] at pu
    exact q H' ls' W' L2 ((Stp.ex x1).trans s) pu
end
end Fk

set_option Elab.async false
set_option linter.all false
/-! the search as it runs: lists of found and waiting things -/
namespace Fk
open PySem
structure Kit (Pl : Plan) (E G : Type) where
  kf : E → Pair
  kg : G → Pair
  sg : G → Nat
  mkG : Nat → E → G
  nx : E → Mv → E
  mvs : Pair → List Mv
  vE : Nat → E → Prop
  vG : G → Prop
  h_mvs : ∀ p m, m ∈ mvs p ↔ m ∈ Pl.moves p
  h_kg : ∀ i e, kg (mkG i e) = kf e
  h_sg : ∀ i e, vE i e → sg (mkG i e) = i
  h_vG : ∀ i e, vE i e → vG (mkG i e)
  h_nx : ∀ e m, kf (nx e m) = m.q
  h_v : ∀ i e m, vE i e → m ∈ Pl.moves (kf e) → vE (i + m.cost) (nx e m)
/-- what is pushed for e -/
structure PushG {Pl : Plan} {E G : Type} (T : Kit Pl E G) (i : Nat) (e : E) (W W' : Nat → List E) : Prop where
  mem : ∀ k x, x ∈ W' k ↔ x ∈ W k ∨ ∃ m ∈ T.mvs (T.kf e), k = i + m.cost ∧ x = T.nx e m
  len : ∀ k, (W' k).length ≤ (W k).length + 24
  low : ∀ k, k ≤ i → W' k = W k
/-- at the head of level i -/
structure RS {Pl : Plan} {E G : Type} (T : Kit Pl E G) (i : Nat) (F : List G) (W : Nat → List E) (mk : Nat) : Prop where
  nd : (F.map T.kg).Nodup
  fm : ∀ p, p ∈ F.map T.kg ↔ Fs Pl i p
  wm : ∀ k q, (∃ e ∈ W k, T.kf e = q) ↔ Ws Pl i k q
  fv : ∀ g ∈ F, T.vG g ∧ LevelOf Pl (T.kg g) (T.sg g) ∧ T.sg g < i
  wv : ∀ k, ∀ e ∈ W k, T.vE k e
  so : F.Pairwise fun a b => T.sg a ≤ T.sg b
  past : ∀ j, j < i → Alive Pl j ∧ Few Pl (j + 1)
  wl : ∀ k, (W k).length ≤ 24 * F.length + 1
  m1 : W mk ≠ []
  m2 : ∀ k, W k ≠ [] → k ≤ mk
  me : i + 3 * (401 - F.length) + (mk + 1 - i) ≤ 1204
  fl : F.length ≤ 400
/-- within level i, n things on -/
structure RI {Pl : Plan} {E G : Type} (T : Kit Pl E G) (i : Nat) (F0 : List G) (W0 : Nat → List E) (mk0 n : Nat) (F : List G) (W : Nat → List E) (mk : Nat) : Prop where
  nd : (F.map T.kg).Nodup
  fm : ∀ p, p ∈ F.map T.kg ↔ Fs Pl i p ∨ ∃ e ∈ (W0 i).take n, T.kf e = p
  wm : ∀ k q, (∃ e ∈ W k, T.kf e = q) ↔ Ws Pl i k q ∨ ∃ e ∈ (W0 i).take n, ¬ Fs Pl i (T.kf e) ∧ ∃ c, Tg Pl (T.kf e) c q ∧ k = i + c
  fv : ∀ g ∈ F, T.vG g ∧ LevelOf Pl (T.kg g) (T.sg g) ∧ T.sg g < i + 1
  wv : ∀ k, ∀ e ∈ W k, T.vE k e
  so : F.Pairwise fun a b => T.sg a ≤ T.sg b
  wl : ∀ k, (W k).length ≤ 24 * F.length + 1
  low : W i = W0 i
  m1 : W mk ≠ []
  m2 : ∀ k, W k ≠ [] → k ≤ mk
  gr : F0.length ≤ F.length
  gn : F.length ≤ F0.length + n
  mm : mk ≤ mk0 ∨ (F0.length < F.length ∧ mk ≤ i + 2)
section
variable {Pl : Plan} {E G : Type} {T : Kit Pl E G} {i n : Nat} {F0 F : List G} {W0 W : Nat → List E} {mk0 mk : Nat} {e : E}
theorem RS.start (R : RS T i F0 W0 mk0) : RI T i F0 W0 mk0 0 F0 W0 mk0 := by
  refine ⟨R.nd, fun p => ?_, fun k q => ?_, fun g hg => ⟨(R.fv g hg).1, (R.fv g hg).2.1, by have := (R.fv g hg).2.2; omega⟩, R.wv, R.so, R.wl, rfl, R.m1, R.m2, Nat.le_refl _, Nat.le_refl _, .inl (Nat.le_refl _)⟩
  · rw [R.fm, List.take_zero]
    exact ⟨.inl, fun h => h.elim id fun ⟨_, h, _⟩ => nomatch h⟩
  · rw [R.wm, List.take_zero]
    exact ⟨.inl, fun h => h.elim id fun ⟨_, h, _⟩ => nomatch h⟩
theorem RI.skip (R : RI T i F0 W0 mk0 n F W mk) (he : (W0 i)[n]? = some e) (hf : T.kf e ∈ F.map T.kg) : RI T i F0 W0 mk0 (n + 1) F W mk := by
  have tk : (W0 i).take (n + 1) = (W0 i).take n ++ [e] := take_snoc he
  have h0 := (R.fm _).mp hf
  refine ⟨R.nd, fun p => ?_, fun k q => ?_, R.fv, R.wv, R.so, R.wl, R.low, R.m1, R.m2, R.gr, by have := R.gn; omega, R.mm⟩
  · rw [R.fm, tk]
    constructor
    · rintro (h | ⟨x, h1, h2⟩)
      · exact .inl h
      · exact .inr ⟨x, List.mem_append.mpr (.inl h1), h2⟩
    · rintro (h | ⟨x, h1, h2⟩)
      · exact .inl h
      · rcases List.mem_append.mp h1 with h1 | h1
        · exact .inr ⟨x, h1, h2⟩
        · obtain rfl := List.mem_singleton.mp h1
          rw [← h2]
          exact h0
  · rw [R.wm, tk]
    constructor
    · rintro (h | ⟨x, h1, h2⟩)
      · exact .inl h
      · exact .inr ⟨x, List.mem_append.mpr (.inl h1), h2⟩
    · rintro (h | ⟨x, h1, h2, c, h3, h4⟩)
      · exact .inl h
      · rcases List.mem_append.mp h1 with h1 | h1
        · exact .inr ⟨x, h1, h2, c, h3, h4⟩
        · obtain rfl := List.mem_singleton.mp h1
          rcases h0 with h0 | ⟨y, hy, ey⟩
          · exact absurd h0 h2
          · exact .inr ⟨y, hy, by rw [ey]; exact h2, c, by rw [ey]; exact h3, h4⟩
theorem RI.add (hW : ∀ k q, (∃ e ∈ W0 k, T.kf e = q) ↔ Ws Pl i k q) (R : RI T i F0 W0 mk0 n F W mk) (he : (W0 i)[n]? = some e) (hf : T.kf e ∉ F.map T.kg) {W' : Nat → List E} (P : PushG T i e W W') :
    ∃ mk', RI T i F0 W0 mk0 (n + 1) (F ++ [T.mkG i e]) W' mk' := by
  have tk : (W0 i).take (n + 1) = (W0 i).take n ++ [e] := take_snoc he
  have hm := List.mem_of_getElem? he
  have nf : ¬ Fs Pl i (T.kf e) := fun z => hf ((R.fm _).mpr (.inl z))
  have ve : T.vE i e := R.wv i e (by rw [R.low]; exact hm)
  have ws : Ws Pl i i (T.kf e) := (hW i _).mp ⟨e, hm, rfl⟩
  have lev : LevelOf Pl (T.kf e) i := ⟨.inr ws, nf⟩
  have ne : ∀ k, W' k ≠ [] → W k ≠ [] ∨ k ≤ i + 2 := by
    intro k hk
    obtain ⟨x, hx⟩ := List.exists_mem_of_ne_nil _ hk
    rcases (P.mem k x).mp hx with h | ⟨m, h1, h2, _⟩
    · exact .inl (fun z => by rw [z] at h; exact nomatch h)
    · have := cost_rng ((T.h_mvs _ _).mp h1)
      exact .inr (by omega)
  have up : ∀ k, W k ≠ [] → W' k ≠ [] := by
    intro k hk z
    obtain ⟨x, hx⟩ := List.exists_mem_of_ne_nil _ hk
    have := (P.mem k x).mpr (.inl hx)
    rw [z] at this
    exact nomatch this
  obtain ⟨mk', a1, a2, a3⟩ : ∃ mk', W' mk' ≠ [] ∧ (∀ k, W' k ≠ [] → k ≤ mk') ∧ (mk' = mk ∨ mk' ≤ i + 2) := by
    by_cases h2 : W' (i + 2) ≠ [] ∧ mk < i + 2
    · exact ⟨i + 2, h2.1, fun k hk => (ne k hk).elim (fun z => by have := R.m2 k z; omega) id, .inr (Nat.le_refl _)⟩
    · by_cases h1 : W' (i + 1) ≠ [] ∧ mk < i + 1
      · refine ⟨i + 1, h1.1, fun k hk => ?_, .inr (by omega)⟩
        rcases ne k hk with z | z
        · have := R.m2 k z; omega
        · by_cases e2 : k = i + 2
          · subst e2; exact absurd ⟨hk, by omega⟩ h2
          · omega
      · refine ⟨mk, up mk R.m1, fun k hk => ?_, .inl rfl⟩
        rcases ne k hk with z | z
        · exact R.m2 k z
        · by_cases e2 : k = i + 2
          · subst e2
            exact Classical.byContradiction fun z => h2 ⟨hk, by omega⟩
          · by_cases e1 : k = i + 1
            · subst e1
              exact Classical.byContradiction fun z => h1 ⟨hk, by omega⟩
            · have hki : k ≤ i := by omega
              rw [P.low k hki] at hk
              exact R.m2 k hk
  refine ⟨mk', ?_, fun p => ?_, fun k q => ?_, fun g hg => ?_, fun k x hx => ?_, ?_, fun k => ?_, by rw [P.low i (Nat.le_refl _), R.low], a1, a2, ?_, ?_, ?_⟩
  · rw [List.map_append, List.nodup_append]
    refine ⟨R.nd, by simp, fun a ha b hb z => ?_⟩
    have : b = T.kg (T.mkG i e) := by simpa using hb
    rw [z, this, T.h_kg] at ha
    exact hf ha
  · rw [List.map_append, List.mem_append, R.fm, tk]
    have e1 : p ∈ [T.mkG i e].map T.kg ↔ T.kf e = p := by
      rw [List.map_singleton, List.mem_singleton, T.h_kg]
      exact eq_comm
    rw [e1]
    constructor
    · rintro ((h | ⟨x, h1, h2⟩) | h)
      · exact .inl h
      · exact .inr ⟨x, List.mem_append.mpr (.inl h1), h2⟩
      · exact .inr ⟨e, List.mem_append.mpr (.inr (List.mem_singleton.mpr rfl)), h⟩
    · rintro (h | ⟨x, h1, h2⟩)
      · exact .inl (.inl h)
      · rcases List.mem_append.mp h1 with h1 | h1
        · exact .inl (.inr ⟨x, h1, h2⟩)
        · obtain rfl := List.mem_singleton.mp h1
          exact .inr h2
  · rw [tk]
    constructor
    · rintro ⟨x, hx, rfl⟩
      rcases (P.mem k x).mp hx with h | ⟨m, h1, h2, rfl⟩
      · rcases (R.wm k _).mp ⟨x, h, rfl⟩ with z | ⟨y, h1, h2⟩
        · exact .inl z
        · exact .inr ⟨y, List.mem_append.mpr (.inl h1), h2⟩
      · exact .inr ⟨e, List.mem_append.mpr (.inr (List.mem_singleton.mpr rfl)), nf, m.cost, ⟨m, (T.h_mvs _ _).mp h1, rfl, (T.h_nx e m).symm⟩, h2⟩
    · rintro (h | ⟨x, h1, h2, c, ⟨m, h3, rfl, rfl⟩, h4⟩)
      · obtain ⟨y, hy, ey⟩ := (R.wm k q).mpr (.inl h)
        exact ⟨y, (P.mem k y).mpr (.inl hy), ey⟩
      · rcases List.mem_append.mp h1 with h1 | h1
        · obtain ⟨y, hy, ey⟩ := (R.wm k m.q).mpr (.inr ⟨x, h1, h2, m.cost, ⟨m, h3, rfl, rfl⟩, h4⟩)
          exact ⟨y, (P.mem k y).mpr (.inl hy), ey⟩
        · obtain rfl := List.mem_singleton.mp h1
          exact ⟨T.nx x m, (P.mem k _).mpr (.inr ⟨m, (T.h_mvs _ _).mpr h3, h4, rfl⟩), T.h_nx x m⟩
  · rcases List.mem_append.mp hg with h | h
    · exact R.fv g h
    · obtain rfl := List.mem_singleton.mp h
      rw [T.h_kg, T.h_sg i e ve]
      exact ⟨T.h_vG i e ve, lev, Nat.lt_succ_self _⟩
  · rcases (P.mem k x).mp hx with h | ⟨m, h1, h2, rfl⟩
    · exact R.wv k x h
    · rw [h2]
      exact T.h_v i e m ve ((T.h_mvs _ _).mp h1)
  · rw [List.pairwise_append]
    refine ⟨R.so, by simp, fun a ha b hb => ?_⟩
    obtain rfl := List.mem_singleton.mp hb
    rw [T.h_sg i e ve]
    have := (R.fv a ha).2.2
    omega
  · have := P.len k
    have := R.wl k
    rw [List.length_append, List.length_singleton]
    omega
  · rw [List.length_append]
    have := R.gr
    omega
  · rw [List.length_append, List.length_singleton]
    have := R.gn
    omega
  · rw [List.length_append, List.length_singleton]
    have := R.gr
    rcases a3 with a3 | a3
    · rcases R.mm with h | h
      · exact .inl (by omega)
      · exact .inr ⟨by omega, by omega⟩
    · exact .inr ⟨by omega, a3⟩
theorem RI.fs (hW : ∀ k q, (∃ e ∈ W0 k, T.kf e = q) ↔ Ws Pl i k q) (R : RI T i F0 W0 mk0 (W0 i).length F W mk) (p : Pair) : p ∈ F.map T.kg ↔ Fs Pl (i + 1) p := by
  rw [R.fm, List.take_length, hW]
  exact Iff.rfl
theorem RI.few (hW : ∀ k q, (∃ e ∈ W0 k, T.kf e = q) ↔ Ws Pl i k q) (R : RI T i F0 W0 mk0 (W0 i).length F W mk) : Few Pl (i + 1) ↔ F.length ≤ 400 := by
  rw [few_iff R.nd (R.fs hW), List.length_map]
theorem RS.alive (R : RS T i F0 W0 mk0) (h : i ≤ mk0) : Alive Pl i := by
  obtain ⟨x, hx⟩ := List.exists_mem_of_ne_nil _ R.m1
  exact ⟨mk0, _, h, (R.wm mk0 _).mp ⟨x, hx, rfl⟩⟩
theorem RS.dead (R : RS T i F0 W0 mk0) (h : ¬ i ≤ mk0) : ¬ Alive Pl i := by
  rintro ⟨k, q, hk, hw⟩
  obtain ⟨e, he, _⟩ := (R.wm k q).mpr hw
  have := R.m2 k (fun z => by rw [z] at he; exact nomatch he)
  omega
theorem RI.done (R0 : RS T i F0 W0 mk0) (hi : i ≤ mk0) (R : RI T i F0 W0 mk0 (W0 i).length F W mk) (hf : F.length ≤ 400) :
    RS T (i + 1) F W mk ∧ 3 * (401 - F.length) + (mk + 1 - (i + 1)) < 3 * (401 - F0.length) + (mk0 + 1 - i) := by
  have lt : 3 * (401 - F.length) + (mk + 1 - (i + 1)) < 3 * (401 - F0.length) + (mk0 + 1 - i) := by
    have := R.gr
    rcases R.mm with h | h <;> omega
  refine ⟨⟨R.nd, R.fs R0.wm, fun k q => ?_, R.fv, R.wv, R.so, fun j hj => ?_, R.wl, R.m1, R.m2, ?_, hf⟩, lt⟩
  · rw [R.wm, List.take_length, ws_succ]
    refine or_congr_right ⟨?_, ?_⟩
    · rintro ⟨e, he, h2, c, h3, h4⟩
      exact ⟨T.kf e, c, (R0.wm i _).mp ⟨e, he, rfl⟩, h2, h3, h4⟩
    · rintro ⟨p, c, h1, h2, h3, h4⟩
      obtain ⟨e, he, rfl⟩ := (R0.wm i p).mpr h1
      exact ⟨e, he, h2, c, h3, h4⟩
  · by_cases e : j = i
    · subst e
      exact ⟨R0.alive hi, (R.few R0.wm).mpr hf⟩
    · exact R0.past j (by omega)
  · have := R0.me
    omega
theorem RI.big (R0 : RS T i F0 W0 mk0) (hi : i ≤ mk0) (R : RI T i F0 W0 mk0 (W0 i).length F W mk) (hf : ¬ F.length ≤ 400) : BigsAt Pl i :=
  ⟨R0.past, R0.alive hi, fun z => hf ((R.few R0.wm).mp z)⟩
theorem RS.ends (R : RS T i F0 W0 mk0) (h : ¬ i ≤ mk0) : EndsAt Pl i := ⟨R.past, R.dead h⟩
end
/-- the program's -/
def kitP (Pl : Plan) : Kit Pl Ent Ent where
  kf := fun e => e.1
  kg := fun e => e.1
  sg := Ent.size
  mkG := fun _ e => e
  nx := Ent.then_
  mvs := Pl.moves
  vE := fun k e => Valid Pl e ∧ Ent.size e = k
  vG := Valid Pl
  h_mvs := fun _ _ => Iff.rfl
  h_kg := fun _ _ => rfl
  h_sg := fun _ _ h => h.2
  h_vG := fun _ _ h => h.1
  h_nx := fun _ _ => rfl
  h_v := fun i e m h hm => ⟨h.1.next hm, by rw [then_size, h.2]⟩
/-- the law's -/
def kitL (Pl : Plan) : Kit Pl Pair (Pair × Nat) where
  kf := id
  kg := fun g => g.1
  sg := fun g => g.2
  mkG := fun i p => (p, i)
  nx := fun _ m => m.q
  mvs := Pl.movesL
  vE := fun _ _ => True
  vG := fun _ => True
  h_mvs := fun _ _ => mem_movesL
  h_kg := fun _ _ => rfl
  h_sg := fun _ _ _ => rfl
  h_vG := fun _ _ _ => True.intro
  h_nx := fun _ _ => rfl
  h_v := fun _ _ _ _ _ => True.intro
theorem startP (Pl : Plan) : RS (kitP Pl) 0 [] (fun k => if k = 0 then [((Pl.first, Pl.first), [], [])] else []) 0 := by
  refine ⟨List.nodup_nil, fun p => ⟨fun h => (nomatch h), fun h => h.elim⟩, fun k q => ?_, fun g h => (nomatch h), fun k e h => ?_, List.Pairwise.nil, fun j h => absurd h (by omega), fun k => ?_, by simp, fun k h => ?_, by simp, by simp⟩
  · constructor
    · rintro ⟨e, he, rfl⟩
      split at he
      · rw [List.mem_singleton.mp he]
        exact ⟨by assumption, rfl⟩
      · exact nomatch he
    · rintro ⟨rfl, rfl⟩
      exact ⟨_, by rw [if_pos rfl]; exact List.mem_singleton.mpr rfl, rfl⟩
  · split at h
    · rw [List.mem_singleton.mp h]
      exact ⟨Valid.first Pl, by rename_i e; rw [e]; rfl⟩
    · exact nomatch h
  · split <;> simp
  · by_cases e : k = 0
    · omega
    · exact absurd (if_neg e) h
theorem startL (Pl : Plan) : RS (kitL Pl) 0 [] (fun k => if k = 0 then [(Pl.first, Pl.first)] else []) 0 := by
  refine ⟨List.nodup_nil, fun p => ⟨fun h => (nomatch h), fun h => h.elim⟩, fun k q => ?_, fun g h => (nomatch h), fun k e h => True.intro, List.Pairwise.nil, fun j h => absurd h (by omega), fun k => ?_, by simp, fun k h => ?_, by simp, by simp⟩
  · constructor
    · rintro ⟨e, he, rfl⟩
      split at he
      · rw [List.mem_singleton.mp he]
        exact ⟨by assumption, rfl⟩
      · exact nomatch he
    · rintro ⟨rfl, rfl⟩
      exact ⟨_, by rw [if_pos rfl]; exact List.mem_singleton.mpr rfl, rfl⟩
  · split <;> simp
  · by_cases e : k = 0
    · omega
    · exact absurd (if_neg e) h
end Fk

set_option Elab.async false
set_option linter.all false
set_option maxRecDepth 100000
set_option maxHeartbeats 4000000
/-! dicts whose keys are pairs; the search's heap -/
namespace Fk
open PySem PySem.Spec PyProof.Rows L2 He
open Evl (Ex Ev EvT EvL EvA)
theorem NdAt.ex {P : Program} {w : World} {H H' : Hp} {a : Addr} {xs : List (D × Addr × V)} (x : Ex H H') (n : NdAt P w H a xs) : NdAt P w H' a xs := ⟨n.1.imp (fun h => x _ _ h) (fun h => ⟨h.1, x _ _ h.2⟩), n.2.ts (TS.ex x)⟩
theorem NdAt.keep {P : Program} {w : World} {H H' : Hp} {a : Addr} {xs : List (D × Addr × V)} (t : TS H H') (x : ∀ o, H a = some o → H' a = some o) (n : NdAt P w H a xs) : NdAt P w H' a xs := ⟨n.1.imp (fun h => x _ h) (fun h => ⟨h.1, x _ h.2⟩), n.2.ts t⟩
/-- a value is the datum, if one is told -/
def ImO (H : Hp) (o : Option D) (v : V) : Prop := match o with | none => True | some d => Im H d v
theorem ImO.ts {H H' : Hp} {o : Option D} {v : V} (t : TS H H') (h : ImO H o v) : ImO H' o v := by
  cases o with
  | none => exact True.intro
  | some d => exact Im.ts t d h
theorem ImO.ex {H H' : Hp} {o : Option D} {v : V} (x : Ex H H') (h : ImO H o v) : ImO H' o v := h.ts (TS.ex x)
def DVO (te : TE) (σ : L2.St) (H : Hp) (o : Option D) : Prop := ∀ H1, Ex H H1 → ∀ Q : VK, (∀ v H2, Ex H1 H2 → ImO H2 o v → Q v H2) → te σ H1 Q
theorem DV.o {te : TE} {σ : L2.St} {H : Hp} {d : D} (h : DV te σ H d) : DVO te σ H (some d) := h
/-- a dict from pairs to things -/
structure DG {G : Type} (P : Program) (w : World) (kg : G → Pair) (vd : G → Option D) (H : Hp) (fa : Addr) (xs : List (D × Addr × V)) (F : List G) : Prop where
  nd : NdAt P w H fa xs
  pr : Paired (fun x g => x.1 = pairD (kg g) ∧ ImO H (vd g) x.2.2) xs F
theorem paired_keys {G : Type} {kg : G → Pair} {H : Hp} {vd : G → Option D} {xs : List (D × Addr × V)} {F : List G} (h : Paired (fun x g => x.1 = pairD (kg g) ∧ ImO H (vd g) x.2.2) xs F) : xs.map (·.1) = F.map fun g => pairD (kg g) := by
  induction h with
  | nil => rfl
  | cons h _ ih => rw [List.map_cons, List.map_cons, ih, h.1]
section
variable {G : Type} {P : Program} {w : World} {kg : G → Pair} {vd : G → Option D} {H H' : Hp} {fa : Addr} {xs : List (D × Addr × V)} {F : List G} {Pl : Plan} {p : Pair}
theorem DG.keep (t : TS H H') (x : ∀ o, H fa = some o → H' fa = some o) (d : DG P w kg vd H fa xs F) : DG P w kg vd H' fa xs F := ⟨d.nd.keep t x, Paired.mapP d.pr fun a g h => ⟨h.1, h.2.ts t⟩⟩
theorem DG.ex (x : Ex H H') (d : DG P w kg vd H fa xs F) : DG P w kg vd H' fa xs F := d.keep (TS.ex x) fun o h => x _ _ h
theorem DG.length (d : DG P w kg vd H fa xs F) : xs.length = F.length := Paired.length d.pr
/-- a pair is a key just if it is found -/
theorem DG.mem (d : DG P w kg vd H fa xs F) (hF : ∀ g ∈ F, PairOk Pl (kg g)) (hp : PairOk Pl p) : decide (pairD p ∈ xs.map (·.1)) = decide (p ∈ F.map kg) := by
  rw [paired_keys d.pr]
  have : pairD p ∈ F.map (fun g => pairD (kg g)) ↔ p ∈ F.map kg := by
    rw [List.mem_map, List.mem_map]
    constructor
    · rintro ⟨g, hg, e⟩
      exact ⟨g, hg, pair_inj (hF g hg) hp e⟩
    · rintro ⟨g, hg, rfl⟩
      exact ⟨g, hg, rfl⟩
  by_cases h : p ∈ F.map kg
  · rw [decide_eq_true h, decide_eq_true (this.mpr h)]
  · rw [decide_eq_false h, decide_eq_false (fun z => h (this.mp z))]
theorem DG.noTup (d : DG P w kg vd H fa xs F) (us : List V) : H fa ≠ some (.tup us) := fun z => by
  rcases d.nd.1 with h | ⟨_, h⟩
  · rw [h] at z; exact NdO.noTup us (Option.some.inj z)
  · rw [h] at z; cases z
theorem DG.noLst (d : DG P w kg vd H fa xs F) (us : List V) : H fa ≠ some (.lst us) := fun z => by
  rcases d.nd.1 with h | ⟨_, h⟩
  · rw [h] at z; unfold NdO at z; cases z
  · rw [h] at z; cases z
theorem DG.there (d : DG P w kg vd H fa xs F) : H fa ≠ none := fun z => by
  rcases d.nd.1 with h | ⟨_, h⟩ <;> (rw [h] at z; cases z)
theorem DG.put {g : G} {b : Addr} {v : V} (d : DG P w kg vd H fa xs F) (hk : Im H (pairD (kg g)) (.ref b)) (hv : ImO H (vd g) v) : TS H (upd H fa (NdO P w fa (xs ++ [(pairD (kg g), b, v)]))) ∧ DG P w kg vd (upd H fa (NdO P w fa (xs ++ [(pairD (kg g), b, v)]))) fa (xs ++ [(pairD (kg g), b, v)]) (F ++ [g]) := by
  have t : TS H (upd H fa (NdO P w fa (xs ++ [(pairD (kg g), b, v)]))) := fun a us e => by
    have : a ≠ fa := fun z => by rw [z] at e; exact d.noTup us e
    rw [upd_ne this]
    exact e
  have sh := (pair_shape (kg g)).2
  exact ⟨t, d.nd.put hk (by omega), Paired.snoc (Paired.mapP d.pr fun a g h => ⟨h.1, h.2.ts t⟩) ⟨rfl, hv.ts t⟩⟩
end
section
variable {P : Program} {w : World} {σ : L2.St} {H : Hp} {ta tb te tk : TE} {tr : TA} {d e : D} {ds : List D} {fa : Addr} {xs : List (D × Addr × V)} {De : Ends} {ty : L2.TS}
theorem db_niN (h : DV ta σ H (.tup ds)) (h2 : Ev tb σ H (.ref fa)) (n : NdAt P w H fa xs) (z : NestedKey.depth (.tup ds) ≤ 8) : DB (tOp (rNotInN P w) ta tb) σ H (!decide (.tup ds ∈ xs.map (·.1))) := fun H1 x Q q =>
  h H1 x _ fun v H2 y iv => h2 H2 (x.trans y) _ fun H3 y2 => by
    obtain ⟨b, vs, rfl, _⟩ := id iv.tup
    exact ⟨fa, xs, _, b, rfl, rfl, (n.ex (x.trans (y.trans y2))).rd, iv.ex y2, z, q H3 (y.trans y2)⟩
theorem db_inN (h : DV ta σ H (.tup ds)) (h2 : Ev tb σ H (.ref fa)) (n : NdAt P w H fa xs) (z : NestedKey.depth (.tup ds) ≤ 8) : DB (tOp (rInN P w) ta tb) σ H (decide (.tup ds ∈ xs.map (·.1))) := fun H1 x Q q =>
  h H1 x _ fun v H2 y iv => h2 H2 (x.trans y) _ fun H3 y2 => by
    obtain ⟨b, vs, rfl, _⟩ := id iv.tup
    exact ⟨fa, xs, _, b, rfl, rfl, (n.ex (x.trans (y.trans y2))).rd, iv.ex y2, z, q H3 (y.trans y2)⟩
abbrev rLenN (P : Program) (w : World) : List V → Hp → VK → Prop := fun ws H Q => ∃ a xs, ws = [V.ref a] ∧ NdRd P w H a xs ∧ Q (.int xs.length) H
theorem dv_lenN (h : Ev te σ H (.ref fa)) (n : NdAt P w H fa xs) : DV (tCB (rLenN P w) (tCons te tNil)) σ H (.num (xs.length : Int)) := fun H1 x Q q =>
  h H1 x _ fun H2 y => ⟨fa, xs, rfl, (n.ex (x.trans y)).rd, q _ H2 y im_num⟩
/-- found[pair] = .. -/
theorem q_put {G : Type} {kg : G → Pair} {vd : G → Option D} {F : List G} {g : G} (h : DVO te σ H (vd g)) (h2 : Ev tb σ H (.ref fa)) (hk : DV tk σ H (pairD (kg g))) (dg : DG P w kg vd H fa xs F) (nk : pairD (kg g) ∉ xs.map (·.1)) (hl : xs.length < 100000)
    (k : ∀ b v H1, Ex H H1 → Im H1 (pairD (kg g)) (.ref b) → ImO H1 (vd g) v → ty De σ (upd H1 fa (NdO P w fa (xs ++ [(pairD (kg g), b, v)])))) : tSeq (tAsg te (gSub tb tk (rSetN P w))) ty De σ H :=
  h H (Ex.refl _) _ fun v H1 x iv => h2 H1 x _ fun H2 y => hk H2 (x.trans y) _ fun kv H3 z ik => by
    obtain ⟨b, vs, rfl, _⟩ := id (show Im H3 (.tup [(kg g).1.d, (kg g).2.d]) kv from ik).tup
    have sh := (pair_shape (kg g)).2
    have xx := x.trans (y.trans z)
    exact ⟨fa, xs, pairD (kg g), b, rfl, rfl, dg.nd.ex xx, ik, by omega, nk, Evl.sz_lt hl, k b v H3 xx ik (iv.ex (y.trans z))⟩
end
/-- a heap where only fa is written -/
theorem LinesAt.other {E : Type} {H : Hp} {la fa : Addr} {ls : List (Nat × Addr)} {enc : E → D} {W : Nat → List E} {o : HO} (L : LinesAt H la ls enc W) (f1 : fa ≠ la) (f2 : ∀ p ∈ ls, fa ≠ p.2) (t : TS H (upd H fa o)) : LinesAt (upd H fa o) la ls enc W :=
  ⟨by rw [upd_ne f1.symm]; exact L.d, L.nk, L.na, fun p hp => by
    obtain ⟨us, hu, iu⟩ := L.l p hp
    exact ⟨us, by rw [upd_ne (f2 p hp).symm]; exact hu, iu.ts t⟩, L.ne, L.e⟩
/-- found, lines, size = {}, {0: [x]}, 0 -/
theorem q_init {σ : L2.St} {H : Hp} {te : TE} {d : D} {De : Ends} {ty : L2.TS} {i j l : Nat} (h : DV te σ H d)
    (k : ∀ fa la l1 v G, H fa = none → H la = none → H l1 = none → fa ≠ la → l1 ≠ la → fa ≠ l1 → Ex H G → G fa = some (.dK []) → G la = some (.dK (lkv [(0, l1)])) → G l1 = some (.lst [v]) → Im G d v → ty De (((σ.set i (some (.ref fa))).set j (some (.ref la))).set l (some (.int 0))) G) :
    tSeq (tPar3 i j l (tCons tDNewK (tCons (tDisp [(tC (.int 0), tLst (tCons te tNil))]) (tCons (tC (.int 0)) tNil)))) ty De σ H := by
  intro fa hfa la hla
  refine h _ ((Ex.new hfa).trans (Ex.new hla)) _ fun v1 H1 x1 k1 => ⟨by show 1 ≤ sizeLine; decide, fun l1 hl1 => ?_⟩
  have hla1 : (upd H1 l1 (.lst [v1])) la = some (.dK []) := (Ex.new hl1) _ _ (x1 _ _ upd_same)
  have nfl : fa ≠ la := fun z => by rw [← z, upd_same] at hla; cases hla
  have hla0 : H la = none := by rw [upd_ne nfl.symm] at hla; exact hla
  have x01 : Ex H (upd H1 l1 (.lst [v1])) := (((Ex.new hfa).trans (Ex.new hla)).trans x1).trans (Ex.new hl1)
  have hl10 : H l1 = none := Evl.fresh_back (((Ex.new hfa).trans (Ex.new hla)).trans x1) hl1
  have hfa1 : (upd H1 l1 (.lst [v1])) fa = some (.dK []) := (Ex.new hl1) _ _ (x1 _ _ ((Ex.new hla) _ _ upd_same))
  have hl11 : (upd H1 l1 (.lst [v1])) l1 = some (.lst [v1]) := upd_same
  have k1' := k1.ex (Ex.new (o := .lst [v1]) hl1)
  have nla : l1 ≠ la := fun z => by have q := hl11; rw [z] at q hla1; rw [hla1] at q; cases q
  have nfa : fa ≠ l1 := fun z => by have q := hl11; rw [← z] at q hfa1; rw [hfa1] at q; cases q
  generalize upd H1 l1 (.lst [v1]) = G1 at *
  refine ⟨hla1, [(.inl 0, .ref l1)], rfl, Nat.le_of_ble_eq_true rfl, ?_⟩
  have t1 : TS G1 (upd G1 la (.dK (mergeK [] [(.inl 0, .ref l1)]))) := TS.mut hla1 (fun _ z => nomatch z)
  exact ⟨_, _, _, rfl, k fa la l1 v1 _ hfa hla0 hl10 nfl nla nfa (Evl.Ex.mut x01 hla0) (by rw [upd_ne nfl]; exact hfa1) upd_same (by rw [upd_ne nla]; exact hl11) (k1'.ts t1)⟩
/-- o.m(..) as a statement -/
theorem q_dropM {σ : L2.St} {H : Hp} {C : Addr} {sp : Sp} {E : XK} {ta : TE} {tr : TA} {a dx : Addr} {vs : List V} {us : List (Option V)} {De : Ends} {ty : L2.TS} (h : Ev ta σ H (.ref a)) (s : SlX.Slt H a C dx us) (g : EvA tr σ H vs)
    (k : ∀ H1, Ex H H1 → sp (.ref a :: vs) H1 (fun _ H2 => ty De σ H2) E) : tSeq (tDrop (SlX.tMethSl C sp E ta tr)) ty De σ H :=
  h H (Ex.refl _) _ fun H1 x => ⟨a, dx, us, rfl, slt_ex x s, g H1 x _ fun H2 y => k H2 (x.trans y)⟩
end Fk

set_option Elab.async false
set_option linter.all false
set_option maxRecDepth 100000
set_option maxHeartbeats 4000000
/-! Legs.reach -/
namespace Fk
open PySem PySem.Spec PyProof.Rows L2 He
open Evl (Ex Ev EvT EvL EvA ev_andV ev_orV ev_notV et_and et_or et_not)
def valE (e : Ent) : D := .tup [tx e.2.1, tx e.2.2]
def valO (e : Ent) : Option D := some (valE e)
abbrev DE (P : Program) (w : World) (H : Hp) (fa : Addr) (xs : List (D × Addr × V)) (F : List Ent) : Prop := DG P w (fun e : Ent => e.1) valO H fa xs F
/-- what is found at the end -/
structure ResP (Pl : Plan) (i : Nat) (F : List Ent) : Prop where
  ends : EndsAt Pl i
  nd : (F.map fun e => e.1).Nodup
  fm : ∀ p, p ∈ F.map (fun e => e.1) ↔ Fs Pl i p
  fv : ∀ e ∈ F, Valid Pl e ∧ LevelOf Pl e.1 (Ent.size e)
  so : F.Pairwise fun a b => Ent.size a ≤ Ent.size b
  fl : F.length ≤ 400
  sz : ∀ e ∈ F, Ent.size e ≤ 1204
/-- the search's heap -/
structure HR {E G : Type} (P : Program) (w : World) (enc : E → D) (kg : G → Pair) (vd : G → Option D) (H : Hp) (fa la : Addr) (ls : List (Nat × Addr)) (W : Nat → List E) (xs : List (D × Addr × V)) (F : List G) (H' : Hp) : Prop where
  ex : Ex H H'
  li : LinesAt H' la ls enc W
  dg : DG P w kg vd H' fa xs F
  f0 : H fa = none
  l0 : H la = none
  ln : ∀ p ∈ ls, H p.2 = none
  fl : fa ≠ la
  fn : ∀ p ∈ ls, fa ≠ p.2
section
variable {E G : Type} {P : Program} {w : World} {enc : E → D} {kg : G → Pair} {vd : G → Option D} {H H' H2 : Hp} {fa la : Addr} {ls ls2 : List (Nat × Addr)} {W W2 : Nat → List E} {xs : List (D × Addr × V)} {F : List G}
theorem HR.go (h : HR P w enc kg vd H fa la ls W xs F H') (x : Ex H' H2) : HR P w enc kg vd H fa la ls W xs F H2 := ⟨h.ex.trans x, h.li.ex x, h.dg.ex x, h.f0, h.l0, h.ln, h.fl, h.fn⟩
/-- behind a put -/
theorem HR.put {g : G} {b : Addr} {v : V} (h : HR P w enc kg vd H fa la ls W xs F H') (hk : Im H' (pairD (kg g)) (.ref b)) (hv : ImO H' (vd g) v) :
    TS H' (upd H' fa (NdO P w fa (xs ++ [(pairD (kg g), b, v)]))) ∧ HR P w enc kg vd H fa la ls W (xs ++ [(pairD (kg g), b, v)]) (F ++ [g]) (upd H' fa (NdO P w fa (xs ++ [(pairD (kg g), b, v)]))) := by
  obtain ⟨t, d⟩ := h.dg.put hk hv
  exact ⟨t, Evl.Ex.mut h.ex h.f0, h.li.other h.fl h.fn t, d, h.f0, h.l0, h.ln, h.fl, h.fn⟩
/-- behind pushes -/
theorem HR.stp {i : Nat} (h : HR P w enc kg vd H fa la ls W xs F H') (s : Stp i la H' ls H2 ls2) (L : LinesAt H2 la ls2 enc W2) : HR P w enc kg vd H fa la ls2 W2 xs F H2 := by
  have keep : ∀ o, H' fa = some o → H2 fa = some o := fun o e => s.stay _ _ h.fl (fun p hp _ => h.fn p hp) e
  refine ⟨fun b o e => s.stay b o (ne_of_none e h.l0) (fun p hp _ => ne_of_none e (h.ln p hp)) (h.ex b o e), L, h.dg.keep (s.ts h.li) keep, h.f0, h.l0, fun p hp => ?_, h.fl, fun p hp => ?_⟩
  · rcases s.new p hp with z | z
    · exact h.ln p z
    · exact Evl.fresh_back h.ex z
  · rcases s.new p hp with z | z
    · exact h.fn p z
    · exact fun e => h.dg.there (by rw [e]; exact z)
end
theorem keys_few {ls : List (Nat × Addr)} {mk : Nat} (nd : (ls.map (·.1)).Nodup) (h : ∀ p ∈ ls, p.1 ≤ mk) : ls.length ≤ mk + 1 := by
  have := nd_sub (m := List.range (mk + 1)) nd fun x hx => by
    obtain ⟨p, hp, rfl⟩ := List.mem_map.mp hx
    exact List.mem_range.mpr (by have := h p hp; omega)
  rwa [List.length_map, List.length_range] at this
section
variable {P : Program} {w : World} {K : PySem.W.Frag} {mg : Str → Option Value} {base : Heap}
abbrev sp_Legs_reach (P : Program) (w : World) (K : PySem.W.Frag) : Sp := fun vs H Q E => ∃ a Pl, vs = [.ref a] ∧ LegsAt K H a Pl ∧
  (∀ p xs F i H', H p = none → Ex H H' → DE P w H' p xs F → ResP Pl i F → Q (.ref p) H') ∧ ∀ i H', Ex H H' → BigsAt Pl i → E (.ref (ga K "TooLarge")) none H'
theorem sc_Legs_reach : FnScope ["self", "found", "lines", "size", "pair", "one", "other"] ["self"] (defScope s_Legs_reach) := ⟨rfl, rfl, rfl, by decide +kernel, rfl, by decide +kernel, by decide +kernel⟩
theorem ok_Legs_reach (T : Txt K mg) : FnR P w K mg base (L2.CX P w) 6 (a_Legs_reach K) (sp_Legs_reach P w K) := by
  refine okRX T.F_Legs_reach sc_Legs_reach (fun _ _ _ _ _ _ us hl => match us, hl with | [_], _ => rfl) ?_ fun cdv A outer s H vs Q E hr q => ?_
  · rintro vs H Q E ⟨_, _, rfl, _⟩
    rfl
  obtain ⟨a, Pl, rfl, m, q, qe⟩ := q
  obtain ⟨hP, _⟩ := id m
  refine ⟨_, (pss_cons (ps_par3 (i := 1) (j := 2) (l := 3) rfl sc_Legs_reach.nd rfl rfl rfl (by decide) (by decide) (by decide) rfl rfl rfl (pa_cons pe_dnewK (pa_cons (pe_disp (pps_cons pe_int (pe_lst (pa_cons (pe_tup (pa_cons (SlX.pe_methSl0 (pv 0) T.c_Legs T.m_Legs_first (ok_Legs_first T) (hr.mono (by decide)) pass0) (pa_cons pe_str (pa_cons pe_str pa_nil)))) pa_nil)) pps_nil) rfl rfl (by decide) (by decide)) (pa_cons pe_int pa_nil))) rfl) (pss_cons (ps_while (passes_of rfl) (pt_cmpR op_le (pv 3) (pe_callB (id := "max") (cr_maxK rfl) (by rfl) T.n_max (by decide +kernel) (pa_cons (pv 2) pa_nil)) (by rfl)) (pss_cons (ps_for (passes_of rfl) rfl (show PI _ _ _ (iList K _) from pi_list (pe_dget2 (Room.units1 hr) (pv 2) (pv 3) (pe_lst pa_nil) ⟨rfl, rfl, rfl, rfl⟩)) (show PG _ _ (gTup K 3 _) from pg_tup rfl (pgs_cons (pg_name (i := 4) sc_Legs_reach.nd rfl (by first | exact .inl rfl | exact .inr rfl)) (pgs_cons (pg_name (i := 5) sc_Legs_reach.nd rfl (by first | exact .inl rfl | exact .inr rfl)) (pgs_cons (pg_name (i := 6) sc_Legs_reach.nd rfl (by first | exact .inl rfl | exact .inr rfl)) pgs_nil)))) (pss_one (ps_if (pt_cmpR (show OpR _ _ (rNotInN P w) from op_notInN hr.units) (pv 4) (pv 1) (by rfl)) (pss_cons (ps_asg (pe_tup (pa_cons (pv 5) (pa_cons (pv 6) pa_nil))) (pg_sub (pv 1) (pv 4) (show PSet _ (rSetN P w) from set_dictN hr.units))) (pss_one (ps_expr (SlX.pe_methSl (pv 0) T.c_Legs T.m_Legs_note (ok_Legs_note T) (hr.mono (by decide)) pass0 (pa_cons (pv 2) (pa_cons (pv 4) (pa_cons (pv 5) (pa_cons (pv 6) pa_nil)))))))) pss_nil))) (pss_cons (ps_if (pt_cmpR op_gt (pe_callB (id := "len") (show CallR _ _ (rLenN P w) from call_lenN) (by rfl) T.n_len (by decide +kernel) (pa_cons (pv 1) pa_nil)) (pe_gi (by rfl) T.i_MOST_PAIRS) (by rfl)) (pss_one (ps_raise rfl (takes_of rfl rfl rfl rfl) (pmk_own PySem.F.excBase_ValueError T.x_ex T.g_TooLarge T.x_kp (raises_own T.x_sub T.x_ty) (by rfl)))) pss_nil) (pss_one (ps_aug (i := 3) sc_Legs_reach.nd rfl (by first | exact .inl rfl | exact .inr rfl) pe_int ip_add))))) (pss_one (ps_ret (pv 1))))), ?_⟩
  have l4 := let_len hP.i.let_
  refine q_init (d := encE ((Pl.first, Pl.first), [], [])) (dv_tup (da_cons (dv_methG ev_vr m da_nil ⟨rfl, rfl⟩) (da_cons (dv_strX (l := [])) (da_cons (dv_strX (l := [])) da_nil)))) fun fa la l1 v1 G2 hfa hla hl1 nfl nla nfa x02 gfa gla gl1 k1 => ?_
  have start : HR P w encE (fun e : Ent => e.1) valO H fa la [(0, l1)] (fun k => if k = 0 then [((Pl.first, Pl.first), [], [])] else []) [] [] G2 := by
    refine ⟨x02, ⟨gla, by simp, by simp, fun p hp => ?_, fun p hp => ?_, fun k hk => ?_⟩, ⟨⟨.inr ⟨rfl, gfa⟩, NdKeys.nil⟩, .nil⟩, hfa, hla, fun p hp => ?_, nfl, fun p hp => ?_⟩
    · obtain rfl := List.mem_singleton.mp hp
      exact ⟨[v1], gl1, iml_cons k1 iml_nil⟩
    · obtain rfl := List.mem_singleton.mp hp
      simp
    · have : k ≠ 0 := by simpa using hk
      exact if_neg this
    · obtain rfl := List.mem_singleton.mp hp
      exact hl1
    · obtain rfl := List.mem_singleton.mp hp
      exact nfa
  show tSeq _ _ _ [some (.ref a), some (.ref fa), some (.ref la), some (.int 0), none, none, none] _
  refine Evl.q_while (fun m σ' H' => ∃ (i : Nat) (F : List Ent) (W : Nat → List Ent) (mk : Nat) (xs : List (D × Addr × V)) (ls : List (Nat × Addr)) (s4 s5 s6 : Option V), m = 3 * (401 - F.length) + (mk + 1 - i) ∧ RS (kitP Pl) i F W mk ∧
    σ' = [some (.ref a), some (.ref fa), some (.ref la), some (.int (i : Int)), s4, s5, s6] ∧ HR P w encE (fun e : Ent => e.1) valO H fa la ls W xs F H') (3 * 401 + 1) ⟨0, [], _, 0, [], _, _, _, _, rfl, startP Pl, rfl, start⟩ ?_
  rintro mm σ' H' ⟨i, F, W, mk, xs, ls, s4, s5, s6, rfl, R, rfl, h⟩
  have rme := R.me
  refine ⟨decide ((i : Int) ≤ (mk : Int)), dt_t (db_I (dv_var im_num) (dv_maxK ev_vr h.li R.m1 R.m2)), fun hb H3 x3 => ?_, fun hb H3 x3 => ?_⟩
  · have hi : i ≤ mk := by
      have := of_decide_eq_true hb
      omega
    have h3 := h.go x3
    refine ⟨fun σ' H' => ∃ m', m' < 3 * (401 - F.length) + (mk + 1 - i) ∧ ∃ (i : Nat) (F : List Ent) (W : Nat → List Ent) (mk : Nat) (xs : List (D × Addr × V)) (ls : List (Nat × Addr)) (s4 s5 s6 : Option V), m' = 3 * (401 - F.length) + (mk + 1 - i) ∧ RS (kitP Pl) i F W mk ∧
      σ' = [some (.ref a), some (.ref fa), some (.ref la), some (.int (i : Int)), s4, s5, s6] ∧ HR P w encE (fun e : Ent => e.1) valO H fa la ls W xs F H', fun _ _ z => z, ?_⟩
    refine q_forGet (get_lines (Evl.ev_var rfl) (dv_var im_num) h3.li) (fun al us H4 n σ' H' => ∃ (F' : List Ent) (W' : Nat → List Ent) (mk' : Nat) (xs' : List (D × Addr × V)) (ls' : List (Nat × Addr)) (s4 s5 s6 : Option V), RI (kitP Pl) i F W mk n F' W' mk' ∧
      σ' = [some (.ref a), some (.ref fa), some (.ref la), some (.int (i : Int)), s4, s5, s6] ∧ HR P w encE (fun e : Ent => e.1) valO H fa la ls' W' xs' F' H' ∧ H' al = some (.lst us) ∧ TS H4 H' ∧ ((i, al) ∈ ls' ∨ (∀ p ∈ ls', al ≠ p.2)))
      (fun al us H4 x4 hal ial fresh => ⟨F, W, mk, xs, ls, _, _, _, R.start, rfl, h3.go x4, hal, TS.refl _, fresh.imp id fun z p hp e => by
        obtain ⟨us, hu, _⟩ := h3.li.l p hp
        rw [← e, z.1] at hu
        cases hu⟩) (fun al us H4 n σ' H' ⟨_, _, _, _, _, _, _, _, _, _, _, z, _⟩ => z) ?_ ?_
    · rintro al us H4 n e v σ' H5' x4 hal he ⟨F', W', mk', xs', ls', s4, s5, s6, RI1, rfl, h5, al5, ts5, pos⟩ im
      have h4 := h3.go x4
      have nal1 : al ≠ fa := fun z => h4.dg.noLst us (by rw [← z]; exact hal)
      have nal2 : al ≠ la := fun z => by rw [z, h4.li.d] at hal; cases hal
      have im5 := im.ts ts5
      obtain ⟨b, vs, rfl, hb', hvs⟩ := im5.tup
      obtain ⟨w1, w2, w3, rfl, k1, k2, k3⟩ := hvs.three
      refine tgt_tup hb' rfl (tgt_cons (tgt_cons (tgt_cons tgt_nil))) _ ?_
      have hme : e ∈ W i := List.mem_of_getElem? he
      have vE := R.wv i e hme
      have okF : ∀ g ∈ F', PairOk Pl g.1 := fun g hg => (lv_ok hP _).1 _ (RI1.fv g hg).2.1.1
      have oke : PairOk Pl e.1 := (lv_ok hP i).2 i _ ((R.wm i e.1).mp ⟨e, hme, rfl⟩)
      have hnl : n < (W i).length := (List.getElem?_eq_some_iff.mp he).1
      have wl := R.wl i
      have fl := R.fl
      have gn := RI1.gn
      have sh := (pair_shape e.1).2
      show tIfS _ _ _ _ [some (.ref a), some (.ref fa), some (.ref la), some (.int (i : Int)), some w1, some w2, some w3] _
      refine s_of (q_if2 (dt_t (db_is (db_niN (ds := [e.1.1.d, e.1.2.d]) (dv_var k1) ev_vr h5.dg.nd (by show (pairD e.1).depth ≤ 8; omega)) (congrArg not (h5.dg.mem (kg := fun e : Ent => e.1) okF oke)))) (fun hb H6 x6 => ?_) fun hb H6 x6 => ?_)
      · have hf : e.1 ∉ F'.map (fun e => e.1) := by simpa using hb
        have h6 := h5.go x6
        refine q_put (kg := fun e : Ent => e.1) (vd := valO) (g := e) (DV.o (d := valE e) (dv_tup (da_cons (dv_var (k2.ex x6)) (da_cons (dv_var (k3.ex x6)) da_nil)))) ev_vr (dv_var (k1.ex x6)) h6.dg (fun z => hf (by
          have := h6.dg.mem (kg := fun e : Ent => e.1) okF oke
          rw [decide_eq_true z] at this
          exact of_decide_eq_true this.symm)) (by rw [h6.dg.length]; omega) fun b7 v7 H7 x7 ik iv => ?_
        obtain ⟨t8, h8⟩ := (h6.go x7).put (g := e) ik iv
        have al8 : (upd H7 fa (NdO P w fa (xs' ++ [(pairD e.1, b7, v7)]))) al = some (.lst us) := by rw [upd_ne nal1]; exact x7 _ _ (x6 _ _ al5)
        have ts8 : TS H5' (upd H7 fa (NdO P w fa (xs' ++ [(pairD e.1, b7, v7)]))) := (TS.ex (x6.trans x7)).trans t8
        generalize upd H7 fa (NdO P w fa (xs' ++ [(pairD e.1, b7, v7)])) = G8 at *
        have m8 := m.ex h8.ex
        obtain ⟨_, dx, cc, ka, ma, sl, _⟩ := id m8
        have lsl : ls'.length ≤ mk' + 1 := keys_few h8.li.nk fun p hp => RI1.m2 _ (h8.li.ne p hp)
        have mkb : mk' ≤ 1300 := by
          rcases RI1.mm with z | z <;> omega
        refine s_of (q_dropM (vs := [.ref la, w1, w2, w3]) (Evl.ev_var rfl) sl (ea_cons (Evl.ev_var rfl) (ea_cons (Evl.ev_var rfl) (ea_cons (Evl.ev_var rfl) (ea_cons (Evl.ev_var rfl) ea_nil)))) fun H13 x813 => ?_)
        have h13 := h8.go x813
        have tt : TS H5' H13 := ts8.trans (TS.ex x813)
        refine ⟨a, Pl, la, ls', W', e, w1, w2, w3, rfl, m8.ex x813, h13.li, oke, k1.ts tt, k2.ts tt, k3.ts tt, by rw [vE.2]; omega, fun k => by have := RI1.wl k; omega, by omega, fun H14 ls14 W14 L14 s14 pu => ?_⟩
        have h14 := h13.stp s14 L14
        have PG : PushG (kitP Pl) i e W' W14 := ⟨fun k x => by rw [pu.mem, vE.2]; rfl, fun k => Nat.le_trans (pu.len k) (Nat.add_le_add_left (moves_len l4) _), fun k hk => pu.low k (by rw [vE.2]; exact hk)⟩
        obtain ⟨mk14, R14⟩ := RI1.add R.wm he hf PG
        refine ⟨F' ++ [e], W14, mk14, _, ls14, _, _, _, R14, rfl, h14, ?_, ((ts5.trans tt).trans (s14.ts h13.li)), ?_⟩
        · refine s14.stay _ _ nal2 (fun p hp hlt => ?_) (x813 _ _ al8)
          rcases pos with z | z
          · intro e2
            have := nd_map_inj h13.li.na z hp e2
            rw [← this, vE.2] at hlt
            exact absurd hlt (Nat.lt_irrefl _)
          · exact z p hp
        · rcases pos with z | z
          · exact .inl (s14.old _ z)
          · refine .inr fun p hp => ?_
            rcases s14.new p hp with y | y
            · exact z p y
            · exact fun e2 => by rw [← e2, x813 _ _ al8] at y; cases y
      · have hf : e.1 ∈ F'.map (fun e => e.1) := by simpa using hb
        exact ⟨F', W', mk', xs', ls', _, _, _, RI1.skip he hf, rfl, h5.go x6, x6 _ _ al5, ts5.trans (TS.ex x6), pos⟩
    · rintro al us H4 σ' H5 x4 ⟨F', W', mk', xs', ls', s4, s5, s6, RI1, rfl, h5, al5, ts5, pos⟩
      refine Evl.q_when (dt_t (db_I (dv_is (dv_lenN ev_vr h5.dg.nd) (by rw [h5.dg.length])) dv_int)) (fun hb H6 x6 => ?_) fun hb H6 x6 => ?_
      · have hf : ¬ F'.length ≤ 400 := by
          have := of_decide_eq_true hb
          omega
        exact qe i H6 (h5.ex.trans x6) (RI1.big R hi hf)
      · have hf : F'.length ≤ 400 := by
          have := of_decide_eq_false hb
          omega
        obtain ⟨R', lt⟩ := RI1.done R hi hf
        refine s_of (Evl.q_aug rfl Evl.ev_c fun H7 x7 => ?_)
        exact ⟨_, lt, i + 1, F', W', mk', xs', ls', _, _, _, rfl, R', rfl, h5.go (x6.trans x7)⟩
  · have hi : ¬ i ≤ mk := by
      have := of_decide_eq_false hb
      omega
    have h3 := h.go x3
    refine (Evl.ev_var rfl) H3 (Ex.refl _) _ fun H4 x4 => q fa xs F i H4 h.f0 (h3.ex.trans x4) (h3.dg.ex x4) ⟨R.ends hi, R.nd, R.fm, fun e he => ⟨(R.fv e he).1, (R.fv e he).2.1⟩, R.so, R.fl, fun e he => by have := (R.fv e he).2.2; have := R.me; exact (show Ent.size e ≤ 1204 from by have h3 : Ent.size e < i := (R.fv e he).2.2; omega)⟩
end
end Fk

set_option Elab.async false
set_option linter.all false
set_option maxRecDepth 100000
set_option maxHeartbeats 4000000
/-! locked dicts: walks and comprehensions over their keys -/
namespace Fk
open PySem PySem.Spec PyProof.Rows L2 He
open Evl (Ex Ev EvT EvL EvA)
theorem lock_ex {H H' : Hp} {d : Addr} {u : HO} {od : Obj} (h : H d = some u) (x : Ex (upd H d (.frz od u)) H') : H' d = some (.frz od u) ∧ Ex H (upd H' d u) := by
  refine ⟨x _ _ upd_same, fun b o e => ?_⟩
  by_cases n : b = d
  · subst n
    rw [h] at e
    rw [upd_same, e]
  · rw [upd_ne n]
    exact x _ _ (by rw [upd_ne n]; exact e)
theorem lock_ts {H H' : Hp} {d : Addr} {u : HO} {od : Obj} (h : H d = some u) (x : TS (upd H d (.frz od u)) H') (n : ∀ us, u ≠ .tup us) : TS H (upd H' d u) := fun b xs e => by
  have nb : b ≠ d := fun z => by rw [z, h] at e; exact n xs (Option.some.inj e)
  rw [upd_ne nb]
  exact x _ _ (by rw [upd_ne nb]; exact e)
/-- the frozen dict, told of what it holds -/
structure FG {G : Type} (P : Program) (w : World) (kg : G → Pair) (vd : G → Option D) (H : Hp) (fa : Addr) (od : Obj) (xs : List (D × Addr × V)) (F : List G) : Prop where
  fr : H fa = some (.frz od (NdO P w fa xs))
  ks : NdKeys H xs
  pr : Paired (fun x g => x.1 = pairD (kg g) ∧ ImO H (vd g) x.2.2) xs F
section
variable {G : Type} {P : Program} {w : World} {kg : G → Pair} {vd : G → Option D} {H H' : Hp} {fa : Addr} {xs : List (D × Addr × V)} {F : List G} {od : Obj} {Pl : Plan} {p : Pair}
theorem FG.ex (x : Ex H H') (d : FG P w kg vd H fa od xs F) : FG P w kg vd H' fa od xs F := ⟨x _ _ d.fr, d.ks.ts (TS.ex x), Paired.mapP d.pr fun a g h => ⟨h.1, h.2.ex x⟩⟩
theorem FG.rd (d : FG P w kg vd H fa od xs F) : NdRd P w H fa xs := ⟨.inl (.inr ⟨od, d.fr⟩), d.ks⟩
theorem FG.at_ (d : FG P w kg vd H fa od xs F) {i : Nat} {g : G} (h : F[i]? = some g) : ∃ q v, xs[i]? = some (pairD (kg g), q, v) ∧ Im H (pairD (kg g)) (.ref q) ∧ ImO H (vd g) v := by
  have := d.pr
  have ks := d.ks
  clear d
  induction this generalizing i with
  | nil => simp at h
  | @cons x g' xs F hx _ ih =>
    cases i with
    | zero =>
      have : g' = g := by simpa using h
      subst this
      obtain ⟨k, q, v⟩ := x
      obtain ⟨h1, h2⟩ := hx
      simp only at h1 h2
      subst h1
      exact ⟨q, v, rfl, (ks _ List.mem_cons_self).1, h2⟩
    | succ j =>
      obtain ⟨q, v, a, b⟩ := ih (i := j) (by simpa using h) (fun e he => ks e (List.mem_cons_of_mem _ he))
      exact ⟨q, v, by simpa using a, b⟩
theorem FG.length (d : FG P w kg vd H fa od xs F) : xs.length = F.length := Paired.length d.pr
theorem FG.mem (d : FG P w kg vd H fa od xs F) (hF : ∀ g ∈ F, PairOk Pl (kg g)) (hp : PairOk Pl p) : decide (pairD p ∈ xs.map (·.1)) = decide (p ∈ F.map kg) := by
  rw [paired_keys d.pr]
  have : pairD p ∈ F.map (fun g => pairD (kg g)) ↔ p ∈ F.map kg := by
    rw [List.mem_map, List.mem_map]
    constructor
    · rintro ⟨g, hg, e⟩
      exact ⟨g, hg, pair_inj (hF g hg) hp e⟩
    · rintro ⟨g, hg, rfl⟩
      exact ⟨g, hg, rfl⟩
  by_cases h : p ∈ F.map kg
  · rw [decide_eq_true h, decide_eq_true (this.mpr h)]
  · rw [decide_eq_false h, decide_eq_false (fun z => h (this.mp z))]
/-- a full dict may be locked -/
theorem DG.lock (d : DG P w kg vd H fa xs F) (h : F ≠ []) : H fa = some (NdO P w fa xs) ∧ ∀ od, FG P w kg vd (upd H fa (.frz od (NdO P w fa xs))) fa od xs F := by
  have e : H fa = some (NdO P w fa xs) := by
    rcases d.nd.1 with e | ⟨e, _⟩
    · exact e
    · have := d.length
      rw [e] at this
      exact absurd (List.eq_nil_of_length_eq_zero this.symm) h
  refine ⟨e, fun od => ?_⟩
  have t : TS H (upd H fa (.frz od (NdO P w fa xs))) := TS.mut e (fun us z => NdO.noTup us z)
  exact ⟨upd_same, d.nd.2.ts t, Paired.mapP d.pr fun a g h => ⟨h.1, h.2.ts t⟩⟩
end
section
variable {α G : Type} {M : Hp → α → V → Prop} {P : Program} {w : World} {K : PySem.W.Frag} {kg : G → Pair} {vd : G → Option D} {σ : L2.St} {H : Hp} {fa : Addr} {xs : List (D × Addr × V)} {F : List G} {od : Obj} {ta td te te1 : TE} {tt tt1 : TT} {d e : D} {ds : List D} {De : Ends} {tu ty : L2.TS} {vs vs1 : List Nat} {g0 g1 : TG}
theorem db_inF (h : DV ta σ H (.tup ds)) (h2 : Ev td σ H (.ref fa)) (n : FG P w kg vd H fa od xs F) (z : NestedKey.depth (.tup ds) ≤ 8) : DB (tOp (rInN P w) ta td) σ H (decide (.tup ds ∈ xs.map (·.1))) := fun H1 x Q q =>
  h H1 x _ fun v H2 y iv => h2 H2 (x.trans y) _ fun H3 y2 => by
    obtain ⟨b, vs, rfl, _⟩ := id iv.tup
    exact ⟨fa, xs, _, b, rfl, rfl, (n.ex (x.trans (y.trans y2))).rd, iv.ex y2, z, q H3 (y.trans y2)⟩
/-- [.. for pair in known ..] -/
theorem lc_keys (mono : TsMono M) (p : G → Bool) (f : G → α) (h : Ev td σ H (.ref fa)) (n : FG P w kg vd H fa od xs F) (hz : F.length ≤ 100000)
    (step : ∀ g v H1, g ∈ F → Ex H H1 → Im H1 (pairD (kg g)) v → ∃ σ2, (∀ Q : St → Hp → Prop, Q σ2 H1 → g0 v (wipe σ vs) H1 Q) ∧ wipe σ2 vs = wipe σ vs ∧ EvT tt σ2 H1 (p g) ∧ (p g = true → EvM M te σ2 H1 (f g))) :
    ELM M (tLc (iKeysN P w td) g0 tt te vs) σ H ((F.filter p).map f) := fun H0 e Q q => h H0 e _ fun H1 e1 => ⟨fa, od, xs, rfl, (e.trans e1) _ _ n.fr, fun Dl hD => by
  have len := n.length
  refine lc_gen walk_N mono F len.symm (by omega) p f hD (fun H' e2 => ((e.trans e1).trans e2) _ _ n.fr) ?_ fun H' us e2 hus pr => q Dl us H' (Evl.fresh_back e1 hD) (e1.trans e2) hus pr
  rintro i g H' x H'' hg e2 ⟨rfl, k, q', v, hx, rfl⟩
  have ee := (e.trans e1).trans e2
  obtain ⟨q2, v2, hx2, im, _⟩ := (n.ex ee).at_ hg
  rw [hx2] at hx
  cases hx
  exact ⟨Ex.refl _, step g _ _ (List.mem_of_getElem? hg) ee im⟩⟩
/-- all([.. for pair in known for .. in new list]), all of them true -/
theorem db_all2 (h : Ev td σ H (.ref fa)) (n : FG P w kg vd H fa od xs F) (hz : F.length ≤ 400) (ms : G → List D) (hm : ∀ g ∈ F, (ms g).length ≤ 24)
    (step : ∀ g v H1, g ∈ F → Ex H H1 → Im H1 (pairD (kg g)) v → ∃ σ2, (∀ Q : St → Hp → Prop, Q σ2 H1 → g0 v (wipe σ vs) H1 Q) ∧ wipe σ2 vs = wipe σ vs ∧ EvT tt σ2 H1 true ∧ DL te1 σ2 H1 (ms g) ∧
      ∀ d v H2, d ∈ ms g → Ex H H2 → TS H1 H2 → Im H2 d v → ∃ σ3, (∀ Q : St → Hp → Prop, Q σ3 H2 → g1 v (wipe σ2 vs1) H2 Q) ∧ wipe σ3 vs1 = wipe σ2 vs1 ∧ EvT tt1 σ3 H2 true ∧ DB te σ3 H2 true) :
    DB (tCB (rAll K) (tCons (tLc2 (iKeysN P w td) g0 tt (iList K te1) g1 tt1 te vs vs1) tNil)) σ H true := fun H0 e Q q => h H0 e _ fun H1 e1 => ⟨fa, od, xs, rfl, (e.trans e1) _ _ n.fr, fun Dl hD => by
  have len := n.length
  have e01 := e.trans e1
  refine ⟨fun i m H' => m = xs.length - i ∧ i ≤ xs.length ∧ Ex H1 H' ∧ ∃ k, k ≤ 24 * i ∧ H' Dl = some (.lst (List.replicate k (.bl true))), ⟨_, rfl, Nat.zero_le _, Ex.new hD, 0, Nat.zero_le _, upd_same⟩, ?_⟩
  rintro i m H' ⟨rfl, hi, x1, k, hk, hl⟩
  have fr' := x1 _ _ (e01 _ _ n.fr)
  by_cases hlt : i < xs.length
  · refine .inr ⟨walk_N.goes i H' hlt fr', fun H'' => i + 1 ≤ xs.length ∧ Ex H1 H'' ∧ ∃ k, k ≤ 24 * (i + 1) ∧ H'' Dl = some (.lst (List.replicate k (.bl true))), fun H'' p => ⟨xs.length - (i + 1), by omega, rfl, p⟩, fun x H'' y => ?_⟩
    obtain ⟨rfl, k', q', v, hx, rfl⟩ := walk_N.yields i H' x H'' hlt fr' y
    have x2 := e01.trans x1
    obtain ⟨g, hg⟩ : ∃ g, F[i]? = some g := ⟨_, List.getElem?_eq_getElem (by omega)⟩
    obtain ⟨q2, v2, hx2, im, _⟩ := (n.ex x2).at_ hg
    rw [hx2] at hx
    cases hx
    have hgF := List.mem_of_getElem? hg
    obtain ⟨σ2, s1, s2, s3, s4, s5⟩ := step g _ _ hgF x2 im
    refine s1 _ ⟨s2, ?_⟩
    refine s3 _ (Ex.refl _) _ fun H3 y3 => ?_
    rw [if_pos rfl]
    refine s4 H3 y3 _ fun p us H4 hp y4 hus il => ⟨p, rfl, ⟨us, SqL.of hus⟩, ?_⟩
    have lus : us.length = (ms g).length := il.length
    have lm := hm g hgF
    have hl3 := y3 _ _ hl
    have np : p ≠ Dl := fun z => by rw [z, hl3] at hp; cases hp
    refine ⟨fun j m H5 => m = us.length - j ∧ j ≤ us.length ∧ Ex H1 H5 ∧ H5 p = some (.lst us) ∧ TS H4 H5 ∧ ∃ k, k ≤ 24 * i + j ∧ H5 Dl = some (.lst (List.replicate k (.bl true))), ⟨_, rfl, Nat.zero_le _, x1.trans (y3.trans y4), hus, TS.refl _, k, hk, y4 _ _ hl3⟩, ?_⟩
    rintro j m H5 ⟨rfl, hj, x5, hp5, t5, k5, hk5, hl5⟩
    by_cases hjl : j < us.length
    · refine .inr ⟨(walk_list (K := K) (a := p) (xs := us)).goes j H5 hjl (SqL.of hp5), fun H6 => j + 1 ≤ us.length ∧ Ex H1 H6 ∧ H6 p = some (.lst us) ∧ TS H4 H6 ∧ ∃ k, k ≤ 24 * i + (j + 1) ∧ H6 Dl = some (.lst (List.replicate k (.bl true))), fun H6 p => ⟨us.length - (j + 1), by omega, rfl, p⟩, fun x H6 y => ?_⟩
      obtain ⟨rfl, hx⟩ := (walk_list (K := K) (a := p) (xs := us)).yields j H5 x H6 hjl (SqL.of hp5) y
      obtain ⟨d, hd, im⟩ := il.back hx
      obtain ⟨σ3, r1, r2, r3, r4⟩ := s5 d x H6 (List.mem_of_getElem? hd) (e01.trans x5) (((TS.ex (y3.trans y4))).trans t5) (im.ts t5)
      refine r1 _ ⟨r2, ?_⟩
      refine r3 _ (Ex.refl _) _ fun H7 y7 => ?_
      rw [if_pos rfl]
      refine r4 H7 y7 _ fun H8 y8 => ⟨_, y8 _ _ (y7 _ _ hl5), by rw [List.length_replicate]; exact Nat.lt_of_lt_of_le (show k5 < 100000 by omega) (by decide), ?_⟩
      have x8 := y7.trans y8
      refine ⟨hjl, Evl.Ex.mut (x5.trans x8) hD, by rw [upd_ne np]; exact x8 _ _ hp5, t5.trans ((TS.ex x8).trans (TS.mut (x8 _ _ hl5) (fun _ z => nomatch z))), k5 + 1, by omega, ?_⟩
      rw [upd_same, List.replicate_succ']
    · have ej : j = us.length := by omega
      subst ej
      exact .inl ⟨(walk_list (K := K) (a := p) (xs := us)).stops H5 (SqL.of hp5), hlt, x5, k5, by omega, hl5⟩
  · have ei : i = xs.length := by omega
    subst ei
    refine .inl ⟨walk_N.stops H' fr', ?_⟩
    exact ⟨Dl, List.replicate k true, rfl, SqL.of (by rw [List.map_replicate]; exact hl), by
      have : (List.replicate k true).all id = true := by simp
      rw [this]
      exact q H' (e1.trans x1)⟩⟩
end
end Fk

set_option Elab.async false
set_option linter.all false
set_option maxRecDepth 100000
set_option maxHeartbeats 4000000
/-! loops over locked dicts -/
namespace Fk
open PySem PySem.Spec PyProof.Rows L2 He
open Evl (Ex Ev EvT EvL EvA)
/-- what is known of the heap with the dict locked -/
structure LK {G : Type} (P : Program) (w : World) (kg : G → Pair) (vd : G → Option D) (H : Hp) (fa : Addr) (xs : List (D × Addr × V)) (F : List G) (Hf : Hp) : Prop where
  fg : ∃ od, FG P w kg vd Hf fa od xs F
  ts : TS H Hf
  back : ∀ H0, Ex H0 H → H0 fa = none → Ex H0 Hf
  out : ∀ H', Ex Hf H' → Ex H (upd H' fa (NdO P w fa xs))
  ne : ∀ b o, b ≠ fa → H b = some o → Hf b = some o
  dom : ∀ b, Hf b = none → H b = none
theorem DG.lk {G : Type} {P : Program} {w : World} {kg : G → Pair} {vd : G → Option D} {H : Hp} {fa : Addr} {xs : List (D × Addr × V)} {F : List G} (d : DG P w kg vd H fa xs F) (h : F ≠ []) (od : Obj) : LK P w kg vd H fa xs F (upd H fa (.frz od (NdO P w fa xs))) := by
  obtain ⟨e, f⟩ := d.lock h
  refine ⟨⟨od, f od⟩, TS.mut e (fun us z => NdO.noTup us z), fun H0 x n => Evl.Ex.mut x n, fun H' x => (lock_ex e x).2, fun b o n q => by rw [upd_ne n]; exact q, fun b q => ?_⟩
  by_cases n : b = fa
  · rw [n, upd_same] at q; cases q
  · rw [upd_ne n] at q; exact q
section
variable {G : Type} {P : Program} {w : World} {K : PySem.W.Frag} {kg : G → Pair} {vd : G → Option D} {σ : L2.St} {H : Hp} {fa : Addr} {xs : List (D × Addr × V)} {F : List G} {td : TE} {De : Ends} {tu ty : L2.TS}
/-- for pair, x in d.items(), d locked -/
theorem q_lockI {i j : Nat} (dg : DG P w kg vd H fa xs F) (hne : F ≠ []) (hv : ∀ H', Ev td σ H' (.ref fa)) (Pv : Hp → Nat → St → Hp → Prop) (h0 : ∀ Hf, LK P w kg vd H fa xs F Hf → ∀ H1, Ex Hf H1 → Pv Hf 0 σ H1)
    (hk : ∀ Hf n σ' H', LK P w kg vd H fa xs F Hf → Pv Hf n σ' H' → TS Hf H' ∧ ∀ o, Hf fa = some o → H' fa = some o)
    (hs : ∀ Hf n g v u σ' H' T, LK P w kg vd H fa xs F Hf → F[n]? = some g → Pv Hf n σ' H' → H' T = none → Im H' (pairD (kg g)) v → ImO H' (vd g) u →
      tu { nx := fun σ2 H2 => Pv Hf (n + 1) σ2 H2, ct := fun σ2 H2 => Pv Hf (n + 1) σ2 H2, rt := fun r H2 => H2 fa = Hf fa ∧ De.rt r (upd H2 fa (NdO P w fa xs)), bk := fun σ2 H2 => H2 fa = Hf fa ∧ ty De σ2 (upd H2 fa (NdO P w fa xs)) } ((σ'.set i (some v)).set j (some u)) (upd H' T (.tup [v, u])))
    (hd : ∀ Hf σ' H', LK P w kg vd H fa xs F Hf → Pv Hf F.length σ' H' → ty De σ' (upd H' fa (NdO P w fa xs))) : tSeq (tLock (tFor (iItemsN P w td) (gTup K 2 (gCons (gName i) (gCons (gName j) gNil))) tu)) ty De σ H := by
  obtain ⟨e, f⟩ := dg.lock hne
  refine ⟨fa, NdO P w fa xs, e, NdO.mut, fun od => ?_⟩
  have lk := dg.lk hne od
  have fg := f od
  have hfr := fg.fr
  have len := fg.length
  refine hv _ _ (Ex.refl _) _ fun H1 x1 => ⟨fa, od, xs, rfl, x1 _ _ hfr, ?_⟩
  have kfr : ∀ n σ' H', Pv _ n σ' H' → H' fa = some (.frz od (NdO P w fa xs)) := fun n σ' H' p => (hk _ n σ' H' lk p).2 _ hfr
  refine for_it walk_I (Pv _) (h0 _ lk H1 x1) (fun n σ' H' _ p => kfr n σ' H' p) ?_ (by rw [len]; exact fun σ' H' p => ⟨kfr _ σ' H' p, hd _ σ' H' lk p⟩)
  rintro n v σ' H5 H5' hn p ⟨T, k, q, u, hx, rfl, hT, rfl⟩
  obtain ⟨g, hg⟩ : ∃ g, F[n]? = some g := ⟨_, List.getElem?_eq_getElem (by omega)⟩
  obtain ⟨q2, u2, hx2, im, iu⟩ := fg.at_ hg
  rw [hx2] at hx
  cases hx
  have t5 := (hk _ n σ' H5 lk p).1
  have := hs _ n g _ _ σ' H5 T lk hg p hT (im.ts t5) (iu.ts t5)
  rw [hfr] at this
  exact tgt_tup upd_same rfl (tgt_cons (tgt_cons tgt_nil)) _ this
/-- for pair in d, d locked -/
theorem q_lockK {i : Nat} (dg : DG P w kg vd H fa xs F) (hne : F ≠ []) (hv : ∀ H', Ev td σ H' (.ref fa)) (Pv : Hp → Nat → St → Hp → Prop) (h0 : ∀ Hf, LK P w kg vd H fa xs F Hf → ∀ H1, Ex Hf H1 → Pv Hf 0 σ H1)
    (hk : ∀ Hf n σ' H', LK P w kg vd H fa xs F Hf → Pv Hf n σ' H' → TS Hf H' ∧ ∀ o, Hf fa = some o → H' fa = some o)
    (hs : ∀ Hf n g v σ' H', LK P w kg vd H fa xs F Hf → F[n]? = some g → Pv Hf n σ' H' → Im H' (pairD (kg g)) v →
      tu { nx := fun σ2 H2 => Pv Hf (n + 1) σ2 H2, ct := fun σ2 H2 => Pv Hf (n + 1) σ2 H2, rt := fun r H2 => H2 fa = Hf fa ∧ De.rt r (upd H2 fa (NdO P w fa xs)), bk := fun σ2 H2 => H2 fa = Hf fa ∧ ty De σ2 (upd H2 fa (NdO P w fa xs)) } (σ'.set i (some v)) H')
    (hd : ∀ Hf σ' H', LK P w kg vd H fa xs F Hf → Pv Hf F.length σ' H' → ty De σ' (upd H' fa (NdO P w fa xs))) : tSeq (tLock (tFor (iKeysN P w td) (gName i) tu)) ty De σ H := by
  obtain ⟨e, f⟩ := dg.lock hne
  refine ⟨fa, NdO P w fa xs, e, NdO.mut, fun od => ?_⟩
  have lk := dg.lk hne od
  have fg := f od
  have hfr := fg.fr
  have len := fg.length
  refine hv _ _ (Ex.refl _) _ fun H1 x1 => ⟨fa, od, xs, rfl, x1 _ _ hfr, ?_⟩
  have kfr : ∀ n σ' H', Pv _ n σ' H' → H' fa = some (.frz od (NdO P w fa xs)) := fun n σ' H' p => (hk _ n σ' H' lk p).2 _ hfr
  refine for_it walk_N (Pv _) (h0 _ lk H1 x1) (fun n σ' H' _ p => kfr n σ' H' p) ?_ (by rw [len]; exact fun σ' H' p => ⟨kfr _ σ' H' p, hd _ σ' H' lk p⟩)
  rintro n v σ' H5 H5' hn p ⟨rfl, k, q, u, hx, rfl⟩
  obtain ⟨g, hg⟩ : ∃ g, F[n]? = some g := ⟨_, List.getElem?_eq_getElem (by omega)⟩
  obtain ⟨q2, u2, hx2, im, iu⟩ := fg.at_ hg
  rw [hx2] at hx
  cases hx
  have t5 := (hk _ n σ' H5' lk p).1
  have := hs _ n g _ σ' H5' lk hg p (im.ts t5)
  rw [hfr] at this
  exact this
/-- if a test over the locked dict fails: on -/
theorem q_lockUn {tt : TT} (dg : DG P w kg vd H fa xs F) (hne : F ≠ []) (h : ∀ Hf, LK P w kg vd H fa xs F Hf → EvT tt σ Hf false) (k : ∀ H1, Ex H H1 → ty De σ H1) : tSeq (tLock (tIfS tt tu tNext)) ty De σ H := by
  obtain ⟨e, f⟩ := dg.lock hne
  refine ⟨fa, NdO P w fa xs, e, NdO.mut, fun od => ?_⟩
  have lk := dg.lk hne od
  exact Evl.s_if (h _ lk) (fun z => nomatch z) fun _ H1 x1 => ⟨x1 _ _ upd_same, k _ (lk.out H1 x1)⟩
/-- return of a truth value, the dict locked -/
theorem s_lockRe {te : TE} {b : Bool} (dg : DG P w kg vd H fa xs F) (hne : F ≠ []) (h : ∀ Hf, LK P w kg vd H fa xs F Hf → DB te σ Hf b) (k : ∀ H1, Ex H H1 → De.rt (.bl b) H1) : tRet (tLockE te) De σ H := by
  obtain ⟨e, f⟩ := dg.lock hne
  refine ⟨fa, NdO P w fa xs, e, NdO.mut, fun od => ?_⟩
  have lk := dg.lk hne od
  exact h _ lk _ (Ex.refl _) _ fun H1 x1 => ⟨x1 _ _ upd_same, k _ (lk.out H1 x1)⟩
end
end Fk

set_option Elab.async false
set_option linter.all false
set_option maxRecDepth 100000
set_option maxHeartbeats 4000000
/-! len of a machine; the filter's arguments; what is served -/
namespace Fk
open PySem PySem.Spec PyProof.Rows L2 He
open Evl (Ex Ev EvT EvL EvA)
def rLenM (K : PySem.W.Frag) (E : XK) : List V → Hp → VK → Prop := fun xs H Q => ∃ a dx vs, xs = [V.ref a] ∧ SlX.Slt H a (ga K "Machine") dx vs ∧ (sp_Machine_len K) [.ref a] H (fun z H' => ∃ i, z = .int i ∧ 0 ≤ i ∧ i < 2 ^ 63 ∧ Q z H') E
section
variable {P : Program} {w : World} {K : PySem.W.Frag} {σ : L2.St} {H H' : Hp} {a : Addr} {M : Mac} {Pl : Plan} {ta : TE} {tr : TA} {E : XK} {vs : List V} {ps : List Pair}
theorem dv_lenM (h : Ev ta σ H (.ref a)) (m : MacAt K H a M) : DV (tCB (rLenM K E) (tCons ta tNil)) σ H (.num (M.rows.length : Int)) := fun H1 x Q q =>
  h H1 x _ fun H2 y => by
    have m2 := m.ex (x.trans y)
    obtain ⟨ok, dx, v, u, s, _⟩ := id m2
    have six := ok.six
    refine ⟨a, dx, _, rfl, s, a, M, [], _, [], rfl, m2, iml_nil, ⟨rfl, rfl⟩, fun v H3 z iv => ⟨_, iv.num, by omega, by omega, q v H3 (y.trans z) iv⟩⟩
/-- index, machine, condition -/
def ArgsAt (K : PySem.W.Frag) (H : Hp) (Pl : Plan) (i m c : V) : Prop := PlanOk Pl ∧ ∃ ia ma, i = .ref ia ∧ m = .ref ma ∧ MacAt K H ia Pl.I ∧ MacAt K H ma Pl.M ∧ Im H Pl.c.d c
theorem ArgsAt.ex {i m c : V} (x : Ex H H') (h : ArgsAt K H Pl i m c) : ArgsAt K H' Pl i m c := by
  obtain ⟨hP, ia, ma, e1, e2, m1, m2, ic⟩ := h
  exact ⟨hP, ia, ma, e1, e2, m1.ex x, m2.ex x, ic.ex x⟩
/-- a Served -/
def ServedAt (K : PySem.W.Frag) (H : Hp) (a : Addr) (ps : List Pair) : Prop := ∃ dx l us, SlX.Slt H a (ga K "Served") dx [some (.ref l)] ∧ H l = some (.lst us) ∧ ImL H (ps.map pairD) us
theorem ServedAt.ex (x : Ex H H') (h : ServedAt K H a ps) : ServedAt K H' a ps := by
  obtain ⟨dx, l, us, s, hl, il⟩ := h
  exact ⟨dx, l, us, slt_ex x s, x _ _ hl, il.ex x⟩
/-- a Mixed -/
def MixedAt (K : PySem.W.Frag) (H : Hp) (a : Addr) (one other : Tx) : Prop := ∃ dx, SlX.Slt H a (ga K "Mixed") dx [some (.str (tS one)), some (.str (tS other))]
theorem MixedAt.ex {x y : Tx} (e : Ex H H') (h : MixedAt K H a x y) : MixedAt K H' a x y := by
  obtain ⟨dx, s⟩ := h
  exact ⟨dx, slt_ex e s⟩
/-- what makes the pairs serve -/
structure Serves (Pl : Plan) (ps : List Pair) : Prop where
  ok : ∀ p ∈ ps, PairOk Pl p
  nd : ps.Nodup
  len : ps.length ≤ 400
  first : (Pl.first, Pl.first) ∈ ps
  same : ∀ p ∈ ps, metS Pl.c p.1.st = metS Pl.c p.2.st
  closed : ∀ p ∈ ps, ∀ m ∈ Pl.moves p, m.q ∈ ps
/-- what makes two values mixed -/
structure Mixes (Pl : Plan) (one other : Tx) : Prop where
  l1 : ∀ x ∈ one, x ∈ Pl.I.L
  l2 : ∀ x ∈ other, x ∈ Pl.I.L
  z1 : one.length ≤ 50000
  z2 : other.length ≤ 50000
  key : (Pl.I.ends one).2 = (Pl.I.ends other).2
  yes : metS Pl.c (legOf Pl one).st = true
  no : metS Pl.c (legOf Pl other).st = false
end
end Fk

set_option Elab.async false
set_option linter.all false
set_option maxRecDepth 100000
set_option maxHeartbeats 4000000
/-! new objects by names; the dict of known pairs -/
namespace Fk
open PySem PySem.Spec PyProof.Rows L2 He
open Evl (Ex Ev EvT EvL EvA)
section
variable {α : Type} {M : Hp → α → V → Prop} {P : Program} {w : World} {K : PySem.W.Frag} {σ : L2.St} {H : Hp} {ta tb td te : TE} {tt : TT} {De : Ends} {ty : L2.TS} {C : Addr} {sl : List (Option V)} {vs : List Nat} {Pl : Plan} {ps : List Pair} {a b : Bool}
theorem q_asO {i : Nat} (h : OV te σ H C sl) (k : ∀ a dx H1, H a = none → Ex H H1 → SlX.Slt H1 a C dx sl → ty De (σ.set i (some (.ref a))) H1) : tSeq (tAsg te (gName i)) ty De σ H := h H (Ex.refl _) _ fun a dx H1 p x s => k a dx H1 p x s
theorem db_eqB (h : DB ta σ H a) (h2 : DB tb σ H b) : DB (tOp rEq ta tb) σ H (decide (a = b)) := Evl.ev_is (Evl.ev_op h h2 (Evl.rv_eq rfl)) (by
  have : decide (V.bl a = V.bl b) = decide (a = b) := by by_cases e : a = b <;> simp [e]
  rw [this])
theorem step2 {i j : Nat} {b : Addr} {w1 w2 : V} {H1 : Hp} {c : Bool} {x : α} (hb : H1 b = some (.tup [w1, w2])) (hw : wipe (((wipe σ vs).set i (some w1)).set j (some w2)) vs = wipe σ vs)
    (ht : EvT tt (((wipe σ vs).set i (some w1)).set j (some w2)) H1 c) (he : c = true → EvM M te (((wipe σ vs).set i (some w1)).set j (some w2)) H1 x) :
    ∃ σ2, (∀ Q : St → Hp → Prop, Q σ2 H1 → gTup K 2 (gCons (gName i) (gCons (gName j) gNil)) (.ref b) (wipe σ vs) H1 Q) ∧ wipe σ2 vs = wipe σ vs ∧ EvT tt σ2 H1 c ∧ (c = true → EvM M te σ2 H1 x) :=
  ⟨_, tgt_tup hb rfl (tgt_cons (tgt_cons tgt_nil)), hw, ht, he⟩
theorem pd_nodup (nd : ps.Nodup) (ok : ∀ p ∈ ps, PairOk Pl p) : (ps.map pairD).Nodup := by
  induction ps with
  | nil => exact List.nodup_nil
  | cons p r ih =>
    rw [List.nodup_cons] at nd
    rw [List.map_cons, List.nodup_cons]
    refine ⟨fun z => ?_, ih nd.2 fun q hq => ok q (List.mem_cons_of_mem _ hq)⟩
    obtain ⟨q, hq, e⟩ := List.mem_map.mp z
    have := pair_inj (ok q (List.mem_cons_of_mem _ hq)) (ok p List.mem_cons_self) e
    exact nd.1 (this ▸ hq)
abbrev DP (P : Program) (w : World) (H : Hp) (fa : Addr) (xs : List (D × Addr × V)) (ps : List Pair) : Prop := DG P w (fun p : Pair => p) (fun _ => none) H fa xs ps
/-- {pair: True for pair in pairs} -/
theorem q_dcP {i j : Nat} {l : Addr} {us : List V} (h : Ev td σ H (.ref l)) (hl : H l = some (.lst us)) (il : ImL H (ps.map pairD) us) (nd : ps.Nodup) (ok : ∀ p ∈ ps, PairOk Pl p) (hz : ps.length ≤ 400)
    (hw : ∀ x, wipe ((wipe σ vs).set j (some x)) vs = wipe σ vs) (hv : ∀ x, ((wipe σ vs).set j (some x))[j]? = some (some x))
    (k : ∀ p xs H1, H p = none → Ex H H1 → DP P w H1 p xs ps → ty De (σ.set i (some (.ref p))) H1) : tSeq (tAsg (tDcN P w (iList K td) (gName j) tYes (tVar j) (tC (.bl true)) vs) (gName i)) ty De σ H :=
  h H (Ex.refl _) _ fun H1 x1 => ⟨l, rfl, ⟨us, SqL.of (x1 _ _ hl)⟩, fun Dl hD => by
    have hl1 := x1 _ _ hl
    have nl : l ≠ Dl := fun z => by rw [z, hD] at hl1; cases hl1
    have lus : us.length = ps.length := by rw [il.length, List.length_map]
    have ndp := pd_nodup nd ok
    refine ⟨fun n m H' => m = us.length - n ∧ n ≤ us.length ∧ Ex H1 H' ∧ ∃ xs, DP P w H' Dl xs (ps.take n), ⟨_, rfl, Nat.zero_le _, Ex.new hD, [], ⟨.inr ⟨rfl, upd_same⟩, NdKeys.nil⟩, .nil⟩, ?_⟩
    rintro n m H' ⟨rfl, hn, x2, xs, dg⟩
    have hl2 := x2 _ _ hl1
    by_cases hlt : n < us.length
    · refine .inr ⟨(walk_list (K := K) (a := l) (xs := us)).goes n H' hlt (SqL.of hl2), fun H'' => n + 1 ≤ us.length ∧ Ex H1 H'' ∧ ∃ xs, DP P w H'' Dl xs (ps.take (n + 1)), fun H'' p => ⟨us.length - (n + 1), by omega, rfl, p⟩, fun x H'' y => ?_⟩
      obtain ⟨rfl, hx⟩ := (walk_list (K := K) (a := l) (xs := us)).yields n H' x H'' hlt (SqL.of hl2) y
      obtain ⟨d, hd, im⟩ := il.back hx
      obtain ⟨p, hp, rfl⟩ : ∃ p, ps[n]? = some p ∧ pairD p = d := by simpa using hd
      have im2 := im.ex (x1.trans x2)
      obtain ⟨b, vs2, rfl, _⟩ := id (show Im H'' (.tup [p.1.d, p.2.d]) x from im2).tup
      have sh := (pair_shape p).2
      have lx : xs.length = (ps.take n).length := dg.length
      have nk : pairD p ∉ xs.map (·.1) := by
        rw [paired_keys dg.pr]
        intro z
        obtain ⟨q, hq, e⟩ := List.mem_map.mp z
        have eq : q = p := pair_inj (ok q (List.mem_of_mem_take hq)) (ok p (List.mem_of_getElem? hp)) e
        subst eq
        have t2 : (ps.take n ++ [q]).Nodup := by
          rw [← take_snoc hp]
          exact nd.sublist (List.take_sublist _ _)
        rw [List.nodup_append] at t2
        exact t2.2.2 q hq q (List.mem_singleton.mpr rfl) rfl
      refine ⟨hw _, ?_⟩
      unfold tYes
      dsimp only []
      rw [if_pos rfl]
      refine ⟨_, hv _, xs, pairD p, b, rfl, dg.nd, im2, by omega, nk, Nat.lt_of_lt_of_le (show xs.length < 1000 by rw [lx, List.length_take]; omega) (by decide), hlt, ?_⟩
      obtain ⟨t3, d3⟩ := DG.put (g := p) (v := .bl true) dg im2 True.intro
      refine ⟨Evl.Ex.mut x2 hD, xs ++ [(pairD p, b, .bl true)], ?_⟩
      rw [take_snoc hp]
      exact d3
    · have en : n = us.length := by omega
      subst en
      rw [lus, List.take_length] at dg
      exact .inl ⟨(walk_list (K := K) (a := l) (xs := us)).stops H' (SqL.of hl2), k Dl xs H' (Evl.fresh_back x1 hD) (x1.trans x2) dg⟩⟩
end
section
variable {α β : Type} {M : Hp → α → V → Prop} {K : PySem.W.Frag} {σ : L2.St} {H : Hp} {te tz ta tb : TE} {tt : TT} {d : D} {ds : List D}
/-- [.. for x in tuple if ..] over coded things -/
theorem lc_tupG {enc : β → D} {items : List β} {vs : List Nat} {g : TG} (mono : TsMono M) (f : β → α) (h : DV tz σ H (.tup (items.map enc))) (hz : items.length ≤ 100000)
    (step : ∀ b v H1, b ∈ items → Ex H H1 → Im H1 (enc b) v → ∃ σ2, (∀ Q : St → Hp → Prop, Q σ2 H1 → g v (wipe σ vs) H1 Q) ∧ wipe σ2 vs = wipe σ vs ∧ EvM M te σ2 H1 (f b)) :
    ELM M (tLc (iTup K tz) g tYes te vs) σ H (items.map f) := fun H0 e Q q => h H0 e _ fun w H1 e1 iw => by
  obtain ⟨a, us, rfl, ha, hl⟩ := iw.tup
  refine ⟨a, rfl, ⟨us, SqT.of ha⟩, fun Dl hD => ?_⟩
  have len : us.length = items.length := by rw [hl.length, List.length_map]
  refine lc_gen walk_tup mono items len.symm (by omega) (fun _ => true) f hD (fun H' e2 => SqT.of (e2 _ _ ha)) ?_ fun H' us e2 hus pr => q Dl us H' (Evl.fresh_back e1 hD) (e1.trans e2) hus (by rw [filter_tt] at pr; exact pr)
  rintro i b H' x H'' hb e2 ⟨rfl, hx⟩
  obtain ⟨v, hv, iv⟩ := hl.get (show (items.map enc)[i]? = some (enc b) by rw [List.getElem?_map, hb]; rfl)
  rw [hv] at hx
  cases hx
  obtain ⟨σ2, s1, s2, s3⟩ := step b x _ (List.mem_of_getElem? hb) ((e.trans e1).trans e2) (iv.ex e2)
  exact ⟨Ex.refl _, σ2, s1, s2, et_yes, fun _ => s3⟩
/-- xs[n], xs a list -/
theorem dv_ixL {n : Nat} {p : Addr} {us : List V} (h : Ev ta σ H (.ref p)) (hp : H p = some (.lst us)) (il : ImL H ds us) (hi : DV tb σ H (.num (n : Int))) (g : ds[n]? = some d) : DV (tOp (rIxL K) ta tb) σ H d := fun H1 x Q q =>
  h H1 x _ fun H2 y => hi H2 (x.trans y) _ fun w H3 z iw => by
    obtain ⟨u, hu, iu⟩ := (il.ex (x.trans (y.trans z))).get g
    exact ⟨p, us, (n : Int), u, rfl, iw.num, SqL.of (z _ _ (y _ _ (x _ _ hp))), atI_nat hu, q u H3 (y.trans z) iu⟩
end
end Fk

set_option Elab.async false
set_option linter.all false
set_option maxRecDepth 100000
set_option maxHeartbeats 4000000
/-! what serves, what is mixed: as it is looked at -/
namespace Fk
open PySem PySem.Spec PyProof.Rows L2 He
open Evl (Ex Ev EvT EvL EvA ev_andV ev_orV ev_notV et_and et_or et_not)
section
variable {P : Program} {w : World} {K : PySem.W.Frag} {mg : Str → Option Value} {base : Heap}
abbrev sp_Legs_is_leg (K : PySem.W.Frag) : Sp := spGB K fun Pl ds b => ∃ g, ds = [Leg.d g] ∧ LegOk Pl g ∧ b = true
theorem sc_Legs_is_leg : FnScope ["self", "thing"] ["self", "thing"] (defScope s_Legs_is_leg) := ⟨rfl, rfl, rfl, by decide +kernel, rfl, by decide +kernel, by decide +kernel⟩
theorem ok_Legs_is_leg (T : Txt K mg) : FnR P w K mg base CX0 4 (a_Legs_is_leg K) (sp_Legs_is_leg K) := by
  refine okR T.F_Legs_is_leg sc_Legs_is_leg (fun _ _ _ _ _ _ us hl => match us, hl with | [_, _], _ => rfl) ?_ fun cdv A outer s H vs Q E hr q => ?_
  · exact spGB_len fun _ _ _ ⟨_, e, _⟩ => by rw [e]; rfl
  obtain ⟨a, Pl, ds, b, ws, rfl, m, il, ⟨g, rfl, hg, rfl⟩, q⟩ := q
  obtain ⟨v1, rfl, i1⟩ := il.one
  obtain ⟨hP, dx, c, ka, ma, s, ic, mk, mm⟩ := id m
  have h1 := hg.s
  have h2 := hg.p
  refine ⟨_, (pss_cons (ps_if (PW.pt (pw_or (pt_not (pt_val (pe_callB (id := "isinstance") (show CallR _ _ (rIsi K) from call_isi) (by rfl) T.n_isinstance (by decide +kernel) (pa_cons (pv 1) (pa_cons (pe_bltn (v := .ty "tuple") (u := .type "tuple") (by rfl) T.n_tuple (by decide +kernel) rfl) pa_nil))))) (pw_or1 (pt_cmpR op_ne (pe_callB (id := "len") (show CallR _ _ (rLenQ K) from call_len_seq) (by rfl) T.n_len (by decide +kernel) (pa_cons (pv 1) pa_nil)) (pe_ifExp (pt_cmpR op_isN (show PE _ _ (SlX.tSl K _ _) from SlX.pe_sl (pv 0)) pe_non (by rfl)) pe_int pe_int) (by rfl))))) (pss_one (ps_ret pe_bl)) pss_nil) (pss_cons (ps_if (PW.pt (pw_or (pt_not (pt_val (pe_fn (ok_is_number T) (hr.mono (by decide)) (by rfl) T.g_is_number (kp_of T.F_is_number) pass0 (pa_cons (pe_ix (show IxR _ (rIxT K) from ix_tup) (pv 1) pe_int (fun _ _ => rfl)) (pa_cons pe_int (pa_cons (pe_op op_sub (pe_callB (id := "len") (show CallR _ _ (rLenM K E0) from call_lenSl T.len_find T.len_fn (ok_Machine_len T) (hr.mono (by decide)) pass0) (by rfl) T.n_len (by decide +kernel) (pa_cons (show PE _ _ (SlX.tSl K _ _) from SlX.pe_sl (pv 0)) pa_nil)) pe_int) pa_nil)))))) (pw_or1 (pt_not (pt_val (pe_fn (ok_is_number T) (hr.mono (by decide)) (by rfl) T.g_is_number (kp_of T.F_is_number) pass0 (pa_cons (pe_ix (show IxR _ (rIxT K) from ix_tup) (pv 1) pe_int (fun _ _ => rfl)) (pa_cons pe_int (pa_cons (pe_op op_sub (pe_callB (id := "len") (show CallR _ _ (rLenM K E0) from call_lenSl T.len_find T.len_fn (ok_Machine_len T) (hr.mono (by decide)) pass0) (by rfl) T.n_len (by decide +kernel) (pa_cons (show PE _ _ (SlX.tSl K _ _) from SlX.pe_sl (pv 0)) pa_nil)) pe_int) pa_nil))))))))) (pss_one (ps_ret pe_bl)) pss_nil) (pss_one (ps_ret (pe_or (pe_cmpR op_isN (show PE _ _ (SlX.tSl K _ _) from SlX.pe_sl (pv 0)) pe_non (by rfl)) (pe_one (pe_fn (ok_is_stand_of T) (hr.mono (by decide)) (by rfl) T.g_is_stand_of (kp_of T.F_is_stand_of) pass0 (pa_cons (show PE _ _ (SlX.tSl K _ _) from SlX.pe_sl (pv 0)) (pa_cons (pe_ix (show IxR _ (rIxT K) from ix_tup) (pv 1) pe_int (fun _ _ => rfl)) pa_nil))))))))), ?_⟩
  refine q_un (dt_is (et_or (et_not (dt_b (db_isiD (b := true) (dv_var i1) rfl))) fun _ => dt_t (db_neI (dv_lenT (ds := [.num (g.s : Int), .num (g.p : Int), g.st.d]) (dv_var i1)) (dv_if (b := false) (dt_t (db_is (db_isN (dv_sl ev_vr s T.c_Legs T.s_Legs_condition ic)) (Cond.notN _))) (fun z => nomatch z) fun _ => dv_int))) rfl) fun H1 x1 => ?_
  refine q_un (dt_is (et_or (et_not (dt_b (db_fn (da_cons (dv_ix (n := 0) (d := .num (g.s : Int)) (dv_var (i1.ex x1)) dv_int rfl) (da_cons dv_int (da_cons (dv_opI (dv_lenM (ev_sl ev_vr (slt_ex x1 s) T.c_Legs T.s_Legs_keeper rfl) (mk.ex x1)) dv_int) da_nil))) ⟨_, _, _, rfl, rfl⟩))) fun _ =>
    et_not (dt_b (db_fn (da_cons (dv_ix (n := 1) (d := .num (g.p : Int)) (dv_var (i1.ex x1)) dv_int rfl) (da_cons dv_int (da_cons (dv_opI (dv_lenM (ev_sl ev_vr (slt_ex x1 s) T.c_Legs T.s_Legs_machine rfl) (mm.ex x1)) dv_int) da_nil))) ⟨_, _, _, rfl, rfl⟩))) ?_) fun H2 x2 => ?_
  · simp
    omega
  have x12 := x1.trans x2
  exact s_reB (db_is (ev_orV (db_is (db_isN (dv_sl ev_vr (slt_ex x12 s) T.c_Legs T.s_Legs_condition (ic.ex x12))) (Cond.notN _)) fun _ => db_fn (b := true) (da_cons (dv_sl ev_vr (slt_ex x12 s) T.c_Legs T.s_Legs_condition (ic.ex x12)) (da_cons (dv_ix (n := 2) (d := g.st.d) (dv_var (i1.ex x12)) dv_int rfl) da_nil)) ⟨Pl.I.L, Pl.c, g.st, rfl, hP.c, hg.st, rfl⟩) rfl) fun H3 x3 => q H3 (x12.trans x3)
abbrev sp_Legs_are_pairs (K : PySem.W.Frag) : Sp := fun vs H Q _ => ∃ (a : Addr) (Pl : Plan) (pa : Addr) (us : List V) (ps : List Pair), vs = [.ref a, .ref pa] ∧ LegsAt K H a Pl ∧ H pa = some (.lst us) ∧ ImL H (ps.map pairD) us ∧ (∀ p ∈ ps, PairOk Pl p) ∧ ps.length ≤ 400 ∧ (Pl.first, Pl.first) ∈ ps ∧ ∀ H', Ex H H' → Q (.bl true) H'
theorem sc_Legs_are_pairs : FnScope ["self", "pairs", "pair", "leg"] ["self", "pairs"] (defScope s_Legs_are_pairs) := ⟨rfl, rfl, rfl, by decide +kernel, rfl, by decide +kernel, by decide +kernel⟩
theorem ok_Legs_are_pairs (T : Txt K mg) : FnR P w K mg base CX0 5 (a_Legs_are_pairs K) (sp_Legs_are_pairs K) := by
  refine okR T.F_Legs_are_pairs sc_Legs_are_pairs (fun _ _ _ _ _ _ us hl => match us, hl with | [_, _], _ => rfl) ?_ fun cdv A outer s H vs Q E hr q => ?_
  · rintro vs H Q E ⟨_, _, _, _, _, rfl, _⟩
    rfl
  obtain ⟨a, Pl, pa, us, ps, rfl, m, hpa, il, ok, hz, hf, q⟩ := q
  obtain ⟨hP, _⟩ := id m
  refine ⟨_, (pss_cons (ps_for PassesOwn.never rfl (show PI _ _ _ (iList K _) from pi_list (pv 1)) (pg_name (i := 2) sc_Legs_are_pairs.nd rfl (by first | exact .inl rfl | exact .inr rfl)) (pss_one (ps_if (PW.pt (pw_or (pt_not (pt_val (pe_callB (id := "isinstance") (show CallR _ _ (rIsi K) from call_isi) (by rfl) T.n_isinstance (by decide +kernel) (pa_cons (pv 2) (pa_cons (pe_bltn (v := .ty "tuple") (u := .type "tuple") (by rfl) T.n_tuple (by decide +kernel) rfl) pa_nil))))) (pw_or (pt_cmpR op_ne (pe_callB (id := "len") (show CallR _ _ (rLenQ K) from call_len_seq) (by rfl) T.n_len (by decide +kernel) (pa_cons (pv 2) pa_nil)) pe_int (by rfl)) (pw_or1 (pt_not (pt_val (pe_callB (id := "all") (show CallR _ _ (rAll K) from cr_all rfl) (by rfl) T.n_all (by decide +kernel) (pa_cons (pe_lc (own := [("leg", 3)]) rfl sc_Legs_are_pairs.nd (show PI _ _ _ (iTup K _) from pi_tup (pv 2)) (blkOk_by (own := [("leg", 3)]) (N := ["self", "pairs", "pair", "leg"]) (sc := defScope s_Legs_are_pairs) (by decide +kernel)) (fun _ _ _ _ _ => (pg_name (i := 3) sc_Legs_are_pairs.nd rfl (by first | exact .inl rfl | exact .inr rfl))) (fun _ _ _ _ _ => pts_nil) (fun _ _ _ _ _ => (SlX.pe_methSl (pv 0) T.c_Legs T.m_Legs_is_leg (ok_Legs_is_leg T) (hr.mono (by decide)) pass0 (pa_cons (pv 3) pa_nil)))) pa_nil)))))))) (pss_one (ps_ret pe_bl)) pss_nil))) (pss_one (ps_ret (pe_cmpR (show OpR _ _ (rInD K) from op_inD (Room.units65 hr)) (SlX.pe_methSl0 (pv 0) T.c_Legs T.m_Legs_first (ok_Legs_first T) (hr.mono (by decide)) pass0) (pv 1) (by rfl))))), ?_⟩
  refine q_forLi (ds := ps.map pairD) ev_vr hpa il (fun n σ' H' => Ex H H' ∧ ∃ s2 s3 : Option V, σ' = [some (.ref a), some (.ref pa), s2, s3]) (fun H1 x1 => ⟨x1, _, _, rfl⟩) (fun n σ' H' p => ⟨TS.ex p.1, p.1 _ _ hpa⟩) ?_ ?_
  · rintro n d v σ' H' hd ⟨x1, s2, s3, rfl⟩ im
    obtain ⟨p, hp, rfl⟩ : ∃ p, ps[n]? = some p ∧ pairD p = d := by simpa using hd
    have okp := ok p (List.mem_of_getElem? hp)
    show tIfS _ _ _ _ [some (.ref a), some (.ref pa), some v, s3] _
    refine s_of (q_un (dt_is (et_or (et_not (dt_b (db_isiD (b := true) (dv_var im) rfl))) fun _ => et_or (dt_t (db_neI (dv_lenT (ds := [p.1.d, p.2.d]) (dv_var im)) dv_int)) fun _ => et_not (dt_b (db_allT (lc_tup1A (f := fun _ => true) (ds := [p.1.d, p.2.d]) isB_mono (dv_var im) (Nat.le_of_ble_eq_true rfl) ?_) ?_))) rfl) fun H2 x2 => ⟨x1.trans x2, _, _, rfl⟩)
    · intro d2 v2 H2 hd2 x2 im2
      refine ⟨_, tgt1, rfl, db_m (db_methG ev_vr (m.ex (x1.trans x2)) (da_cons (dv_var im2) da_nil) ?_)⟩
      rcases List.mem_cons.mp hd2 with e | e
      · exact ⟨p.1, by rw [e], okp.1, rfl⟩
      · exact ⟨p.2, by rw [List.mem_singleton.mp e], okp.2, rfl⟩
    · simp
  · rintro σ' H' ⟨x1, s2, s3, rfl⟩
    refine s_reB (db_is (db_inLi (d := pairD (Pl.first, Pl.first)) (dv_methG ev_vr (m.ex x1) da_nil ⟨rfl, rfl⟩) ev_vr (x1 _ _ hpa) (il.ex x1) ⟨(pair_shape _).1, Nat.le_trans (pair_shape _).2 (by decide)⟩ fun d hd => ?_) ?_) fun H2 x2 => q H2 (x1.trans x2)
    · obtain ⟨p, _, rfl⟩ := List.mem_map.mp hd
      exact ⟨(pair_shape _).1, Nat.le_trans (pair_shape _).2 (by decide)⟩
    · exact decide_eq_true (List.mem_map.mpr ⟨_, hf, rfl⟩)
abbrev sp_check_filter (K : PySem.W.Frag) : Sp := fun vs H Q _ => ∃ Pl i m c, vs = [i, m, c] ∧ ArgsAt K H Pl i m c ∧ ∀ H', Ex H H' → Q .non H'
theorem sc_check_filter : FnScope ["index", "machine", "condition"] ["index", "machine", "condition"] (defScope s_check_filter) := ⟨rfl, rfl, rfl, by decide +kernel, rfl, by decide +kernel, by decide +kernel⟩
theorem ok_check_filter (T : Txt K mg) : FnR P w K mg base CX0 5 (a_check_filter K) (sp_check_filter K) := by
  refine okR T.F_check_filter sc_check_filter (fun _ _ _ _ _ _ us hl => match us, hl with | [_, _, _], _ => rfl) ?_ fun cdv A outer s H vs Q E hr q => ?_
  · rintro vs H Q E ⟨_, _, _, _, rfl, _⟩
    rfl
  obtain ⟨Pl, _, _, c, rfl, ⟨hP, ia, ma, rfl, rfl, mi, mm, ic⟩, q⟩ := q
  refine ⟨_, (pss_cons (ps_expr (pe_fn (ok_check_two T) (hr.mono (by decide)) (by rfl) T.g_check_two (kp_of T.F_check_two) pass0 (pa_cons (pv 0) (pa_cons (pv 1) pa_nil)))) (pss_one (ps_expr (pe_fn (ok_check_condition T) (hr.mono (by decide)) (by rfl) T.g_check_condition (kp_of T.F_check_condition) pass0 (pa_cons (SlX.pe_propSl (pv 1) T.c_Machine T.p_at T.p_get T.p_tak T.p_rec (ok_Machine_letters T) (hr.mono (by decide)) (E := E0) (fun _ _ _ _ h => h.elim)) (pa_cons (pv 2) pa_nil)))))), ?_⟩
  refine Evl.q_drop (v := .non) (ev_non (dv_fnO (ea_cons ev_vr (ea_cons ev_vr ea_nil)) fun H1 x Q q => ⟨ia, ma, _, _, rfl, mi.ex x, mm.ex x, hP.same, fun H2 y => q _ H2 y im_none⟩)) fun H1 x1 => ?_
  exact s_of (Evl.q_drop (v := .non) (ev_non (dv_fn (da_cons (dv_propM ev_vr (mm.ex x1) ⟨rfl, rfl⟩) (da_cons (dv_var (ic.ex x1)) da_nil)) ⟨_, Pl.c, rfl, hP.m.let_, by rw [hP.same]; exact hP.c, rfl⟩)) fun H2 x2 => q _ (x1.trans x2))
abbrev sp_Served_init (K : PySem.W.Frag) : Sp := fun vs H Q _ => ∃ x dx pa us, vs = [.ref x, .ref pa] ∧ H x = some (.ins (ga K "Served") dx []) ∧ dx ≠ x ∧ H dx ≠ none ∧ H pa = some (.lst us) ∧
  ∀ H' l, (∀ b o, b ≠ x → b ≠ dx → H b = some o → H' b = some o) → H l = none → H' l = some (.lst us) → SlX.Slt H' x (ga K "Served") dx [some (.ref l)] → Q .non H'
theorem sc_Served_init : FnScope ["self", "pairs"] ["self", "pairs"] (defScope s_Served_init) := ⟨rfl, rfl, rfl, by decide +kernel, rfl, by decide +kernel, by decide +kernel⟩
theorem ok_Served_init (T : Txt K mg) : FnR P w K mg base CX0 1 (a_Served_init K) (sp_Served_init K) := by
  refine okR T.F_Served_init sc_Served_init (fun _ _ _ _ _ _ us hl => match us, hl with | [_, _], _ => rfl) ?_ fun cdv A outer s H vs Q E hr q => ?_
  · rintro vs H Q E ⟨_, _, _, _, rfl, _⟩
    rfl
  obtain ⟨a, dx, pa, us, rfl, ha, ne, hdx, hpa, q⟩ := q
  refine ⟨_, (pss_one (SlX.ps_sl (pv 0) (pe_callTy call_list_of (by rfl) T.n_list (by decide +kernel) (pa_cons (pv 1) pa_nil)))), ?_⟩
  refine (Evl.ev_var rfl) H (Ex.refl _) _ fun H1 x1 => ⟨pa, us, rfl, .inl (SqL.of (x1 _ _ hpa)), fun l hl => ?_⟩
  have x2 : Ex H (upd H1 l (.lst us)) := x1.trans (Ex.new hl)
  refine (Evl.ev_var rfl) _ (Ex.refl _) _ fun H3 x3 => ⟨a, ga K "Served", dx, _, [], 0, rfl, .inl ⟨(x2.trans x3) _ _ ha, rfl⟩, T.c_Served, T.s_Served_pairs, ?_⟩
  have l0 : H l = none := Evl.fresh_back x1 hl
  have la : l ≠ a := fun z => by rw [z, ha] at l0; cases l0
  have ld : l ≠ dx := fun z => hdx (by rw [← z]; exact l0)
  refine q _ l (fun b o n1 n2 e => ?_) l0 ?_ (SlX.slH_slt ne)
  · rw [SlX.slH_ne n1 n2]
    exact (x2.trans x3) _ _ e
  · rw [SlX.slH_ne la ld]
    exact x3 _ _ upd_same
abbrev sp_Mixed_init (K : PySem.W.Frag) : Sp := spMk (ga K "Mixed") fun H us sl => ∃ k m, us = [k, m] ∧ sl = [some k, some m]
theorem sc_Mixed_init : FnScope ["self", "one", "other"] ["self", "one", "other"] (defScope s_Mixed_init) := ⟨rfl, rfl, rfl, by decide +kernel, rfl, by decide +kernel, by decide +kernel⟩
theorem ok_Mixed_init (T : Txt K mg) : FnR P w K mg base CX0 1 (a_Mixed_init K) (sp_Mixed_init K) := by
  refine okR T.F_Mixed_init sc_Mixed_init (fun _ _ _ _ _ _ us hl => match us, hl with | [_, _, _], _ => rfl) ?_ fun cdv A outer s H vs Q E hr q => ?_
  · rintro vs H Q E ⟨x, dx, us, sl, rfl, _, _, ⟨k, m, rfl, _⟩, _⟩
    rfl
  obtain ⟨a, dx, us, sl, rfl, ha, ne, ⟨k, m, rfl, rfl⟩, q⟩ := q
  refine ⟨_, (pss_cons (SlX.ps_sl (pv 0) (pv 1)) (pss_one (SlX.ps_sl (pv 0) (pv 2)))), ?_⟩
  have sl4 : SlX.Slt H a (ga K "Mixed") dx [] := .inl ⟨ha, rfl⟩
  refine q_sl (ev_vr) (ev_vr) sl4 T.c_Mixed T.s_Mixed_one fun H5 x5 => ?_
  have sl5 : SlX.Slt (SlX.slH H5 a (ga K "Mixed") dx (SlX.putS 0 k [])) a (ga K "Mixed") dx (SlX.putS 0 k []) := SlX.slH_slt ne
  refine s_of (q_sl (ev_vr) (ev_vr) sl5 T.c_Mixed T.s_Mixed_other fun H7 x7 => ?_)
  refine q _ (fun b o n1 n2 e => ?_) (SlX.slH_slt ne)
  rw [SlX.slH_ne n1 n2]
  refine x7 _ _ ?_
  rw [SlX.slH_ne n1 n2]
  exact x5 _ _ e
abbrev sp_Served_shows (K : PySem.W.Frag) : Sp := fun vs H Q _ => ∃ (a : Addr) (Pl : Plan) (i m c : V) (ps : List Pair), vs = [.ref a, i, m, c] ∧ ServedAt K H a ps ∧ ArgsAt K H Pl i m c ∧ Serves Pl ps ∧ ∀ H', Ex H H' → Q (.bl true) H'
theorem sc_Served_shows : FnScope ["self", "index", "machine", "condition", "legs", "known", "pair", "one", "other", "read", "late", "made"] ["self", "index", "machine", "condition"] (defScope s_Served_shows) := ⟨rfl, rfl, rfl, by decide +kernel, rfl, by decide +kernel, by decide +kernel⟩
theorem ok_Served_shows (T : Txt K mg) : FnR P w K mg base CX0 6 (a_Served_shows K) (sp_Served_shows K) := by
  refine okR T.F_Served_shows sc_Served_shows (fun _ _ _ _ _ _ us hl => match us, hl with | [_, _, _, _], _ => rfl) ?_ fun cdv A outer s H vs Q E hr q => ?_
  · rintro vs H Q E ⟨_, _, _, _, _, _, rfl, _⟩
    rfl
  obtain ⟨a, Pl, i, m, c, ps, rfl, ⟨dx, l, us, sl, hl, il⟩, ar, sv, q⟩ := q
  obtain ⟨hP, ia, ma, rfl, rfl, mi, mm, ic⟩ := id ar
  refine ⟨_, (pss_cons (ps_expr (pe_fn (ok_check_filter T) (hr.mono (by decide)) (by rfl) T.g_check_filter (kp_of T.F_check_filter) pass0 (pa_cons (pv 1) (pa_cons (pv 2) (pa_cons (pv 3) pa_nil))))) (pss_cons (ps_set (i := 4) sc_Served_shows.nd rfl (by first | exact .inl rfl | exact .inr rfl) (StX.pe_makeR T.k_Legs (ok_Legs_init T) (hr.mono (by decide)) (by rfl) T.g_Legs pass0 (pa_cons (pv 1) (pa_cons (pv 2) (pa_cons (pv 3) pa_nil))))) (pss_cons (ps_if (pt_not (pt_val (SlX.pe_methSl (pv 4) T.c_Legs T.m_Legs_are_pairs (ok_Legs_are_pairs T) (hr.mono (by decide)) pass0 (pa_cons (show PE _ _ (SlX.tSl K _ _) from SlX.pe_sl (pv 0)) pa_nil)))) (pss_one (ps_ret pe_bl)) pss_nil) (pss_cons (ps_set (i := 5) sc_Served_shows.nd rfl (by first | exact .inl rfl | exact .inr rfl) (pe_dcN (own := [("pair", 6)]) hr.units rfl sc_Served_shows.nd (show PI _ _ _ (iList K _) from pi_list (show PE _ _ (SlX.tSl K _ _) from SlX.pe_sl (pv 0))) (blkOk_by (own := [("pair", 6)]) (N := ["self", "index", "machine", "condition", "legs", "known", "pair", "one", "other", "read", "late", "made"]) (sc := defScope s_Served_shows) (by decide +kernel)) (fun _ _ _ _ _ => (pg_name (i := 6) sc_Served_shows.nd rfl (by first | exact .inl rfl | exact .inr rfl))) (fun _ _ _ _ _ => pts_nil) (fun _ _ _ _ _ => (pv 6)) (fun _ _ _ _ _ => pe_bl))) (pss_cons (ps_lock (ps_if (pt_not (pt_val (pe_callB (id := "all") (show CallR _ _ (rAll K) from cr_all rfl) (by rfl) T.n_all (by decide +kernel) (pa_cons (pe_lc (own := [("one", 7), ("other", 8)]) rfl sc_Served_shows.nd (show PI _ _ _ (iKeysN P w _) from pi_keysN (pv 5)) (blkOk_by (own := [("one", 7), ("other", 8)]) (N := ["self", "index", "machine", "condition", "legs", "known", "pair", "one", "other", "read", "late", "made"]) (sc := defScope s_Served_shows) (by decide +kernel)) (fun _ _ _ _ _ => (show PG _ _ (gTup K 2 _) from pg_tup rfl (pgs_cons (pg_name (i := 7) sc_Served_shows.nd rfl (by first | exact .inl rfl | exact .inr rfl)) (pgs_cons (pg_name (i := 8) sc_Served_shows.nd rfl (by first | exact .inl rfl | exact .inr rfl)) pgs_nil)))) (fun _ _ _ _ _ => pts_nil) (fun _ _ _ _ _ => (pe_cmpR op_eq (pe_fn (ok_is_wished T) (hr.mono (by decide)) (by rfl) T.g_is_wished (kp_of T.F_is_wished) pass0 (pa_cons (pv 3) (pa_cons (pv 7) pa_nil))) (pe_fn (ok_is_wished T) (hr.mono (by decide)) (by rfl) T.g_is_wished (kp_of T.F_is_wished) pass0 (pa_cons (pv 3) (pa_cons (pv 8) pa_nil))) (by rfl)))) pa_nil)))) (pss_one (ps_ret pe_bl)) pss_nil)) (pss_one (ps_ret (pe_lock (pe_callB (id := "all") (show CallR _ _ (rAll K) from cr_all rfl) (by rfl) T.n_all (by decide +kernel) (pa_cons (pe_lc2 (own := [("pair", 6), ("read", 9), ("late", 10), ("made", 11)]) (vs1 := [9, 10, 11]) rfl sc_Served_shows.nd (show PI _ _ _ (iKeysN P w _) from pi_keysN (pv 5)) (blkOk_by (own := [("pair", 6), ("read", 9), ("late", 10), ("made", 11)]) (N := ["self", "index", "machine", "condition", "legs", "known", "pair", "one", "other", "read", "late", "made"]) (sc := defScope s_Served_shows) (by decide +kernel)) (by decide) (fun _ _ _ _ _ => (pg_name (i := 6) sc_Served_shows.nd rfl (by first | exact .inl rfl | exact .inr rfl))) (fun _ _ _ _ _ => pts_nil) (fun _ _ _ _ _ => (show PI _ _ _ (iList K _) from pi_list (SlX.pe_methSl (pv 4) T.c_Legs T.m_Legs_moves (ok_Legs_moves T) (hr.mono (by decide)) pass0 (pa_cons (pv 6) pa_nil)))) (fun _ _ _ _ _ => (show PG _ _ (gTup K 3 _) from pg_tup rfl (pgs_cons (pg_name (i := 9) sc_Served_shows.nd rfl (by first | exact .inl rfl | exact .inr rfl)) (pgs_cons (pg_name (i := 10) sc_Served_shows.nd rfl (by first | exact .inl rfl | exact .inr rfl)) (pgs_cons (pg_name (i := 11) sc_Served_shows.nd rfl (by first | exact .inl rfl | exact .inr rfl)) pgs_nil))))) (fun _ _ _ _ _ => pts_nil) (fun _ _ _ _ _ => (pe_cmpR (show OpR _ _ (rInN P w) from op_inN hr.units) (pv 10) (pv 5) (by rfl)))) pa_nil)))))))))), ?_⟩
  have ne : ps ≠ [] := fun z => by have := sv.first; rw [z] at this; exact nomatch this
  refine Evl.q_drop (v := .non) (ev_non (dv_fnO (ea_cons ev_vr (ea_cons ev_vr (ea_cons ev_vr ea_nil))) fun H1 x Q q => ⟨Pl, _, _, _, rfl, ar.ex x, fun H2 y => q _ H2 y im_none⟩)) fun H1 x1 => ?_
  refine q_asO (ov_make (ea_cons ev_vr (ea_cons ev_vr (ea_cons ev_vr ea_nil))) fun H2 x dx2 _ _ _ => ⟨_, _, _, rfl, rfl⟩) fun lg ldx H2 hlg x2 lsl => ?_
  have x12 := x1.trans x2
  have LG : LegsAt K H2 lg Pl := ⟨hP, ldx, c, ia, ma, lsl, ic.ex x12, mi.ex x12, mm.ex x12⟩
  refine q_un (dt_is (et_not (dt_b (db_methO (b := true) ev_vr lsl (ea_cons (ev_sl ev_vr (slt_ex x12 sl) T.c_Served T.s_Served_pairs rfl) ea_nil) fun H3 x3 Q q => ⟨lg, Pl, l, us, ps, rfl, LG.ex x3, (x12.trans x3) _ _ hl, il.ex (x12.trans x3), sv.ok, sv.len, sv.first, fun H4 x4 => q H4 x4⟩))) rfl) fun H3 x3 => ?_
  have x13 := x12.trans x3
  refine q_dcP (Pl := Pl) (ev_sl ev_vr (slt_ex x13 sl) T.c_Served T.s_Served_pairs rfl) (x13 _ _ hl) (il.ex x13) sv.nd sv.ok sv.len (fun _ => rfl) (fun _ => rfl) fun kn xs H4 hkn x4 dg => ?_
  have x14 := x13.trans x4
  have hkn2 : H kn = none := Evl.fresh_back x13 hkn
  show tSeq _ _ _ [some (.ref a), some (.ref ia), some (.ref ma), some c, some (.ref lg), some (.ref kn), none, none, none, none, none, none] _
  refine q_lockUn dg ne (fun Hf lk => ?_) fun H5 x5 => ?_
  · obtain ⟨od, fg⟩ := lk.fg
    have xf := lk.back H x14 hkn2
    refine dt_is (et_not (dt_b (db_allT (lc_keys isB_mono (fun _ => true) (fun _ => true) ev_vr fg (by have := sv.len; omega) fun p v H6 hp x6 im => ?_) (by simp)))) rfl
    obtain ⟨b, vs, rfl, hb, hvs⟩ := (show Im H6 (.tup [p.1.d, p.2.d]) v from im).tup
    obtain ⟨w1, w2, rfl, k1, k2⟩ := hvs.two
    have okp := sv.ok p hp
    refine step2 hb rfl et_yes fun _ => db_m (db_is (db_eqB (db_fn (da_cons (dv_var (ic.ex (xf.trans x6))) (da_cons (dv_var k1) da_nil)) ⟨Pl.I.L, Pl.c, p.1, rfl, hP.c, okp.1.st, rfl⟩) (db_fn (da_cons (dv_var (ic.ex (xf.trans x6))) (da_cons (dv_var k2) da_nil)) ⟨Pl.I.L, Pl.c, p.2, rfl, hP.c, okp.2.st, rfl⟩)) (decide_eq_true (sv.same p hp)))
  · have x15 := x14.trans x5
    refine s_lockRe (dg.ex x5) ne (fun Hf lk => ?_) fun H6 x6 => q H6 (x15.trans x6)
    obtain ⟨od, fg⟩ := lk.fg
    have LGf : LegsAt K Hf lg Pl := LG.ex (lk.back H2 (x3.trans (x4.trans x5)) (Evl.fresh_back x3 hkn))
    refine db_all2 ev_vr fg sv.len (fun p => (Pl.moves p).map Mv.d) (fun p hp => by rw [List.length_map]; exact moves_len (let_len hP.i.let_)) fun p v H7 hp x7 im => ⟨_, tgt1, rfl, et_yes, dl_methG ev_vr (LGf.ex x7) (da_cons (dv_var im) da_nil) ⟨p, rfl, (sv.ok p hp).1, (sv.ok p hp).2, rfl⟩, fun d v2 H8 hd x8 t8 im2 => ?_⟩
    obtain ⟨mv, hmv, rfl⟩ := List.mem_map.mp hd
    obtain ⟨b, vs, rfl, hb, hvs⟩ := im2.tup
    obtain ⟨w1, w2, w3, rfl, k1, k2, k3⟩ := hvs.three
    have inn := sv.closed p hp mv hmv
    have sh := (pair_shape mv.q).2
    refine ⟨_, tgt_tup hb rfl (tgt_cons (tgt_cons (tgt_cons tgt_nil))), rfl, et_yes, db_is (db_inF (ds := [mv.q.1.d, mv.q.2.d]) (dv_var k2) ev_vr (fg.ex x8) (by show (pairD mv.q).depth ≤ 8; omega)) ?_⟩
    have := fg.mem (p := mv.q) (Pl := Pl) sv.ok (sv.ok _ inn)
    refine this.trans (decide_eq_true ?_)
    rw [List.map_id']
    exact inn
abbrev sp_Mixed_shows (K : PySem.W.Frag) : Sp := fun vs H Q _ => ∃ (a : Addr) (Pl : Plan) (i m c : V) (one other : Tx), vs = [.ref a, i, m, c] ∧ MixedAt K H a one other ∧ ArgsAt K H Pl i m c ∧ Mixes Pl one other ∧ ∀ H', Ex H H' → Q (.bl true) H'
theorem sc_Mixed_shows : FnScope ["self", "index", "machine", "condition", "rows", "value"] ["self", "index", "machine", "condition"] (defScope s_Mixed_shows) := ⟨rfl, rfl, rfl, by decide +kernel, rfl, by decide +kernel, by decide +kernel⟩
theorem ok_Mixed_shows (T : Txt K mg) : FnR P w K mg base CX0 6 (a_Mixed_shows K) (sp_Mixed_shows K) := by
  refine okR T.F_Mixed_shows sc_Mixed_shows (fun _ _ _ _ _ _ us hl => match us, hl with | [_, _, _, _], _ => rfl) ?_ fun cdv A outer s H vs Q E hr q => ?_
  · rintro vs H Q E ⟨_, _, _, _, _, _, _, rfl, _⟩
    rfl
  obtain ⟨a, Pl, i, m, c, one, other, rfl, ⟨dx, sl⟩, ar, sv, q⟩ := q
  obtain ⟨hP, ia, ma, rfl, rfl, mi, mm, ic⟩ := id ar
  refine ⟨_, (pss_cons (ps_expr (pe_fn (ok_check_filter T) (hr.mono (by decide)) (by rfl) T.g_check_filter (kp_of T.F_check_filter) pass0 (pa_cons (pv 1) (pa_cons (pv 2) (pa_cons (pv 3) pa_nil))))) (pss_cons (ps_if (PW.pt (pw_or (pt_not (pt_val (pe_fn (ok_is_value T) (hr.mono (by decide)) (by rfl) T.g_is_value (kp_of T.F_is_value) pass0 (pa_cons (SlX.pe_propSl (pv 1) T.c_Machine T.p_at T.p_get T.p_tak T.p_rec (ok_Machine_letters T) (hr.mono (by decide)) (E := E0) (fun _ _ _ _ h => h.elim)) (pa_cons (show PE _ _ (SlX.tSl K _ _) from SlX.pe_sl (pv 0)) pa_nil))))) (pw_or1 (pt_not (pt_val (pe_fn (ok_is_value T) (hr.mono (by decide)) (by rfl) T.g_is_value (kp_of T.F_is_value) pass0 (pa_cons (SlX.pe_propSl (pv 1) T.c_Machine T.p_at T.p_get T.p_tak T.p_rec (ok_Machine_letters T) (hr.mono (by decide)) (E := E0) (fun _ _ _ _ h => h.elim)) (pa_cons (show PE _ _ (SlX.tSl K _ _) from SlX.pe_sl (pv 0)) pa_nil)))))))) (pss_one (ps_ret pe_bl)) pss_nil) (pss_cons (ps_if (pt_cmpR op_ne (pe_ix (show IxR _ (rIxT K) from ix_tup) (SlX.pe_methSl (pv 1) T.c_Machine T.m_Machine_ends (ok_Machine_ends T) (hr.mono (by decide)) pass0 (pa_cons (show PE _ _ (SlX.tSl K _ _) from SlX.pe_sl (pv 0)) pa_nil)) pe_int (fun _ _ => rfl)) (pe_ix (show IxR _ (rIxT K) from ix_tup) (SlX.pe_methSl (pv 1) T.c_Machine T.m_Machine_ends (ok_Machine_ends T) (hr.mono (by decide)) pass0 (pa_cons (show PE _ _ (SlX.tSl K _ _) from SlX.pe_sl (pv 0)) pa_nil)) pe_int (fun _ _ => rfl)) (by rfl)) (pss_one (ps_ret pe_bl)) pss_nil) (pss_cons (ps_setLc (i := 4) (own := [("value", 5)]) rfl sc_Mixed_shows.nd rfl rfl (sw_true rfl rfl rfl (by decide +kernel)) (show PI _ _ _ (iTup K _) from pi_tup (pe_tup (pa_cons (show PE _ _ (SlX.tSl K _ _) from SlX.pe_sl (pv 0)) (pa_cons (show PE _ _ (SlX.tSl K _ _) from SlX.pe_sl (pv 0)) pa_nil)))) (blkOk_by (own := [("value", 5)]) (N := ["self", "index", "machine", "condition", "rows", "value"]) (sc := defScope s_Mixed_shows) (by decide +kernel)) (fun _ _ _ _ _ => (pg_name (i := 5) sc_Mixed_shows.nd rfl (by first | exact .inl rfl | exact .inr rfl))) (fun _ _ _ _ _ => pts_nil) (fun _ _ _ _ _ => (pe_fn (ok_read_by T) (hr.mono (by decide)) (by rfl) T.g_read_by (kp_of T.F_read_by) pass0 (pa_cons (SlX.pe_propSl (pv 1) T.c_Machine T.p_at T.p_get T.p_tak T.p_rec (ok_Machine_letters T) (hr.mono (by decide)) (E := E0) (fun _ _ _ _ h => h.elim)) (pa_cons (pv 3) (pa_cons (pe_ix (show IxR _ (rIxT K) from ix_tup) (SlX.pe_methSl (pv 2) T.c_Machine T.m_Machine_ends (ok_Machine_ends T) (hr.mono (by decide)) pass0 (pa_cons (pv 5) pa_nil)) pe_int (fun _ _ => rfl)) pa_nil)))))) (pss_one (ps_ret (pe_and (pe_fn (ok_is_met T) (hr.mono (by decide)) (by rfl) T.g_is_met (kp_of T.F_is_met) pass0 (pa_cons (pv 3) (pa_cons (pe_ix (show IxR _ (rIxL K) from ix_list) (pv 4) pe_int (fun _ _ => rfl)) pa_nil))) (pe_one (pe_not (pe_fn (ok_is_met T) (hr.mono (by decide)) (by rfl) T.g_is_met (kp_of T.F_is_met) pass0 (pa_cons (pv 3) (pa_cons (pe_ix (show IxR _ (rIxL K) from ix_list) (pv 4) pe_int (fun _ _ => rfl)) pa_nil)))))))))))), ?_⟩
  have e1 : ∀ x ∈ one, x ∈ Pl.M.L := by rw [hP.same]; exact sv.l1
  have e2 : ∀ x ∈ other, x ∈ Pl.M.L := by rw [hP.same]; exact sv.l2
  have al : ∀ {l : Tx} {L : Tx}, (∀ x ∈ l, x ∈ L) → (l.all fun c => decide (c ∈ L)) = true := fun h => by rw [List.all_eq_true]; exact fun x hx => decide_eq_true (h x hx)
  refine Evl.q_drop (v := .non) (ev_non (dv_fnO (ea_cons ev_vr (ea_cons ev_vr (ea_cons ev_vr ea_nil))) fun H1 x Q q => ⟨Pl, _, _, _, rfl, ar.ex x, fun H2 y => q _ H2 y im_none⟩)) fun H1 x1 => ?_
  have s1 := slt_ex x1 sl
  refine q_un (dt_is (et_or (et_not (dt_b (db_fn (da_cons (dv_propM ev_vr (mi.ex x1) ⟨rfl, rfl⟩) (da_cons (dv_sl ev_vr s1 T.c_Mixed T.s_Mixed_one im_text) da_nil)) ⟨Pl.I.L, one, rfl, by have := sv.z1; omega, rfl⟩))) fun _ => et_not (dt_b (db_fn (da_cons (dv_propM ev_vr (mi.ex x1) ⟨rfl, rfl⟩) (da_cons (dv_sl ev_vr s1 T.c_Mixed T.s_Mixed_other im_text) da_nil)) ⟨Pl.I.L, other, rfl, by have := sv.z2; omega, rfl⟩))) (by rw [al sv.l1, al sv.l2]; rfl)) fun H2 x2 => ?_
  have x12 := x1.trans x2
  have s2 := slt_ex x12 sl
  refine q_un (dt_t (db_is (db_neS (dv_ix (n := 1) (dv_methM ev_vr (mi.ex x12) (da_cons (dv_sl ev_vr s2 T.c_Mixed T.s_Mixed_one im_text) da_nil) ⟨one, rfl, sv.z1, sv.l1, rfl⟩) dv_int rfl) (dv_ix (n := 1) (dv_methM ev_vr (mi.ex x12) (da_cons (dv_sl ev_vr s2 T.c_Mixed T.s_Mixed_other im_text) da_nil) ⟨other, rfl, sv.z2, sv.l2, rfl⟩) dv_int rfl)) (by rw [sv.key]; simp))) fun H3 x3 => ?_
  have x13 := x12.trans x3
  have s3 := slt_ex x13 sl
  refine q_asL (ds := [one, other].map fun l => (legOf Pl l).st.d) (ELM.dl (lc_tupG (enc := tx) (items := [one, other]) im_mono (fun l => (legOf Pl l).st.d) (dv_tup (da_cons (dv_sl ev_vr s3 T.c_Mixed T.s_Mixed_one im_text) (da_cons (dv_sl ev_vr s3 T.c_Mixed T.s_Mixed_other im_text) da_nil))) (Nat.le_of_ble_eq_true rfl) fun l v H4 hl x4 im => ⟨_, tgt1, rfl, DV.m ?_⟩)) fun rw_ us H4 _ x4 hr il4 => ?_
  · have hl' : l.length ≤ 50000 ∧ (∀ x ∈ l, x ∈ Pl.M.L) := by
      rcases List.mem_cons.mp hl with z | z
      · rw [z]; exact ⟨sv.z1, e1⟩
      · rw [List.mem_singleton.mp z]; exact ⟨sv.z2, e2⟩
    have E := Mac.ends_ok hP.m hl'.2
    have x14 := x13.trans x4
    exact dv_fn (da_cons (dv_propM ev_vr (mi.ex x14) ⟨rfl, rfl⟩) (da_cons (dv_var (ic.ex x14)) (da_cons (dv_ix (n := 1) (d := tx (Pl.M.ends l).2) (dv_methM ev_vr (mm.ex x14) (da_cons (dv_var im) da_nil) ⟨l, rfl, hl'.1, hl'.2, rfl⟩) dv_int rfl) da_nil))) ⟨Pl.I.L, Pl.c, (Pl.M.ends l).2, rfl, hP.i.let_, hP.c, by rw [← hP.same]; exact E.2.2, rfl⟩
  · have x14 := x13.trans x4
    exact s_reB (db_is (ev_andV (db_fn (da_cons (dv_var (ic.ex x14)) (da_cons (dv_ixL (n := 0) ev_vr hr il4 dv_int rfl) da_nil)) ⟨Pl.I.L, Pl.c, (legOf Pl one).st, rfl, hP.c, StOk.read _, rfl⟩) fun _ => ev_notV (db_fn (da_cons (dv_var (ic.ex x14)) (da_cons (dv_ixL (n := 1) ev_vr hr il4 dv_int rfl) da_nil)) ⟨Pl.I.L, Pl.c, (legOf Pl other).st, rfl, hP.c, StOk.read _, rfl⟩)) (by rw [sv.yes, sv.no]; rfl)) fun H5 x5 => q H5 (x14.trans x5)
end
end Fk

set_option Elab.async false
set_option linter.all false
set_option maxRecDepth 100000
set_option maxHeartbeats 4000000
/-! the first mixed pair; serving -/
namespace Fk
open PySem PySem.Spec PyProof.Rows L2 He
open Evl (Ex Ev EvT EvL EvA ev_andV ev_orV ev_notV et_and et_or et_not)
def badE (Pl : Plan) (e : Ent) : Bool := metS Pl.c e.1.1.st && !metS Pl.c e.1.2.st
def FirstBad (Pl : Plan) (F : List Ent) (e : Ent) : Prop := ∃ n, F[n]? = some e ∧ badE Pl e = true ∧ ∀ e' ∈ F.take n, badE Pl e' = false
def NoBad (Pl : Plan) (F : List Ent) : Prop := ∀ e ∈ F, badE Pl e = false
/-- what is told of the values: none, or of the first mixed pair -/
def Choice (Pl : Plan) (F : List Ent) (H : Hp) (u : V) : Prop := (NoBad Pl F ∧ u = .non) ∨ ∃ e, FirstBad Pl F e ∧ Im H (valE e) u
theorem Choice.ex {Pl : Plan} {F : List Ent} {H H' : Hp} {u : V} (x : Ex H H') (h : Choice Pl F H u) : Choice Pl F H' u := h.imp id fun ⟨e, a, b⟩ => ⟨e, a, b.ex x⟩
theorem ResP.ne {Pl : Plan} {i : Nat} {F : List Ent} (R : ResP Pl i F) : F ≠ [] := fun z => by
  have := (R.fm _).mpr (first_in R.ends)
  rw [z] at this
  exact nomatch this
/-- a method of a new object -/
theorem q_newM {σ : L2.St} {H : Hp} {C : Addr} {sp : Sp} {E : XK} {ta : TE} {sl : List (Option V)} {i : Nat} {De : Ends} {ty : L2.TS} (h : OV ta σ H C sl)
    (k : ∀ a dx H1, H a = none → Ex H H1 → SlX.Slt H1 a C dx sl → sp [.ref a] H1 (fun v H2 => ty De (σ.set i (some v)) H2) E) : tSeq (tAsg (SlX.tMethSl C sp E ta tNil) (gName i)) ty De σ H :=
  h H (Ex.refl _) _ fun a dx H1 p x s => ⟨a, dx, sl, rfl, s, k a dx H1 p x s⟩
/-- x = f(..), f by an open promise -/
theorem q_fnG {σ : L2.St} {H : Hp} {sp : Sp} {E : XK} {tr : TA} {vs : List V} {g : TG} {De : Ends} {ty : L2.TS} (h : EvA tr σ H vs) (k : ∀ H1, Ex H H1 → sp vs H1 (fun v H2 => g v σ H2 fun σ2 H3 => ty De σ2 H3) E) : tSeq (tAsg (tFn sp E tr) g) ty De σ H := h H (Ex.refl _) _ k
theorem s_reCall {σ : L2.St} {H : Hp} {sp : Sp} {E : XK} {tr tr2 : TA} {vs : List V} {r : List V → Hp → VK → Prop} {De : Ends} (h : EvA tr σ H vs) (k : ∀ H1, Ex H H1 → sp vs H1 (fun v H2 => tr2 σ H2 fun ws H3 => r (v :: ws) H3 De.rt) E) : tRet (tCB r (tCons (tFn sp E tr) tr2)) De σ H := h H (Ex.refl _) _ k
theorem q_fnIx {K : PySem.W.Frag} {σ : L2.St} {H : Hp} {sp : Sp} {E : XK} {tr : TA} {vs : List V} {i : Nat} {j : Int} {De : Ends} {ty : L2.TS} (h : EvA tr σ H vs) (k : ∀ H1, Ex H H1 → sp vs H1 (fun v H2 => rIxT K v (.int j) H2 fun u H3 => ty De (σ.set i (some u)) H3) E) : tSeq (tAsg (tOp (rIxT K) (tFn sp E tr) (tC (.int j))) (gName i)) ty De σ H := h H (Ex.refl _) _ k
theorem s_reIf {σ : L2.St} {H : Hp} {t : TT} {ta tb : TE} {De : Ends} {b : Bool} (h : EvT t σ H b) (h1 : b = true → ∀ H1, Ex H H1 → ta σ H1 De.rt) (h2 : b = false → ∀ H1, Ex H H1 → tb σ H1 De.rt) : tRet (tIf t ta tb) De σ H :=
  h H (Ex.refl _) _ fun H1 x => by
    cases b with
    | true => exact h1 rfl H1 x
    | false => exact h2 rfl H1 x
theorem ov_served {K : PySem.W.Frag} {σ : L2.St} {H : Hp} {te : TE} {E : XK} {ps : List Pair} {Q : VK} (h : DL te σ H (ps.map pairD)) (k : ∀ a H1, H a = none → Ex H H1 → ServedAt K H1 a ps → Q (.ref a) H1) :
    StX.tMakeR (ga K "Served") (sp_Served_init K) E (tCons te tNil) σ H Q :=
  h H (Ex.refl _) _ fun l us H1 hl x1 hl1 il => fun a dx ha hdx ne => by
    have hlg : (upd (upd H1 dx (.own a)) a (.ins (ga K "Served") dx [])) l = some (.lst us) := ts_made ha hdx _ _ hl1
    have hdg : (upd (upd H1 dx (.own a)) a (.ins (ga K "Served") dx [])) dx = some (.own a) := by rw [upd_ne ne, upd_same]
    refine ⟨a, dx, l, us, rfl, upd_same, ne, by rw [hdg]; simp, hlg, fun H2 l2 st l0 h2 sl => ⟨rfl, ?_⟩⟩
    have xx : Ex H H2 := fun b o e => by
      have e2 := x1 _ _ e
      have n1 : b ≠ a := ne_of_none e2 ha
      have n2 : b ≠ dx := ne_of_none e2 hdx
      exact st b o n1 n2 (by rw [upd_ne n1, upd_ne n2]; exact e2)
    have x12 : Ex H1 H2 := fun b o e2 => by
      have n1 : b ≠ a := ne_of_none e2 ha
      have n2 : b ≠ dx := ne_of_none e2 hdx
      exact st b o n1 n2 (by rw [upd_ne n1, upd_ne n2]; exact e2)
    exact k a H2 (Evl.fresh_back x1 ha) xx ⟨dx, l2, us, sl, h2, il.ex x12⟩
abbrev rListN (P : Program) (w : World) : List V → Hp → VK → Prop := fun ws H Q => ∃ d xs, ws = [V.ref d] ∧ NdRd P w H d xs ∧ ∀ p, H p = none → Q (.ref p) (upd H p (.lst (xs.map fun e => V.ref e.2.1)))
theorem keys_il {G : Type} {P : Program} {w : World} {kg : G → Pair} {vd : G → Option D} {H : Hp} {fa : Addr} {xs : List (D × Addr × V)} {F : List G} (d : DG P w kg vd H fa xs F) : ImL H ((F.map kg).map pairD) (xs.map fun e => V.ref e.2.1) := by
  have ks := d.nd.2
  have pr := d.pr
  clear d
  induction pr with
  | nil => exact iml_nil
  | cons h _ ih =>
    refine iml_cons ?_ (ih fun e he => ks e (List.mem_cons_of_mem _ he))
    rw [← h.1]
    exact (ks _ List.mem_cons_self).1
theorem dl_keys {G : Type} {P : Program} {w : World} {kg : G → Pair} {vd : G → Option D} {σ : L2.St} {H : Hp} {td : TE} {fa : Addr} {xs : List (D × Addr × V)} {F : List G} (h : Ev td σ H (.ref fa)) (d : DG P w kg vd H fa xs F) : DL (tCB (rListN P w) (tCons td tNil)) σ H ((F.map kg).map pairD) := fun H1 x Q q =>
  h H1 x _ fun H2 y => ⟨fa, xs, rfl, (d.ex (x.trans y)).nd.rd, fun p hp => q p _ _ (Evl.fresh_back y hp) (y.trans (Ex.new hp)) upd_same ((keys_il (d.ex (x.trans y))).ts (TS.new hp))⟩
section
variable {P : Program} {w : World} {K : PySem.W.Frag} {mg : Str → Option Value} {base : Heap}
abbrev sp_mixed_in (P : Program) (w : World) (K : PySem.W.Frag) : Sp := fun vs H Q E => ∃ (Pl : Plan) (i m c : V), vs = [i, m, c] ∧ ArgsAt K H Pl i m c ∧
  (∀ H' t fa u xs F n, Ex H H' → H' t = some (.tup [.ref fa, u]) → DE P w H' fa xs F → ResP Pl n F → Choice Pl F H' u → Q (.ref t) H') ∧ ∀ n H', Ex H H' → BigsAt Pl n → E (.ref (ga K "TooLarge")) none H'
theorem sc_mixed_in : FnScope ["index", "machine", "condition", "found", "pair", "values"] ["index", "machine", "condition"] (defScope s_mixed_in) := ⟨rfl, rfl, rfl, by decide +kernel, rfl, by decide +kernel, by decide +kernel⟩
theorem ok_mixed_in (T : Txt K mg) : FnR P w K mg base (L2.CX P w) 7 (a_mixed_in K) (sp_mixed_in P w K) := by
  refine okRX T.F_mixed_in sc_mixed_in (fun _ _ _ _ _ _ us hl => match us, hl with | [_, _, _], _ => rfl) ?_ fun cdv A outer s H vs Q E hr q => ?_
  · rintro vs H Q E ⟨_, _, _, _, rfl, _⟩
    rfl
  obtain ⟨Pl, i, m, c, rfl, ar, q, qe⟩ := q
  obtain ⟨hP, ia, ma, rfl, rfl, mi, mm, ic⟩ := id ar
  refine ⟨_, (pss_cons (ps_set (i := 3) sc_mixed_in.nd rfl (by first | exact .inl rfl | exact .inr rfl) (SlX.pe_methSl0 (StX.pe_makeR T.k_Legs (ok_Legs_init T) (hr.mono (by decide)) (by rfl) T.g_Legs pass0 (pa_cons (pv 0) (pa_cons (pv 1) (pa_cons (pv 2) pa_nil)))) T.c_Legs T.m_Legs_reach (ok_Legs_reach T) (hr.mono (by decide)) (passE (takes_of rfl rfl rfl rfl)))) (pss_cons (ps_lock (ps_for (passes_of rfl) rfl (show PI _ _ _ (iItemsN P w _) from pi_itemsN (pv 3)) (show PG _ _ (gTup K 2 _) from pg_tup rfl (pgs_cons (pg_name (i := 4) sc_mixed_in.nd rfl (by first | exact .inl rfl | exact .inr rfl)) (pgs_cons (pg_name (i := 5) sc_mixed_in.nd rfl (by first | exact .inl rfl | exact .inr rfl)) pgs_nil))) (pss_one (ps_if (PW.pt (pw_and (pt_val (pe_fn (ok_is_wished T) (hr.mono (by decide)) (by rfl) T.g_is_wished (kp_of T.F_is_wished) pass0 (pa_cons (pv 2) (pa_cons (pe_ix (show IxR _ (rIxT K) from ix_tup) (pv 4) pe_int (fun _ _ => rfl)) pa_nil)))) (pw_and1 (pt_not (pt_val (pe_fn (ok_is_wished T) (hr.mono (by decide)) (by rfl) T.g_is_wished (kp_of T.F_is_wished) pass0 (pa_cons (pv 2) (pa_cons (pe_ix (show IxR _ (rIxT K) from ix_tup) (pv 4) pe_int (fun _ _ => rfl)) pa_nil)))))))) (pss_one (ps_ret (pe_tup (pa_cons (pv 3) (pa_cons (pv 5) pa_nil))))) pss_nil)))) (pss_one (ps_ret (pe_tup (pa_cons (pv 3) (pa_cons pe_non pa_nil))))))), ?_⟩
  refine q_newM (ov_make (ea_cons ev_vr (ea_cons ev_vr (ea_cons ev_vr ea_nil))) fun H2 x dx2 _ _ _ => ⟨_, _, _, rfl, rfl⟩) fun lg ldx H2 hlg x2 lsl => ?_
  refine ⟨lg, Pl, rfl, ⟨hP, ldx, c, ia, ma, lsl, ic.ex x2, mi.ex x2, mm.ex x2⟩, fun fa xs F n H3 hfa x3 dg R => ?_, fun n H3 x3 b => qe n H3 (x2.trans x3) b⟩
  have x23 := x2.trans x3
  have hfa0 : H fa = none := Evl.fresh_back x2 hfa
  have ok : ∀ e ∈ F, PairOk Pl e.1 := fun e he => (lv_ok hP n).1 _ ((R.fm e.1).mp (List.mem_map.mpr ⟨e, he, rfl⟩))
  show tSeq _ _ _ [some (.ref ia), some (.ref ma), some c, some (.ref fa), none, none] _
  refine q_lockI dg R.ne (fun H' => Evl.ev_var rfl) (fun Hf k σ' H' => Ex Hf H' ∧ (∃ s4 s5 : Option V, σ' = [some (.ref ia), some (.ref ma), some c, some (.ref fa), s4, s5]) ∧ ∀ e ∈ F.take k, badE Pl e = false) (fun Hf lk H1 x1 => ⟨x1, ⟨_, _, rfl⟩, fun e he => by rw [List.take_zero] at he; exact nomatch he⟩)
    (fun Hf k σ' H' lk p => ⟨TS.ex p.1, fun o h => p.1 _ _ h⟩) ?_ ?_
  · rintro Hf k e v u σ' H' Tt lk he ⟨xf, ⟨s4, s5, rfl⟩, nb⟩ hT iv iu
    have okE := ok e (List.mem_of_getElem? he)
    have xT : Ex H' (upd H' Tt (.tup [v, u])) := Ex.new hT
    have icf := (ic.ex (lk.back H x23 hfa0)).ex (xf.trans xT)
    refine s_of (q_if2 (dt_is (c := badE Pl e) (et_and (dt_b (db_fn (da_cons (dv_var icf) (da_cons (dv_ix (n := 0) (ds := [e.1.1.d, e.1.2.d]) (dv_var (iv.ex xT)) dv_int rfl) da_nil)) ⟨Pl.I.L, Pl.c, e.1.1, rfl, hP.c, okE.1.st, rfl⟩)) fun _ => et_not (dt_b (db_fn (da_cons (dv_var icf) (da_cons (dv_ix (n := 1) (ds := [e.1.1.d, e.1.2.d]) (dv_var (iv.ex xT)) dv_int rfl) da_nil)) ⟨Pl.I.L, Pl.c, e.1.2, rfl, hP.c, okE.2.st, rfl⟩))) rfl) (fun hb H5 x5 => ?_) fun hb H5 x5 => ?_)
    · refine (Evl.eu_tup (Evl.ea_cons (Evl.ev_var rfl) (Evl.ea_cons (Evl.ev_var rfl) Evl.ea_nil)) (Nat.le_of_ble_eq_true rfl)) H5 (Ex.refl _) _ fun t H6 ht x6 h6 => ?_
      have xf6 := xf.trans (xT.trans (x5.trans x6))
      obtain ⟨od, fg⟩ := lk.fg
      refine ⟨(xf6 _ _ fg.fr).trans fg.fr.symm, ?_⟩
      have out := lk.out H6 xf6
      have tn : t ≠ fa := fun z => by rw [z, (xf.trans (xT.trans x5)) _ _ fg.fr] at ht; cases ht
      have tT : TS H6 (upd H6 fa (NdO P w fa xs)) := TS.mut (xf6 _ _ fg.fr) (fun _ z => nomatch z)
      refine q _ t fa u xs F n (x23.trans out) (by rw [upd_ne tn]; exact h6) (dg.ex out) R (.inr ⟨e, ⟨k, he, hb, nb⟩, ?_⟩)
      exact (((show Im H' (valE e) u from iu).ex xT).ex (x5.trans x6)).ts tT
    · refine ⟨xf.trans (xT.trans x5), ⟨_, _, rfl⟩, fun e' he' => ?_⟩
      rw [take_snoc he] at he'
      rcases List.mem_append.mp he' with z | z
      · exact nb e' z
      · rw [List.mem_singleton.mp z]; exact hb
  · rintro Hf σ' H' lk ⟨xf, ⟨s4, s5, rfl⟩, nb⟩
    rw [List.take_length] at nb
    have out := lk.out H' xf
    refine (Evl.eu_tup (Evl.ea_cons (Evl.ev_var rfl) (Evl.ea_cons Evl.ev_c Evl.ea_nil)) (Nat.le_of_ble_eq_true rfl)) _ (Ex.refl _) _ fun t H6 ht x6 h6 => ?_
    exact q H6 t fa .non xs F n (x23.trans (out.trans x6)) h6 ((dg.ex out).ex x6) R (.inl ⟨nb, rfl⟩)
abbrev sp_serve (P : Program) (w : World) (K : PySem.W.Frag) : Sp := fun vs H Q E => ∃ (Pl : Plan) (i m c : V), vs = [i, m, c] ∧ ArgsAt K H Pl i m c ∧
  (∀ H' a F n, Ex H H' → ResP Pl n F → NoBad Pl F → ServedAt K H' a (F.map fun e => e.1) → Q (.ref a) H') ∧ (∀ H' a F n e, Ex H H' → ResP Pl n F → FirstBad Pl F e → MixedAt K H' a e.2.1 e.2.2 → Q (.ref a) H') ∧ ∀ n H', Ex H H' → BigsAt Pl n → E (.ref (ga K "TooLarge")) none H'
theorem sc_serve : FnScope ["index", "machine", "condition", "found", "values"] ["index", "machine", "condition"] (defScope s_serve) := ⟨rfl, rfl, rfl, by decide +kernel, rfl, by decide +kernel, by decide +kernel⟩
theorem ok_serve (T : Txt K mg) : FnR P w K mg base (L2.CX P w) 8 (a_serve K) (sp_serve P w K) := by
  refine okRX T.F_serve sc_serve (fun _ _ _ _ _ _ us hl => match us, hl with | [_, _, _], _ => rfl) ?_ fun cdv A outer s H vs Q E hr q => ?_
  · rintro vs H Q E ⟨_, _, _, _, rfl, _⟩
    rfl
  obtain ⟨Pl, i, m, c, rfl, ar, q1, q2, qe⟩ := q
  refine ⟨_, (pss_cons (ps_expr (pe_fn (ok_check_filter T) (hr.mono (by decide)) (by rfl) T.g_check_filter (kp_of T.F_check_filter) pass0 (pa_cons (pv 0) (pa_cons (pv 1) (pa_cons (pv 2) pa_nil))))) (pss_cons (ps_asg (pe_fn (ok_mixed_in T) (hr.mono (by decide)) (by rfl) T.g_mixed_in (kp_of T.F_mixed_in) (passE (takes_of rfl rfl rfl rfl)) (pa_cons (pv 0) (pa_cons (pv 1) (pa_cons (pv 2) pa_nil)))) (show PG _ _ (gTup K 2 _) from pg_tup rfl (pgs_cons (pg_name (i := 3) sc_serve.nd rfl (by first | exact .inl rfl | exact .inr rfl)) (pgs_cons (pg_name (i := 4) sc_serve.nd rfl (by first | exact .inl rfl | exact .inr rfl)) pgs_nil)))) (pss_one (ps_ret (pe_ifExp (pt_cmpR op_isN (pv 4) pe_non (by rfl)) (StX.pe_makeR T.k_Served (ok_Served_init T) (hr.mono (by decide)) (by rfl) T.g_Served pass0 (pa_cons (pe_callTy (show CallR _ _ (rListN P w) from call_listN rfl) (by rfl) T.n_list (by decide +kernel) (pa_cons (pv 3) pa_nil)) pa_nil)) (StX.pe_makeR T.k_Mixed (ok_Mixed_init T) (hr.mono (by decide)) (by rfl) T.g_Mixed pass0 (pa_cons (pe_ix (show IxR _ (rIxT K) from ix_tup) (pv 4) pe_int (fun _ _ => rfl)) (pa_cons (pe_ix (show IxR _ (rIxT K) from ix_tup) (pv 4) pe_int (fun _ _ => rfl)) pa_nil)))))))), ?_⟩
  refine Evl.q_drop (v := .non) (ev_non (dv_fnO (ea_cons ev_vr (ea_cons ev_vr (ea_cons ev_vr ea_nil))) fun H1 x Q q => ⟨Pl, _, _, _, rfl, ar.ex x, fun H2 y => q _ H2 y im_none⟩)) fun H1 x1 => ?_
  refine q_fnG (ea_cons ev_vr (ea_cons ev_vr (ea_cons ev_vr ea_nil))) fun H2 x2 => ⟨Pl, i, m, c, rfl, ar.ex (x1.trans x2), fun H3 t fa u xs F n x3 ht dg R ch => ?_, fun n H3 x3 b => qe n H3 (x1.trans (x2.trans x3)) b⟩
  have x13 := x1.trans (x2.trans x3)
  refine tgt_tup ht rfl (tgt_cons (tgt_cons tgt_nil)) _ ?_
  rcases ch with ⟨nb, rfl⟩ | ⟨e, fb, im⟩
  · refine s_reIf (b := true) (dt_t (db_isN (dv_var im_none))) (fun _ H4 x4 => ?_) fun z => nomatch z
    exact ov_served (dl_keys ev_vr (dg.ex x4)) fun a H5 _ x5 sv => q1 H5 a F n (x13.trans (x4.trans x5)) R nb sv
  · refine s_reIf (b := false) (dt_t (db_isN (dv_var im))) (fun z => nomatch z) fun _ H4 x4 => ?_
    refine ov_make (ea_cons (DV.evS (dv_ix (n := 0) (ds := [tx e.2.1, tx e.2.2]) (dv_var (im.ex x4)) dv_int rfl)) (ea_cons (DV.evS (dv_ix (n := 1) (ds := [tx e.2.1, tx e.2.2]) (dv_var (im.ex x4)) dv_int rfl)) ea_nil)) (fun H2 x dx2 _ _ _ => ⟨_, _, rfl, rfl⟩) H4 (Ex.refl _) _ fun a dx H5 _ x5 sl => q2 H5 a F n e (x13.trans (x4.trans x5)) R fb ⟨dx, sl⟩
abbrev sp_can_serve (P : Program) (w : World) (K : PySem.W.Frag) : Sp := fun vs H Q E => ∃ (Pl : Plan) (i m c : V), vs = [i, m, c] ∧ ArgsAt K H Pl i m c ∧
  (∀ H' F n, Ex H H' → ResP Pl n F → NoBad Pl F → Q (.bl true) H') ∧ (∀ H' F n e, Ex H H' → ResP Pl n F → FirstBad Pl F e → Q (.bl false) H') ∧ ∀ n H', Ex H H' → BigsAt Pl n → E (.ref (ga K "TooLarge")) none H'
theorem sc_can_serve : FnScope ["index", "machine", "condition"] ["index", "machine", "condition"] (defScope s_can_serve) := ⟨rfl, rfl, rfl, by decide +kernel, rfl, by decide +kernel, by decide +kernel⟩
theorem ok_can_serve (T : Txt K mg) : FnR P w K mg base (L2.CX P w) 9 (a_can_serve K) (sp_can_serve P w K) := by
  refine okRX T.F_can_serve sc_can_serve (fun _ _ _ _ _ _ us hl => match us, hl with | [_, _, _], _ => rfl) ?_ fun cdv A outer s H vs Q E hr q => ?_
  · rintro vs H Q E ⟨_, _, _, _, rfl, _⟩
    rfl
  obtain ⟨Pl, i, m, c, rfl, ar, q1, q2, qe⟩ := q
  refine ⟨_, (pss_one (ps_ret (pe_callB (id := "isinstance") (SlX.call_isiSl (.ref (ga K "Served"))) (by rfl) T.n_isinstance (by decide +kernel) (pa_cons (pe_fn (ok_serve T) (hr.mono (by decide)) (by rfl) T.g_serve (kp_of T.F_serve) (passE (takes_of rfl rfl rfl rfl)) (pa_cons (pv 0) (pa_cons (pv 1) (pa_cons (pv 2) pa_nil)))) (pa_cons (pe_glob (v := .ref _) (by rfl) T.g_Served rfl) pa_nil))))), ?_⟩
  have ea : EvA (tCons (tVar 0) (tCons (tVar 1) (tCons (tVar 2) tNil))) (start ["index", "machine", "condition"] [i, m, c]) H [i, m, c] := ea_cons ev_vr (ea_cons ev_vr (ea_cons ev_vr ea_nil))
  refine s_reCall ea fun H1 x1 => ⟨Pl, i, m, c, rfl, ar.ex x1, fun H2 a F n x2 R nb sv => ?_, fun H2 a F n e x2 R fb mx => ?_, fun n H2 x2 b => qe n H2 (x1.trans x2) b⟩
  · obtain ⟨dx, l, us, sl, _⟩ := sv
    exact ⟨a, ga K "Served", dx, _, _, true, rfl, rfl, fun _ h => h, sl, T.c_Served, T.y_Served, T.kit_Served_Served, q1 H2 F n (x1.trans x2) R nb⟩
  · obtain ⟨dx, sl⟩ := mx
    exact ⟨a, ga K "Mixed", dx, _, _, false, rfl, rfl, fun _ h => h, sl, T.c_Mixed, T.y_Mixed, T.kit_Mixed_Served, q2 H2 F n e (x1.trans x2) R fb⟩
abbrev sp_least_mixed (P : Program) (w : World) (K : PySem.W.Frag) : Sp := fun vs H Q E => ∃ (Pl : Plan) (i m c : V), vs = [i, m, c] ∧ ArgsAt K H Pl i m c ∧
  (∀ H' F n, Ex H H' → ResP Pl n F → NoBad Pl F → Q .non H') ∧ (∀ H' F n e, Ex H H' → ResP Pl n F → FirstBad Pl F e → Q (.int (Ent.size e : Nat)) H') ∧ ∀ n H', Ex H H' → BigsAt Pl n → E (.ref (ga K "TooLarge")) none H'
theorem sc_least_mixed : FnScope ["index", "machine", "condition", "values"] ["index", "machine", "condition"] (defScope s_least_mixed) := ⟨rfl, rfl, rfl, by decide +kernel, rfl, by decide +kernel, by decide +kernel⟩
theorem ok_least_mixed (T : Txt K mg) : FnR P w K mg base (L2.CX P w) 8 (a_least_mixed K) (sp_least_mixed P w K) := by
  refine okRX T.F_least_mixed sc_least_mixed (fun _ _ _ _ _ _ us hl => match us, hl with | [_, _, _], _ => rfl) ?_ fun cdv A outer s H vs Q E hr q => ?_
  · rintro vs H Q E ⟨_, _, _, _, rfl, _⟩
    rfl
  obtain ⟨Pl, i, m, c, rfl, ar, q1, q2, qe⟩ := q
  refine ⟨_, (pss_cons (ps_expr (pe_fn (ok_check_filter T) (hr.mono (by decide)) (by rfl) T.g_check_filter (kp_of T.F_check_filter) pass0 (pa_cons (pv 0) (pa_cons (pv 1) (pa_cons (pv 2) pa_nil))))) (pss_cons (ps_set (i := 3) sc_least_mixed.nd rfl (by first | exact .inl rfl | exact .inr rfl) (pe_ix (show IxR _ (rIxT K) from ix_tup) (pe_fn (ok_mixed_in T) (hr.mono (by decide)) (by rfl) T.g_mixed_in (kp_of T.F_mixed_in) (passE (takes_of rfl rfl rfl rfl)) (pa_cons (pv 0) (pa_cons (pv 1) (pa_cons (pv 2) pa_nil)))) pe_int (fun _ _ => rfl))) (pss_one (ps_ret (pe_ifExp (pt_cmpR op_isN (pv 3) pe_non (by rfl)) pe_non (pe_op op_add (pe_callB (id := "len") call_len_str (by rfl) T.n_len (by decide +kernel) (pa_cons (pe_ix (show IxR _ (rIxT K) from ix_tup) (pv 3) pe_int (fun _ _ => rfl)) pa_nil)) (pe_callB (id := "len") call_len_str (by rfl) T.n_len (by decide +kernel) (pa_cons (pe_ix (show IxR _ (rIxT K) from ix_tup) (pv 3) pe_int (fun _ _ => rfl)) pa_nil)))))))), ?_⟩
  refine Evl.q_drop (v := .non) (ev_non (dv_fnO (ea_cons ev_vr (ea_cons ev_vr (ea_cons ev_vr ea_nil))) fun H1 x Q q => ⟨Pl, _, _, _, rfl, ar.ex x, fun H2 y => q _ H2 y im_none⟩)) fun H1 x1 => ?_
  refine q_fnIx (ea_cons ev_vr (ea_cons ev_vr (ea_cons ev_vr ea_nil))) fun H2 x2 => ⟨Pl, i, m, c, rfl, ar.ex (x1.trans x2), fun H3 t fa u xs F n x3 ht dg R ch => ?_, fun n H3 x3 b => qe n H3 (x1.trans (x2.trans x3)) b⟩
  have x13 := x1.trans (x2.trans x3)
  refine ⟨t, [.ref fa, u], 1, u, rfl, rfl, SqT.of ht, rfl, ?_⟩
  rcases ch with ⟨nb, rfl⟩ | ⟨e, fb, im⟩
  · exact s_re (dv_if (b := true) (dt_t (db_isN (dv_var im_none))) (fun _ => dv_non) fun z => nomatch z) fun v H4 x4 iv => by rw [iv.non]; exact q1 H4 F n (x13.trans x4) R nb
  · have sz : Ent.size e ≤ 1204 := R.sz e (List.mem_of_getElem? fb.choose_spec.1)
    unfold Ent.size at sz
    refine s_re (d := .num ((e.2.1.length + e.2.2.length : Nat) : Int)) (dv_if (b := false) (dt_t (db_isN (dv_var im))) (fun z => nomatch z) fun _ => dv_is (dv_opI (dv_lenS (dv_ix (n := 0) (ds := [tx e.2.1, tx e.2.2]) (dv_var im) dv_int rfl) (by omega)) (dv_lenS (dv_ix (n := 1) (ds := [tx e.2.1, tx e.2.2]) (dv_var im) dv_int rfl) (by omega))) (by rw [Int.natCast_add])) fun v H4 x4 iv => by rw [iv.num]; exact q2 H4 F n e (x13.trans x4) R fb
end
end Fk

set_option Elab.async false
set_option linter.all false
set_option maxRecDepth 100000
set_option maxHeartbeats 4000000
/-! the law's own search -/
namespace Fk
open PySem PySem.Spec PyProof.Rows L2 He
open Evl (Ex Ev EvT EvL EvA ev_andV ev_orV ev_notV et_and et_or et_not)
def valL (g : Pair × Nat) : Option D := some (.num (g.2 : Int))
abbrev DLw (P : Program) (w : World) (H : Hp) (fa : Addr) (xs : List (D × Addr × V)) (F : List (Pair × Nat)) : Prop := DG P w (fun g : Pair × Nat => g.1) valL H fa xs F
structure ResL (Pl : Plan) (i : Nat) (F : List (Pair × Nat)) : Prop where
  ends : EndsAt Pl i
  nd : (F.map fun g => g.1).Nodup
  fm : ∀ p, p ∈ F.map (fun g => g.1) ↔ Fs Pl i p
  fv : ∀ g ∈ F, LevelOf Pl g.1 g.2
  fl : F.length ≤ 400
  sz : ∀ g ∈ F, g.2 ≤ 1204
/-- pushed so far -/
structure PushL (mv : List Mv) (i : Nat) (W W' : Nat → List Pair) : Prop where
  mem : ∀ k x, x ∈ W' k ↔ x ∈ W k ∨ ∃ m ∈ mv, k = i + m.cost ∧ x = m.q
  len : ∀ k, (W' k).length ≤ (W k).length + mv.length
  low : ∀ k, k ≤ i → W' k = W k
theorem PushL.snoc {mv : List Mv} {i : Nat} {W W' : Nat → List Pair} {m : Mv} (p : PushL mv i W W') (hc : 1 ≤ m.cost) : PushL (mv ++ [m]) i W (fun j => if j = i + m.cost then W' (i + m.cost) ++ [m.q] else W' j) := by
  refine ⟨fun k x => ?_, fun k => ?_, fun k hk => ?_⟩
  · constructor
    · intro h
      have h : x ∈ (if k = i + m.cost then W' (i + m.cost) ++ [m.q] else W' k) := h
      split at h
      · rename_i ek
        rcases List.mem_append.mp h with h | h
        · rcases (p.mem _ x).mp h with h | ⟨m2, h1, h2, h3⟩
          · exact .inl (by rw [ek]; exact h)
          · exact .inr ⟨m2, List.mem_append.mpr (.inl h1), by rw [ek]; exact h2, h3⟩
        · exact .inr ⟨m, List.mem_append.mpr (.inr (List.mem_singleton.mpr rfl)), ek, List.mem_singleton.mp h⟩
      · rcases (p.mem _ x).mp h with h | ⟨m2, h1, h2, h3⟩
        · exact .inl h
        · exact .inr ⟨m2, List.mem_append.mpr (.inl h1), h2, h3⟩
    · intro h
      show x ∈ (if k = i + m.cost then W' (i + m.cost) ++ [m.q] else W' k)
      have up : x ∈ W' k → x ∈ (if k = i + m.cost then W' (i + m.cost) ++ [m.q] else W' k) := fun h => by
        split
        · rename_i ek
          exact List.mem_append.mpr (.inl (by rw [← ek]; exact h))
        · exact h
      rcases h with h | ⟨m2, h1, h2, h3⟩
      · exact up ((p.mem k x).mpr (.inl h))
      · rcases List.mem_append.mp h1 with h1 | h1
        · exact up ((p.mem k x).mpr (.inr ⟨m2, h1, h2, h3⟩))
        · obtain rfl := List.mem_singleton.mp h1
          rw [if_pos h2]
          exact List.mem_append.mpr (.inr (List.mem_singleton.mpr h3))
  · have h1 := p.len k
    rw [List.length_append, List.length_singleton]
    show (if k = i + m.cost then W' (i + m.cost) ++ [m.q] else W' k).length ≤ _
    split
    · rename_i ek
      rw [List.length_append, ← ek, List.length_singleton]
      omega
    · omega
  · show (if k = i + m.cost then W' (i + m.cost) ++ [m.q] else W' k) = W k
    rw [if_neg (by omega)]
    exact p.low k hk
section
variable {P : Program} {w : World} {K : PySem.W.Frag} {mg : Str → Option Value} {base : Heap}
abbrev sp_law_pairs (P : Program) (w : World) : Sp := fun vs H Q _ => ∃ (Pl : Plan) (vp : V), vs = [vp, .int 400] ∧ Im H (planD Pl) vp ∧ PlanOk Pl ∧
  (∀ p xs F i H', H p = none → Ex H H' → DLw P w H' p xs F → ResL Pl i F → Q (.ref p) H') ∧ ∀ i H', Ex H H' → BigsAt Pl i → Q .non H'
theorem sc_law_pairs : FnScope ["plan", "most", "found", "lines", "size", "pair", "many", "late", "made"] ["plan", "most"] (defScope s_law_pairs) := ⟨rfl, rfl, rfl, by decide +kernel, rfl, by decide +kernel, by decide +kernel⟩
theorem ok_law_pairs (T : Txt K mg) : FnR P w K mg base CX0 5 (a_law_pairs K) (sp_law_pairs P w) := by
  refine okR T.F_law_pairs sc_law_pairs (fun _ _ _ _ _ _ us hl => match us, hl with | [_, _], _ => rfl) ?_ fun cdv A outer s H vs Q E hr q => ?_
  · rintro vs H Q E ⟨_, _, rfl, _⟩
    rfl
  obtain ⟨Pl, vp, rfl, ip, hP, q, qe⟩ := q
  refine ⟨_, (pss_cons (ps_par3 (i := 2) (j := 3) (l := 4) rfl sc_law_pairs.nd rfl rfl rfl (by decide) (by decide) (by decide) rfl rfl rfl (pa_cons pe_dnewK (pa_cons (pe_disp (pps_cons pe_int (pe_lst (pa_cons (pe_fn (ok_law_first_pair T) (hr.mono (by decide)) (by rfl) T.g_law_first_pair (kp_of T.F_law_first_pair) pass0 (pa_cons (pv 0) pa_nil)) pa_nil)) pps_nil) rfl rfl (by decide) (by decide)) (pa_cons pe_int pa_nil))) rfl) (pss_cons (ps_while PassesOwn.never (pt_cmpR op_le (pv 4) (pe_callB (id := "max") (cr_maxK rfl) (by rfl) T.n_max (by decide +kernel) (pa_cons (pv 3) pa_nil)) (by rfl)) (pss_cons (ps_for PassesOwn.never rfl (show PI _ _ _ (iList K _) from pi_list (pe_dget2 (Room.units1 hr) (pv 3) (pv 4) (pe_lst pa_nil) ⟨rfl, rfl, rfl, rfl⟩)) (pg_name (i := 5) sc_law_pairs.nd rfl (by first | exact .inl rfl | exact .inr rfl)) (pss_one (ps_if (pt_cmpR (show OpR _ _ (rNotInN P w) from op_notInN hr.units) (pv 5) (pv 2) (by rfl)) (pss_cons (ps_asg (pv 4) (pg_sub (pv 2) (pv 5) (show PSet _ (rSetN P w) from set_dictN hr.units))) (pss_one (ps_for PassesOwn.never rfl (show PI _ _ _ (iList K _) from pi_list (pe_fn (ok_law_moves T) (hr.mono (by decide)) (by rfl) T.g_law_moves (kp_of T.F_law_moves) pass0 (pa_cons (pv 0) (pa_cons (pv 5) pa_nil)))) (show PG _ _ (gTup K 3 _) from pg_tup rfl (pgs_cons (pg_name (i := 6) sc_law_pairs.nd rfl (by first | exact .inl rfl | exact .inr rfl)) (pgs_cons (pg_name (i := 7) sc_law_pairs.nd rfl (by first | exact .inl rfl | exact .inr rfl)) (pgs_cons (pg_name (i := 8) sc_law_pairs.nd rfl (by first | exact .inl rfl | exact .inr rfl)) pgs_nil)))) (pss_one (ps_if (PW.pt (pw_or (pt_cmpR op_notN (pe_ix (show IxR _ (rIxT K) from ix_tup) (pv 0) pe_int (fun _ _ => rfl)) pe_non (by rfl)) (pw_or1 (pt_cmpR op_eq (pe_ix (show IxR _ (rIxT K) from ix_tup) (pv 8) pe_int (fun _ _ => rfl)) (pe_ix (show IxR _ (rIxT K) from ix_tup) (pv 8) pe_int (fun _ _ => rfl)) (by rfl))))) (pss_one (ps_expr (pe_bm PySem.F.plainAttrs_list PySem.F.slot_list_append PySem.F.type_list_append mt_append (pe_dsetd (pv 3) (pe_op op_add (pv 4) (pv 6)) (pe_lst pa_nil) ⟨rfl, rfl, rfl, rfl⟩) (pa_cons (pv 7) pa_nil)))) pss_nil))))) pss_nil))) (pss_cons (ps_if (pt_cmpR op_gt (pe_callB (id := "len") (show CallR _ _ (rLenN P w) from call_lenN) (by rfl) T.n_len (by decide +kernel) (pa_cons (pv 2) pa_nil)) (pv 1) (by rfl)) (pss_one (ps_ret pe_non)) pss_nil) (pss_one (ps_set (i := 4) sc_law_pairs.nd rfl (by first | exact .inl rfl | exact .inr rfl) (pe_op op_add (pv 4) pe_int)))))) (pss_one (ps_ret (pv 2))))), ?_⟩
  have l4 := let_len hP.i.let_
  refine q_init (d := pairD (Pl.first, Pl.first)) (dv_fn (da_cons (dv_var ip) da_nil) ⟨Pl, rfl, hP, rfl⟩) fun fa la l1 v1 G2 hfa hla hl1 nfl nla nfa x02 gfa gla gl1 k1 => ?_
  have start : HR P w pairD (fun g : Pair × Nat => g.1) valL H fa la [(0, l1)] (fun k => if k = 0 then [(Pl.first, Pl.first)] else []) [] [] G2 := by
    refine ⟨x02, ⟨gla, by simp, by simp, fun p hp => ?_, fun p hp => ?_, fun k hk => ?_⟩, ⟨⟨.inr ⟨rfl, gfa⟩, NdKeys.nil⟩, .nil⟩, hfa, hla, fun p hp => ?_, nfl, fun p hp => ?_⟩
    · obtain rfl := List.mem_singleton.mp hp
      exact ⟨[v1], gl1, iml_cons k1 iml_nil⟩
    · obtain rfl := List.mem_singleton.mp hp
      simp
    · have : k ≠ 0 := by simpa using hk
      exact if_neg this
    · obtain rfl := List.mem_singleton.mp hp
      exact hl1
    · obtain rfl := List.mem_singleton.mp hp
      exact nfa
  show tSeq _ _ _ [some vp, some (.int 400), some (.ref fa), some (.ref la), some (.int 0), none, none, none, none] _
  refine Evl.q_while (fun m σ' H' => ∃ (i : Nat) (F : List (Pair × Nat)) (W : Nat → List Pair) (mk : Nat) (xs : List (D × Addr × V)) (ls : List (Nat × Addr)) (s5 s6 s7 s8 : Option V), m = 3 * (401 - F.length) + (mk + 1 - i) ∧ RS (kitL Pl) i F W mk ∧
    σ' = [some vp, some (.int 400), some (.ref fa), some (.ref la), some (.int (i : Int)), s5, s6, s7, s8] ∧ HR P w pairD (fun g : Pair × Nat => g.1) valL H fa la ls W xs F H') (3 * 401 + 1) ⟨0, [], _, 0, [], _, _, _, _, _, rfl, startL Pl, rfl, start⟩ ?_
  rintro mm σ' H' ⟨i, F, W, mk, xs, ls, s5, s6, s7, s8, rfl, R, rfl, h⟩
  have rme := R.me
  refine ⟨decide ((i : Int) ≤ (mk : Int)), dt_t (db_I (dv_var im_num) (dv_maxK ev_vr h.li R.m1 R.m2)), fun hb H3 x3 => ?_, fun hb H3 x3 => ?_⟩
  · have hi : i ≤ mk := by
      have := of_decide_eq_true hb
      omega
    have h3 := h.go x3
    refine ⟨fun σ' H' => ∃ m', m' < 3 * (401 - F.length) + (mk + 1 - i) ∧ ∃ (i : Nat) (F : List (Pair × Nat)) (W : Nat → List Pair) (mk : Nat) (xs : List (D × Addr × V)) (ls : List (Nat × Addr)) (s5 s6 s7 s8 : Option V), m' = 3 * (401 - F.length) + (mk + 1 - i) ∧ RS (kitL Pl) i F W mk ∧
      σ' = [some vp, some (.int 400), some (.ref fa), some (.ref la), some (.int (i : Int)), s5, s6, s7, s8] ∧ HR P w pairD (fun g : Pair × Nat => g.1) valL H fa la ls W xs F H', fun _ _ z => z, ?_⟩
    refine q_forGet (get_lines (Evl.ev_var rfl) (dv_var im_num) h3.li) (fun al us H4 n σ' H' => ∃ (F' : List (Pair × Nat)) (W' : Nat → List Pair) (mk' : Nat) (xs' : List (D × Addr × V)) (ls' : List (Nat × Addr)) (s5 s6 s7 s8 : Option V), RI (kitL Pl) i F W mk n F' W' mk' ∧
      σ' = [some vp, some (.int 400), some (.ref fa), some (.ref la), some (.int (i : Int)), s5, s6, s7, s8] ∧ HR P w pairD (fun g : Pair × Nat => g.1) valL H fa la ls' W' xs' F' H' ∧ H' al = some (.lst us) ∧ TS H4 H' ∧ ((i, al) ∈ ls' ∨ (∀ p ∈ ls', al ≠ p.2)))
      (fun al us H4 x4 hal ial fresh => ⟨F, W, mk, xs, ls, _, _, _, _, R.start, rfl, h3.go x4, hal, TS.refl _, fresh.imp id fun z p hp e => by
        obtain ⟨us, hu, _⟩ := h3.li.l p hp
        rw [← e, z.1] at hu
        cases hu⟩) (fun al us H4 n σ' H' ⟨_, _, _, _, _, _, _, _, _, _, _, _, z, _⟩ => z) ?_ ?_
    · rintro al us H4 n e v σ' H5' x4 hal he ⟨F', W', mk', xs', ls', s5, s6, s7, s8, RI1, rfl, h5, al5, ts5, pos⟩ im
      have h4 := h3.go x4
      have nal1 : al ≠ fa := fun z => h4.dg.noLst us (by rw [← z]; exact hal)
      have nal2 : al ≠ la := fun z => by rw [z, h4.li.d] at hal; cases hal
      have im5 := im.ts ts5
      have hme : e ∈ W i := List.mem_of_getElem? he
      have okF : ∀ g ∈ F', PairOk Pl g.1 := fun g hg => (lv_ok hP _).1 _ (RI1.fv g hg).2.1.1
      have oke : PairOk Pl e := (lv_ok hP i).2 i _ ((R.wm i e).mp ⟨e, hme, rfl⟩)
      have hnl : n < (W i).length := (List.getElem?_eq_some_iff.mp he).1
      have wl := R.wl i
      have fl := R.fl
      have gn := RI1.gn
      have sh := (pair_shape e).2
      show tIfS _ _ _ _ [some vp, some (.int 400), some (.ref fa), some (.ref la), some (.int (i : Int)), some v, s6, s7, s8] _
      refine s_of (q_if2 (dt_t (db_is (db_niN (ds := [e.1.d, e.2.d]) (dv_var im5) ev_vr h5.dg.nd (by show (pairD e).depth ≤ 8; omega)) (congrArg not (h5.dg.mem (kg := fun g : Pair × Nat => g.1) okF oke)))) (fun hb H6 x6 => ?_) fun hb H6 x6 => ?_)
      · have hf : e ∉ F'.map (fun g => g.1) := by simpa using hb
        have h6 := h5.go x6
        refine q_put (kg := fun g : Pair × Nat => g.1) (vd := valL) (g := (e, i)) (DV.o (d := .num (i : Int)) (dv_var im_num)) ev_vr (dv_var (im5.ex x6)) h6.dg (fun z => hf (by
          have := h6.dg.mem (kg := fun g : Pair × Nat => g.1) okF oke
          rw [decide_eq_true z] at this
          exact of_decide_eq_true this.symm)) (by rw [h6.dg.length]; omega) fun b7 v7 H7 x7 ik iv => ?_
        obtain ⟨t8, h8⟩ := (h6.go x7).put (g := (e, i)) ik iv
        have al8 : (upd H7 fa (NdO P w fa (xs' ++ [(pairD e, b7, v7)]))) al = some (.lst us) := by rw [upd_ne nal1]; exact x7 _ _ (x6 _ _ al5)
        have ts8 : TS H5' (upd H7 fa (NdO P w fa (xs' ++ [(pairD e, b7, v7)]))) := (TS.ex (x6.trans x7)).trans t8
        show tFor _ _ _ _ [some vp, some (.int 400), some (.ref fa), some (.ref la), some (.int (i : Int)), some v, s6, s7, s8] (upd H7 fa (NdO P w fa (xs' ++ [(pairD e, b7, v7)])))
        generalize upd H7 fa (NdO P w fa (xs' ++ [(pairD e, b7, v7)])) = G8 at *
        have lsl : ls'.length ≤ mk' + 1 := keys_few h8.li.nk fun p hp => RI1.m2 _ (h8.li.ne p hp)
        have mkb : mk' ≤ 1300 := by
          rcases RI1.mm with z | z <;> omega
        have ml : (Pl.movesL e).length ≤ 24 := movesL_len l4
        refine s_of (q_forDg (ds := (Pl.movesL e).map Mv.dL) (dl_fn (da_cons (dv_var (ip.ex h8.ex)) (da_cons (dv_var (im5.ts ts8)) da_nil)) ⟨Pl, e, rfl, hP, oke.1, oke.2, rfl⟩) (fun H1 n σ' H' => ∃ (ls2 : List (Nat × Addr)) (W2 : Nat → List Pair) (s6 s7 s8 : Option V), σ' = [some vp, some (.int 400), some (.ref fa), some (.ref la), some (.int (i : Int)), some v, s6, s7, s8] ∧
          LinesAt H1 la ls' pairD W' ∧ HR P w pairD (fun g : Pair × Nat => g.1) valL H fa la ls2 W2 (xs' ++ [(pairD e, b7, v7)]) (F' ++ [(e, i)]) H' ∧ Stp i la H1 ls' H' ls2 ∧ PushL ((Pl.movesL e).take n) i W' W2 ∧ ls2.length ≤ ls'.length + n) ?_ ?_ ?_ ?_)
        · intro H1 x1
          refine ⟨ls', W', _, _, _, rfl, h8.li.ex x1, h8.go x1, .ex (Ex.refl _), ⟨fun k x => ?_, fun k => Nat.le_add_right _ _, fun k _ => rfl⟩, Nat.le_refl _⟩
          rw [List.take_zero]
          exact ⟨.inl, fun h => h.elim id fun ⟨_, h, _⟩ => nomatch h⟩
        · rintro p us H1 n σ' H' hp0 x1 hp1 ⟨ls2, W2, _, _, _, _, L1, h2, s, _, _⟩
          refine ⟨s.ts L1, s.stay _ _ (fun z => ?_) (fun r hr _ z => ?_) hp1⟩
          · rw [z, h8.li.d] at hp0; cases hp0
          · obtain ⟨us, hu, _⟩ := h8.li.l r hr
            rw [z, hu] at hp0; cases hp0
        · rintro H1 k d v2 σ' H9 x1 hd ⟨ls2, W2, s6, s7, s8, rfl, L1, h2, s, pu, nl⟩ im2
          obtain ⟨mv, hm, rfl⟩ : ∃ mv, (Pl.movesL e)[k]? = some mv ∧ Mv.dL mv = d := by simpa using hd
          have hmm := List.mem_of_getElem? hm
          have hk : k < 24 := by
            have := (List.getElem?_eq_some_iff.mp hm).1
            omega
          have cr := cost_rng (mem_movesL.mp hmm)
          obtain ⟨b, vs, rfl, hb, hvs⟩ := im2.tup
          obtain ⟨w1, w2, w3, rfl, k1, k2, k3⟩ := hvs.three
          refine tgt_tup hb rfl (tgt_cons (tgt_cons (tgt_cons tgt_nil))) _ ?_
          have bl : ∀ k, (W2 k).length ≤ 900024 := fun k => by
            have h1 := pu.len k
            have h3 := RI1.wl k
            rw [List.length_take] at h1
            omega
          have ipH := ip.ex h2.ex
          show tIfS _ _ _ _ [some vp, some (.int 400), some (.ref fa), some (.ref la), some (.int (i : Int)), some v, some w1, some w2, some w3] _
          refine s_of (q_if2 (b := true) (et_or (a := true) (b := true) (dt_t (db_is (db_notN (dv_ix (n := 3) (ds := [tx Pl.I.L, rowsD Pl.I.rows, rowsD Pl.M.rows, Pl.c.d]) (dv_var ipH) dv_int rfl)) (by rw [Cond.notN]; rfl))) fun z => nomatch z) (fun _ H10 x10 => ?_) fun z => nomatch z)
          refine s_of (q_push (K := K) (e := mv.q) (i := i) (k := i + mv.cost) ev_vr (dv_is (dv_opI (dv_var im_num) (dv_var (k1.ex x10))) (by show NestedKey.num ((i : Int) + ((mv.cost : Nat) : Int)) = _; rw [Int.natCast_add])) (fun H5 t5 => dv_var ((k2.ex x10).ts t5)) (h2.li.ex x10) (by omega) (by have := bl (i + mv.cost); omega) (by omega) fun H11 ls5 L5 s5 n5 => ?_)
          refine ⟨ls5, _, _, _, _, rfl, L1, (h2.go x10).stp s5 L5, s.trans ((Stp.ex x10).trans s5), ?_, by omega⟩
          rw [take_snoc hm]
          exact pu.snoc cr.1
        · rintro H1 σ' H9 x1 ⟨ls2, W2, s6, s7, s8, rfl, L1, h2, s, pu, nl⟩
          rw [List.length_map, List.take_length] at pu
          have PG : PushG (kitL Pl) i e W' W2 := ⟨fun k x => pu.mem k x, fun k => Nat.le_trans (pu.len k) (Nat.add_le_add_left ml _), pu.low⟩
          obtain ⟨mk14, R14⟩ := RI1.add R.wm he hf PG
          have al9 := x1 _ _ al8
          refine ⟨F' ++ [(e, i)], W2, mk14, _, ls2, _, _, _, _, R14, rfl, h2, ?_, ts5.trans (ts8.trans ((TS.ex x1).trans (s.ts L1))), ?_⟩
          · refine s.stay _ _ nal2 (fun p hp hlt => ?_) al9
            rcases pos with z | z
            · intro e2
              have := nd_map_inj h8.li.na z hp e2
              rw [← this] at hlt
              exact absurd hlt (Nat.lt_irrefl _)
            · exact z p hp
          · rcases pos with z | z
            · exact .inl (s.old _ z)
            · refine .inr fun p hp => ?_
              rcases s.new p hp with y | y
              · exact z p y
              · exact fun e2 => by rw [← e2, al9] at y; cases y
      · have hf : e ∈ F'.map (fun g => g.1) := by simpa using hb
        exact ⟨F', W', mk', xs', ls', _, _, _, _, RI1.skip he hf, rfl, h5.go x6, x6 _ _ al5, ts5.trans (TS.ex x6), pos⟩
    · rintro al us H4 σ' H5 x4 ⟨F', W', mk', xs', ls', s5, s6, s7, s8, RI1, rfl, h5, al5, ts5, pos⟩
      refine Evl.q_when (dt_t (db_I (dv_is (dv_lenN ev_vr h5.dg.nd) (by rw [h5.dg.length])) (dv_var im_num))) (fun hb H6 x6 => ?_) fun hb H6 x6 => ?_
      · have hf : ¬ F'.length ≤ 400 := by
          have := of_decide_eq_true hb
          omega
        exact s_re dv_non fun v H7 x7 iv => by rw [iv.non]; exact qe i H7 (h5.ex.trans (x6.trans x7)) (RI1.big R hi hf)
      · have hf : F'.length ≤ 400 := by
          have := of_decide_eq_false hb
          omega
        obtain ⟨R', lt⟩ := RI1.done R hi hf
        refine s_of (q_as (dv_inc (dv_var im_num)) fun v7 H7 x7 k7 => ?_)
        obtain rfl := k7.num
        exact ⟨_, lt, i + 1, F', W', mk', xs', ls', _, _, _, _, rfl, R', rfl, h5.go (x6.trans x7)⟩
  · have hi : ¬ i ≤ mk := by
      have := of_decide_eq_false hb
      omega
    have h3 := h.go x3
    refine (Evl.ev_var rfl) H3 (Ex.refl _) _ fun H4 x4 => q fa xs F i H4 h.f0 (h3.ex.trans x4) (h3.dg.ex x4) ⟨R.ends hi, R.nd, R.fm, fun e he => (R.fv e he).2.1, R.fl, fun e he => by
      have h1 : e.2 < i := (R.fv e he).2.2
      have := R.me
      omega⟩
end
end Fk

set_option Elab.async false
set_option linter.all false
set_option maxRecDepth 100000
set_option maxHeartbeats 4000000
/-! the law's numbers, letters, values, rows, conditions -/
namespace Fk
open PySem PySem.Spec PyProof.Rows L2 He
open Evl (Ex Ev EvT EvL EvA ev_andV ev_orV ev_notV et_and et_or et_not)
section
variable {K : PySem.W.Frag} {σ : L2.St} {H : Hp} {ta tb te : TE} {d : D} {ds : List D} {a : Addr} {us : List V} {ns : List Int} {n : Int}
theorem dv_lenL (h : Ev te σ H (.ref a)) (ha : H a = some (.lst us)) : DV (tCB (rLenQ K) (tCons te tNil)) σ H (.num (us.length : Int)) := fun H1 x Q q =>
  h H1 x _ fun H2 y => ⟨a, us, rfl, .inl (SqL.of (y _ _ (x _ _ ha))), q _ H2 y im_num⟩
theorem dv_sum (h : Ev te σ H (.ref a)) (ha : H a = some (.lst (ns.map V.int))) : DV (tCB (rSum K) (tCons te tNil)) σ H (.num ns.sum) := fun H1 x Q q =>
  h H1 x _ fun H2 y => ⟨a, ns, rfl, SqL.of (y _ _ (x _ _ ha)), q _ H2 y im_num⟩
theorem dp_ints {K : PySem.W.Frag} {H : Hp} : ∀ ns : List Int, DpAll K H (ns.map V.int) (ns.map PyData.int)
  | [] => .nil
  | n :: r => .cons (.int n) (dp_ints r)
theorem lay_ints : ∀ ns : List Int, PyData.canLayAll0 (ns.map PyData.int) = true ∧ PyData.depthAll (ns.map PyData.int) = 0
  | [] => ⟨by simp [PyData.canLayAll0], by simp [PyData.depthAll]⟩
  | n :: r => by
    have := lay_ints r
    simp [PyData.canLayAll0, PyData.canLay0, PyData.depthAll, PyData.depth, this.1, this.2]
theorem shaped_ints (ns : List Int) : SeqAt.shaped (.list (ns.map PyData.int)) = true := by
  have := lay_ints ns
  unfold SeqAt.shaped
  simp [PyData.canLay0, PyData.depth, this.1, this.2]
/-- xs != [], xs a list of whole numbers -/
theorem db_neNil (h : Ev ta σ H (.ref a)) (hs : SqL K H a (ns.map V.int)) : DB (tOp (rNeD K) ta (tLst tNil)) σ H (!decide (ns = [])) := fun H1 x Q q =>
  h H1 x _ fun H2 y => ⟨Nat.zero_le _, fun p hp => by
    have x3 := (x.trans y).trans (Ex.new (o := .lst []) hp)
    refine ⟨.list (ns.map PyData.int), .list [], .lst (Evl.ex_l x3 hs) (dp_ints ns), .lst (SqL.of upd_same) .nil, shaped_ints ns, shaped_ints [], ?_⟩
    have e : (!PyData.eqv (.list (ns.map PyData.int)) (.list [])) = !decide (ns = []) := by
      cases ns with
      | nil => simp [PyData.eqv, PyData.eqvAll]
      | cons n r => simp [PyData.eqv, PyData.eqvAll]
    rw [e]
    exact q _ (y.trans (Ex.new hp))⟩
theorem nat_mod {i m : Nat} : ((i : Int) % (m : Int)) = ((i % m : Nat) : Int) := rfl
end
section
variable {P : Program} {w : World} {K : PySem.W.Frag} {mg : Str → Option Value} {base : Heap}
abbrev sp_law_number (K : PySem.W.Frag) : Sp := fun vs H Q _ => ∃ (sa : Addr) (ns : List Int) (idx : Nat), vs = [.ref sa, .int (idx : Int)] ∧ SqL K H sa (ns.map V.int) ∧ ns.length ≤ 63 ∧ idx ≤ 1000 ∧ ∀ n H', Ex H H' → Q (.int n) H'
theorem sc_law_number : FnScope ["script", "index", "cells", "cell", "low", "high", "total", "blend"] ["script", "index"] (defScope s_law_number) := ⟨rfl, rfl, rfl, by decide +kernel, rfl, by decide +kernel, by decide +kernel⟩
theorem ok_law_number (T : Txt K mg) : FnR P w K mg base CX0 1 (a_law_number K) (sp_law_number K) := by
  refine okR T.F_law_number sc_law_number (fun _ _ _ _ _ _ us hl => match us, hl with | [_, _], _ => rfl) ?_ fun cdv A outer s H vs Q E hr q => ?_
  · rintro vs H Q E ⟨_, _, _, rfl, _⟩
    rfl
  obtain ⟨sa, ns, idx, rfl, hs, hz, hi, q⟩ := q
  refine ⟨_, (pss_cons (ps_set (i := 2) sc_law_number.nd rfl (by first | exact .inl rfl | exact .inr rfl) (pe_ifExp (pt_cmpR (op_neD hr.units) (pv 0) (pe_lst pa_nil) (by rfl)) (pe_slice (show SlR _ (rSlL K) from sl_list) (pv 0) po_none (po_some pe_int)) (pe_lst (pa_cons pe_int pa_nil)))) (pss_cons (ps_set (i := 3) sc_law_number.nd rfl (by first | exact .inl rfl | exact .inr rfl) (pe_op op_add (pe_ix (show IxR _ (rIxL K) from ix_list) (pv 2) (pe_op op_mod (pe_callTy call_int1 (by rfl) T.n_int (by decide +kernel) (pa_cons (pv 1) pa_nil)) (pe_callB (id := "len") (show CallR _ _ (rLenQ K) from call_len_seq) (by rfl) T.n_len (by decide +kernel) (pa_cons (pv 2) pa_nil))) (fun _ _ => rfl)) (pe_op op_mul pe_int (pe_op op_fdiv (pv 1) (pe_callB (id := "len") (show CallR _ _ (rLenQ K) from call_len_seq) (by rfl) T.n_len (by decide +kernel) (pa_cons (pv 2) pa_nil)))))) (pss_cons (ps_par (i := 4) (j := 5) rfl sc_law_number.nd rfl rfl (by decide) rfl rfl (pa_cons (pe_op op_mod (pe_callTy call_int1 (by rfl) T.n_int (by decide +kernel) (pa_cons (pv 3) pa_nil)) pe_int) (pa_cons (pe_op op_mod (pe_callTy call_int1 (by rfl) T.n_int (by decide +kernel) (pa_cons (pe_op op_fdiv (pv 3) pe_int) pa_nil)) pe_int) pa_nil)) rfl) (pss_cons (ps_set (i := 6) sc_law_number.nd rfl (by first | exact .inl rfl | exact .inr rfl) (pe_op op_mod (pe_callTy call_int1 (by rfl) T.n_int (by decide +kernel) (pa_cons (pe_callB (id := "sum") (cr_sum rfl) (by rfl) T.n_sum (by decide +kernel) (pa_cons (pv 2) pa_nil)) pa_nil)) pe_int)) (pss_cons (ps_set (i := 7) sc_law_number.nd rfl (by first | exact .inl rfl | exact .inr rfl) (pe_op op_mod (pe_callTy call_int1 (by rfl) T.n_int (by decide +kernel) (pa_cons (pe_op op_add (pe_op op_add (pe_op op_mul (pe_op op_add (pv 4) (pe_op op_mul pe_int (pv 1))) pe_int) (pe_op op_mul pe_int (pv 5))) (pv 6)) pa_nil)) pe_int)) (pss_one (ps_ret (pe_op op_add (pe_op op_mul (pe_op op_mod (pe_callTy call_int1 (by rfl) T.n_int (by decide +kernel) (pa_cons (pe_op op_mul (pv 7) (pe_op op_add (pe_op op_add (pv 7) (pe_op op_mul pe_int (pv 1))) pe_int)) pa_nil)) pe_int) pe_int) (pv 5))))))))), ?_⟩
  obtain ⟨cs, c0, c63, cells⟩ : ∃ cs : List Int, 0 < cs.length ∧ cs.length ≤ 63 ∧ EvL (tIf (tTest (tOp (rNeD K) (tVar 0) (tLst tNil))) (tSl (rSlL K) (tVar 0) tNoPart (tPart (tC (.int 63)))) (tLst (tCons (tC (.int 5)) tNil))) (start ["script", "index", "cells", "cell", "low", "high", "total", "blend"] [.ref sa, .int (idx : Int)]) H (cs.map V.int) := by
    by_cases e : ns = []
    · refine ⟨[5], by decide, by decide, fun H1 x Q q => ?_⟩
      refine (dt_t (db_neNil (Evl.ev_var rfl) hs)) H1 x _ fun H2 y => ?_
      rw [decide_eq_true e]
      exact (Evl.el_lst (Evl.ea_cons Evl.ev_c Evl.ea_nil) (by decide)) H2 (Ex.refl _) _ fun p H3 hp z e3 => q p H3 (Evl.fresh_back y hp) (y.trans z) e3
    · refine ⟨ns, by cases ns with | nil => exact absurd rfl e | cons _ _ => simp, hz, fun H1 x Q q => ?_⟩
      refine (dt_t (db_neNil (Evl.ev_var rfl) hs)) H1 x _ fun H2 y => ?_
      rw [decide_eq_false e]
      have cut : cutV (ns.map V.int) none (some 63) = ns.map V.int := by
        unfold cutV
        rw [HT.sIx_none, show (some (63 : Int)) = some ((63 : Nat) : Int) from rfl, HT.sIx_nat, List.drop_zero, Nat.sub_zero, List.length_map]
        exact List.take_of_length_le (by rw [List.length_map]; omega)
      have := Evl.el_sl (K := K) (te := tVar 0) (tl := tNoPart) (th := tPart (tC (.int 63))) (σ := start ["script", "index", "cells", "cell", "low", "high", "total", "blend"] [.ref sa, .int (idx : Int)]) (H := H) (Evl.ev_var rfl) Evl.eo_none (Evl.eo_some Evl.ev_c) hs
      rw [cut] at this
      exact this H2 (x.trans y) _ fun p H3 hp z e3 => q p H3 (Evl.fresh_back y hp) (y.trans z) e3
  refine Evl.q_asgL cells fun ca H1 hca x1 hc => ?_
  have hlen : (cs.map V.int).length = cs.length := List.length_map _
  have lt : idx % cs.length < cs.length := Nat.mod_lt _ c0
  have q63 : cs.length < 1073741824 := by omega
  refine q_as (dv_opI (dv_ixL (n := idx % cs.length) (ds := cs.map .num) (d := .num (cs[idx % cs.length]'lt)) ev_vr hc (iml_ints cs) (dv_is (dv_opIc (dv_intT (dv_var im_num)) (dv_lenL ev_vr hc) (by rw [hlen]; exact Int.natCast_pos.mpr c0)) (by rw [hlen, nat_mod])) (by rw [List.getElem?_map, List.getElem?_eq_getElem lt]; rfl))
    (dv_opIc (dv_int (i := 13)) (dv_opIc (dv_var im_num) (dv_lenL ev_vr hc) (by rw [hlen]; exact ⟨Int.natCast_pos.mpr c0, by omega⟩)) (.inl ⟨by decide, by decide⟩))) fun v2 H2 x2 k2 => ?_
  obtain rfl := k2.num
  generalize (cs[idx % cs.length]'lt + 13 * ((idx : Int) / ((cs.map V.int).length : Int)) : Int) = cell
  refine q_par2 (da_cons (dv_opIc (dv_intT (dv_var im_num)) dv_int (by decide)) (da_cons (dv_opIc (dv_intT (dv_opIc (dv_var im_num) dv_int ⟨by decide, by decide⟩)) dv_int (by decide)) da_nil)) fun v3 v4 H3 x3 k3 k4 => ?_
  obtain rfl := k3.num
  obtain rfl := k4.num
  generalize cell % 1000003 = low
  generalize (cell / 1000003 : Int) % 999983 = high
  have hc3 := x3 _ _ (x2 _ _ hc)
  refine q_as (dv_opIc (dv_intT (dv_sum ev_vr hc3)) dv_int (by decide)) fun v5 H4 x4 k5 => ?_
  obtain rfl := k5.num
  generalize cs.sum % 65521 = total
  refine q_as (dv_opIc (dv_intT (dv_opI (dv_opI (dv_opIc (dv_opI (dv_var im_num) (dv_opIc dv_int (dv_var im_num) (.inl ⟨by decide, by decide⟩))) dv_int (.inr ⟨by decide, by decide⟩)) (dv_opIc dv_int (dv_var im_num) (.inl ⟨by decide, by decide⟩))) (dv_var im_num))) dv_int (by decide)) fun v6 H5 x5 k6 => ?_
  obtain rfl := k6.num
  have b1 := Int.emod_nonneg ((low + 977 * (idx : Int)) * 48271 + 31 * high + total) (show (2147483647 : Int) ≠ 0 by decide)
  have b2 := Int.emod_lt_of_pos ((low + 977 * (idx : Int)) * 48271 + 31 * high + total) (show (0 : Int) < 2147483647 by decide)
  generalize ((low + 977 * (idx : Int)) * 48271 + 31 * high + total) % 2147483647 = blend at *
  exact s_re (dv_opI (dv_opIc (dv_opIc (dv_intT (dv_opIc (dv_var im_num) (dv_opI (dv_opI (dv_var im_num) (dv_opIc dv_int (dv_var im_num) (.inl ⟨by decide, by decide⟩))) dv_int) (.inl ⟨by omega, by omega⟩))) dv_int (by decide)) dv_int (.inr ⟨by decide, by decide⟩)) (dv_var im_num)) fun v H6 x6 im => by rw [im.num]; exact q _ H6 (x1.trans (x2.trans (x3.trans (x4.trans (x5.trans x6)))))
end
end Fk

set_option Elab.async false
set_option linter.all false
set_option maxRecDepth 100000
set_option maxHeartbeats 4000000
/-! the law's letters, values, conditions -/
namespace Fk
open PySem PySem.Spec PyProof.Rows L2 He
open Evl (Ex Ev EvT EvL EvA ev_andV ev_orV ev_notV et_and et_or et_not)
/-- some whole number -/
def EI (te : TE) (σ : L2.St) (H : Hp) (C : Int → Prop) : Prop := ∀ H1, Ex H H1 → ∀ Q : VK, (∀ n H2, Ex H1 H2 → C n → Q (.int n) H2) → te σ H1 Q
abbrev rInt : List V → Hp → VK → Prop := fun xs H Q => (∃ i, xs = [.int i] ∧ Q (.int i) H) ∨ ∃ k, xs = [.bl k] ∧ Q (.int (if k then 1 else 0)) H
section
variable {K : PySem.W.Frag} {σ : L2.St} {H : Hp} {ta tb te : TE} {tr : TA} {d : D} {ds : List D} {a sa : Addr} {us : List V} {ns : List Int} {C C2 : Int → Prop} {E : XK} {De : Ends} {ty : L2.TS} {i j : Nat}
theorem ei_num {idx : Nat} (h : Ev ta σ H (.ref sa)) (hs : SqL K H sa (ns.map V.int)) (hz : ns.length ≤ 63) (hi : DV tb σ H (.num (idx : Int))) (h3 : idx ≤ 1000) : EI (tFn (sp_law_number K) E (tCons ta (tCons tb tNil))) σ H (fun _ => True) := fun H1 x Q q =>
  h H1 x _ fun H2 y => hi H2 (x.trans y) _ fun v H3 z iv => ⟨sa, ns, idx, by rw [iv.num], Evl.ex_l (x.trans (y.trans z)) hs, hz, h3, fun n H4 z2 => q n H4 (y.trans (z.trans z2)) True.intro⟩
theorem ei_int (h : EI te σ H C) : EI (tCB rInt (tCons te tNil)) σ H C := fun H1 x Q q => h H1 x _ fun n H2 y c => .inl ⟨n, rfl, q n H2 y c⟩
theorem ei_mod {m : Int} (h : EI ta σ H C) (h2 : DV tb σ H (.num m)) (hm : 0 < m) : EI (tOp (rI (fun _ j => 0 < j) fun i j => .int (i % j)) ta tb) σ H (fun n => 0 ≤ n ∧ n < m) := fun H1 x Q q =>
  h H1 x _ fun n H2 y c => h2 H2 (x.trans y) _ fun v H3 z iv => ⟨n, m, rfl, iv.num, hm, q _ H3 (y.trans z) ⟨Int.emod_nonneg _ (by omega), Int.emod_lt_of_pos _ hm⟩⟩
theorem ei_of {n : Int} (h : DV te σ H (.num n)) (c : C n) : EI te σ H C := fun H1 x Q q => h H1 x _ fun v H2 y iv => by rw [iv.num]; exact q n H2 y c
theorem ei_addL {g : Int → Int → Int} {m : Int} (h : DV ta σ H (.num m)) (h2 : EI tb σ H C) (w : ∀ n, C n → C2 (g m n)) : EI (tOp (rI0 fun i j => .int (g i j)) ta tb) σ H C2 := fun H1 x Q q =>
  h H1 x _ fun v H2 y iv => h2 H2 (x.trans y) _ fun n H3 z c => ⟨m, n, by rw [iv.num], rfl, q _ H3 (y.trans z) (w n c)⟩
theorem q_asI (h : EI te σ H C) (k : ∀ n H1, Ex H H1 → C n → ty De (σ.set i (some (.int n))) H1) : tSeq (tAsg te (gName i)) ty De σ H := h H (Ex.refl _) _ k
theorem q_parIS {l : Tx} (h : EI te σ H C) (h2 : DV tb σ H (tx l)) (k : ∀ n H1, Ex H H1 → C n → ty De ((σ.set i (some (.int n))).set j (some (.str (tS l)))) H1) : tSeq (tPar i j (tCons te (tCons tb tNil))) ty De σ H :=
  h H (Ex.refl _) _ fun n H1 x c => h2 H1 x _ fun v H2 y iv => ⟨_, _, rfl, by rw [iv.text]; exact k n H2 (x.trans y) c⟩
theorem q_parIL (h : EI te σ H C) (k : ∀ n a H1, H a = none → Ex H H1 → H1 a = some (.lst []) → C n → ty De ((σ.set i (some (.int n))).set j (some (.ref a))) H1) : tSeq (tPar i j (tCons te (tCons (tLst tNil) tNil))) ty De σ H :=
  h H (Ex.refl _) _ fun n H1 x c => ⟨Nat.zero_le _, fun a ha => ⟨_, _, rfl, k n a _ (Evl.fresh_back x ha) (x.trans (Ex.new ha)) upd_same c⟩⟩
/-- t[some number] -/
theorem dv_ixI {P : D → Prop} (h : DV ta σ H (.tup ds)) (h2 : EI tb σ H (fun n => 0 ≤ n ∧ n < ds.length)) : ∀ H1, Ex H H1 → ∀ Q : VK, (∀ d v H2, d ∈ ds → Ex H1 H2 → Im H2 d v → Q v H2) → tOp (rIxT K) ta tb σ H1 Q := fun H1 x Q q =>
  h H1 x _ fun v H2 y iv => h2 H2 (x.trans y) _ fun n H3 z c => by
    obtain ⟨a, vs, rfl, ha, hl⟩ := (iv.ex z).tup
    obtain ⟨k, rfl⟩ : ∃ k : Nat, n = (k : Int) := ⟨n.toNat, (Int.toNat_of_nonneg c.1).symm⟩
    have hk : k < ds.length := by omega
    obtain ⟨u, hu, iu⟩ := hl.get (List.getElem?_eq_getElem hk)
    exact ⟨a, vs, (k : Int), u, rfl, rfl, SqT.of ha, atI_nat hu, q _ u H3 (List.getElem_mem hk) (y.trans z) iu⟩
/-- a sign of a text, at some number -/
theorem dv_ixSI {l : Tx} (h : DV ta σ H (tx l)) (h2 : EI tb σ H (fun n => 0 ≤ n ∧ n < (l.length : Int))) (z : l.length ≤ 100000) : ∀ H1, Ex H H1 → ∀ Q : VK, (∀ c H2, c ∈ l → Ex H1 H2 → Q (.str ⟨#[c]⟩) H2) → tOp rIxS ta tb σ H1 Q := fun H1 x Q q =>
  h H1 x _ fun v H2 y iv => h2 H2 (x.trans y) _ fun n H3 y2 c => by
    obtain ⟨k, rfl⟩ : ∃ k : Nat, n = (k : Int) := ⟨n.toNat, (Int.toNat_of_nonneg c.1).symm⟩
    have hk : k < l.length := by omega
    exact ⟨tS l, (k : Int), l[k], iv.text, rfl, by rw [tS_len]; exact Evl.sz_of z, atI_nat (by rw [tS_cps]; exact List.getElem?_eq_getElem hk), q _ H3 (List.getElem_mem hk) (y.trans y2)⟩
/-- found = found + some sign -/
theorem q_addSI {p l : Tx} (h1 : Ev ta σ H (.str (tS p))) (h : ∀ H1, Ex H H1 → ∀ Q : VK, (∀ c H2, c ∈ l → Ex H1 H2 → Q (.str ⟨#[c]⟩) H2) → te σ H1 Q) (z : p.length ≤ 1000) (k : ∀ c H1, c ∈ l → Ex H H1 → ty De (σ.set i (some (.str (tS (p ++ [c]))))) H1) :
    tSeq (tAsg (tOp rAddS2 ta te) (gName i)) ty De σ H :=
  h1 H (Ex.refl _) _ fun H1 x => h H1 x _ fun c H2 hc y => ⟨tS p, tS [c], rfl, rfl, by rw [tS_len, tS_len]; exact Evl.sz_of (by simp; omega), by rw [tS_app]; exact k c H2 hc (x.trans y)⟩
theorem q_asX (h : ∀ H1, Ex H H1 → ∀ Q : VK, (∀ d v H2, d ∈ ds → Ex H1 H2 → Im H2 d v → Q v H2) → te σ H1 Q) (k : ∀ d v H1, d ∈ ds → Ex H H1 → Im H1 d v → ty De (σ.set i (some v)) H1) : tSeq (tAsg te (gName i)) ty De σ H := h H (Ex.refl _) _ k
/-- some value of at most four signs of L -/
def EVt (te : TE) (σ : L2.St) (H : Hp) (L : Tx) : Prop := ∀ H1, Ex H H1 → ∀ Q : VK, (∀ p H2, p.length ≤ 4 → (∀ c ∈ p, c ∈ L) → Ex H1 H2 → Q (.str (tS p)) H2) → te σ H1 Q
theorem q_list2 {L : Tx} (h : EVt ta σ H L) (h2 : EVt tb σ H L) (k : ∀ a p1 p2 H1, H a = none → Ex H H1 → H1 a = some (.lst [.str (tS p1), .str (tS p2)]) → p1.length ≤ 4 → (∀ c ∈ p1, c ∈ L) → p2.length ≤ 4 → (∀ c ∈ p2, c ∈ L) → ty De (σ.set i (some (.ref a))) H1) :
    tSeq (tAsg (tLst (tCons ta (tCons tb tNil))) (gName i)) ty De σ H :=
  h H (Ex.refl _) _ fun p1 H1 a1 b1 x1 => h2 H1 x1 _ fun p2 H2 a2 b2 x2 => ⟨by show 2 ≤ sizeLine; decide, fun a ha => k a p1 p2 _ (Evl.fresh_back (x1.trans x2) ha) ((x1.trans x2).trans (Ex.new ha)) upd_same a1 b1 a2 b2⟩
/-- range(some number) -/
theorem q_forRI {i : Nat} {m : Int} (h : EI te σ H (fun n => 0 ≤ n ∧ n < m)) (hm : m ≤ 100000) (Pv : Nat → St → Hp → Prop) (h0 : ∀ H1, Ex H H1 → Pv 0 σ H1) {tu : L2.TS}
    (hs : ∀ (k : Nat) σ' H', (k : Int) + 1 < m → Pv k σ' H' → tu { De with nx := Pv (k + 1), ct := Pv (k + 1), bk := ty De } (σ'.set i (some (.int k))) H') (hd : ∀ (n : Nat) σ' H', (n : Int) < m → Pv n σ' H' → ty De σ' H') : tSeq (tFor (iRng1 (tCons te tNil)) (gName i) tu) ty De σ H :=
  h H (Ex.refl _) _ fun n H1 x c => by
    obtain ⟨k, rfl⟩ : ∃ k : Nat, n = (k : Int) := ⟨n.toNat, (Int.toNat_of_nonneg c.1).symm⟩
    have := q_forRg (σ := σ) (H := H1) (ta := tCons (tC (.int (k : Int))) tNil) (i := i) (n := k) (De := De) (tu := tu) (ty := ty) (da_cons dv_int da_nil) (by omega) Pv (fun H2 y => h0 H2 (x.trans y)) (fun j σ' H' hj p => hs j σ' H' (by omega) p) (fun σ' H' p => hd k σ' H' (by omega) p)
    exact this
end
section
variable {P : Program} {w : World} {K : PySem.W.Frag} {mg : Str → Option Value} {base : Heap}
/-- the script -/
def ScrAt (K : PySem.W.Frag) (H : Hp) (sa : Addr) : Prop := ∃ ns : List Int, SqL K H sa (ns.map V.int) ∧ ns.length ≤ 63
theorem ScrAt.ex {H H' : Hp} {sa : Addr} (x : Ex H H') (h : ScrAt K H sa) : ScrAt K H' sa := by
  obtain ⟨ns, a, b⟩ := h
  exact ⟨ns, Evl.ex_l x a, b⟩
theorem ei_nm {σ : L2.St} {H : Hp} {ta tb : TE} {E : XK} {sa : Addr} {idx : Nat} (h : Ev ta σ H (.ref sa)) (hs : ScrAt K H sa) (hi : DV tb σ H (.num (idx : Int))) (h3 : idx ≤ 1000) : EI (tFn (sp_law_number K) E (tCons ta (tCons tb tNil))) σ H (fun _ => True) := by
  obtain ⟨ns, a, b⟩ := hs
  exact ei_num h a b hi h3
abbrev sp_law_letters (K : PySem.W.Frag) : Sp := fun vs H Q _ => ∃ (sa : Addr) (at_ : Nat), vs = [.ref sa, .int (at_ : Int)] ∧ ScrAt K H sa ∧ at_ ≤ 100 ∧ ∀ L H', LetOk L → Ex H H' → Q (.str (tS L)) H'
theorem sc_law_letters : FnScope ["script", "at"] ["script", "at"] (defScope s_law_letters) := ⟨rfl, rfl, rfl, by decide +kernel, rfl, by decide +kernel, by decide +kernel⟩
theorem ok_law_letters (T : Txt K mg) : FnR P w K mg base CX0 2 (a_law_letters K) (sp_law_letters K) := by
  refine okR T.F_law_letters sc_law_letters (fun _ _ _ _ _ _ us hl => match us, hl with | [_, _], _ => rfl) ?_ fun cdv A outer s H vs Q E hr q => ?_
  · rintro vs H Q E ⟨_, _, rfl, _⟩
    rfl
  obtain ⟨sa, at_, rfl, hs, hz, q⟩ := q
  refine ⟨_, (pss_one (ps_ret (pe_ix (show IxR _ (rIxT K) from ix_tup) (pe_tup (pa_cons pe_str (pa_cons pe_str (pa_cons pe_str (pa_cons pe_str (pa_cons pe_str (pa_cons pe_str (pa_cons pe_str (pa_cons pe_str pa_nil))))))))) (pe_op op_mod (pe_callTy call_int1 (by rfl) T.n_int (by decide +kernel) (pa_cons (pe_fn (ok_law_number T) (hr.mono (by decide)) (by rfl) T.g_law_number (kp_of T.F_law_number) pass0 (pa_cons (pv 0) (pa_cons (pv 1) pa_nil))) pa_nil)) pe_int) (fun _ _ => rfl)))), ?_⟩
  refine dv_ixI (P := fun _ => True) (ds := [[97, 98], [98, 97], [97, 98, 99], [95, 97, 98], [65, 97], [99, 97, 98, 95], [97, 98], [90, 122, 95]].map tx) (dv_tup (da_cons dv_strX (da_cons dv_strX (da_cons dv_strX (da_cons dv_strX (da_cons dv_strX (da_cons dv_strX (da_cons dv_strX (da_cons dv_strX da_nil))))))))) (ei_mod (ei_int (ei_nm ev_vr hs (dv_var im_num) (by omega))) dv_int (by decide)) H (Ex.refl _) _ fun d v H1 hd x im => ?_
  obtain ⟨L, hL, rfl⟩ := List.mem_map.mp hd
  obtain rfl := im.text
  exact q L H1 ((show ∀ L ∈ [[97, 98], [98, 97], [97, 98, 99], [95, 97, 98], [65, 97], [99, 97, 98, 95], [97, 98], [90, 122, 95]], L ∈ lets from by decide) L hL) x
abbrev sp_law_value (K : PySem.W.Frag) : Sp := fun vs H Q _ => ∃ (sa : Addr) (at_ : Nat) (L : Tx) (v : V), vs = [.ref sa, .int (at_ : Int), v, .int 4] ∧ Im H (tx L) v ∧ LetOk L ∧ ScrAt K H sa ∧ at_ ≤ 100 ∧ ∀ p H', p.length ≤ 4 → (∀ c ∈ p, c ∈ L) → Ex H H' → Q (.str (tS p)) H'
theorem sc_law_value : FnScope ["script", "at", "letters", "most", "seed", "found", "spot"] ["script", "at", "letters", "most"] (defScope s_law_value) := ⟨rfl, rfl, rfl, by decide +kernel, rfl, by decide +kernel, by decide +kernel⟩
theorem ok_law_value (T : Txt K mg) : FnR P w K mg base CX0 2 (a_law_value K) (sp_law_value K) := by
  refine okR T.F_law_value sc_law_value (fun _ _ _ _ _ _ us hl => match us, hl with | [_, _, _, _], _ => rfl) ?_ fun cdv A outer s H vs Q E hr q => ?_
  · rintro vs H Q E ⟨_, _, _, _, rfl, _⟩
    rfl
  obtain ⟨sa, at_, L, v, rfl, iv, hL, hs, hz, q⟩ := q
  have F := LetOk.facts L hL
  refine ⟨_, (pss_cons (ps_par (i := 4) (j := 5) rfl sc_law_value.nd rfl rfl (by decide) rfl rfl (pa_cons (pe_callTy call_int1 (by rfl) T.n_int (by decide +kernel) (pa_cons (pe_fn (ok_law_number T) (hr.mono (by decide)) (by rfl) T.g_law_number (kp_of T.F_law_number) pass0 (pa_cons (pv 0) (pa_cons (pv 1) pa_nil))) pa_nil)) (pa_cons pe_str pa_nil)) rfl) (pss_cons (ps_for PassesOwn.never rfl (pi_range1 (by rfl) T.n_range (pa_cons (pe_op op_mod (pe_callTy call_int1 (by rfl) T.n_int (by decide +kernel) (pa_cons (pv 4) pa_nil)) (pe_op op_add (pv 3) pe_int)) pa_nil)) (pg_name (i := 6) sc_law_value.nd rfl (by first | exact .inl rfl | exact .inr rfl)) (pss_one (ps_set (i := 5) sc_law_value.nd rfl (by first | exact .inl rfl | exact .inr rfl) (pe_op op_add_str (pv 5) (pe_ix ix_str (pv 2) (pe_op op_mod (pe_callTy call_int1 (by rfl) T.n_int (by decide +kernel) (pa_cons (pe_op op_fdiv (pv 4) (pe_op op_add pe_int (pe_op op_mul pe_int (pv 6)))) pa_nil)) (pe_callB (id := "len") call_len_str (by rfl) T.n_len (by decide +kernel) (pa_cons (pv 2) pa_nil))) (fun _ _ => rfl)))))) (pss_one (ps_ret (pv 5))))), ?_⟩
  refine q_parIS (ei_int (ei_nm ev_vr hs (dv_var im_num) (by omega))) (dv_strX (l := [])) fun seed H1 x1 _ => ?_
  refine q_forRI (m := 5) (ei_mod (ei_int (ei_of (C := fun _ => True) (dv_var im_num) True.intro)) (dv_is (d := .num ((4 : Int) + 1)) (dv_opI (dv_var im_num) dv_int) rfl) (by decide)) (by decide) (fun n σ' H' => Ex H H' ∧ ∃ (p : Tx) (s6 : Option V), σ' = [some (.ref sa), some (.int (at_ : Int)), some v, some (.int 4), some (.int seed), some (.str (tS p)), s6] ∧ p.length ≤ n ∧ ∀ c ∈ p, c ∈ L) (fun H2 x2 => ⟨x1.trans x2, [], _, rfl, Nat.le_refl _, fun c h => nomatch h⟩) ?_ ?_
  · rintro k σ' H2 hk ⟨x2, p, s6, rfl, hp, hpc⟩
    refine s_of (q_addSI (Evl.ev_var rfl) (dv_ixSI (dv_var (iv.ex x2)) (ei_mod (ei_int (ei_of (C := fun _ => True) (dv_opIc (dv_var im_num) (dv_opI dv_int (dv_opIc dv_int (dv_var im_num) (.inl ⟨by decide, by decide⟩))) ⟨by omega, by omega⟩) True.intro)) (dv_lenS (dv_var (iv.ex x2)) (by omega)) (by omega)) (by omega)) (by omega) fun c H4 hc x4 => ?_)
    refine ⟨x2.trans x4, p ++ [c], _, rfl, by simp; omega, fun c' h => ?_⟩
    rcases List.mem_append.mp h with z | z
    · exact hpc c' z
    · rw [List.mem_singleton.mp z]; exact hc
  · rintro n σ' H2 hn ⟨x2, p, s6, rfl, hp, hpc⟩
    exact s_re (dv_var im_text) fun v H3 x3 im => by rw [im.text]; exact q p H3 (by omega) hpc (x2.trans x3)
abbrev sp_law_condition (K : PySem.W.Frag) : Sp := fun vs H Q _ => ∃ (sa : Addr) (at_ : Nat) (L : Tx) (v : V), vs = [.ref sa, .int (at_ : Int), v] ∧ Im H (tx L) v ∧ LetOk L ∧ ScrAt K H sa ∧ at_ ≤ 80 ∧ ∀ c u H', CondOk L c → Ex H H' → Im H' c.d u → Q u H'
theorem sc_law_condition : FnScope ["script", "at", "letters", "seed", "word", "signs", "text", "spot", "texts"] ["script", "at", "letters"] (defScope s_law_condition) := ⟨rfl, rfl, rfl, by decide +kernel, rfl, by decide +kernel, by decide +kernel⟩
theorem ok_law_condition (T : Txt K mg) : FnR P w K mg base CX0 3 (a_law_condition K) (sp_law_condition K) := by
  refine okR T.F_law_condition sc_law_condition (fun _ _ _ _ _ _ us hl => match us, hl with | [_, _, _], _ => rfl) ?_ fun cdv A outer s H vs Q E hr q => ?_
  · rintro vs H Q E ⟨_, _, _, _, rfl, _⟩
    rfl
  obtain ⟨sa, at_, L, v, rfl, iv, hL, hs, hz, q⟩ := q
  have F := LetOk.facts L hL
  refine ⟨_, (pss_cons (ps_set (i := 3) sc_law_condition.nd rfl (by first | exact .inl rfl | exact .inr rfl) (pe_callTy call_int1 (by rfl) T.n_int (by decide +kernel) (pa_cons (pe_fn (ok_law_number T) (hr.mono (by decide)) (by rfl) T.g_law_number (kp_of T.F_law_number) pass0 (pa_cons (pv 0) (pa_cons (pv 1) pa_nil))) pa_nil))) (pss_cons (ps_set (i := 4) sc_law_condition.nd rfl (by first | exact .inl rfl | exact .inr rfl) (pe_ix (show IxR _ (rIxT K) from ix_tup) (pe_tup (pa_cons pe_str (pa_cons pe_str (pa_cons pe_str (pa_cons pe_str (pa_cons pe_str pa_nil)))))) (pe_op op_mod (pe_callTy call_int1 (by rfl) T.n_int (by decide +kernel) (pa_cons (pv 3) pa_nil)) pe_int) (fun _ _ => rfl))) (pss_cons (ps_if (pt_cmpR op_eq (pv 4) pe_str (by rfl)) (pss_cons (ps_par (i := 5) (j := 6) rfl sc_law_condition.nd rfl rfl (by decide) rfl rfl (pa_cons (pe_op op_add_str (pv 2) pe_str) (pa_cons pe_str pa_nil)) rfl) (pss_cons (ps_for PassesOwn.never rfl (pi_range1 (by rfl) T.n_range (pa_cons (pe_op op_mod (pe_callTy call_int1 (by rfl) T.n_int (by decide +kernel) (pa_cons (pe_op op_fdiv (pv 3) pe_int) pa_nil)) pe_int) pa_nil)) (pg_name (i := 7) sc_law_condition.nd rfl (by first | exact .inl rfl | exact .inr rfl)) (pss_one (ps_set (i := 6) sc_law_condition.nd rfl (by first | exact .inl rfl | exact .inr rfl) (pe_op op_add_str (pv 6) (pe_ix ix_str (pv 5) (pe_op op_mod (pe_callTy call_int1 (by rfl) T.n_int (by decide +kernel) (pa_cons (pe_op op_fdiv (pv 3) (pe_op op_add pe_int (pe_op op_mul pe_int (pv 7)))) pa_nil)) (pe_callB (id := "len") call_len_str (by rfl) T.n_len (by decide +kernel) (pa_cons (pv 5) pa_nil))) (fun _ _ => rfl)))))) (pss_one (ps_ret (pe_tup (pa_cons (pv 4) (pa_cons (pv 6) pa_nil))))))) pss_nil) (pss_cons (ps_set (i := 8) sc_law_condition.nd rfl (by first | exact .inl rfl | exact .inr rfl) (pe_lst (pa_cons (pe_fn (ok_law_value T) (hr.mono (by decide)) (by rfl) T.g_law_value (kp_of T.F_law_value) pass0 (pa_cons (pv 0) (pa_cons (pe_op op_add (pv 1) pe_int) (pa_cons (pv 2) (pa_cons pe_int pa_nil))))) (pa_cons (pe_fn (ok_law_value T) (hr.mono (by decide)) (by rfl) T.g_law_value (kp_of T.F_law_value) pass0 (pa_cons (pv 0) (pa_cons (pe_op op_add (pv 1) pe_int) (pa_cons (pv 2) (pa_cons pe_int pa_nil))))) pa_nil)))) (pss_one (ps_ret (pe_ifExp (pt_cmpR op_eq (pv 4) pe_str (by rfl)) (pe_tup (pa_cons (pv 4) (pa_cons (pe_ix (show IxR _ (rIxL K) from ix_list) (pv 8) pe_int (fun _ _ => rfl)) (pa_cons (pe_ix (show IxR _ (rIxL K) from ix_list) (pv 8) pe_int (fun _ _ => rfl)) pa_nil)))) (pe_tup (pa_cons (pv 4) (pa_cons (pe_ix (show IxR _ (rIxL K) from ix_list) (pv 8) pe_int (fun _ _ => rfl)) pa_nil)))))))))), ?_⟩
  refine q_asI (ei_int (ei_nm ev_vr hs (dv_var im_num) (by omega))) fun seed H1 x1 _ => ?_
  refine q_asX (dv_ixI (P := fun _ => True) (ds := [.text "equal", .text "begins", .text "between", .text "like", .text "like"]) (dv_tup (da_cons dv_str (da_cons dv_str (da_cons dv_str (da_cons dv_str (da_cons dv_str da_nil)))))) (ei_mod (ei_int (ei_of (C := fun _ => True) (dv_var im_num) True.intro)) dv_int (by decide))) fun d w2 H2 hd x2 k2 => ?_
  have x12 := x1.trans x2
  have other : ∀ (G : Hp), Ex H G → ∀ (wd : Str), w2 = .str wd → (wd = "equal" ∨ wd = "begins" ∨ wd = "between") → tSeq (tAsg (tLst (tCons (tFn (sp_law_value K) E0 (tCons (tVar 0) (tCons (tOp (rI0 fun i j => V.int (i + j)) (tVar 1) (tC (.int 1))) (tCons (tVar 2) (tCons (tC (.int 4)) tNil))))) (tCons (tFn (sp_law_value K) E0 (tCons (tVar 0) (tCons (tOp (rI0 fun i j => V.int (i + j)) (tVar 1) (tC (.int 2))) (tCons (tVar 2) (tCons (tC (.int 4)) tNil))))) tNil))) (gName 8))
      (tRet (tIf (tTest (tOp rEq (tVar 4) (tC (.str "between")))) (tTup (tCons (tVar 4) (tCons (tOp (rIxL K) (tVar 8) (tC (.int 0))) (tCons (tOp (rIxL K) (tVar 8) (tC (.int 1))) tNil)))) (tTup (tCons (tVar 4) (tCons (tOp (rIxL K) (tVar 8) (tC (.int 0))) tNil))))) { nx := fun x H' => Q V.non H', rt := Q } [some (.ref sa), some (.int (at_ : Int)), some v, some (.int seed), some w2, none, none, none, none] G := by
    rintro G xG wd rfl hwd
    have val : ∀ {j : Int} (n : Nat), (at_ : Int) + j = (n : Int) → n ≤ 100 → EVt (tFn (sp_law_value K) E0 (tCons (tVar 0) (tCons (tOp (rI0 fun i j => V.int (i + j)) (tVar 1) (tC (.int j))) (tCons (tVar 2) (tCons (tC (.int 4)) tNil))))) [some (.ref sa), some (.int (at_ : Int)), some v, some (.int seed), some (.str wd), none, none, none, none] G L := by
      intro j n hn hn2 H3 x3 Q' q'
      have ea : EvA (tCons (tVar 0) (tCons (tOp (rI0 fun i j => V.int (i + j)) (tVar 1) (tC (.int j))) (tCons (tVar 2) (tCons (tC (.int 4)) tNil)))) [some (.ref sa), some (.int (at_ : Int)), some v, some (.int seed), some (.str wd), none, none, none, none] H3 [.ref sa, .int (n : Int), v, .int 4] :=
        ea_cons (Evl.ev_var rfl) (ea_cons (DV.evI (dv_is (dv_opI (dv_var im_num) dv_int) (by rw [hn]))) (ea_cons (Evl.ev_var rfl) (ea_cons Evl.ev_c ea_nil)))
      exact ea H3 (Ex.refl _) _ fun H4 x4 => ⟨sa, n, L, v, rfl, iv.ex (xG.trans (x3.trans x4)), hL, hs.ex (xG.trans (x3.trans x4)), hn2, fun p H5 a b x5 => q' p H5 a b (x4.trans x5)⟩
    refine q_list2 (val (at_ + 1) (by omega) (by omega)) (val (at_ + 2) (by omega) (by omega)) fun ta p1 p2 H3 hta x3 hA a1 b1 a2 b2 => ?_
    have il : ImL H3 [tx p1, tx p2] [.str (tS p1), .str (tS p2)] := iml_cons im_text (iml_cons im_text iml_nil)
    rcases hwd with rfl | rfl | rfl
    · exact s_re (dv_if (b := false) (dt_t (db_is (db_eqT (x := "equal") (y := "between") (dv_var im_text) dv_str) rfl)) (fun z => nomatch z) fun _ => dv_tup (da_cons (dv_var im_text) (da_cons (dv_ixL (n := 0) ev_vr hA il dv_int rfl) da_nil))) fun u H4 x4 im => q (.eq p1) u H4 ⟨a1, b1⟩ (xG.trans (x3.trans x4)) im
    · exact s_re (dv_if (b := false) (dt_t (db_is (db_eqT (x := "begins") (y := "between") (dv_var im_text) dv_str) rfl)) (fun z => nomatch z) fun _ => dv_tup (da_cons (dv_var im_text) (da_cons (dv_ixL (n := 0) ev_vr hA il dv_int rfl) da_nil))) fun u H4 x4 im => q (.be p1) u H4 ⟨a1, b1⟩ (xG.trans (x3.trans x4)) im
    · exact s_re (dv_if (b := true) (dt_t (db_is (db_eqT (x := "between") (y := "between") (dv_var im_text) dv_str) rfl)) (fun _ => dv_tup (da_cons (dv_var im_text) (da_cons (dv_ixL (n := 0) ev_vr hA il dv_int rfl) (da_cons (dv_ixL (n := 1) ev_vr hA il dv_int rfl) da_nil)))) fun z => nomatch z) fun u H4 x4 im => q (.btw p1 p2) u H4 ⟨⟨a1, b1⟩, a2, b2⟩ (xG.trans (x3.trans x4)) im
  have like : ∀ (De : Ends) (G : Hp), De.rt = Q → Ex H G → tSeq (tPar 5 6 (tCons (tOp rAddS2 (tVar 2) (tC (.str "?*"))) (tCons (tC (.str "")) tNil)))
      (tSeq (tFor (iRng1 (tCons (tOp (rI (fun _ j => 0 < j) fun i j => V.int (i % j)) (tCB rInt (tCons (tOp (rI CDiv fun i j => V.int (i / j)) (tVar 3) (tC (.int 5))) tNil)) (tC (.int 5))) tNil)) (gName 7) (tAsg (tOp rAddS2 (tVar 6) (tOp rIxS (tVar 5) (tOp (rI (fun _ j => 0 < j) fun i j => V.int (i % j)) (tCB rInt (tCons (tOp (rI CDiv fun i j => V.int (i / j)) (tVar 3) (tOp (rI0 fun i j => V.int (i + j)) (tC (.int 30)) (tOp (rI CMul fun i j => V.int (i * j)) (tC (.int 7)) (tVar 7)))) tNil)) (tCB rLenZ (tCons (tVar 5) tNil))))) (gName 6)))
        (tRet (tTup (tCons (tVar 4) (tCons (tVar 6) tNil))))) De [some (.ref sa), some (.int (at_ : Int)), some v, some (.int seed), some (.str "like"), none, none, none, none] G := by
    intro De G eD xG
    have l6 : (L ++ [qm, sr]).length = L.length + 2 := by simp
    refine q_par2 (d := tx (L ++ [qm, sr])) (e := tx []) (da_cons (dv_addS (dv_var (iv.ex xG)) (dv_strX (l := [qm, sr])) (by show L.length + 2 ≤ 100000; omega)) (da_cons (dv_strX (l := [])) da_nil)) fun y1 y2 H3 x3 l1 l2 => ?_
    obtain rfl := l1.text
    obtain rfl := l2.text
    refine q_forRI (m := 5) (ei_mod (ei_int (ei_of (C := fun _ => True) (dv_opIc (dv_var im_num) dv_int ⟨by decide, by decide⟩) True.intro)) dv_int (by decide)) (by decide) (fun n σ' H' => Ex H H' ∧ ∃ (p : Tx) (s7 : Option V), σ' = [some (.ref sa), some (.int (at_ : Int)), some v, some (.int seed), some (.str "like"), some (.str (tS (L ++ [qm, sr]))), some (.str (tS p)), s7, none] ∧ p.length ≤ n ∧ ∀ c ∈ p, c ∈ L ++ [qm, sr]) (fun H4 x4 => ⟨xG.trans (x3.trans x4), [], _, rfl, Nat.le_refl _, fun c h => nomatch h⟩) ?_ ?_
    · rintro k σ' H4 hk ⟨x4, p, s7, rfl, hp, hpc⟩
      refine s_of (q_addSI (Evl.ev_var rfl) (dv_ixSI (l := L ++ [qm, sr]) (dv_var im_text) (ei_mod (ei_int (ei_of (C := fun _ => True) (dv_opIc (dv_var im_num) (dv_opI dv_int (dv_opIc dv_int (dv_var im_num) (.inl ⟨by decide, by decide⟩))) ⟨by omega, by omega⟩) True.intro)) (dv_lenS (dv_var im_text) (by omega)) (by omega)) (by omega)) (by omega) fun c H5 hc x5 => ?_)
      refine ⟨x4.trans x5, p ++ [c], _, rfl, by simp; omega, fun c' h => ?_⟩
      rcases List.mem_append.mp h with z | z
      · exact hpc c' z
      · rw [List.mem_singleton.mp z]; exact hc
    · rintro n σ' H4 hn ⟨x4, p, s7, rfl, hp, hpc⟩
      exact s_re (dv_tup (da_cons (dv_var im_text) (da_cons (dv_var im_text) da_nil))) fun u H5 x5 im => by rw [eD]; exact q (.lk p) u H5 ⟨by omega, hpc⟩ (x4.trans x5) im
  obtain ⟨wd, ew, hwd⟩ : ∃ wd : Str, w2 = .str wd ∧ (wd = "equal" ∨ wd = "begins" ∨ wd = "between" ∨ wd = "like") := by
    simp only [List.mem_cons, List.not_mem_nil, or_false] at hd
    rcases hd with rfl | rfl | rfl | rfl | rfl
    · exact ⟨_, k2.text, .inl rfl⟩
    · exact ⟨_, k2.text, .inr (.inl rfl)⟩
    · exact ⟨_, k2.text, .inr (.inr (.inl rfl))⟩
    · exact ⟨_, k2.text, .inr (.inr (.inr rfl))⟩
    · exact ⟨_, k2.text, .inr (.inr (.inr rfl))⟩
  subst ew
  rcases hwd with rfl | rfl | rfl | rfl
  · exact q_un (dt_t (db_is (db_eqT (x := "equal") (y := "like") (dv_var im_text) dv_str) rfl)) fun H3 x3 => other H3 (x12.trans x3) _ rfl (.inl rfl)
  · exact q_un (dt_t (db_is (db_eqT (x := "begins") (y := "like") (dv_var im_text) dv_str) rfl)) fun H3 x3 => other H3 (x12.trans x3) _ rfl (.inr (.inl rfl))
  · exact q_un (dt_t (db_is (db_eqT (x := "between") (y := "like") (dv_var im_text) dv_str) rfl)) fun H3 x3 => other H3 (x12.trans x3) _ rfl (.inr (.inr rfl))
  · exact q_if2 (b := true) (dt_t (db_is (db_eqT (x := "like") (y := "like") (dv_var im_text) dv_str) rfl)) (fun _ H3 x3 => like _ H3 rfl (x12.trans x3)) fun z => nomatch z
end
end Fk

set_option Elab.async false
set_option linter.all false
set_option maxRecDepth 100000
set_option maxHeartbeats 4000000
/-! the law's rows -/
namespace Fk
open PySem PySem.Spec PyProof.Rows L2 He
open Evl (Ex Ev EvT EvL EvA ev_andV ev_orV ev_notV et_and et_or et_not)
section
variable {K : PySem.W.Frag} {σ : L2.St} {H : Hp} {ta tb te : TE} {ds : List D} {a : Addr} {us : List V} {De : Ends} {ty : L2.TS} {i : Nat}
theorem q_asS {l : Tx} (h : ∀ H1, Ex H H1 → ∀ Q : VK, (∀ c H2, c ∈ l → Ex H1 H2 → Q (.str ⟨#[c]⟩) H2) → te σ H1 Q) (k : ∀ c H1, c ∈ l → Ex H H1 → ty De (σ.set i (some (.str (tS [c])))) H1) : tSeq (tAsg te (gName i)) ty De σ H := h H (Ex.refl _) _ k
theorem dv_tupV (h : Ev te σ H (.ref a)) (ha : H a = some (.lst us)) (il : ImL H ds us) : DV (tCB (rTupOf K) (tCons te tNil)) σ H (.tup ds) := fun H1 x Q q =>
  h H1 x _ fun H2 y => ⟨a, us, rfl, .inl ⟨SqL.of (y _ _ (x _ _ ha)), fun l hl => q _ _ (y.trans (Ex.new hl)) (im_tup upd_same ((il.ex (x.trans y)).ts (TS.new hl)))⟩⟩
end
/-- if ..: out = .. -/
theorem q_ifOut {σ : L2.St} {H : Hp} {tt : TT} {te : TE} {b : Bool} {i : Nat} {x p : Tx} {De : Ends} {ty : L2.TS} (h : EvT tt σ H b) (h2 : DV te σ H (tx p)) (hs : σ.set i (some (.str (tS x))) = σ) (k : ∀ y H1, (y = p ∨ y = x) → Ex H H1 → ty De (σ.set i (some (.str (tS y)))) H1) : tSeq (tIfS tt (tAsg te (gName i)) tNext) ty De σ H :=
  q_if2 h (fun _ H1 x1 => s_of (q_as (h2.mono x1) fun v H2 x2 iv => by rw [iv.text]; exact k p H2 (.inl rfl) (x1.trans x2))) fun _ H1 x1 => by
    have := k x H1 (.inr rfl) x1
    rw [hs] at this
    exact this
theorem ot_some {c : Nat} : tx (ot (some c)) = tx [c] := rfl
section
variable {P : Program} {w : World} {K : PySem.W.Frag} {mg : Str → Option Value} {base : Heap}
def TurnOk (L : Tx) (m : Nat) (t : Nat × Option Nat) : Prop := t.1 < m ∧ OutOk L t.2
abbrev sp_law_rows (K : PySem.W.Frag) : Sp := fun vs H Q _ => ∃ (sa : Addr) (at_ : Nat) (L : Tx) (v : V), vs = [.ref sa, .int (at_ : Int), v, .int 3] ∧ Im H (tx L) v ∧ LetOk L ∧ ScrAt K H sa ∧ at_ ≤ 100 ∧ ∀ rows u H', MacOk ⟨L, rows⟩ → Ex H H' → Im H' (rowsD rows) u → Q u H'
theorem sc_law_rows : FnScope ["script", "at", "letters", "most", "many", "found", "thin", "state", "row", "spot", "letter", "seed", "out"] ["script", "at", "letters", "most"] (defScope s_law_rows) := ⟨rfl, rfl, rfl, by decide +kernel, rfl, by decide +kernel, by decide +kernel⟩
theorem ok_law_rows (T : Txt K mg) : FnR P w K mg base CX0 2 (a_law_rows K) (sp_law_rows K) := by
  refine okR T.F_law_rows sc_law_rows (fun _ _ _ _ _ _ us hl => match us, hl with | [_, _, _, _], _ => rfl) ?_ fun cdv A outer s H vs Q E hr q => ?_
  · rintro vs H Q E ⟨_, _, _, _, rfl, _⟩
    rfl
  obtain ⟨sa, at_, L, v, rfl, iv, hL, hs, hz, q⟩ := q
  obtain rfl := iv.text
  have F := LetOk.facts L hL
  refine ⟨_, (pss_cons (ps_par (i := 4) (j := 5) rfl sc_law_rows.nd rfl rfl (by decide) rfl rfl (pa_cons (pe_op op_add pe_int (pe_op op_mod (pe_callTy call_int1 (by rfl) T.n_int (by decide +kernel) (pa_cons (pe_fn (ok_law_number T) (hr.mono (by decide)) (by rfl) T.g_law_number (kp_of T.F_law_number) pass0 (pa_cons (pv 0) (pa_cons (pv 1) pa_nil))) pa_nil)) (pv 3))) (pa_cons (pe_lst pa_nil) pa_nil)) rfl) (pss_cons (ps_set (i := 6) sc_law_rows.nd rfl (by first | exact .inl rfl | exact .inr rfl) (pe_op op_add pe_int (pe_op op_mod (pe_callTy call_int1 (by rfl) T.n_int (by decide +kernel) (pa_cons (pe_fn (ok_law_number T) (hr.mono (by decide)) (by rfl) T.g_law_number (kp_of T.F_law_number) pass0 (pa_cons (pv 0) (pa_cons (pe_op op_add (pv 1) pe_int) pa_nil))) pa_nil)) pe_int))) (pss_cons (ps_for PassesOwn.never rfl (pi_range1 (by rfl) T.n_range (pa_cons (pv 4) pa_nil)) (pg_name (i := 7) sc_law_rows.nd rfl (by first | exact .inl rfl | exact .inr rfl)) (pss_cons (ps_set (i := 8) sc_law_rows.nd rfl (by first | exact .inl rfl | exact .inr rfl) (pe_lst pa_nil)) (pss_cons (ps_for PassesOwn.never rfl (pi_enumS (by rfl) T.n_enumerate (pa_cons (pv 2) pa_nil)) (show PG _ _ (gTup K 2 _) from pg_tup rfl (pgs_cons (pg_name (i := 9) sc_law_rows.nd rfl (by first | exact .inl rfl | exact .inr rfl)) (pgs_cons (pg_name (i := 10) sc_law_rows.nd rfl (by first | exact .inl rfl | exact .inr rfl)) pgs_nil))) (pss_cons (ps_set (i := 11) sc_law_rows.nd rfl (by first | exact .inl rfl | exact .inr rfl) (pe_callTy call_int1 (by rfl) T.n_int (by decide +kernel) (pa_cons (pe_fn (ok_law_number T) (hr.mono (by decide)) (by rfl) T.g_law_number (kp_of T.F_law_number) pass0 (pa_cons (pv 0) (pa_cons (pe_op op_add (pe_op op_add (pe_op op_add (pv 1) pe_int) (pe_op op_mul pe_int (pv 7))) (pv 9)) pa_nil))) pa_nil))) (pss_cons (ps_set (i := 12) sc_law_rows.nd rfl (by first | exact .inl rfl | exact .inr rfl) (pe_ix ix_str (pv 2) (pe_op op_mod (pe_callTy call_int1 (by rfl) T.n_int (by decide +kernel) (pa_cons (pe_op op_fdiv (pv 11) pe_int) pa_nil)) (pe_callB (id := "len") call_len_str (by rfl) T.n_len (by decide +kernel) (pa_cons (pv 2) pa_nil))) (fun _ _ => rfl))) (pss_cons (ps_if (pt_cmpR op_eq (pe_op op_mod (pe_callTy call_int1 (by rfl) T.n_int (by decide +kernel) (pa_cons (pv 11) pa_nil)) (pv 6)) pe_int (by rfl)) (pss_one (ps_set (i := 12) sc_law_rows.nd rfl (by first | exact .inl rfl | exact .inr rfl) pe_str)) pss_nil) (pss_cons (ps_set (i := 12) sc_law_rows.nd rfl (by first | exact .inl rfl | exact .inr rfl) (pe_ifExp (pt_cmpR op_eq (pe_op op_mod (pe_callTy call_int1 (by rfl) T.n_int (by decide +kernel) (pa_cons (pe_op op_fdiv (pv 11) pe_int) pa_nil)) pe_int) pe_int (by rfl)) (pv 10) (pv 12))) (pss_one (ps_expr (pe_bm PySem.F.plainAttrs_list PySem.F.slot_list_append PySem.F.type_list_append mt_append (pv 8) (pa_cons (pe_tup (pa_cons (pe_op op_mod (pe_callTy call_int1 (by rfl) T.n_int (by decide +kernel) (pa_cons (pe_op op_fdiv (pv 11) pe_int) pa_nil)) (pv 4)) (pa_cons (pv 12) pa_nil))) pa_nil))))))))) (pss_one (ps_expr (pe_bm PySem.F.plainAttrs_list PySem.F.slot_list_append PySem.F.type_list_append mt_append (pv 5) (pa_cons (pe_callTy call_tuple_of (by rfl) T.n_tuple (by decide +kernel) (pa_cons (pv 8) pa_nil)) pa_nil))))))) (pss_one (ps_ret (pe_callTy call_tuple_of (by rfl) T.n_tuple (by decide +kernel) (pa_cons (pv 5) pa_nil))))))), ?_⟩
  refine q_parIL (C := fun n => 1 ≤ n ∧ n ≤ 3) (ei_addL dv_int (ei_mod (ei_int (ei_nm ev_vr hs (dv_var im_num) (by omega))) (dv_var im_num) (by decide)) fun n c => ⟨by omega, by omega⟩) fun mi fa H1 hfa x1 hF hmi => ?_
  obtain ⟨m, rfl⟩ : ∃ m : Nat, mi = (m : Int) := ⟨mi.toNat, (Int.toNat_of_nonneg (by omega)).symm⟩
  refine q_asI (C := fun n => 2 ≤ n) (ei_addL dv_int (ei_mod (ei_int (ei_nm (idx := at_ + 1) ev_vr (hs.ex x1) (dv_inc (dv_var im_num)) (by omega))) dv_int (by decide)) fun n c => by omega) fun thin H2 x2 hthin => ?_
  have x12 := x1.trans x2
  show tSeq _ _ _ [some (.ref sa), some (.int (at_ : Int)), some (.str (tS L)), some (.int 3), some (.int (m : Int)), some (.ref fa), some (.int thin), none, none, none, none, none, none] _
  refine q_forRg (n := m) (da_cons (dv_var im_num) da_nil) (by omega) (fun n σ' H' => Ex H H' ∧ ∃ (Rs : List (List (Nat × Option Nat))) (us : List V) (s7 s8 s9 s10 s11 s12 : Option V), σ' = [some (.ref sa), some (.int (at_ : Int)), some (.str (tS L)), some (.int 3), some (.int (m : Int)), some (.ref fa), some (.int thin), s7, s8, s9, s10, s11, s12] ∧
    H' fa = some (.lst us) ∧ us.length ≤ n ∧ ImL H' (Rs.map rowD) us ∧ Rs.length = n ∧ ∀ r ∈ Rs, r.length = L.length ∧ ∀ t ∈ r, TurnOk L m t) ?_ ?_ ?_
  · intro H3 x3
    exact ⟨x12.trans x3, [], [], _, _, _, _, _, _, rfl, x3 _ _ (x2 _ _ hF), Nat.le_refl _, iml_nil, rfl, fun r h => nomatch h⟩
  · rintro st σ' H3 hst ⟨x3, Rs, us, s7, s8, s9, s10, s11, s12, rfl, hF3, nu, iu, lR, okR⟩
    refine q_asL dl_nil fun ra vs H4 hra x4 hR0 il0 => ?_
    obtain rfl := il0.nil
    show tSeq _ _ _ [some (.ref sa), some (.int (at_ : Int)), some (.str (tS L)), some (.int 3), some (.int (m : Int)), some (.ref fa), some (.int thin), some (.int (st : Int)), some (.ref ra), s9, s10, s11, s12] _
    refine q_forEs (z := L) (da_cons (dv_var im_text) da_nil) (fun n σ' H' => Ex H3 H' ∧ ∃ (r : List (Nat × Option Nat)) (ws : List V) (s9 s10 s11 s12 : Option V), σ' = [some (.ref sa), some (.int (at_ : Int)), some (.str (tS L)), some (.int 3), some (.int (m : Int)), some (.ref fa), some (.int thin), some (.int (st : Int)), some (.ref ra), s9, s10, s11, s12] ∧
      H' ra = some (.lst ws) ∧ ws.length ≤ n ∧ ImL H' (r.map turnD) ws ∧ r.length = n ∧ ∀ t ∈ r, TurnOk L m t) (fun H5 x5 => ⟨x4.trans x5, [], [], _, _, _, _, rfl, x5 _ _ hR0, Nat.le_refl _, iml_nil, rfl, fun t h => nomatch h⟩) ?_ ?_
    · rintro n c σ' H5 Tt hc ⟨x5, r, ws, s9, s10, s11, s12, rfl, hR5, nw, iw, lr, okr⟩ hT
      have hcL := List.mem_of_getElem? hc
      have hn4 : n < 4 := by
        have := (List.getElem?_eq_some_iff.mp hc).1
        omega
      have xT : Ex H5 (upd H5 Tt (.tup [.int n, .str ⟨#[c]⟩])) := Ex.new hT
      have y5 := x3.trans (x5.trans xT)
      refine q_asI (C := fun _ => True) (ei_int (ei_nm (idx := at_ + 2 + 5 * st + n) ev_vr (hs.ex y5) (dv_is (dv_opI (dv_opI (dv_opI (dv_var im_num) dv_int) (dv_opIc dv_int (dv_var im_num) (.inl ⟨by decide, by decide⟩))) (dv_var im_num)) (by push_cast; rfl)) (by omega))) fun seed H6 x6 _ => ?_
      refine q_asS (dv_ixSI (l := L) (dv_var im_text) (ei_mod (ei_int (ei_of (C := fun _ => True) (dv_opIc (dv_var im_num) dv_int ⟨by decide, by decide⟩) True.intro)) (dv_lenS (dv_var im_text) (by omega)) (by omega)) (by omega)) fun c1 H7 hc1 x7 => ?_
      show tSeq _ _ _ [some (.ref sa), some (.int (at_ : Int)), some (.str (tS L)), some (.int 3), some (.int (m : Int)), some (.ref fa), some (.int thin), some (.int (st : Int)), some (.ref ra), some (.int (n : Int)), some (.str (tS [c])), some (.int seed), some (.str (tS [c1]))] _
      refine q_ifOut (x := [c1]) (dt_t (db_eqI (dv_opIc (dv_intT (dv_var im_num)) (dv_var im_num) (by omega)) dv_int)) (dv_strX (l := [])) rfl fun y H8 hy x8 => ?_
      show tSeq _ _ _ [some (.ref sa), some (.int (at_ : Int)), some (.str (tS L)), some (.int 3), some (.int (m : Int)), some (.ref fa), some (.int thin), some (.int (st : Int)), some (.ref ra), some (.int (n : Int)), some (.str (tS [c])), some (.int seed), some (.str (tS y))] _
      refine q_as (d := tx (if decide ((seed / 81) % 3 = 0) = true then [c] else y)) (dv_if (dt_t (db_eqI (dv_opIc (dv_intT (dv_opIc (dv_var im_num) dv_int ⟨by decide, by decide⟩)) dv_int (by decide)) dv_int)) (fun e => by rw [if_pos e]; exact dv_var im_text) fun e => by rw [if_neg (by rw [e]; exact Bool.false_ne_true)]; exact dv_var im_text) fun v9 H9 x9 k9 => ?_
      obtain ⟨o, ho, ok⟩ : ∃ o : Option Nat, (if decide ((seed / 81) % 3 = 0) = true then [c] else y) = ot o ∧ OutOk L o := by
        split
        · exact ⟨some c, rfl, fun x h => by cases h; exact hcL⟩
        · rcases hy with rfl | rfl
          · exact ⟨none, rfl, fun x h => nomatch h⟩
          · exact ⟨some c1, rfl, fun x h => by cases h; exact hc1⟩
      rw [ho] at k9
      have y9 := xT.trans (x6.trans (x7.trans (x8.trans x9)))
      have m0 : (0 : Int) < (m : Int) := by omega
      have kn := Int.emod_nonneg (seed / 500) (show (m : Int) ≠ 0 by omega)
      have kl := Int.emod_lt_of_pos (seed / 500) m0
      refine s_of (q_appD (d := turnD (((seed / 500) % (m : Int)).toNat, o)) (y9 _ _ hR5) ev_vr (dv_tup (da_cons (dv_is (dv_opIc (dv_intT (dv_opIc (dv_var im_num) dv_int ⟨by decide, by decide⟩)) (dv_var im_num) m0) (by rw [Int.toNat_of_nonneg kn])) (da_cons (dv_var k9) da_nil))) (by omega) fun v10 H10 x10 k10 => ?_)
      have t10 : TS H10 (upd H10 ra (.lst (ws ++ [v10]))) := TS.mut (x10 _ _ (y9 _ _ hR5)) (fun _ z => nomatch z)
      refine ⟨Evl.Ex.mut (x5.trans (y9.trans x10)) hra, r ++ [(((seed / 500) % (m : Int)).toNat, o)], _, _, _, _, _, rfl, upd_same, by simp; omega, ?_, by simp; omega, fun t ht => ?_⟩
      · rw [List.map_append]
        exact ((iw.ex (y9.trans x10)).ts t10).snoc (k10.ts t10)
      · rcases List.mem_append.mp ht with z | z
        · exact okr t z
        · rw [List.mem_singleton.mp z]
          exact ⟨by show ((seed / 500) % (m : Int)).toNat < m; omega, ok⟩
    · rintro σ' H5 ⟨x5, r, ws, s9, s10, s11, s12, rfl, hR5, nw, iw, lr, okr⟩
      have hF5 := x5 _ _ hF3
      refine s_of (q_appD (d := rowD r) hF5 ev_vr (dv_tupV ev_vr hR5 iw) (by omega) fun v10 H10 x10 k10 => ?_)
      have t10 : TS H10 (upd H10 fa (.lst (us ++ [v10]))) := TS.mut (x10 _ _ hF5) (fun _ z => nomatch z)
      refine ⟨Evl.Ex.mut (x3.trans (x5.trans x10)) hfa, Rs ++ [r], _, _, _, _, _, _, _, rfl, upd_same, by simp; omega, ?_, by simp; omega, fun r' hr' => ?_⟩
      · rw [List.map_append]
        exact ((iu.ex (x5.trans x10)).ts t10).snoc (k10.ts t10)
      · rcases List.mem_append.mp hr' with z | z
        · exact okR r' z
        · rw [List.mem_singleton.mp z]
          exact ⟨lr, okr⟩
  · rintro σ' H3 ⟨x3, Rs, us, s7, s8, s9, s10, s11, s12, rfl, hF3, nu, iu, lR, okR⟩
    refine s_re (dv_tupV ev_vr hF3 iu) fun u H4 x4 im => q Rs u H4 ⟨hL, by show 1 ≤ Rs.length; omega, by show Rs.length ≤ 6; omega, fun r hr => ⟨(okR r hr).1, fun t ht => ⟨by show t.1 < Rs.length; rw [lR]; exact ((okR r hr).2 t ht).1, ((okR r hr).2 t ht).2⟩⟩⟩ (x3.trans x4) im
end
end Fk

set_option Elab.async false
set_option linter.all false
set_option maxRecDepth 100000
set_option maxHeartbeats 4000000
/-! what the law looks at -/
namespace Fk
open PySem PySem.Spec PyProof.Rows L2 He
open Evl (Ex Ev EvT EvL EvA ev_andV ev_orV ev_notV et_and et_or et_not)
abbrev rDictN (P : Program) (w : World) (K : PySem.W.Frag) : List V → Hp → VK → Prop := fun ws H Q => ∃ (a : Addr) (ts : List Addr) (xs : List (D × Addr × V)), ws = [.ref a] ∧ SqL K H a (ts.map V.ref) ∧ PrN H ts xs ∧ NdKeys H xs ∧ (xs.map (·.1)).Nodup ∧ ∀ p, H p = none → Q (.ref p) (upd H p (NdO P w p xs))
/-- a new tuple of the pair and True -/
def PT2 (H : Hp) (p : Pair) (v : V) : Prop := ∃ t b, v = .ref t ∧ H t = some (.tup [.ref b, .bl true]) ∧ Im H (pairD p) (.ref b)
theorem pt2_mono : TsMono PT2 := fun H H' p v t ⟨a, b, e, h, i⟩ => ⟨a, b, e, t a _ h, i.ts t⟩
theorem pt2_all {P : Program} {w : World} {H : Hp} {ps : List Pair} {us : List V} (h : Paired (PT2 H) ps us) : ∃ (ts : List Addr) (xs : List (D × Addr × V)), us = ts.map V.ref ∧ PrN H ts xs ∧ NdKeys H xs ∧ xs.map (·.1) = ps.map pairD ∧ Paired (fun x (p : Pair) => x.1 = pairD p ∧ ImO H none x.2.2) xs ps := by
  induction h with
  | nil => exact ⟨[], [], rfl, .nil, NdKeys.nil, rfl, .nil⟩
  | @cons p v ps us h _ ih =>
    obtain ⟨t, b, rfl, ht, ib⟩ := h
    obtain ⟨ts, xs, rfl, p1, p2, p3, p4⟩ := ih
    refine ⟨t :: ts, (pairD p, b, .bl true) :: xs, rfl, .cons ht p1, fun e he => ?_, by rw [List.map_cons, List.map_cons, p3], .cons ⟨rfl, True.intro⟩ p4⟩
    rcases List.mem_cons.mp he with e | e
    · subst e; exact ⟨ib, Nat.le_trans (pair_shape p).2 (by decide)⟩
    · exact p2 _ e
section
variable {α β : Type} {M : Hp → α → V → Prop} {P : Program} {w : World} {K : PySem.W.Frag} {σ : L2.St} {H : Hp} {ta tb te tz : TE} {tt : TT} {d : D} {De : Ends} {ty : L2.TS} {Pl : Plan} {ps : List Pair}
/-- [.. for x in new list] over coded things -/
theorem lc_listN {enc : β → D} {items : List β} {vs : List Nat} {g : TG} (mono : TsMono M) (f : β → α) (h : DL tz σ H (items.map enc)) (hz : items.length ≤ 100000)
    (step : ∀ b v H1, b ∈ items → Ex H H1 → Im H1 (enc b) v → ∃ σ2, (∀ Q : St → Hp → Prop, Q σ2 H1 → g v (wipe σ vs) H1 Q) ∧ wipe σ2 vs = wipe σ vs ∧ EvM M te σ2 H1 (f b)) :
    ELM M (tLc (iList K tz) g tYes te vs) σ H (items.map f) := fun H0 e Q q => h H0 e _ fun a us H1 _ e1 ha hl => ⟨a, rfl, ⟨us, SqL.of ha⟩, fun Dl hD => by
  have len : us.length = items.length := by rw [hl.length, List.length_map]
  refine lc_gen walk_list mono items len.symm (by omega) (fun _ => true) f hD (fun H' e2 => SqL.of (e2 _ _ ha)) ?_ fun H' us e2 hus pr => q Dl us H' (Evl.fresh_back e1 hD) (e1.trans e2) hus (by rw [filter_tt] at pr; exact pr)
  rintro i b H' x H'' hb e2 ⟨rfl, hx⟩
  obtain ⟨v, hv, iv⟩ := hl.get (show (items.map enc)[i]? = some (enc b) by rw [List.getElem?_map, hb]; rfl)
  rw [hv] at hx
  cases hx
  obtain ⟨σ2, s1, s2, s3⟩ := step b x _ (List.mem_of_getElem? hb) ((e.trans e1).trans e2) (iv.ex e2)
  exact ⟨Ex.refl _, σ2, s1, s2, et_yes, fun _ => s3⟩⟩
/-- dict([(pair, True) ..]) -/
theorem dict_of (h : ELM PT2 te σ H ps) (nd : ps.Nodup) (ok : ∀ p ∈ ps, PairOk Pl p) (hz : ps.length ≤ 400) : ∀ Q : VK, (∀ v H1, (∃ p xs, v = .ref p ∧ H p = none ∧ Ex H H1 ∧ DP P w H1 p xs ps) → Q v H1) → tCB (rDictN P w K) (tCons te tNil) σ H Q := fun Q q =>
  h H (Ex.refl _) _ fun a us H1 ha x hA pr => by
    obtain ⟨ts, xs, rfl, p1, p2, p3, p4⟩ := pt2_all (P := P) (w := w) pr
    refine ⟨a, ts, xs, rfl, SqL.of hA, p1, p2, by rw [p3]; exact pd_nodup nd ok, fun p hp => q _ _ ⟨p, xs, rfl, Evl.fresh_back x hp, x.trans (Ex.new hp), ⟨⟨.inl upd_same, p2.ts (TS.new hp)⟩, Paired.mapP p4 fun a g h => ⟨h.1, True.intro⟩⟩⟩⟩
theorem q_un2G {i j : Nat} {P1 : V → Hp → Prop} (h : ∀ Q : VK, (∀ v H1, P1 v H1 → Q v H1) → ta σ H Q) (h2 : ∀ v H1, P1 v H1 → DV tb σ H1 d) (k : ∀ v u H1 H2, P1 v H1 → Ex H1 H2 → Im H2 d u → ty De ((σ.set i (some v)).set j (some u)) H2) :
    tSeq (tAsg (tTup (tCons ta (tCons tb tNil))) (gTup K 2 (gCons (gName i) (gCons (gName j) gNil)))) ty De σ H :=
  h _ fun v H1 p => h2 v H1 p H1 (Ex.refl _) _ fun u H2 x iu => ⟨by show 2 ≤ sizeLine; decide, fun t ht => tgt_tup upd_same rfl (tgt_cons (tgt_cons tgt_nil)) _ (k v u H1 _ p (x.trans (Ex.new ht)) (iu.ts (TS.new ht)))⟩
end
section
variable {P : Program} {w : World} {K : PySem.W.Frag} {mg : Str → Option Value} {base : Heap}
abbrev sp_law_are_mixed : Sp := spB fun ds b => ∃ Pl one other, ds = [planD Pl, tx one, tx other] ∧ PlanOk Pl ∧ Mixes Pl one other ∧ b = true
theorem sc_law_are_mixed : FnScope ["plan", "one", "other", "letters", "index", "rows", "condition"] ["plan", "one", "other"] (defScope s_law_are_mixed) := ⟨rfl, rfl, rfl, by decide +kernel, rfl, by decide +kernel, by decide +kernel⟩
theorem ok_law_are_mixed (T : Txt K mg) : FnR P w K mg base CX0 4 (a_law_are_mixed K) (sp_law_are_mixed) := by
  refine okR T.F_law_are_mixed sc_law_are_mixed (fun _ _ _ _ _ _ us hl => match us, hl with | [_, _, _], _ => rfl) ?_ fun cdv A outer s H vs Q E hr q => ?_
  · exact spB_len fun _ _ ⟨_, _, _, e, _⟩ => by rw [e]; rfl
  obtain ⟨ds, b, il, ⟨Pl, one, other, rfl, hP, sv, rfl⟩, q⟩ := q
  obtain ⟨v1, v2, v3, rfl, i1, i2, i3⟩ := il.three
  refine ⟨_, (pss_cons (ps_asg (pv 0) (show PG _ _ (gTup K 4 _) from pg_tup rfl (pgs_cons (pg_name (i := 3) sc_law_are_mixed.nd rfl (by first | exact .inl rfl | exact .inr rfl)) (pgs_cons (pg_name (i := 4) sc_law_are_mixed.nd rfl (by first | exact .inl rfl | exact .inr rfl)) (pgs_cons (pg_name (i := 5) sc_law_are_mixed.nd rfl (by first | exact .inl rfl | exact .inr rfl)) (pgs_cons (pg_name (i := 6) sc_law_are_mixed.nd rfl (by first | exact .inl rfl | exact .inr rfl)) pgs_nil)))))) (pss_cons (ps_if (pt_cmpR op_ne (pe_ix (show IxR _ (rIxT K) from ix_tup) (pe_fn (ok_law_ends T) (hr.mono (by decide)) (by rfl) T.g_law_ends (kp_of T.F_law_ends) pass0 (pa_cons (pv 3) (pa_cons (pv 4) (pa_cons (pv 1) pa_nil)))) pe_int (fun _ _ => rfl)) (pe_ix (show IxR _ (rIxT K) from ix_tup) (pe_fn (ok_law_ends T) (hr.mono (by decide)) (by rfl) T.g_law_ends (kp_of T.F_law_ends) pass0 (pa_cons (pv 3) (pa_cons (pv 4) (pa_cons (pv 2) pa_nil)))) pe_int (fun _ _ => rfl)) (by rfl)) (pss_one (ps_ret pe_bl)) pss_nil) (pss_one (ps_ret (pe_and (pe_fn (ok_law_is_met T) (hr.mono (by decide)) (by rfl) T.g_law_is_met (kp_of T.F_law_is_met) pass0 (pa_cons (pv 3) (pa_cons (pv 5) (pa_cons (pv 6) (pa_cons (pv 1) pa_nil))))) (pe_one (pe_not (pe_fn (ok_law_is_met T) (hr.mono (by decide)) (by rfl) T.g_law_is_met (kp_of T.F_law_is_met) pass0 (pa_cons (pv 3) (pa_cons (pv 5) (pa_cons (pv 6) (pa_cons (pv 2) pa_nil)))))))))))), ?_⟩
  have e1 : ∀ x ∈ one, x ∈ Pl.M.L := by rw [hP.same]; exact sv.l1
  have e2 : ∀ x ∈ other, x ∈ Pl.M.L := by rw [hP.same]; exact sv.l2
  have yes : metS Pl.c (readS Pl.M.L Pl.c (Pl.M.ends one).2) = true := by rw [hP.same]; exact sv.yes
  have no : metS Pl.c (readS Pl.M.L Pl.c (Pl.M.ends other).2) = false := by rw [hP.same]; exact sv.no
  refine q_un4 (dv_var (show Im H (.tup [tx Pl.I.L, rowsD Pl.I.rows, rowsD Pl.M.rows, Pl.c.d]) v1 from i1)) fun w1 w2 w3 w4 H1 x1 k1 k2 k3 k4 => ?_
  refine q_un (dt_t (db_is (db_neS (dv_ix (n := 1) (dv_fn (da_cons (dv_var k1) (da_cons (dv_var k2) (da_cons (dv_var (i2.ex x1)) da_nil))) ⟨Pl.I, one, rfl, hP.i, sv.z1, sv.l1, rfl⟩) dv_int rfl) (dv_ix (n := 1) (dv_fn (da_cons (dv_var k1) (da_cons (dv_var k2) (da_cons (dv_var (i3.ex x1)) da_nil))) ⟨Pl.I, other, rfl, hP.i, sv.z2, sv.l2, rfl⟩) dv_int rfl)) (by rw [sv.key]; simp))) fun H2 x2 => ?_
  have x12 := x1.trans x2
  exact s_reB (db_is (ev_andV (db_fn (da_cons (dv_var (k1.ex x2)) (da_cons (dv_var (k3.ex x2)) (da_cons (dv_var (k4.ex x2)) (da_cons (dv_var (i2.ex x12)) da_nil)))) ⟨Pl.M, Pl.c, one, by rw [hP.same], hP.m, by rw [hP.same]; exact hP.c, sv.z1, e1, rfl⟩) fun _ => ev_notV (db_fn (da_cons (dv_var (k1.ex x2)) (da_cons (dv_var (k3.ex x2)) (da_cons (dv_var (k4.ex x2)) (da_cons (dv_var (i3.ex x12)) da_nil)))) ⟨Pl.M, Pl.c, other, by rw [hP.same], hP.m, by rw [hP.same]; exact hP.c, sv.z2, e2, rfl⟩)) (by rw [yes, no]; rfl)) fun H3 x3 => q H3 (x12.trans x3)
abbrev sp_law_are_served : Sp := fun vs H Q _ => ∃ (Pl : Plan) (vp : V) (pa : Addr) (us : List V) (ps : List Pair), vs = [vp, .ref pa] ∧ Im H (planD Pl) vp ∧ PlanOk Pl ∧ H pa = some (.lst us) ∧ ImL H (ps.map pairD) us ∧ Serves Pl ps ∧ ∀ H', Ex H H' → Q (.bl true) H'
theorem sc_law_are_served : FnScope ["plan", "pairs", "known", "condition", "pair", "many", "late", "made"] ["plan", "pairs"] (defScope s_law_are_served) := ⟨rfl, rfl, rfl, by decide +kernel, rfl, by decide +kernel, by decide +kernel⟩
theorem ok_law_are_served (T : Txt K mg) : FnR P w K mg base CX0 5 (a_law_are_served K) (sp_law_are_served) := by
  refine okR T.F_law_are_served sc_law_are_served (fun _ _ _ _ _ _ us hl => match us, hl with | [_, _], _ => rfl) ?_ fun cdv A outer s H vs Q E hr q => ?_
  · rintro vs H Q E ⟨_, _, _, _, _, rfl, _⟩
    rfl
  obtain ⟨Pl, vp, pa, us, ps, rfl, ip, hP, hpa, il, sv, q⟩ := q
  have l4 := let_len hP.i.let_
  have ne : ps ≠ [] := fun z => by have := sv.first; rw [z] at this; exact nomatch this
  refine ⟨_, (pss_cons (ps_asg (pe_tup (pa_cons (pe_callTy (show CallR _ _ (rDictN P w K) from call_dictN rfl hr.units) (by rfl) T.n_dict (by decide +kernel) (pa_cons (pe_lc (own := [("pair", 4)]) rfl sc_law_are_served.nd (show PI _ _ _ (iList K _) from pi_list (pv 1)) (blkOk_by (own := [("pair", 4)]) (N := ["plan", "pairs", "known", "condition", "pair", "many", "late", "made"]) (sc := defScope s_law_are_served) (by decide +kernel)) (fun _ _ _ _ _ => (pg_name (i := 4) sc_law_are_served.nd rfl (by first | exact .inl rfl | exact .inr rfl))) (fun _ _ _ _ _ => pts_nil) (fun _ _ _ _ _ => (pe_tup (pa_cons (pv 4) (pa_cons pe_bl pa_nil))))) pa_nil)) (pa_cons (pe_ix (show IxR _ (rIxT K) from ix_tup) (pv 0) pe_int (fun _ _ => rfl)) pa_nil))) (show PG _ _ (gTup K 2 _) from pg_tup rfl (pgs_cons (pg_name (i := 2) sc_law_are_served.nd rfl (by first | exact .inl rfl | exact .inr rfl)) (pgs_cons (pg_name (i := 3) sc_law_are_served.nd rfl (by first | exact .inl rfl | exact .inr rfl)) pgs_nil)))) (pss_cons (ps_if (pt_cmpR (show OpR _ _ (rNotInN P w) from op_notInN hr.units) (pe_fn (ok_law_first_pair T) (hr.mono (by decide)) (by rfl) T.g_law_first_pair (kp_of T.F_law_first_pair) pass0 (pa_cons (pv 0) pa_nil)) (pv 2) (by rfl)) (pss_one (ps_ret pe_bl)) pss_nil) (pss_cons (ps_lock (ps_for PassesOwn.never rfl (show PI _ _ _ (iKeysN P w _) from pi_keysN (pv 2)) (pg_name (i := 4) sc_law_are_served.nd rfl (by first | exact .inl rfl | exact .inr rfl)) (pss_cons (ps_if (pt_cmpR op_ne (pe_fn (ok_law_met T) (hr.mono (by decide)) (by rfl) T.g_law_met (kp_of T.F_law_met) pass0 (pa_cons (pv 3) (pa_cons (pe_ix (show IxR _ (rIxT K) from ix_tup) (pe_ix (show IxR _ (rIxT K) from ix_tup) (pv 4) pe_int (fun _ _ => rfl)) pe_int (fun _ _ => rfl)) pa_nil))) (pe_fn (ok_law_met T) (hr.mono (by decide)) (by rfl) T.g_law_met (kp_of T.F_law_met) pass0 (pa_cons (pv 3) (pa_cons (pe_ix (show IxR _ (rIxT K) from ix_tup) (pe_ix (show IxR _ (rIxT K) from ix_tup) (pv 4) pe_int (fun _ _ => rfl)) pe_int (fun _ _ => rfl)) pa_nil))) (by rfl)) (pss_one (ps_ret pe_bl)) pss_nil) (pss_one (ps_if (pt_not (pt_val (pe_callB (id := "all") (show CallR _ _ (rAll K) from cr_all rfl) (by rfl) T.n_all (by decide +kernel) (pa_cons (pe_lc (own := [("many", 5), ("late", 6), ("made", 7)]) rfl sc_law_are_served.nd (show PI _ _ _ (iList K _) from pi_list (pe_fn (ok_law_moves T) (hr.mono (by decide)) (by rfl) T.g_law_moves (kp_of T.F_law_moves) pass0 (pa_cons (pv 0) (pa_cons (pv 4) pa_nil)))) (blkOk_by (own := [("many", 5), ("late", 6), ("made", 7)]) (N := ["plan", "pairs", "known", "condition", "pair", "many", "late", "made"]) (sc := defScope s_law_are_served) (by decide +kernel)) (fun _ _ _ _ _ => (show PG _ _ (gTup K 3 _) from pg_tup rfl (pgs_cons (pg_name (i := 5) sc_law_are_served.nd rfl (by first | exact .inl rfl | exact .inr rfl)) (pgs_cons (pg_name (i := 6) sc_law_are_served.nd rfl (by first | exact .inl rfl | exact .inr rfl)) (pgs_cons (pg_name (i := 7) sc_law_are_served.nd rfl (by first | exact .inl rfl | exact .inr rfl)) pgs_nil))))) (fun _ _ _ _ _ => pts_nil) (fun _ _ _ _ _ => (pe_cmpR (show OpR _ _ (rInN P w) from op_inN hr.units) (pv 6) (pv 2) (by rfl)))) pa_nil)))) (pss_one (ps_ret pe_bl)) pss_nil))))) (pss_one (ps_ret pe_bl))))), ?_⟩
  have ix3 : ∀ {st : St} {H1 : Hp}, Ex H H1 → st[0]? = some (some vp) → DV (tOp (rIxT K) (tVar 0) (tC (.int 3))) st H1 Pl.c.d := fun x e => dv_ix (n := 3) (ds := [tx Pl.I.L, rowsD Pl.I.rows, rowsD Pl.M.rows, Pl.c.d]) (dv_var (show Im _ (.tup [tx Pl.I.L, rowsD Pl.I.rows, rowsD Pl.M.rows, Pl.c.d]) vp from ip.ex x) e) dv_int rfl
  refine q_un2G (d := Pl.c.d) (dict_of (Pl := Pl) (P := P) (w := w) (by
    have := lc_listG (K := K) (g := gName 4) (vs := [4]) (tz := tVar 1) (tt := tYes) (te := tTup (tCons (tVar 4) (tCons (tC (.bl true)) tNil))) (σ := start ["plan", "pairs", "known", "condition", "pair", "many", "late", "made"] [vp, .ref pa]) (H := H) (enc := pairD) (items := ps) (M := PT2) pt2_mono (fun _ => true) (fun p => p) (Evl.ev_var rfl) hpa il (by have := sv.len; omega) fun p v H1 hp x1 im => by
      obtain ⟨b, vs2, rfl, _⟩ := id (show Im H1 (.tup [p.1.d, p.2.d]) v from im).tup
      exact step1 rfl et_yes fun _ => fun H2 x2 Q' q' => (Evl.eu_tup (Evl.ea_cons (Evl.ev_var rfl) (Evl.ea_cons Evl.ev_c Evl.ea_nil)) (Nat.le_of_ble_eq_true rfl)) H2 x2 _ fun t H3 ht x3 h3 => q' _ H3 x3 ⟨t, b, rfl, h3, im.ex (x2.trans x3)⟩
    rw [filter_tt, List.map_id'] at this
    exact this) sv.nd sv.ok sv.len) (fun v H1 ⟨p, xs, e, _, x1, _⟩ => ix3 x1 rfl) ?_
  rintro _ cv H1 H2 ⟨kn, xs, rfl, hkn, x1, dg⟩ x2 icv
  have x12 := x1.trans x2
  show tSeq _ _ _ [some vp, some (.ref pa), some (.ref kn), some cv, none, none, none, none] _
  have okF : PairOk Pl (Pl.first, Pl.first) := sv.ok _ sv.first
  refine q_un (dt_t (db_is (db_niN (ds := [Pl.first.d, Pl.first.d]) (dv_fn (da_cons (dv_var (ip.ex x12)) da_nil) ⟨Pl, rfl, hP, rfl⟩) ev_vr (dg.ex x2).nd (by have := (pair_shape (Pl.first, Pl.first)).2; show (pairD (Pl.first, Pl.first)).depth ≤ 8; omega)) ?_)) fun H3 x3 => ?_
  · have := (dg.ex x2).mem (p := (Pl.first, Pl.first)) (Pl := Pl) sv.ok okF
    refine congrArg not (this.trans (decide_eq_true ?_))
    rw [List.map_id']
    exact sv.first
  have x13 := x12.trans x3
  refine q_lockK (dg.ex (x2.trans x3)) ne (fun H' => Evl.ev_var rfl) (fun Hf n σ' H' => Ex Hf H' ∧ ∃ s4 s5 s6 s7 : Option V, σ' = [some vp, some (.ref pa), some (.ref kn), some cv, s4, s5, s6, s7]) (fun Hf lk H4 x4 => ⟨x4, _, _, _, _, rfl⟩) (fun Hf n σ' H' lk p => ⟨TS.ex p.1, fun o h => p.1 _ _ h⟩) ?_ ?_
  · rintro Hf n p v σ' H' lk hp ⟨xf, s4, s5, s6, s7, rfl⟩ im
    have hpP := List.mem_of_getElem? hp
    have okp := sv.ok p hpP
    have xHf : Ex H Hf := lk.back H x13 hkn
    have icf := ((icv.ex x3).ts lk.ts).ex xf
    obtain ⟨od, fg⟩ := lk.fg
    show tSeq _ _ _ [some vp, some (.ref pa), some (.ref kn), some cv, some v, s5, s6, s7] _
    refine q_un (dt_t (db_is (?_ : DB (tOp rNe _ _) _ _ (!decide (metS Pl.c p.1.st = metS Pl.c p.2.st))) (by rw [sv.same p hpP]; simp))) fun H5 x5 => ?_
    · have eb : ∀ {ta tb : TE} {st : St} {a b : Bool}, DB ta st H' a → DB tb st H' b → DB (tOp rNe ta tb) st H' (!decide (a = b)) := fun h h2 => Evl.ev_is (Evl.ev_op h h2 (Evl.rv_ne rfl)) (by
        rename_i a b
        have : decide (V.bl a = V.bl b) = decide (a = b) := by by_cases e : a = b <;> simp [e]
        rw [this])
      exact eb (db_fn (da_cons (dv_var icf) (da_cons (dv_ix (n := 2) (ds := [.num (p.1.s : Int), .num (p.1.p : Int), p.1.st.d]) (dv_ix (n := 0) (ds := [p.1.d, p.2.d]) (dv_var im) dv_int rfl) dv_int rfl) da_nil)) ⟨Pl.I.L, Pl.c, p.1.st, rfl, hP.c, okp.1.st, rfl⟩)
        (db_fn (da_cons (dv_var icf) (da_cons (dv_ix (n := 2) (ds := [.num (p.2.s : Int), .num (p.2.p : Int), p.2.st.d]) (dv_ix (n := 1) (ds := [p.1.d, p.2.d]) (dv_var im) dv_int rfl) dv_int rfl) da_nil)) ⟨Pl.I.L, Pl.c, p.2.st, rfl, hP.c, okp.2.st, rfl⟩)
    · have xf5 := xf.trans x5
      refine s_of (q_un (dt_is (et_not (dt_b (db_allT (lc_listN (f := fun _ => true) (enc := Mv.dL) (items := Pl.movesL p) isB_mono (dl_fn (da_cons (dv_var (ip.ex (xHf.trans xf5))) (da_cons (dv_var (im.ex x5)) da_nil)) ⟨Pl, p, rfl, hP, okp.1, okp.2, rfl⟩) (by have := movesL_len (p := p) l4; omega) fun mv v2 H6 hmv x6 im2 => ?_) (by simp)))) rfl) fun H6 x6 => ⟨xf5.trans x6, _, _, _, _, rfl⟩)
      obtain ⟨b, vs, rfl, hb, hvs⟩ := im2.tup
      obtain ⟨w1, w2, w3, rfl, k1, k2, k3⟩ := hvs.three
      have inn := sv.closed p hpP mv (mem_movesL.mp hmv)
      have sh := (pair_shape mv.q).2
      refine ⟨_, tgt_tup hb rfl (tgt_cons (tgt_cons (tgt_cons tgt_nil))), rfl, db_m (db_is (db_inF (ds := [mv.q.1.d, mv.q.2.d]) (dv_var k2) ev_vr (fg.ex (xf5.trans x6)) (by show (pairD mv.q).depth ≤ 8; omega)) ?_)⟩
      have := fg.mem (p := mv.q) (Pl := Pl) sv.ok (sv.ok _ inn)
      refine this.trans (decide_eq_true ?_)
      rw [List.map_id']
      exact inn
  · rintro Hf σ' H' lk ⟨xf, s4, s5, s6, s7, rfl⟩
    exact s_reB (Evl.ev_c) fun H5 x5 => q H5 (x13.trans ((lk.out H' xf).trans x5))
end
end Fk

set_option Elab.async false
set_option linter.all false
set_option maxRecDepth 100000
set_option maxHeartbeats 4000000
/-! the two searches agree -/
namespace Fk
open PySem PySem.Spec PyProof.Rows L2 He
open Evl (Ex Ev EvT EvL EvA ev_andV ev_orV ev_notV et_and et_or et_not)
def sizesOf (Pl : Plan) (G : List (Pair × Nat)) : List Nat := (G.filter fun g => metS Pl.c g.1.1.st != metS Pl.c g.1.2.st).map (·.2)
section
variable {Pl : Plan} {i j : Nat} {F : List Ent} {G : List (Pair × Nat)} {e : Ent}
theorem at_pair (R : ResP Pl i F) {p : Pair} (h : Fs Pl i p) : ∃ e ∈ F, e.1 = p := List.mem_map.mp ((R.fm p).mpr h)
theorem same_of (R : ResP Pl i F) (nb : NoBad Pl F) {p : Pair} (h : Fs Pl i p) : metS Pl.c p.1.st = metS Pl.c p.2.st := by
  obtain ⟨e1, h1, rfl⟩ := at_pair R h
  obtain ⟨e2, h2, e3⟩ := at_pair R ((lv_swap i).1 _ h)
  have b1 := nb e1 h1
  have b2 := nb e2 h2
  unfold badE at b1 b2
  rw [e3] at b2
  have b2 : (metS Pl.c e1.1.2.st && !metS Pl.c e1.1.1.st) = false := b2
  revert b1 b2
  cases metS Pl.c e1.1.1.st <;> cases metS Pl.c e1.1.2.st <;> simp
theorem sizes_nil (R : ResP Pl i F) (S : ResL Pl j G) (nb : NoBad Pl F) : sizesOf Pl G = [] := by
  have e := ends_one R.ends S.ends
  subst e
  unfold sizesOf
  rw [List.filter_eq_nil_iff.mpr, List.map_nil]
  intro g hg
  have := same_of R nb ((S.fm g.1).mp (List.mem_map.mpr ⟨g, hg, rfl⟩))
  simp [this]
theorem sizes_min (R : ResP Pl i F) (S : ResL Pl j G) (fb : FirstBad Pl F e) : Ent.size e ∈ sizesOf Pl G ∧ ∀ m ∈ sizesOf Pl G, Ent.size e ≤ m := by
  have ee := ends_one R.ends S.ends
  subst ee
  obtain ⟨n, hn, hb, hnb⟩ := fb
  have heF := List.mem_of_getElem? hn
  have fe : Fs Pl i e.1 := (R.fm e.1).mp (List.mem_map.mpr ⟨e, heF, rfl⟩)
  have hb' : metS Pl.c e.1.1.st = true ∧ metS Pl.c e.1.2.st = false := by
    unfold badE at hb
    revert hb
    cases metS Pl.c e.1.1.st <;> cases metS Pl.c e.1.2.st <;> simp
  constructor
  · obtain ⟨g, hg, eg⟩ := List.mem_map.mp ((S.fm e.1).mpr fe)
    have lg : g.2 = Ent.size e := level_one (eg ▸ S.fv g hg) (R.fv e heF).2
    refine List.mem_map.mpr ⟨g, List.mem_filter.mpr ⟨hg, ?_⟩, lg⟩
    rw [eg, hb'.1, hb'.2]
    rfl
  · intro m hm
    obtain ⟨g, hg, rfl⟩ := List.mem_map.mp hm
    rw [List.mem_filter] at hg
    have fg : Fs Pl i g.1 := (S.fm g.1).mp (List.mem_map.mpr ⟨g, hg.1, rfl⟩)
    have lg := S.fv g hg.1
    obtain ⟨e2, h2, b2, l2⟩ : ∃ e2 ∈ F, badE Pl e2 = true ∧ Ent.size e2 = g.2 := by
      have hd := hg.2
      cases m1 : metS Pl.c g.1.1.st with
      | true =>
        obtain ⟨e2, h2, q2⟩ := at_pair R fg
        refine ⟨e2, h2, ?_, level_one (q2 ▸ (R.fv e2 h2).2) lg⟩
        unfold badE
        rw [q2, m1]
        rw [m1] at hd
        revert hd
        cases metS Pl.c g.1.2.st <;> simp
      | false =>
        obtain ⟨e2, h2, q2⟩ := at_pair R ((lv_swap i).1 _ fg)
        refine ⟨e2, h2, ?_, level_one (q2 ▸ (R.fv e2 h2).2) (level_swap lg)⟩
        unfold badE
        rw [q2]
        show (metS Pl.c g.1.2.st && !metS Pl.c g.1.1.st) = true
        rw [m1]
        rw [m1] at hd
        revert hd
        cases metS Pl.c g.1.2.st <;> simp
    rw [← l2]
    obtain ⟨k, hk⟩ := List.getElem?_of_mem h2
    by_cases h : k < n
    · have : e2 ∈ F.take n := List.mem_of_getElem? (i := k) (by rw [List.getElem?_take, if_pos h]; exact hk)
      rw [hnb e2 this] at b2
      cases b2
    · by_cases hkn : k = n
      · subst hkn
        rw [hk] at hn
        cases hn
        exact Nat.le_refl _
      · have so := R.so
        rw [List.pairwise_iff_getElem] at so
        obtain ⟨a1, a2⟩ := List.getElem?_eq_some_iff.mp hn
        obtain ⟨c1, c2⟩ := List.getElem?_eq_some_iff.mp hk
        have := so n k a1 c1 (by omega)
        rw [a2, c2] at this
        exact this
theorem serves_of (hP : PlanOk Pl) (R : ResP Pl i F) (nb : NoBad Pl F) : Serves Pl (F.map fun e => e.1) where
  ok := fun p hp => (lv_ok hP i).1 p ((R.fm p).mp hp)
  nd := R.nd
  len := by rw [List.length_map]; exact R.fl
  first := (R.fm _).mpr (first_in R.ends)
  same := fun p hp => same_of R nb ((R.fm p).mp hp)
  closed := fun p hp m hm => (R.fm _).mpr (closed R.ends ((R.fm p).mp hp) ⟨m, hm, rfl, rfl⟩)
theorem mixes_of (R : ResP Pl i F) (fb : FirstBad Pl F e) : Mixes Pl e.2.1 e.2.2 := by
  obtain ⟨n, hn, hb, _⟩ := fb
  have heF := List.mem_of_getElem? hn
  have v := (R.fv e heF).1
  have sz : Ent.size e ≤ 1204 := R.sz e heF
  unfold Ent.size at sz
  have hb' : metS Pl.c e.1.1.st = true ∧ metS Pl.c e.1.2.st = false := by
    unfold badE at hb
    revert hb
    cases metS Pl.c e.1.1.st <;> cases metS Pl.c e.1.2.st <;> simp
  rw [v.at_] at hb'
  exact ⟨v.l1, v.l2, by omega, by omega, v.key, hb'.1, hb'.2⟩
end
end Fk

set_option Elab.async false
set_option linter.all false
set_option maxRecDepth 100000
set_option maxHeartbeats 8000000
/-! the law -/
namespace Fk
open PySem PySem.Spec PyProof.Rows L2 He
open Evl (Ex Ev EvT EvL EvA ev_andV ev_orV ev_notV et_and et_or et_not)
section
variable {K : PySem.W.Frag} {σ : L2.St} {H : Hp} {ta tb tc te : TE} {tt : TT} {De : Ends} {tu ty : L2.TS} {i j : Nat} {L : Tx} {C : Addr} {s1 s2 : List (Option V)}
/-- some rows | some condition -/
def EVr (te : TE) (σ : L2.St) (H : Hp) (L : Tx) : Prop := ∀ H1, Ex H H1 → ∀ Q : VK, (∀ rows v H2, MacOk ⟨L, rows⟩ → Ex H1 H2 → Im H2 (rowsD rows) v → Q v H2) → te σ H1 Q
def EVc (te : TE) (σ : L2.St) (H : Hp) (L : Tx) : Prop := ∀ H1, Ex H H1 → ∀ Q : VK, (∀ c v H2, CondOk L c → Ex H1 H2 → Im H2 (Cond.d c) v → Q v H2) → te σ H1 Q
theorem q_plan3 {lv : V} (h : Ev ta σ H lv) (h2 : EVr tb σ H L) (h3 : EVr tc σ H L) (k : ∀ pl r1 r2 v1 v2 H1, Ex H H1 → H1 pl = some (.tup [lv, v1, v2]) → MacOk ⟨L, r1⟩ → MacOk ⟨L, r2⟩ → Im H1 (rowsD r1) v1 → Im H1 (rowsD r2) v2 → ty De (σ.set i (some (.ref pl))) H1) :
    tSeq (tAsg (tTup (tCons ta (tCons tb (tCons tc tNil)))) (gName i)) ty De σ H :=
  h H (Ex.refl _) _ fun H1 x1 => h2 H1 x1 _ fun r1 v1 H2 m1 x2 i1 => h3 H2 (x1.trans x2) _ fun r2 v2 H3 m2 x3 i2 => ⟨by show 3 ≤ sizeLine; decide, fun p hp =>
    k p r1 r2 v1 v2 _ ((x1.trans (x2.trans x3)).trans (Ex.new hp)) upd_same m1 m2 ((i1.ex x3).ts (TS.new hp)) (i2.ts (TS.new hp))⟩
theorem q_plan4 {pl : Addr} {xs : List V} (h : Ev ta σ H (.ref pl)) (hp : H pl = some (.tup xs)) (ne : xs ≠ []) (l : xs.length ≤ 100) (h2 : EVc tb σ H L) (k : ∀ p2 c cv H1, Ex H H1 → H1 p2 = some (.tup (xs ++ [cv])) → CondOk L c → Im H1 (Cond.d c) cv → ty De (σ.set i (some (.ref p2))) H1) :
    tSeq (tAsg (tOp (rCatT K) ta (tTup (tCons tb tNil))) (gName i)) ty De σ H :=
  h H (Ex.refl _) _ fun H1 x1 => h2 H1 x1 _ fun c cv H2 hc x2 ic => ⟨by show 1 ≤ sizeLine; decide, fun p hp1 => by
    have x3 := (x1.trans x2).trans (Ex.new (o := .tup [cv]) hp1)
    refine ⟨pl, p, xs, [cv], rfl, rfl, SqT.of (x3 _ _ hp), SqT.of upd_same, ne, Evl.sz_of (by simp; omega), (fun z => nomatch z), fun _ q hq => ?_⟩
    exact k q c cv _ (x3.trans (Ex.new hq)) upd_same hc ((ic.ex (Ex.new hp1)).ts (TS.new hq))⟩
theorem q_ifPlan {M : V → Hp → Prop} {v0 : V} (h : ∀ Q : Bool → Hp → Prop, (∀ b H1, Ex H H1 → Q b H1) → tt σ H Q) (m : ∀ v H1 H2, Ex H1 H2 → M v H1 → M v H2) (h0 : M v0 H) (hs : σ.set i (some v0) = σ) (h1 : ∀ H1, Ex H H1 → ∀ Q : VK, (∀ v H2, M v H2 → Ex H1 H2 → Q v H2) → te σ H1 Q)
    (k : ∀ v H1, M v H1 → Ex H H1 → ty De (σ.set i (some v)) H1) : tSeq (tIfS tt (tAsg te (gName i)) tNext) ty De σ H :=
  h _ fun b H1 x1 => by
    cases b with
    | true => exact h1 H1 x1 _ fun v H2 mv x2 => k v H2 mv (x1.trans x2)
    | false =>
      have := k v0 H1 (m _ _ _ x1 h0) x1
      rw [hs] at this
      exact this
theorem q_parOO {C2 : Addr} (h : OV ta σ H C s1) (h2 : OV tb σ H C2 s2) (k : ∀ a b da db H1, H a = none → H b = none → Ex H H1 → SlX.Slt H1 a C da s1 → SlX.Slt H1 b C2 db s2 → ty De ((σ.set i (some (.ref a))).set j (some (.ref b))) H1) : tSeq (tPar i j (tCons ta (tCons tb tNil))) ty De σ H :=
  h H (Ex.refl _) _ fun a da H1 ha x1 sa => h2 H1 x1 _ fun b db H2 hb x2 sb => ⟨_, _, rfl, k a b da db H2 ha (Evl.fresh_back x1 hb) (x1.trans x2) (slt_ex x2 sa) sb⟩
/-- try: x = f(..) except c: .. -/
theorem q_fnT {K : PySem.W.Frag} {sp : Sp} {tr : TA} {vs : List V} {c : Value} {ts : Addr → Value → Option Addr → L2.TS} {Wout : WX} (h : EvA tr σ H vs)
    (k : ∀ H1, Ex H H1 → sp vs H1 (fun v H2 => ty De (σ.set i (some v)) H2) (fun cls d H2 => ∃ b, PySem.W.exmOne K cls c = some b ∧ (b = true → ∀ a, H2 a = none → ts a cls d { De with nx := ty De } σ H2) ∧ (b = false → Wout cls d σ H2))) :
    tSeq (fun D σ H => (tAsg (tFnS sp (fun σ => WE (wOnly K c ts Wout D) σ) tr) (gName i)) D σ H) ty De σ H := h H (Ex.refl _) _ k
theorem db_isRef {a : Addr} (h : Ev ta σ H (.ref a)) : DB (tOp (fun x y H Q => y = .non ∧ Q (.bl (decide (x = .non))) H) ta (tC .non)) σ H false := fun H1 x Q q => h H1 x _ fun H2 y => ⟨rfl, q H2 y⟩
theorem db_neF {d : D} (h : DV ta σ H d) (h2 : DV tb σ H d) (f : isFlat d = true) (s : scal (flatD d) (flatD d) = true) : DB (tOp rNe ta tb) σ H false := fun H1 x Q q =>
  h H1 x _ fun v H2 y iv => h2 H2 (x.trans y) _ fun u H3 z iu => by
    have e1 := im_flat iv f
    have e2 := im_flat iu f
    subst e1 e2
    have := q H3 (y.trans z)
    refine ⟨s, ?_⟩
    show Q (.bl (!decide (flatD d = flatD d))) H3
    rw [decide_eq_true rfl]
    exact this
theorem db_neB {a b : Bool} (h : DB ta σ H a) (h2 : DB tb σ H b) : DB (tOp rNe ta tb) σ H (!decide (a = b)) := Evl.ev_is (Evl.ev_op h h2 (Evl.rv_ne rfl)) (by
  have : decide (V.bl a = V.bl b) = decide (a = b) := by by_cases e : a = b <;> simp [e]
  rw [this])
theorem db_altL {b : Bool} (h : DB ta σ H b) : DB (tAlt ta tb) σ H b := fun H1 x Q q => .inl (h H1 x Q q)
theorem db_altR {b : Bool} (h : DB tb σ H b) : DB (tAlt ta tb) σ H b := fun H1 x Q q => .inr (h H1 x Q q)
theorem db_isiSl {a C2 dx : Addr} {vs : List (Option V)} {b : Bool} (h : Ev ta σ H (.ref a)) (s : SlX.Slt H a C dx vs) (c : SlX.SCls K C) (y : SlX.SIsi K C) (k : PySem.W.kitOne K (.ref C) (.ref C2) = some b) : DB (tCB (SlX.rIsiSl K (.ref C2)) (tCons ta (tCons (tC (.ref C2)) tNil))) σ H b := fun H1 x Q q =>
  h H1 x _ fun H2 y2 => ⟨a, C, dx, vs, .ref C2, b, rfl, rfl, fun _ e => e, slt_ex (x.trans y2) s, c, y, k, q H2 y2⟩
/-- min(sizes) -/
theorem dv_min {a : Addr} {ns : List Int} {m : Int} (h : Ev te σ H (.ref a)) (ha : H a = some (.lst (ns.map V.int))) (h1 : m ∈ ns) (h2 : ∀ y ∈ ns, m ≤ y) : DV (tCB (rMin K) (tCons te tNil)) σ H (.num m) := fun H1 x Q q =>
  h H1 x _ fun H2 y => ⟨a, ns, rfl, SqL.of (y _ _ (x _ _ ha)), List.length_pos_of_mem h1, fun k hk hall => by
    have : k = m := Int.le_antisymm (hall m h1) (h2 k hk)
    rw [this]
    exact q _ H2 y im_num⟩
theorem ev_ixT {p : Addr} {xs : List V} {v : V} {n : Nat} (h : Ev ta σ H (.ref p)) (hp : H p = some (.tup xs)) (g : xs[n]? = some v) : Ev (tOp (rIxT K) ta (tC (.int (n : Int)))) σ H v := Evl.ev_op h Evl.ev_c (Evl.rv_ixT (SqT.of hp) (atI_nat g))
/-- the plan's tuple -/
def PlanAt (H : Hp) (L : Tx) (v : V) : Prop := ∃ pl Pl a b cv, v = .ref pl ∧ H pl = some (.tup [.str (tS L), a, b, cv]) ∧ PlanOk Pl ∧ Pl.I.L = L ∧ Im H (rowsD Pl.I.rows) a ∧ Im H (rowsD Pl.M.rows) b ∧ Im H Pl.c.d cv
theorem PlanAt.ex {H H' : Hp} {v : V} (x : Ex H H') (h : PlanAt H L v) : PlanAt H' L v := by
  obtain ⟨pl, Pl, a, b, cv, e, hp, ok, el, i1, i2, i3⟩ := h
  exact ⟨pl, Pl, a, b, cv, e, x _ _ hp, ok, el, i1.ex x, i2.ex x, i3.ex x⟩
end
/-- what was found: pairs that serve, or two mixed values -/
def FO (K : PySem.W.Frag) (Pl : Plan) (H : Hp) (fo : Addr) : Prop := (∃ F n, ResP Pl n F ∧ NoBad Pl F ∧ ServedAt K H fo (F.map fun e => e.1)) ∨ ∃ F n e, ResP Pl n F ∧ FirstBad Pl F e ∧ MixedAt K H fo e.2.1 e.2.2
theorem FO.ex {K : PySem.W.Frag} {Pl : Plan} {H H' : Hp} {fo : Addr} (x : Ex H H') (h : FO K Pl H fo) : FO K Pl H' fo := h.imp (fun ⟨F, n, a, b, c⟩ => ⟨F, n, a, b, c.ex x⟩) fun ⟨F, n, e, a, b, c⟩ => ⟨F, n, e, a, b, c.ex x⟩
theorem q_serve {P : Program} {w : World} {K : PySem.W.Frag} {σ : L2.St} {H : Hp} {tr : TA} {c : Value} {ts : Addr → Value → Option Addr → L2.TS} {Wout : WX} {De : Ends} {ty : L2.TS} {i : Nat} {Pl : Plan} {v1 v2 v3 : V} (h : EvA tr σ H [v1, v2, v3]) (ar : ArgsAt K H Pl v1 v2 v3)
    (k : ∀ fo H1, Ex H H1 → FO K Pl H1 fo → ty De (σ.set i (some (.ref fo))) H1) (ke : ∀ n H1, Ex H H1 → BigsAt Pl n → ∃ b, PySem.W.exmOne K (.ref (ga K "TooLarge")) c = some b ∧ (b = true → ∀ a, H1 a = none → ts a (.ref (ga K "TooLarge")) none { De with nx := ty De } σ H1) ∧ (b = false → Wout (.ref (ga K "TooLarge")) none σ H1)) :
    tSeq (fun D σ H => (tAsg (tFnS (sp_serve P w K) (fun σ => WE (wOnly K c ts Wout D) σ) tr) (gName i)) D σ H) ty De σ H :=
  q_fnT h fun H1 x1 => ⟨Pl, _, _, _, rfl, ar.ex x1, fun H2 fo F n x2 R nb sv => k fo H2 (x1.trans x2) (.inl ⟨F, n, R, nb, sv⟩), fun H2 fo F n e x2 R fb mx => k fo H2 (x1.trans x2) (.inr ⟨F, n, e, R, fb, mx⟩), fun n H2 x2 b => ke n H2 (x1.trans x2) b⟩
section
variable {P : Program} {w : World} {K : PySem.W.Frag} {mg : Str → Option Value} {base : Heap}
theorem sizes_snoc {Pl : Plan} {G : List (Pair × Nat)} {n : Nat} {g : Pair × Nat} (h : G[n]? = some g) : sizesOf Pl (G.take (n + 1)) = sizesOf Pl (G.take n) ++ (if (metS Pl.c g.1.1.st != metS Pl.c g.1.2.st) = true then [g.2] else []) := by
  unfold sizesOf
  rw [take_snoc h, List.filter_append, List.map_append]
  congr 1
  rw [List.filter_cons]
  split <;> rfl
abbrev sp_law (K : PySem.W.Frag) : Sp := fun vs H Q _ => ∃ sa : Addr, vs = [.ref sa] ∧ ScrAt K H sa ∧ ∀ H', Q (.bl true) H'
theorem sc_law : FnScope ["script", "letters", "plan", "index", "machine", "pairs", "found", "sizes", "pair", "size", "least"] ["script"] (defScope s_law) := ⟨rfl, rfl, rfl, by decide +kernel, rfl, by decide +kernel, by decide +kernel⟩
theorem law_ok (T : Txt K mg) {fd : FuncData} (F : Fun K "law" "law" s_law (a_law K) fd) : FnOk P w K mg base CX0 10 (a_law K) fd ["script"] (sp_law K) := by
  refine F.ok sc_law ?_ fun cdv A outer s H vs Q E hr q => ?_
  · rintro vs H Q E ⟨_, rfl, _⟩
    rfl
  obtain ⟨sa, rfl, hs, q⟩ := q
  refine ⟨_, (pss_cons (ps_set (i := 1) sc_law.nd rfl (by first | exact .inl rfl | exact .inr rfl) (pe_fn (ok_law_letters T) (hr.mono (by decide)) (by rfl) T.g_law_letters (kp_of T.F_law_letters) pass0 (pa_cons (pv 0) (pa_cons pe_int pa_nil)))) (pss_cons (ps_set (i := 2) sc_law.nd rfl (by first | exact .inl rfl | exact .inr rfl) (pe_tup (pa_cons (pv 1) (pa_cons (pe_fn (ok_law_rows T) (hr.mono (by decide)) (by rfl) T.g_law_rows (kp_of T.F_law_rows) pass0 (pa_cons (pv 0) (pa_cons pe_int (pa_cons (pv 1) (pa_cons pe_int pa_nil))))) (pa_cons (pe_fn (ok_law_rows T) (hr.mono (by decide)) (by rfl) T.g_law_rows (kp_of T.F_law_rows) pass0 (pa_cons (pv 0) (pa_cons pe_int (pa_cons (pv 1) (pa_cons pe_int pa_nil))))) pa_nil))))) (pss_cons (ps_set (i := 2) sc_law.nd rfl (by first | exact .inl rfl | exact .inr rfl) (pe_op op_catT (pv 2) (pe_tup (pa_cons (pe_fn (ok_law_condition T) (hr.mono (by decide)) (by rfl) T.g_law_condition (kp_of T.F_law_condition) pass0 (pa_cons (pv 0) (pa_cons pe_int (pa_cons (pv 1) pa_nil)))) pa_nil)))) (pss_cons (ps_if (pt_cmpR op_eq (pe_op op_mod (pe_callTy call_int1 (by rfl) T.n_int (by decide +kernel) (pa_cons (pe_fn (ok_law_number T) (hr.mono (by decide)) (by rfl) T.g_law_number (kp_of T.F_law_number) pass0 (pa_cons (pv 0) (pa_cons pe_int pa_nil))) pa_nil)) pe_int) pe_int (by rfl)) (pss_one (ps_set (i := 2) sc_law.nd rfl (by first | exact .inl rfl | exact .inr rfl) (pe_tup (pa_cons (pv 1) (pa_cons (pe_ix (show IxR _ (rIxT K) from ix_tup) (pv 2) pe_int (fun _ _ => rfl)) (pa_cons (pe_ix (show IxR _ (rIxT K) from ix_tup) (pv 2) pe_int (fun _ _ => rfl)) (pa_cons (pe_ix (show IxR _ (rIxT K) from ix_tup) (pv 2) pe_int (fun _ _ => rfl)) pa_nil))))))) pss_nil) (pss_cons (ps_par (i := 3) (j := 4) rfl sc_law.nd rfl rfl (by decide) rfl rfl (pa_cons (StX.pe_makeR T.k_Machine (ok_Machine_init T) (hr.mono (by decide)) (by rfl) T.g_Machine pass0 (pa_cons (pv 1) (pa_cons (pe_ix (show IxR _ (rIxT K) from ix_tup) (pv 2) pe_int (fun _ _ => rfl)) pa_nil))) (pa_cons (StX.pe_makeR T.k_Machine (ok_Machine_init T) (hr.mono (by decide)) (by rfl) T.g_Machine pass0 (pa_cons (pv 1) (pa_cons (pe_ix (show IxR _ (rIxT K) from ix_tup) (pv 2) pe_int (fun _ _ => rfl)) pa_nil))) pa_nil)) rfl) (pss_cons (ps_set (i := 5) sc_law.nd rfl (by first | exact .inl rfl | exact .inr rfl) (pe_fn (ok_law_pairs T) (hr.mono (by decide)) (by rfl) T.g_law_pairs (kp_of T.F_law_pairs) pass0 (pa_cons (pv 2) (pa_cons pe_int pa_nil)))) (pss_cons (ps_try_only rfl rfl ⟨rfl, by decide, .inl T.g_TooLarge⟩ takes0 (fun W pn xe tk _ => (pss_one (ps_set (i := 6) sc_law.nd rfl (by first | exact .inl rfl | exact .inr rfl) (pe_fnS (ok_serve T) (hr.mono (by decide)) (by rfl) T.g_serve (kp_of T.F_serve) (fun σ => passAt tk σ) (pa_cons (pv 3) (pa_cons (pv 4) (pa_cons (pe_ix (show IxR _ (rIxT K) from ix_tup) (pv 2) pe_int (fun _ _ => rfl)) pa_nil))))))) (fun a oe cls d pn _ _ => (pss_one (ps_ret (pe_cmpR op_isN (pv 5) pe_non (by rfl)))))) (pss_cons (ps_if (pt_cmpR op_isN (pv 5) pe_non (by rfl)) (pss_one (ps_ret pe_bl)) pss_nil) (pss_cons (ps_set (i := 7) sc_law.nd rfl (by first | exact .inl rfl | exact .inr rfl) (pe_lst pa_nil)) (pss_cons (ps_lock (ps_for PassesOwn.never rfl (show PI _ _ _ (iItemsN P w _) from pi_itemsN (pv 5)) (show PG _ _ (gTup K 2 _) from pg_tup rfl (pgs_cons (pg_name (i := 8) sc_law.nd rfl (by first | exact .inl rfl | exact .inr rfl)) (pgs_cons (pg_name (i := 9) sc_law.nd rfl (by first | exact .inl rfl | exact .inr rfl)) pgs_nil))) (pss_one (ps_if (pt_cmpR op_ne (pe_fn (ok_law_met T) (hr.mono (by decide)) (by rfl) T.g_law_met (kp_of T.F_law_met) pass0 (pa_cons (pe_ix (show IxR _ (rIxT K) from ix_tup) (pv 2) pe_int (fun _ _ => rfl)) (pa_cons (pe_ix (show IxR _ (rIxT K) from ix_tup) (pe_ix (show IxR _ (rIxT K) from ix_tup) (pv 8) pe_int (fun _ _ => rfl)) pe_int (fun _ _ => rfl)) pa_nil))) (pe_fn (ok_law_met T) (hr.mono (by decide)) (by rfl) T.g_law_met (kp_of T.F_law_met) pass0 (pa_cons (pe_ix (show IxR _ (rIxT K) from ix_tup) (pv 2) pe_int (fun _ _ => rfl)) (pa_cons (pe_ix (show IxR _ (rIxT K) from ix_tup) (pe_ix (show IxR _ (rIxT K) from ix_tup) (pv 8) pe_int (fun _ _ => rfl)) pe_int (fun _ _ => rfl)) pa_nil))) (by rfl)) (pss_one (ps_expr (pe_bm PySem.F.plainAttrs_list PySem.F.slot_list_append PySem.F.type_list_append mt_append (pv 7) (pa_cons (pv 9) pa_nil)))) pss_nil)))) (pss_cons (ps_set (i := 10) sc_law.nd rfl (by first | exact .inl rfl | exact .inr rfl) (pe_ifExp (pt_cmpR (op_neD hr.units) (pv 7) (pe_lst pa_nil) (by rfl)) (pe_callB (id := "min") (cr_min rfl) (by rfl) T.n_min (by decide +kernel) (pa_cons (pv 7) pa_nil)) pe_non)) (pss_cons (ps_if (PW.pt (pw_or (pt_cmpR op_ne (pe_fn (ok_least_mixed T) (hr.mono (by decide)) (by rfl) T.g_least_mixed (kp_of T.F_least_mixed) passL (pa_cons (pv 3) (pa_cons (pv 4) (pa_cons (pe_ix (show IxR _ (rIxT K) from ix_tup) (pv 2) pe_int (fun _ _ => rfl)) pa_nil)))) (pv 10) (by rfl)) (pw_or1 (pt_cmpR op_ne (pe_fn (ok_can_serve T) (hr.mono (by decide)) (by rfl) T.g_can_serve (kp_of T.F_can_serve) passL (pa_cons (pv 3) (pa_cons (pv 4) (pa_cons (pe_ix (show IxR _ (rIxT K) from ix_tup) (pv 2) pe_int (fun _ _ => rfl)) pa_nil)))) (pe_cmpR op_isN (pv 10) pe_non (by rfl)) (by rfl))))) (pss_one (ps_ret pe_bl)) pss_nil) (pss_cons (ps_if (pt_not (pt_val (pe_alt (SlX.pe_methSl (pv 6) T.c_Served T.m_Served_shows (ok_Served_shows T) (hr.mono (by decide)) pass0 (pa_cons (pv 3) (pa_cons (pv 4) (pa_cons (pe_ix (show IxR _ (rIxT K) from ix_tup) (pv 2) pe_int (fun _ _ => rfl)) pa_nil)))) (SlX.pe_methSl (pv 6) T.c_Mixed T.m_Mixed_shows (ok_Mixed_shows T) (hr.mono (by decide)) pass0 (pa_cons (pv 3) (pa_cons (pv 4) (pa_cons (pe_ix (show IxR _ (rIxT K) from ix_tup) (pv 2) pe_int (fun _ _ => rfl)) pa_nil))))))) (pss_one (ps_ret pe_bl)) pss_nil) (pss_cons (ps_if (pt_cmpR op_isN (pv 10) pe_non (by rfl)) (pss_one (ps_ret (pe_and (pe_callB (id := "isinstance") (SlX.call_isiSl (.ref (ga K "Served"))) (by rfl) T.n_isinstance (by decide +kernel) (pa_cons (pv 6) (pa_cons (pe_glob (v := .ref _) (by rfl) T.g_Served rfl) pa_nil))) (pe_one (pe_fn (ok_law_are_served T) (hr.mono (by decide)) (by rfl) T.g_law_are_served (kp_of T.F_law_are_served) pass0 (pa_cons (pv 2) (pa_cons (show PE _ _ (SlX.tSl K _ _) from SlX.pe_sl (pv 6)) pa_nil))))))) pss_nil) (pss_one (ps_ret (pe_and (pe_callB (id := "isinstance") (SlX.call_isiSl (.ref (ga K "Mixed"))) (by rfl) T.n_isinstance (by decide +kernel) (pa_cons (pv 6) (pa_cons (pe_glob (v := .ref _) (by rfl) T.g_Mixed rfl) pa_nil))) (pe_one (pe_fn (ok_law_are_mixed T) (hr.mono (by decide)) (by rfl) T.g_law_are_mixed (kp_of T.F_law_are_mixed) pass0 (pa_cons (pv 2) (pa_cons (show PE _ _ (SlX.tSl K _ _) from SlX.pe_sl (pv 6)) (pa_cons (show PE _ _ (SlX.tSl K _ _) from SlX.pe_sl (pv 6)) pa_nil)))))))))))))))))))))), ?_⟩
  refine q_fnG (ea_cons ev_vr (ea_cons Evl.ev_c ea_nil)) fun H1 x1 => ⟨sa, 0, rfl, hs.ex x1, by decide, fun L H2 hL x2 => ?_⟩
  have x12 := x1.trans x2
  show tSeq _ _ _ [some (.ref sa), some (.str (tS L)), none, none, none, none, none, none, none, none, none] _
  have rows : ∀ (n : Nat) (H3 : Hp), n ≤ 100 → Ex H H3 → EVr (tFn (sp_law_rows K) E0 (tCons (tVar 0) (tCons (tC (.int (n : Int))) (tCons (tVar 1) (tCons (tC (.int 3)) tNil))))) [some (.ref sa), some (.str (tS L)), none, none, none, none, none, none, none, none, none] H3 L := by
    intro n H3 hn x3 H4 x4 Q' q'
    have ea : EvA (tCons (tVar 0) (tCons (tC (.int (n : Int))) (tCons (tVar 1) (tCons (tC (.int 3)) tNil)))) [some (.ref sa), some (.str (tS L)), none, none, none, none, none, none, none, none, none] H4 [.ref sa, .int (n : Int), .str (tS L), .int 3] := ea_cons (Evl.ev_var rfl) (ea_cons Evl.ev_c (ea_cons (Evl.ev_var rfl) (ea_cons Evl.ev_c ea_nil)))
    exact ea H4 (Ex.refl _) _ fun H5 x5 => ⟨sa, n, L, _, rfl, im_text, hL, hs.ex (x3.trans (x4.trans x5)), hn, fun r u H6 m x6 im => q' r u H6 m (x5.trans x6) im⟩
  refine q_plan3 (L := L) (Evl.ev_var rfl) (rows 10 _ (by decide) x12) (rows 40 _ (by decide) x12) fun pl r1 r2 v1 v2 H3 x3 hpl m1 m2 i1 i2 => ?_
  have x13 := x12.trans x3
  show tSeq _ _ _ [some (.ref sa), some (.str (tS L)), some (.ref pl), none, none, none, none, none, none, none, none] _
  refine q_plan4 (L := L) (Evl.ev_var rfl) hpl (by simp) (Nat.le_of_ble_eq_true rfl) (fun H4 x4 Q' q' => ?_) fun pl2 c cv H4 x4 hpl2 hc ic => ?_
  · have ea : EvA (tCons (tVar 0) (tCons (tC (.int (70 : Nat))) (tCons (tVar 1) tNil))) [some (.ref sa), some (.str (tS L)), some (.ref pl), none, none, none, none, none, none, none, none] H4 [.ref sa, .int (70 : Nat), .str (tS L)] := ea_cons (Evl.ev_var rfl) (ea_cons Evl.ev_c (ea_cons (Evl.ev_var rfl) ea_nil))
    exact ea H4 (Ex.refl _) _ fun H5 x5 => ⟨sa, 70, L, _, rfl, im_text, hL, hs.ex (x13.trans (x4.trans x5)), by decide, fun c u H6 m x6 im => q' c u H6 m (x5.trans x6) im⟩
  have x14 := x13.trans x4
  have P0 : PlanAt H4 L (.ref pl2) := ⟨pl2, ⟨⟨L, r1⟩, ⟨L, r2⟩, c⟩, v1, v2, cv, rfl, hpl2, ⟨m1, m2, rfl, hc⟩, rfl, i1.ex x4, i2.ex x4, ic⟩
  show tSeq _ _ _ [some (.ref sa), some (.str (tS L)), some (.ref pl2), none, none, none, none, none, none, none, none] _
  refine q_ifPlan (M := fun v H => PlanAt H L v) (fun Q' q' => ?_) (fun v H1 H2 x p => p.ex x) P0 rfl (fun H5 x5 Q' q' => ?_) fun pv H5 hpv x5 => ?_
  · have tst : EI (tOp (rI (fun _ j => 0 < j) fun i j => V.int (i % j)) (tCB rInt (tCons (tFn (sp_law_number K) E0 (tCons (tVar 0) (tCons (tC (.int (5 : Nat))) tNil))) tNil)) (tC (.int 3))) [some (.ref sa), some (.str (tS L)), some (.ref pl2), none, none, none, none, none, none, none, none] H4 (fun n => 0 ≤ n ∧ n < 3) := ei_mod (ei_int (ei_nm (Evl.ev_var rfl) (hs.ex x14) dv_int (by decide))) dv_int (by decide)
    exact tst H4 (Ex.refl _) _ fun n H5 x5 _ => ⟨rfl, _, rfl, q' _ H5 x5⟩
  · have x15 := x14.trans x5
    have hp5 := x5 _ _ hpl2
    refine (Evl.eu_tup (Evl.ea_cons (Evl.ev_var rfl) (Evl.ea_cons (ev_ixT (n := 2) (Evl.ev_var rfl) hp5 rfl) (Evl.ea_cons (ev_ixT (n := 2) (Evl.ev_var rfl) hp5 rfl) (Evl.ea_cons (ev_ixT (n := 3) (Evl.ev_var rfl) hp5 rfl) Evl.ea_nil)))) (Nat.le_of_ble_eq_true rfl)) H5 (Ex.refl _) _ fun p3 H6 _ x6 h6 => ?_
    exact q' _ H6 ⟨p3, ⟨⟨L, r2⟩, ⟨L, r2⟩, c⟩, v2, v2, cv, rfl, h6, ⟨m2, m2, rfl, hc⟩, rfl, (i2.ex x4).ex (x5.trans x6), (i2.ex x4).ex (x5.trans x6), ic.ex (x5.trans x6)⟩ x6
  have x15 := x14.trans x5
  obtain ⟨pl3, Pl, va, vb, vc, rfl, hpl3, hP, eL, ia, ib, icc⟩ := hpv
  subst eL
  have same : ∀ {G : Hp}, Im G (tx Pl.M.L) (.str (tS Pl.I.L)) := by rw [hP.same]; exact im_text
  show tSeq _ _ _ [some (.ref sa), some (.str (tS Pl.I.L)), some (.ref pl3), none, none, none, none, none, none, none, none] _
  refine q_parOO (s1 := [some (.str (tS Pl.I.L)), some va]) (s2 := [some (.str (tS Pl.I.L)), some vb]) (ov_make (ea_cons (Evl.ev_var rfl) (ea_cons (ev_ixT (n := 1) (Evl.ev_var rfl) hpl3 rfl) ea_nil)) fun H6 x dx x6 hx hdx => ⟨Pl.I, _, _, hP.i, rfl, im_text, (ia.ex x6).ts (TS.ex (ts_made hx hdx)), rfl⟩)
    (ov_make (ea_cons (Evl.ev_var rfl) (ea_cons (ev_ixT (n := 2) (Evl.ev_var rfl) hpl3 rfl) ea_nil)) fun H6 x dx x6 hx hdx => ⟨Pl.M, _, _, hP.m, rfl, same, (ib.ex x6).ts (TS.ex (ts_made hx hdx)), rfl⟩) fun ix mx dix dmx H6 hix hmx x6 s1 s2 => ?_
  have AR : ArgsAt K H6 Pl (.ref ix) (.ref mx) vc := ⟨hP, ix, mx, rfl, rfl, ⟨hP.i, dix, _, _, s1, im_text, ia.ex x6⟩, ⟨hP.m, dmx, _, _, s2, same, ib.ex x6⟩, icc.ex x6⟩
  have hpl6 := x6 _ _ hpl3
  have IP : Im H6 (planD Pl) (.ref pl3) := im_tup hpl6 (iml_cons im_text (iml_cons (ia.ex x6) (iml_cons (ib.ex x6) (iml_cons (icc.ex x6) iml_nil))))
  show tSeq _ _ _ [some (.ref sa), some (.str (tS Pl.I.L)), some (.ref pl3), some (.ref ix), some (.ref mx), none, none, none, none, none, none] _
  have args : ∀ {st : St} {G : Hp}, Ex H6 G → st[2]? = some (some (.ref pl3)) → st[3]? = some (some (.ref ix)) → st[4]? = some (some (.ref mx)) → EvA (tCons (tVar 3) (tCons (tVar 4) (tCons (tOp (rIxT K) (tVar 2) (tC (.int ((3 : Nat) : Int)))) tNil))) st G [.ref ix, .ref mx, vc] := fun x e2 e3 e4 => ea_cons (Evl.ev_var e3) (ea_cons (Evl.ev_var e4) (ea_cons (ev_ixT (n := 3) (Evl.ev_var e2) (x _ _ hpl6) rfl) ea_nil))
  refine q_fnG (ea_cons (Evl.ev_var rfl) (ea_cons Evl.ev_c ea_nil)) fun H7 x7 => ⟨Pl, .ref pl3, rfl, IP.ex x7, hP, fun fa xs G n H8 hfa x8 dg S => ?_, fun n H8 x8 big => ?_⟩
  · have x78 := x7.trans x8
    show tSeq _ _ _ [some (.ref sa), some (.str (tS Pl.I.L)), some (.ref pl3), some (.ref ix), some (.ref mx), some (.ref fa), none, none, none, none, none] _
    refine q_serve (P := P) (w := w) (args x78 rfl rfl rfl) (AR.ex x78) (fun fo H10 x10 hfo => ?_) fun n H10 x10 b => (ends_bigs S.ends b).elim
    have neG : G ≠ [] := fun z => by
      have := (S.fm _).mpr (first_in S.ends)
      rw [z] at this
      exact nomatch this
    have okG : ∀ g ∈ G, PairOk Pl g.1 := fun g hg => (lv_ok hP n).1 _ ((S.fm g.1).mp (List.mem_map.mpr ⟨g, hg, rfl⟩))
    have x710 := x8.trans x10
    show tSeq _ _ _ [some (.ref sa), some (.str (tS Pl.I.L)), some (.ref pl3), some (.ref ix), some (.ref mx), some (.ref fa), some (.ref fo), none, none, none, none] _
    refine q_un (dt_t (db_isRef (Evl.ev_var rfl))) fun H11 x11 => ?_
    refine q_asL dl_nil fun sz vs H12 hsz x12' hSz il0 => ?_
    obtain rfl := il0.nil
    have x712 := x710.trans (x11.trans x12')
    have dg12 := dg.ex (x10.trans (x11.trans x12'))
    obtain ⟨hfa12, _⟩ := dg12.lock neG
    have nsf : sz ≠ fa := fun z => by rw [z, hfa12] at hSz; exact dg12.noLst [] (by rw [hfa12]; exact hSz)
    have hfo12 := hfo.ex (x11.trans x12')
    show tSeq _ _ _ [some (.ref sa), some (.str (tS Pl.I.L)), some (.ref pl3), some (.ref ix), some (.ref mx), some (.ref fa), some (.ref fo), some (.ref sz), none, none, none] _
    refine q_lockI dg12 neG (fun H' => Evl.ev_var rfl) (fun Hf n σ' H' => ExB sz Hf H' ∧ (∃ s8 s9 : Option V, σ' = [some (.ref sa), some (.str (tS Pl.I.L)), some (.ref pl3), some (.ref ix), some (.ref mx), some (.ref fa), some (.ref fo), some (.ref sz), s8, s9, none]) ∧
      H' sz = some (.lst (((sizesOf Pl (G.take n)).map Int.ofNat).map V.int))) (fun Hf lk H13 x13 => ⟨.of x13, ⟨_, _, rfl⟩, by rw [List.take_zero]; exact x13 _ _ (lk.ne _ _ nsf hSz)⟩) (fun Hf n σ' H' lk p => ⟨p.1.ts (lk.ne _ _ nsf hSz), fun o h => p.1 _ _ nsf.symm h⟩) ?_ ?_
    · rintro Hf k g v u σ' H' Tt lk hg ⟨xb, ⟨s8, s9, rfl⟩, hl⟩ hT iv iu
      obtain rfl : u = .int (g.2 : Int) := (show Im H' (.num (g.2 : Int)) u from iu).num
      have okg := okG g (List.mem_of_getElem? hg)
      have xT : Ex H' (upd H' Tt (.tup [v, .int (g.2 : Int)])) := Ex.new hT
      have tf : TS Hf H' := xb.ts (lk.ne _ _ nsf hSz)
      have ipf : Im H' (planD Pl) (.ref pl3) := Im.ts tf _ ((IP.ex x7).ex (lk.back H7 x712 hfa))
      have c3 : ∀ {st : St}, st[2]? = some (some (.ref pl3)) → DV (tOp (rIxT K) (tVar 2) (tC (.int ((3 : Nat) : Int)))) st (upd H' Tt (.tup [v, .int (g.2 : Int)])) Pl.c.d := fun e => dv_ix (n := 3) (ds := [tx Pl.I.L, rowsD Pl.I.rows, rowsD Pl.M.rows, Pl.c.d]) (dv_var (show Im _ (.tup [tx Pl.I.L, rowsD Pl.I.rows, rowsD Pl.M.rows, Pl.c.d]) (.ref pl3) from ipf.ex xT) e) dv_int rfl
      have nl : (((sizesOf Pl (G.take k)).map Int.ofNat).map V.int).length ≤ 400 := by
        rw [List.length_map, List.length_map]
        unfold sizesOf
        rw [List.length_map]
        refine Nat.le_trans (List.length_filter_le _ _) ?_
        rw [List.length_take]
        have := S.fl
        omega
      show tIfS _ _ _ _ [some (.ref sa), some (.str (tS Pl.I.L)), some (.ref pl3), some (.ref ix), some (.ref mx), some (.ref fa), some (.ref fo), some (.ref sz), some v, some (.int (g.2 : Int)), none] _
      have ne_ : ∀ a b : Bool, (!decide (a = b)) = (a != b) := by decide
      refine s_of (q_if2 (dt_is (dt_t (db_neB (db_fn (da_cons (c3 rfl) (da_cons (dv_ix (n := 2) (ds := [.num (g.1.1.s : Int), .num (g.1.1.p : Int), g.1.1.st.d]) (dv_ix (n := 0) (ds := [g.1.1.d, g.1.2.d]) (dv_var (iv.ex xT)) dv_int rfl) dv_int rfl) da_nil)) ⟨Pl.I.L, Pl.c, g.1.1.st, rfl, hP.c, okg.1.st, rfl⟩)
        (db_fn (da_cons (c3 rfl) (da_cons (dv_ix (n := 2) (ds := [.num (g.1.2.s : Int), .num (g.1.2.p : Int), g.1.2.st.d]) (dv_ix (n := 1) (ds := [g.1.1.d, g.1.2.d]) (dv_var (iv.ex xT)) dv_int rfl) dv_int rfl) da_nil)) ⟨Pl.I.L, Pl.c, g.1.2.st, rfl, hP.c, okg.2.st, rfl⟩))) (ne_ _ _)) (fun hb H13 x13 => ?_) fun hb H13 x13 => ?_)
      · refine s_of (q_appD (d := .num (g.2 : Int)) (x13 _ _ (xT _ _ hl)) (Evl.ev_var rfl) (dv_var im_num) (by omega) fun v14 H14 x14 k14 => ?_)
        obtain rfl := k14.num
        refine ⟨xb.trans ((ExB.of (xT.trans (x13.trans x14))).trans .put), ⟨_, _, rfl⟩, ?_⟩
        rw [upd_same, sizes_snoc hg, if_pos hb, List.map_append, List.map_append]
        rfl
      · refine ⟨xb.trans (.of (xT.trans x13)), ⟨_, _, rfl⟩, ?_⟩
        rw [sizes_snoc hg, if_neg (by rw [hb]; exact Bool.false_ne_true), List.append_nil]
        exact x13 _ _ (xT _ _ hl)
    · rintro Hf σ' H' lk ⟨xb, ⟨s8, s9, rfl⟩, hl⟩
      rw [List.take_length] at hl
      have xz : ExB sz H12 (upd H' fa (NdO P w fa xs)) := fun b o nb e => by
        by_cases ef : b = fa
        · rw [ef, upd_same]
          rw [ef, hfa12] at e
          exact e
        · rw [upd_ne ef]
          exact xb b o nb (lk.ne b o ef e)
      have xZ : Ex H11 (upd H' fa (NdO P w fa xs)) := xz.ex x12' hsz
      have hSZ : (upd H' fa (NdO P w fa xs)) sz = some (.lst (((sizesOf Pl G).map Int.ofNat).map V.int)) := by rw [upd_ne nsf]; exact hl
      generalize upd H' fa (NdO P w fa xs) = HZ at *
      have x6Z : Ex H6 HZ := x7.trans (x8.trans (x10.trans (x11.trans xZ)))
      have foZ := (hfo.ex x11).ex xZ
      rcases foZ with ⟨F, m, R, nb, sv⟩ | ⟨F, m, e, R, fb, mx2⟩
      · have sn := sizes_nil R S nb
        rw [sn] at hSZ
        refine q_as (d := .none) (dv_if (b := false) (dt_t (db_is (db_neNil (ns := []) (Evl.ev_var rfl) (SqL.of hSZ)) rfl)) (fun z => nomatch z) fun _ => dv_non) fun v13 H13 x13 k13 => ?_
        obtain rfl := k13.non
        have x613 := x6Z.trans x13
        show tSeq _ _ _ [some (.ref sa), some (.str (tS Pl.I.L)), some (.ref pl3), some (.ref ix), some (.ref mx), some (.ref fa), some (.ref fo), some (.ref sz), s8, s9, some .non] _
        refine q_un (dt_is (et_or (dt_t (db_neF (d := .none) (dv_fnO (args x613 rfl rfl rfl) fun H14 x14 Q' q' => ⟨Pl, _, _, _, rfl, AR.ex (x613.trans x14), fun H15 F' n' x15 R' nb' => q' _ H15 x15 im_none, fun H15 F' n' e' x15 R' fb' => absurd (sizes_min R' S fb').1 (by rw [sn]; exact List.not_mem_nil), fun n' H15 x15 b => (ends_bigs R.ends b).elim⟩) (dv_var im_none) rfl rfl)) fun _ =>
          dt_t (db_is (c := false) (db_neB (a := true) (db_fnO (args x613 rfl rfl rfl) fun H14 x14 Q' q' => ⟨Pl, _, _, _, rfl, AR.ex (x613.trans x14), fun H15 F' n' x15 R' nb' => q' H15 x15, fun H15 F' n' e' x15 R' fb' => absurd (sizes_min R' S fb').1 (by rw [sn]; exact List.not_mem_nil), fun n' H15 x15 b => (ends_bigs R.ends b).elim⟩) (db_isN (dv_var im_none))) rfl)) rfl) fun H14 x14 => ?_
        have x614 := x613.trans x14
        have sv14 := sv.ex (x13.trans x14)
        obtain ⟨dxs, lS, usS, slS, hlS, ilS⟩ := id sv14
        refine q_un (dt_is (et_not (a := true) (dt_b ?_)) rfl) fun H15 x15 => ?_
        · exact db_altL (db_methO (b := true) (Evl.ev_var rfl) slS (args x614 rfl rfl rfl) fun H15 x15 Q' q' => ⟨fo, Pl, _, _, _, _, rfl, sv14.ex x15, AR.ex (x614.trans x15), serves_of hP R nb, fun H16 x16 => q' H16 x16⟩)
        have x615 := x614.trans x15
        obtain ⟨dxs, lS, usS, slS, hlS, ilS⟩ := id (sv14.ex x15)
        refine q_if2 (b := true) (dt_t (db_is (db_isN (dv_var im_none)) rfl)) (fun _ H16 x16 => ?_) fun z => nomatch z
        have slT := slt_ex x16 slS
        refine s_reB (b := true) (db_is (c := true) (ev_andV (a := true) (b := true) (db_isiSl (Evl.ev_var rfl) slT T.c_Served T.y_Served T.kit_Served_Served) fun _ =>
          db_fnO (vs := [.ref pl3, .ref lS]) (ea_cons (Evl.ev_var rfl) (ea_cons (ev_sl (Evl.ev_var rfl) slT T.c_Served T.s_Served_pairs rfl) ea_nil)) fun H17 x17 Q' q' => ⟨Pl, _, lS, usS, _, rfl, IP.ex (x615.trans (x16.trans x17)), hP, (x16.trans x17) _ _ hlS, ilS.ex (x16.trans x17), serves_of hP R nb, fun H18 x18 => q' H18 x18⟩) rfl) fun H17 _ => q H17
      · obtain ⟨mn, mle⟩ := sizes_min R S fb
        have nn : (sizesOf Pl G).map Int.ofNat ≠ [] := fun z => by
          rw [List.map_eq_nil_iff.mp z] at mn
          exact nomatch mn
        refine q_as (d := .num ((Ent.size e : Nat) : Int)) (dv_if (b := true) (dt_t (db_is (db_neNil (Evl.ev_var rfl) (SqL.of hSZ)) (by rw [decide_eq_false nn]; rfl))) (fun _ => dv_min (Evl.ev_var rfl) hSZ (List.mem_map.mpr ⟨_, mn, rfl⟩) fun y hy => by
          obtain ⟨k, hk, rfl⟩ := List.mem_map.mp hy
          exact Int.ofNat_le.mpr (mle k hk)) fun z => nomatch z) fun v13 H13 x13 k13 => ?_
        obtain rfl := k13.num
        have x613 := x6Z.trans x13
        show tSeq _ _ _ [some (.ref sa), some (.str (tS Pl.I.L)), some (.ref pl3), some (.ref ix), some (.ref mx), some (.ref fa), some (.ref fo), some (.ref sz), s8, s9, some (.int ((Ent.size e : Nat) : Int))] _
        refine q_un (dt_is (et_or (dt_t (db_neF (d := .num ((Ent.size e : Nat) : Int)) (dv_fnO (args x613 rfl rfl rfl) fun H14 x14 Q' q' => ⟨Pl, _, _, _, rfl, AR.ex (x613.trans x14), fun H15 F' n' x15 R' nb' => absurd mn (by rw [sizes_nil R' S nb']; exact List.not_mem_nil), fun H15 F' n' e' x15 R' fb' => by rw [show Ent.size e' = Ent.size e from Nat.le_antisymm ((sizes_min R' S fb').2 _ mn) (mle _ (sizes_min R' S fb').1)]; exact q' _ H15 x15 im_num, fun n' H15 x15 b => (ends_bigs R.ends b).elim⟩) (dv_var im_num) rfl rfl)) fun _ =>
          dt_t (db_is (c := false) (db_neB (a := false) (db_fnO (args x613 rfl rfl rfl) fun H14 x14 Q' q' => ⟨Pl, _, _, _, rfl, AR.ex (x613.trans x14), fun H15 F' n' x15 R' nb' => absurd mn (by rw [sizes_nil R' S nb']; exact List.not_mem_nil), fun H15 F' n' e' x15 R' fb' => q' H15 x15, fun n' H15 x15 b => (ends_bigs R.ends b).elim⟩) (db_isN (dv_var im_num))) rfl)) rfl) fun H14 x14 => ?_
        have x614 := x613.trans x14
        have sv14 := mx2.ex (x13.trans x14)
        obtain ⟨dxs, slS⟩ := id sv14
        refine q_un (dt_is (et_not (a := true) (dt_b ?_)) rfl) fun H15 x15 => ?_
        · exact db_altR (db_methO (b := true) (Evl.ev_var rfl) slS (args x614 rfl rfl rfl) fun H15 x15 Q' q' => ⟨fo, Pl, _, _, _, _, _, rfl, sv14.ex x15, AR.ex (x614.trans x15), mixes_of R fb, fun H16 x16 => q' H16 x16⟩)
        have x615 := x614.trans x15
        have slT := slt_ex x15 slS
        refine q_un (dt_t (db_is (db_isN (dv_var im_num)) rfl)) fun H16 x16 => ?_
        have slU := slt_ex x16 slT
        exact s_reB (b := true) (db_is (c := true) (ev_andV (a := true) (b := true) (db_isiSl (Evl.ev_var rfl) slU T.c_Mixed T.y_Mixed T.kit_Mixed_Mixed) fun _ =>
          db_fn (b := true) (da_cons (dv_var (IP.ex (x615.trans x16))) (da_cons (dv_sl (d := tx e.2.1) (Evl.ev_var rfl) slU T.c_Mixed T.s_Mixed_one im_text) (da_cons (dv_sl (d := tx e.2.2) (Evl.ev_var rfl) slU T.c_Mixed T.s_Mixed_other im_text) da_nil))) ⟨Pl, _, _, rfl, hP, mixes_of R fb, rfl⟩) rfl) fun H17 _ => q H17
  · have x78 := x7.trans x8
    show tSeq _ _ _ [some (.ref sa), some (.str (tS Pl.I.L)), some (.ref pl3), some (.ref ix), some (.ref mx), some .non, none, none, none, none, none] _
    refine q_fnT (args x78 rfl rfl rfl) fun H9 x9 => ⟨Pl, _, _, _, rfl, AR.ex (x78.trans x9), fun H10 fo F m x10 R nb sv => (ends_bigs R.ends big).elim, fun H10 fo F m e x10 R fb mx => (ends_bigs R.ends big).elim, fun m H10 x10 b => ⟨true, T.x_self, fun _ a ha => ?_, fun z => nomatch z⟩⟩
    exact s_reB (db_isN (dv_var im_none)) fun H11 x11 => q H11
end
end Fk

set_option Elab.async false
set_option linter.all false
set_option maxRecDepth 100000
set_option maxHeartbeats 0
/-! the end -/
namespace Fk
open PySem PySem.Spec PyProof.Rows L2 He
theorem law_facts {P : Program} {w : World} {K : PySem.W.Frag} {h : Heap} {mg : Str → Option Value} {f : Addr} (X : K.In h) (G : h.Ns mainGlobals mg) (hfa : mg ("law" : Str) = some (.ref f)) (c : SaysX fbs fns K) :
    ∃ fd : FuncData, (∀ (s : Shared) (v : Value), BindsTo s fd ⟨[v], []⟩ [("script", v)]) ∧ ∀ base : Heap, K.In base → base.Ns mainGlobals mg → FnOk P w K mg base CX0 10 f fd ["script"] (sp_law K) := by
  have T : Txt K mg := txt_of X G c
  obtain ⟨fd, F⟩ := T.F_law
  have e := hfa.symm.trans T.g_law
  cases e
  obtain ⟨oc, od, kV, doc, pm, an, cdv, ct, osl, ef, lk, hcd⟩ := F.ex
  refine ⟨fd, fun s v => ?_, fun base _ _ => law_ok T F⟩
  rw [ef]
  exact .of_eq rfl
end Fk
open PySem PySem.W PySem.Calls PyProof.Rows
theorem PySem.Challenge.cw_foldlook_k06_whole_served_holds : PySem.Challenge.rw_foldlook_k06_whole_served.Holds := by
  w_on; o_law
  refine HandSHeadRun.head_any (r := OpenLaw.row PySem.Challenge.rw_foldlook_k06_whole_served) (q := view (OpenLaw.row PySem.Challenge.rw_foldlook_k06_whole_served).prog [72]) (H := Fk.hk) (ob := Fk.ob) (M := 6000) (loose := Fk.names) (d := HandSHeadRun.topDef (OpenLaw.row PySem.Challenge.rw_foldlook_k06_whole_served).prog 72) (kwd := []) Fk.ob_eq
    (by kernel_rfl) (fun s => by kernel_rfl) Fk.run (by kernel_rfl) (by kernel_rfl) (by kernel_rfl) (by rfl) (by first | assumption | decide +kernel) (by decide +kernel) ⟨rfl, rfl, rfl, rfl, rfl, by decide +kernel⟩ ?hw ?hc
  case hw => w_witness2
  case hc =>
    refine L2.walk_ofE (l := PySem.Challenge.rw_foldlook_k06_whole_served) (n := 63) (k := 10) (x := "script") (CX := L2.CX0) rfl (by decide) (by kernel_rfl) ⟨rfl, by decide, by decide⟩ ?F (fun _ _ _ _ z => z)
    intro w mg fa h Y G hmg0
    obtain ⟨K, KX, c⟩ := Y
    have hmg : mg ("law" : PySem.Str) = some (.ref fa) := by
      have e : (HandSHeadRun.topDef (OpenLaw.row PySem.Challenge.rw_foldlook_k06_whole_served).prog 72).name = ("law" : PySem.Str) := by kernel_rfl
      rw [← e]
      exact hmg0
    obtain ⟨fd, hb, hF⟩ := Fk.law_facts (P := (PySem.Challenge.rw_foldlook_k06_whole_served).prog) (w := w) KX G hmg c
    exact ⟨K, fd, Fk.sp_law K, KX, hb, fun H a ns hl _ hS => ⟨a, rfl, ⟨ns, hS, hl⟩, fun _ => rfl⟩, hF⟩

