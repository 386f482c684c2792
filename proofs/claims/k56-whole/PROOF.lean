import PyProof.Rows.All
import Wide.All
import OpenK.AllK
import Wide.FinOn
import HandS.ForMost
import HandS.Defaults
import HandS.HeadHook1
import HandS.HeadHook2
import PySem.Challenge.RW_pactloom_k56_whole_refused_protocols_go
import KE.KStateDown
import Lean
import HandS.Head0
import HandS.Head1
import HandS.Head2
import HandS.HeadEnd
import HandS.ForExc
import HandS.Deep
import HandS.Conv
import HandS.Small
import KE.SortData
import KE.KDictSum
import HandS.DictComp
import KE.KDictDisplayH
import PyProof.DictMoreH
import HandS.Walk
import KE.GoesEnum
import KE.KDictExact
import HandS.TupLen
import HandS.Zip
import HandS.DictTup
import KE.KDictKeyed
import HandS.Set
import HandS.SetBool
import HandS.SetTxt0
import HandS.TupAny
import HandS.TupLe
set_option Elab.async false
set_option linter.all false
set_option maxRecDepth 100000
/-! The text by places, and what the top leaves (Txt). Printed by gen_text.py. -/
namespace Pk
open PySem L2
def top (i : Nat) : Stmt := PySem.Challenge.pw_pactloom_k56_whole_refused_protocols_go.main.body.getD i (.Pass ⟨0, 0, 0, 0⟩)
abbrev s_grouped : Stmt := top 7
abbrev s_subset_table : Stmt := top 8
abbrev s_refined_classes : Stmt := top 9
abbrev s_alike_classes : Stmt := top 10
abbrev s_least : Stmt := top 11
abbrev s_next_state : Stmt := top 12
abbrev s_parties_of : Stmt := top 14
abbrev s_concerns : Stmt := top 15
abbrev s_view : Stmt := top 16
abbrev s_reached_unseen : Stmt := top 17
abbrev s_erased : Stmt := top 18
abbrev s_machine_of : Stmt := top 19
abbrev s_machines_of : Stmt := top 20
abbrev s_next_joint : Stmt := top 23
abbrev s_joint_states : Stmt := top 24
abbrev s_seen_alike : Stmt := top 26
abbrev s_states_by_party : Stmt := top 27
abbrev s_sends_at : Stmt := top 28
abbrev s_stray_at : Stmt := top 29
abbrev s_idle_at : Stmt := top 30
abbrev s_check : Stmt := top 31
abbrev s_sum_of : Stmt := top 39
abbrev s_record : Stmt := top 40
abbrev s_Party_init : Stmt := inClass (top 45) 0
abbrev s_Party_offers : Stmt := inClass (top 45) 4
abbrev s_Party_rests : Stmt := inClass (top 45) 5
abbrev s_Party_has : Stmt := inClass (top 45) 6
abbrev s_Party_can : Stmt := inClass (top 45) 7
abbrev s_Party_settled : Stmt := inClass (top 45) 8
abbrev s_Party_carry_out : Stmt := inClass (top 45) 10
abbrev s_Party_entry_of_act : Stmt := inClass (top 45) 13
abbrev s_Party_entry_of_message : Stmt := inClass (top 45) 14
abbrev s_Party_post : Stmt := inClass (top 45) 15
abbrev s_Party_take : Stmt := inClass (top 45) 16
abbrev s_Party_withdraw : Stmt := inClass (top 45) 17
abbrev s_Party_again : Stmt := inClass (top 45) 18
abbrev s_Party_hear : Stmt := inClass (top 45) 19
abbrev s_addressee : Stmt := top 53
abbrev s_Play_init : Stmt := inClass (top 54) 0
abbrev s_Play_names : Stmt := inClass (top 54) 1
abbrev s_Play_taken : Stmt := inClass (top 54) 3
abbrev s_Play_party_of : Stmt := inClass (top 54) 4
abbrev s_Play_can : Stmt := inClass (top 54) 5
abbrev s_Play_rests : Stmt := inClass (top 54) 6
abbrev s_Play_check_place : Stmt := inClass (top 54) 11
abbrev s_Play_check_room : Stmt := inClass (top 54) 12
abbrev s_Play_do : Stmt := inClass (top 54) 13
abbrev s_Play_act : Stmt := inClass (top 54) 14
abbrev s_Play_empty_net : Stmt := inClass (top 54) 17
abbrev s_Play_offer : Stmt := inClass (top 54) 19
abbrev s_play_of : Stmt := top 55
abbrev s_law_state : Stmt := top 57
abbrev s_law_draw : Stmt := top 58
abbrev s_law_name : Stmt := top 59
abbrev s_law_names : Stmt := top 60
abbrev s_law_table : Stmt := top 61
abbrev s_law_edge : Stmt := top 62
abbrev s_law_step : Stmt := top 63
abbrev s_law_walk : Stmt := top 64
abbrev s_law_told : Stmt := top 66
abbrev s_law_follows : Stmt := top 67
abbrev s_law : Stmt := top 68
abbrev FnP (K : PySem.W.Frag) (x qual : Str) (st : Stmt) (f : Addr) (fd : FuncData) : Prop := FunD K x qual (defArgs st) (defBody st) (defScope st) [] [] f fd
/-- what the top has left -/
structure Txt (K : PySem.W.Frag) (mg : Str → Option Value) : Prop where
  d_grouped : ∃ fd, FnP K "grouped" "grouped" s_grouped (He.fAd K ("grouped", none)) fd
  d_subset_table : ∃ fd, FnP K "subset_table" "subset_table" s_subset_table (He.fAd K ("subset_table", none)) fd
  d_refined_classes : ∃ fd, FnP K "refined_classes" "refined_classes" s_refined_classes (He.fAd K ("refined_classes", none)) fd
  d_alike_classes : ∃ fd, FnP K "alike_classes" "alike_classes" s_alike_classes (He.fAd K ("alike_classes", none)) fd
  d_least : ∃ fd, FnP K "least" "least" s_least (He.fAd K ("least", none)) fd
  d_next_state : ∃ fd, FnP K "next_state" "next_state" s_next_state (He.fAd K ("next_state", none)) fd
  d_parties_of : ∃ fd, FnP K "parties_of" "parties_of" s_parties_of (He.fAd K ("parties_of", none)) fd
  d_concerns : ∃ fd, FnP K "concerns" "concerns" s_concerns (He.fAd K ("concerns", none)) fd
  d_view : ∃ fd, FnP K "view" "view" s_view (He.fAd K ("view", none)) fd
  d_reached_unseen : ∃ fd, FnP K "reached_unseen" "reached_unseen" s_reached_unseen (He.fAd K ("reached_unseen", none)) fd
  d_erased : ∃ fd, FnP K "erased" "erased" s_erased (He.fAd K ("erased", none)) fd
  d_machine_of : ∃ fd, FnP K "machine_of" "machine_of" s_machine_of (He.fAd K ("machine_of", none)) fd
  d_machines_of : ∃ fd, FnP K "machines_of" "machines_of" s_machines_of (He.fAd K ("machines_of", none)) fd
  d_next_joint : ∃ fd, FnP K "next_joint" "next_joint" s_next_joint (He.fAd K ("next_joint", none)) fd
  d_joint_states : ∃ fd, FnP K "joint_states" "joint_states" s_joint_states (He.fAd K ("joint_states", none)) fd
  d_seen_alike : ∃ fd, FnP K "seen_alike" "seen_alike" s_seen_alike (He.fAd K ("seen_alike", none)) fd
  d_states_by_party : ∃ fd, FnP K "states_by_party" "states_by_party" s_states_by_party (He.fAd K ("states_by_party", none)) fd
  d_sends_at : ∃ fd, FnP K "sends_at" "sends_at" s_sends_at (He.fAd K ("sends_at", none)) fd
  d_stray_at : ∃ fd, FnP K "stray_at" "stray_at" s_stray_at (He.fAd K ("stray_at", none)) fd
  d_idle_at : ∃ fd, FnP K "idle_at" "idle_at" s_idle_at (He.fAd K ("idle_at", none)) fd
  d_check : ∃ fd, FnP K "check" "check" s_check (He.fAd K ("check", none)) fd
  d_sum_of : ∃ fd, FnP K "sum_of" "sum_of" s_sum_of (He.fAd K ("sum_of", none)) fd
  d_record : ∃ fd, FnP K "record" "record" s_record (He.fAd K ("record", none)) fd
  d_Party_init : ∃ fd, FnP K "__init__" "Party.__init__" s_Party_init (He.fAd K ("Party", some "__init__")) fd
  d_Party_offers : ∃ fd, FnP K "offers" "Party.offers" s_Party_offers (He.fAd K ("Party", some "offers")) fd
  d_Party_rests : ∃ fd, FnP K "rests" "Party.rests" s_Party_rests (He.fAd K ("Party", some "rests")) fd
  d_Party_has : ∃ fd, FnP K "has" "Party.has" s_Party_has (He.fAd K ("Party", some "has")) fd
  d_Party_can : ∃ fd, FnP K "can" "Party.can" s_Party_can (He.fAd K ("Party", some "can")) fd
  d_Party_settled : ∃ fd, FnP K "settled" "Party.settled" s_Party_settled (He.fAd K ("Party", some "settled")) fd
  d_Party_carry_out : ∃ fd, FnP K "carry_out" "Party.carry_out" s_Party_carry_out (He.fAd K ("Party", some "carry_out")) fd
  d_Party_entry_of_act : ∃ fd, FnP K "entry_of_act" "Party.entry_of_act" s_Party_entry_of_act (He.fAd K ("Party", some "entry_of_act")) fd
  d_Party_entry_of_message : ∃ fd, FnP K "entry_of_message" "Party.entry_of_message" s_Party_entry_of_message (He.fAd K ("Party", some "entry_of_message")) fd
  d_Party_post : ∃ fd, FnP K "post" "Party.post" s_Party_post (He.fAd K ("Party", some "post")) fd
  d_Party_take : ∃ fd, FnP K "take" "Party.take" s_Party_take (He.fAd K ("Party", some "take")) fd
  d_Party_withdraw : ∃ fd, FnP K "withdraw" "Party.withdraw" s_Party_withdraw (He.fAd K ("Party", some "withdraw")) fd
  d_Party_again : ∃ fd, FnP K "again" "Party.again" s_Party_again (He.fAd K ("Party", some "again")) fd
  d_Party_hear : ∃ fd, FnP K "hear" "Party.hear" s_Party_hear (He.fAd K ("Party", some "hear")) fd
  d_addressee : ∃ fd, FnP K "addressee" "addressee" s_addressee (He.fAd K ("addressee", none)) fd
  d_Play_init : ∃ fd, FnP K "__init__" "Play.__init__" s_Play_init (He.fAd K ("Play", some "__init__")) fd
  d_Play_names : ∃ fd, FnP K "names" "Play.names" s_Play_names (He.fAd K ("Play", some "names")) fd
  d_Play_taken : ∃ fd, FnP K "taken" "Play.taken" s_Play_taken (He.fAd K ("Play", some "taken")) fd
  d_Play_party_of : ∃ fd, FnP K "party_of" "Play.party_of" s_Play_party_of (He.fAd K ("Play", some "party_of")) fd
  d_Play_can : ∃ fd, FnP K "can" "Play.can" s_Play_can (He.fAd K ("Play", some "can")) fd
  d_Play_rests : ∃ fd, FnP K "rests" "Play.rests" s_Play_rests (He.fAd K ("Play", some "rests")) fd
  d_Play_check_place : ∃ fd, FnP K "check_place" "Play.check_place" s_Play_check_place (He.fAd K ("Play", some "check_place")) fd
  d_Play_check_room : ∃ fd, FnP K "check_room" "Play.check_room" s_Play_check_room (He.fAd K ("Play", some "check_room")) fd
  d_Play_do : ∃ fd, FnP K "do" "Play.do" s_Play_do (He.fAd K ("Play", some "do")) fd
  d_Play_act : ∃ fd, FnP K "act" "Play.act" s_Play_act (He.fAd K ("Play", some "act")) fd
  d_Play_empty_net : ∃ fd, FnP K "empty_net" "Play.empty_net" s_Play_empty_net (He.fAd K ("Play", some "empty_net")) fd
  d_Play_offer : ∃ fd, FnP K "offer" "Play.offer" s_Play_offer (He.fAd K ("Play", some "offer")) fd
  d_play_of : ∃ fd, FnP K "play_of" "play_of" s_play_of (He.fAd K ("play_of", none)) fd
  d_law_state : ∃ fd, FnP K "_law_state" "_law_state" s_law_state (He.fAd K ("_law_state", none)) fd
  d_law_draw : ∃ fd, FnP K "_law_draw" "_law_draw" s_law_draw (He.fAd K ("_law_draw", none)) fd
  d_law_name : ∃ fd, FnP K "_law_name" "_law_name" s_law_name (He.fAd K ("_law_name", none)) fd
  d_law_names : ∃ fd, FnP K "_law_names" "_law_names" s_law_names (He.fAd K ("_law_names", none)) fd
  d_law_table : ∃ fd, FnP K "_law_table" "_law_table" s_law_table (He.fAd K ("_law_table", none)) fd
  d_law_edge : ∃ fd, FnP K "_law_edge" "_law_edge" s_law_edge (He.fAd K ("_law_edge", none)) fd
  d_law_step : ∃ fd, FnP K "_law_step" "_law_step" s_law_step (He.fAd K ("_law_step", none)) fd
  d_law_walk : ∃ fd, FnP K "_law_walk" "_law_walk" s_law_walk (He.fAd K ("_law_walk", none)) fd
  d_law_told : ∃ fd, FnP K "_law_told" "_law_told" s_law_told (He.fAd K ("_law_told", none)) fd
  d_law_follows : ∃ fd, FnP K "_law_follows" "_law_follows" s_law_follows (He.fAd K ("_law_follows", none)) fd
  d_law : ∃ fd, FnP K "law" "law" s_law (He.fAd K ("law", none)) fd
  g_grouped : mg "grouped" = some (.ref (He.ga K "grouped"))
  g_subset_table : mg "subset_table" = some (.ref (He.ga K "subset_table"))
  g_refined_classes : mg "refined_classes" = some (.ref (He.ga K "refined_classes"))
  g_alike_classes : mg "alike_classes" = some (.ref (He.ga K "alike_classes"))
  g_least : mg "least" = some (.ref (He.ga K "least"))
  g_next_state : mg "next_state" = some (.ref (He.ga K "next_state"))
  g_parties_of : mg "parties_of" = some (.ref (He.ga K "parties_of"))
  g_concerns : mg "concerns" = some (.ref (He.ga K "concerns"))
  g_view : mg "view" = some (.ref (He.ga K "view"))
  g_reached_unseen : mg "reached_unseen" = some (.ref (He.ga K "reached_unseen"))
  g_erased : mg "erased" = some (.ref (He.ga K "erased"))
  g_machine_of : mg "machine_of" = some (.ref (He.ga K "machine_of"))
  g_machines_of : mg "machines_of" = some (.ref (He.ga K "machines_of"))
  g_next_joint : mg "next_joint" = some (.ref (He.ga K "next_joint"))
  g_joint_states : mg "joint_states" = some (.ref (He.ga K "joint_states"))
  g_seen_alike : mg "seen_alike" = some (.ref (He.ga K "seen_alike"))
  g_states_by_party : mg "states_by_party" = some (.ref (He.ga K "states_by_party"))
  g_sends_at : mg "sends_at" = some (.ref (He.ga K "sends_at"))
  g_stray_at : mg "stray_at" = some (.ref (He.ga K "stray_at"))
  g_idle_at : mg "idle_at" = some (.ref (He.ga K "idle_at"))
  g_check : mg "check" = some (.ref (He.ga K "check"))
  g_sum_of : mg "sum_of" = some (.ref (He.ga K "sum_of"))
  g_record : mg "record" = some (.ref (He.ga K "record"))
  g_addressee : mg "addressee" = some (.ref (He.ga K "addressee"))
  g_play_of : mg "play_of" = some (.ref (He.ga K "play_of"))
  g_law_state : mg "_law_state" = some (.ref (He.ga K "_law_state"))
  g_law_draw : mg "_law_draw" = some (.ref (He.ga K "_law_draw"))
  g_law_name : mg "_law_name" = some (.ref (He.ga K "_law_name"))
  g_law_names : mg "_law_names" = some (.ref (He.ga K "_law_names"))
  g_law_table : mg "_law_table" = some (.ref (He.ga K "_law_table"))
  g_law_edge : mg "_law_edge" = some (.ref (He.ga K "_law_edge"))
  g_law_step : mg "_law_step" = some (.ref (He.ga K "_law_step"))
  g_law_walk : mg "_law_walk" = some (.ref (He.ga K "_law_walk"))
  g_law_told : mg "_law_told" = some (.ref (He.ga K "_law_told"))
  g_law_follows : mg "_law_follows" = some (.ref (He.ga K "_law_follows"))
  g_law : mg "law" = some (.ref (He.ga K "law"))
  g_Party : mg "Party" = some (.ref (He.ga K "Party"))
  g_Play : mg "Play" = some (.ref (He.ga K "Play"))
  g_TooLarge : mg "TooLarge" = some (.ref (He.ga K "TooLarge"))
  n_dict : mg "dict" = none
  n_enumerate : mg "enumerate" = none
  n_int : mg "int" = none
  n_len : mg "len" = none
  n_list : mg "list" = none
  n_ord : mg "ord" = none
  n_range : mg "range" = none
  n_set : mg "set" = none
  n_sorted : mg "sorted" = none
  n_str : mg "str" = none
  n_tuple : mg "tuple" = none
  i_MOST_STATES : ∃ t, mg "MOST_STATES" = some (.int 300 t)
  i_MOST_JOINT : ∃ t, mg "MOST_JOINT" = some (.int 3000 t)
  i_START : ∃ t, mg "START" = some (.int 7 t)
  i_FACTOR : ∃ t, mg "FACTOR" = some (.int 31 t)
  i_MODULUS : ∃ t, mg "MODULUS" = some (.int 9973 t)
  i_MOST_MESSAGES : ∃ t, mg "MOST_MESSAGES" = some (.int 200 t)
  c_Party : Cls K (He.ga K "Party")
  m_Party : Mk K (He.ga K "Party") (He.ma K (He.ga K "Party") "__init__")
  a_Party__name : NoAttr K (He.ga K "Party") "_name"
  a_Party__machine : NoAttr K (He.ga K "Party") "_machine"
  a_Party__state : NoAttr K (He.ga K "Party") "_state"
  a_Party__posted : NoAttr K (He.ga K "Party") "_posted"
  a_Party__settled : NoAttr K (He.ga K "Party") "_settled"
  a_Party__waiting : NoAttr K (He.ga K "Party") "_waiting"
  a_Party__withdrawing : NoAttr K (He.ga K "Party") "_withdrawing"
  a_Party__offers : NoAttr K (He.ga K "Party") "_offers"
  a_Party__journal : NoAttr K (He.ga K "Party") "_journal"
  c_Play : Cls K (He.ga K "Play")
  m_Play : Mk K (He.ga K "Play") (He.ma K (He.ga K "Play") "__init__")
  a_Play__machines : NoAttr K (He.ga K "Play") "_machines"
  a_Play__parties : NoAttr K (He.ga K "Play") "_parties"
  a_Play__net : NoAttr K (He.ga K "Play") "_net"
  a_Play__taken : NoAttr K (He.ga K "Play") "_taken"
  m_Party_offers : Meth K (He.ga K "Party") "offers" (He.ma K (He.ga K "Party") "offers")
  m_Party_rests : Meth K (He.ga K "Party") "rests" (He.ma K (He.ga K "Party") "rests")
  m_Party_has : Meth K (He.ga K "Party") "has" (He.ma K (He.ga K "Party") "has")
  m_Party_can : Meth K (He.ga K "Party") "can" (He.ma K (He.ga K "Party") "can")
  m_Party_settled : Meth K (He.ga K "Party") "settled" (He.ma K (He.ga K "Party") "settled")
  m_Party_carry_out : Meth K (He.ga K "Party") "carry_out" (He.ma K (He.ga K "Party") "carry_out")
  m_Party_entry_of_act : Meth K (He.ga K "Party") "entry_of_act" (He.ma K (He.ga K "Party") "entry_of_act")
  m_Party_entry_of_message : Meth K (He.ga K "Party") "entry_of_message" (He.ma K (He.ga K "Party") "entry_of_message")
  m_Party_post : Meth K (He.ga K "Party") "post" (He.ma K (He.ga K "Party") "post")
  m_Party_take : Meth K (He.ga K "Party") "take" (He.ma K (He.ga K "Party") "take")
  m_Party_withdraw : Meth K (He.ga K "Party") "withdraw" (He.ma K (He.ga K "Party") "withdraw")
  m_Party_again : Meth K (He.ga K "Party") "again" (He.ma K (He.ga K "Party") "again")
  m_Party_hear : Meth K (He.ga K "Party") "hear" (He.ma K (He.ga K "Party") "hear")
  m_Play_names : Meth K (He.ga K "Play") "names" (He.ma K (He.ga K "Play") "names")
  m_Play_taken : Meth K (He.ga K "Play") "taken" (He.ma K (He.ga K "Play") "taken")
  m_Play_party_of : Meth K (He.ga K "Play") "party_of" (He.ma K (He.ga K "Play") "party_of")
  m_Play_can : Meth K (He.ga K "Play") "can" (He.ma K (He.ga K "Play") "can")
  m_Play_rests : Meth K (He.ga K "Play") "rests" (He.ma K (He.ga K "Play") "rests")
  m_Play_check_place : Meth K (He.ga K "Play") "check_place" (He.ma K (He.ga K "Play") "check_place")
  m_Play_check_room : Meth K (He.ga K "Play") "check_room" (He.ma K (He.ga K "Play") "check_room")
  m_Play_do : Meth K (He.ga K "Play") "do" (He.ma K (He.ga K "Play") "do")
  m_Play_act : Meth K (He.ga K "Play") "act" (He.ma K (He.ga K "Play") "act")
  m_Play_empty_net : Meth K (He.ga K "Play") "empty_net" (He.ma K (He.ga K "Play") "empty_net")
  m_Play_offer : Meth K (He.ga K "Play") "offer" (He.ma K (He.ga K "Play") "offer")
  x_TooLarge : PySem.W.excIn K (He.ga K "TooLarge") He.veBase "ValueError.__new__" = true ∧ PySem.W.keepIn K (.ref (He.ga K "TooLarge")) = true ∧ PySem.W.subIn K (.ref (He.ga K "TooLarge")) (.type "BaseException") = some true ∧ PySem.W.typeIn K (.ref (He.ga K "TooLarge")) = some (.type "type")
  e_TooLarge : PySem.W.exmOne K (.ref (He.ga K "TooLarge")) (.ref (He.ga K "TooLarge")) = some true
end Pk
set_option Elab.async false
set_option linter.all false
set_option maxRecDepth 100000
set_option maxHeartbeats 0
/-! The head: the top's run in the kernel, with facts. Printed by gen_text.py. -/
namespace Pk
open PySem PySem.Spec PyProof.Rows L2
def D_grouped : He.DefD := ⟨("grouped", none), "grouped", "grouped", defArgs s_grouped, defBody s_grouped, defScope s_grouped, [], []⟩
def D_subset_table : He.DefD := ⟨("subset_table", none), "subset_table", "subset_table", defArgs s_subset_table, defBody s_subset_table, defScope s_subset_table, [], []⟩
def D_refined_classes : He.DefD := ⟨("refined_classes", none), "refined_classes", "refined_classes", defArgs s_refined_classes, defBody s_refined_classes, defScope s_refined_classes, [], []⟩
def D_alike_classes : He.DefD := ⟨("alike_classes", none), "alike_classes", "alike_classes", defArgs s_alike_classes, defBody s_alike_classes, defScope s_alike_classes, [], []⟩
def D_least : He.DefD := ⟨("least", none), "least", "least", defArgs s_least, defBody s_least, defScope s_least, [], []⟩
def D_next_state : He.DefD := ⟨("next_state", none), "next_state", "next_state", defArgs s_next_state, defBody s_next_state, defScope s_next_state, [], []⟩
def D_parties_of : He.DefD := ⟨("parties_of", none), "parties_of", "parties_of", defArgs s_parties_of, defBody s_parties_of, defScope s_parties_of, [], []⟩
def D_concerns : He.DefD := ⟨("concerns", none), "concerns", "concerns", defArgs s_concerns, defBody s_concerns, defScope s_concerns, [], []⟩
def D_view : He.DefD := ⟨("view", none), "view", "view", defArgs s_view, defBody s_view, defScope s_view, [], []⟩
def D_reached_unseen : He.DefD := ⟨("reached_unseen", none), "reached_unseen", "reached_unseen", defArgs s_reached_unseen, defBody s_reached_unseen, defScope s_reached_unseen, [], []⟩
def D_erased : He.DefD := ⟨("erased", none), "erased", "erased", defArgs s_erased, defBody s_erased, defScope s_erased, [], []⟩
def D_machine_of : He.DefD := ⟨("machine_of", none), "machine_of", "machine_of", defArgs s_machine_of, defBody s_machine_of, defScope s_machine_of, [], []⟩
def D_machines_of : He.DefD := ⟨("machines_of", none), "machines_of", "machines_of", defArgs s_machines_of, defBody s_machines_of, defScope s_machines_of, [], []⟩
def D_next_joint : He.DefD := ⟨("next_joint", none), "next_joint", "next_joint", defArgs s_next_joint, defBody s_next_joint, defScope s_next_joint, [], []⟩
def D_joint_states : He.DefD := ⟨("joint_states", none), "joint_states", "joint_states", defArgs s_joint_states, defBody s_joint_states, defScope s_joint_states, [], []⟩
def D_seen_alike : He.DefD := ⟨("seen_alike", none), "seen_alike", "seen_alike", defArgs s_seen_alike, defBody s_seen_alike, defScope s_seen_alike, [], []⟩
def D_states_by_party : He.DefD := ⟨("states_by_party", none), "states_by_party", "states_by_party", defArgs s_states_by_party, defBody s_states_by_party, defScope s_states_by_party, [], []⟩
def D_sends_at : He.DefD := ⟨("sends_at", none), "sends_at", "sends_at", defArgs s_sends_at, defBody s_sends_at, defScope s_sends_at, [], []⟩
def D_stray_at : He.DefD := ⟨("stray_at", none), "stray_at", "stray_at", defArgs s_stray_at, defBody s_stray_at, defScope s_stray_at, [], []⟩
def D_idle_at : He.DefD := ⟨("idle_at", none), "idle_at", "idle_at", defArgs s_idle_at, defBody s_idle_at, defScope s_idle_at, [], []⟩
def D_check : He.DefD := ⟨("check", none), "check", "check", defArgs s_check, defBody s_check, defScope s_check, [], []⟩
def D_sum_of : He.DefD := ⟨("sum_of", none), "sum_of", "sum_of", defArgs s_sum_of, defBody s_sum_of, defScope s_sum_of, [], []⟩
def D_record : He.DefD := ⟨("record", none), "record", "record", defArgs s_record, defBody s_record, defScope s_record, [], []⟩
def D_Party_init : He.DefD := ⟨("Party", some "__init__"), "__init__", "Party.__init__", defArgs s_Party_init, defBody s_Party_init, defScope s_Party_init, [], []⟩
def D_Party_offers : He.DefD := ⟨("Party", some "offers"), "offers", "Party.offers", defArgs s_Party_offers, defBody s_Party_offers, defScope s_Party_offers, [], []⟩
def D_Party_rests : He.DefD := ⟨("Party", some "rests"), "rests", "Party.rests", defArgs s_Party_rests, defBody s_Party_rests, defScope s_Party_rests, [], []⟩
def D_Party_has : He.DefD := ⟨("Party", some "has"), "has", "Party.has", defArgs s_Party_has, defBody s_Party_has, defScope s_Party_has, [], []⟩
def D_Party_can : He.DefD := ⟨("Party", some "can"), "can", "Party.can", defArgs s_Party_can, defBody s_Party_can, defScope s_Party_can, [], []⟩
def D_Party_settled : He.DefD := ⟨("Party", some "settled"), "settled", "Party.settled", defArgs s_Party_settled, defBody s_Party_settled, defScope s_Party_settled, [], []⟩
def D_Party_carry_out : He.DefD := ⟨("Party", some "carry_out"), "carry_out", "Party.carry_out", defArgs s_Party_carry_out, defBody s_Party_carry_out, defScope s_Party_carry_out, [], []⟩
def D_Party_entry_of_act : He.DefD := ⟨("Party", some "entry_of_act"), "entry_of_act", "Party.entry_of_act", defArgs s_Party_entry_of_act, defBody s_Party_entry_of_act, defScope s_Party_entry_of_act, [], []⟩
def D_Party_entry_of_message : He.DefD := ⟨("Party", some "entry_of_message"), "entry_of_message", "Party.entry_of_message", defArgs s_Party_entry_of_message, defBody s_Party_entry_of_message, defScope s_Party_entry_of_message, [], []⟩
def D_Party_post : He.DefD := ⟨("Party", some "post"), "post", "Party.post", defArgs s_Party_post, defBody s_Party_post, defScope s_Party_post, [], []⟩
def D_Party_take : He.DefD := ⟨("Party", some "take"), "take", "Party.take", defArgs s_Party_take, defBody s_Party_take, defScope s_Party_take, [], []⟩
def D_Party_withdraw : He.DefD := ⟨("Party", some "withdraw"), "withdraw", "Party.withdraw", defArgs s_Party_withdraw, defBody s_Party_withdraw, defScope s_Party_withdraw, [], []⟩
def D_Party_again : He.DefD := ⟨("Party", some "again"), "again", "Party.again", defArgs s_Party_again, defBody s_Party_again, defScope s_Party_again, [], []⟩
def D_Party_hear : He.DefD := ⟨("Party", some "hear"), "hear", "Party.hear", defArgs s_Party_hear, defBody s_Party_hear, defScope s_Party_hear, [], []⟩
def D_addressee : He.DefD := ⟨("addressee", none), "addressee", "addressee", defArgs s_addressee, defBody s_addressee, defScope s_addressee, [], []⟩
def D_Play_init : He.DefD := ⟨("Play", some "__init__"), "__init__", "Play.__init__", defArgs s_Play_init, defBody s_Play_init, defScope s_Play_init, [], []⟩
def D_Play_names : He.DefD := ⟨("Play", some "names"), "names", "Play.names", defArgs s_Play_names, defBody s_Play_names, defScope s_Play_names, [], []⟩
def D_Play_taken : He.DefD := ⟨("Play", some "taken"), "taken", "Play.taken", defArgs s_Play_taken, defBody s_Play_taken, defScope s_Play_taken, [], []⟩
def D_Play_party_of : He.DefD := ⟨("Play", some "party_of"), "party_of", "Play.party_of", defArgs s_Play_party_of, defBody s_Play_party_of, defScope s_Play_party_of, [], []⟩
def D_Play_can : He.DefD := ⟨("Play", some "can"), "can", "Play.can", defArgs s_Play_can, defBody s_Play_can, defScope s_Play_can, [], []⟩
def D_Play_rests : He.DefD := ⟨("Play", some "rests"), "rests", "Play.rests", defArgs s_Play_rests, defBody s_Play_rests, defScope s_Play_rests, [], []⟩
def D_Play_check_place : He.DefD := ⟨("Play", some "check_place"), "check_place", "Play.check_place", defArgs s_Play_check_place, defBody s_Play_check_place, defScope s_Play_check_place, [], []⟩
def D_Play_check_room : He.DefD := ⟨("Play", some "check_room"), "check_room", "Play.check_room", defArgs s_Play_check_room, defBody s_Play_check_room, defScope s_Play_check_room, [], []⟩
def D_Play_do : He.DefD := ⟨("Play", some "do"), "do", "Play.do", defArgs s_Play_do, defBody s_Play_do, defScope s_Play_do, [], []⟩
def D_Play_act : He.DefD := ⟨("Play", some "act"), "act", "Play.act", defArgs s_Play_act, defBody s_Play_act, defScope s_Play_act, [], []⟩
def D_Play_empty_net : He.DefD := ⟨("Play", some "empty_net"), "empty_net", "Play.empty_net", defArgs s_Play_empty_net, defBody s_Play_empty_net, defScope s_Play_empty_net, [], []⟩
def D_Play_offer : He.DefD := ⟨("Play", some "offer"), "offer", "Play.offer", defArgs s_Play_offer, defBody s_Play_offer, defScope s_Play_offer, [], []⟩
def D_play_of : He.DefD := ⟨("play_of", none), "play_of", "play_of", defArgs s_play_of, defBody s_play_of, defScope s_play_of, [], []⟩
def D_law_state : He.DefD := ⟨("_law_state", none), "_law_state", "_law_state", defArgs s_law_state, defBody s_law_state, defScope s_law_state, [], []⟩
def D_law_draw : He.DefD := ⟨("_law_draw", none), "_law_draw", "_law_draw", defArgs s_law_draw, defBody s_law_draw, defScope s_law_draw, [], []⟩
def D_law_name : He.DefD := ⟨("_law_name", none), "_law_name", "_law_name", defArgs s_law_name, defBody s_law_name, defScope s_law_name, [], []⟩
def D_law_names : He.DefD := ⟨("_law_names", none), "_law_names", "_law_names", defArgs s_law_names, defBody s_law_names, defScope s_law_names, [], []⟩
def D_law_table : He.DefD := ⟨("_law_table", none), "_law_table", "_law_table", defArgs s_law_table, defBody s_law_table, defScope s_law_table, [], []⟩
def D_law_edge : He.DefD := ⟨("_law_edge", none), "_law_edge", "_law_edge", defArgs s_law_edge, defBody s_law_edge, defScope s_law_edge, [], []⟩
def D_law_step : He.DefD := ⟨("_law_step", none), "_law_step", "_law_step", defArgs s_law_step, defBody s_law_step, defScope s_law_step, [], []⟩
def D_law_walk : He.DefD := ⟨("_law_walk", none), "_law_walk", "_law_walk", defArgs s_law_walk, defBody s_law_walk, defScope s_law_walk, [], []⟩
def D_law_told : He.DefD := ⟨("_law_told", none), "_law_told", "_law_told", defArgs s_law_told, defBody s_law_told, defScope s_law_told, [], []⟩
def D_law_follows : He.DefD := ⟨("_law_follows", none), "_law_follows", "_law_follows", defArgs s_law_follows, defBody s_law_follows, defScope s_law_follows, [], []⟩
def D_law : He.DefD := ⟨("law", none), "law", "law", defArgs s_law, defBody s_law, defScope s_law, [], []⟩
def fn : List He.DefD := [D_grouped, D_subset_table, D_refined_classes, D_alike_classes, D_least, D_next_state, D_parties_of, D_concerns, D_view, D_reached_unseen, D_erased, D_machine_of, D_machines_of, D_next_joint, D_joint_states, D_seen_alike, D_states_by_party, D_sends_at, D_stray_at, D_idle_at, D_check, D_sum_of, D_record, D_Party_init, D_Party_offers, D_Party_rests, D_Party_has, D_Party_can, D_Party_settled, D_Party_carry_out, D_Party_entry_of_act, D_Party_entry_of_message, D_Party_post, D_Party_take, D_Party_withdraw, D_Party_again, D_Party_hear, D_addressee, D_Play_init, D_Play_names, D_Play_taken, D_Play_party_of, D_Play_can, D_Play_rests, D_Play_check_place, D_Play_check_room, D_Play_do, D_Play_act, D_Play_empty_net, D_Play_offer, D_play_of, D_law_state, D_law_draw, D_law_name, D_law_names, D_law_table, D_law_edge, D_law_step, D_law_walk, D_law_told, D_law_follows, D_law]
def fa : List He.Fa := [.glo "grouped",
  .glo "subset_table",
  .glo "refined_classes",
  .glo "alike_classes",
  .glo "least",
  .glo "next_state",
  .glo "parties_of",
  .glo "concerns",
  .glo "view",
  .glo "reached_unseen",
  .glo "erased",
  .glo "machine_of",
  .glo "machines_of",
  .glo "next_joint",
  .glo "joint_states",
  .glo "seen_alike",
  .glo "states_by_party",
  .glo "sends_at",
  .glo "stray_at",
  .glo "idle_at",
  .glo "check",
  .glo "sum_of",
  .glo "record",
  .glo "addressee",
  .glo "play_of",
  .glo "_law_state",
  .glo "_law_draw",
  .glo "_law_name",
  .glo "_law_names",
  .glo "_law_table",
  .glo "_law_edge",
  .glo "_law_step",
  .glo "_law_walk",
  .glo "_law_told",
  .glo "_law_follows",
  .glo "law",
  .glo "Party",
  .glo "Play",
  .glo "TooLarge",
  .free "dict",
  .free "enumerate",
  .free "int",
  .free "len",
  .free "list",
  .free "ord",
  .free "range",
  .free "set",
  .free "sorted",
  .free "str",
  .free "tuple",
  .int "MOST_STATES" 300,
  .int "MOST_JOINT" 3000,
  .int "START" 7,
  .int "FACTOR" 31,
  .int "MODULUS" 9973,
  .int "MOST_MESSAGES" 200,
  .cls "Party",
  .mkr "Party",
  .noat "Party" "_name",
  .noat "Party" "_machine",
  .noat "Party" "_state",
  .noat "Party" "_posted",
  .noat "Party" "_settled",
  .noat "Party" "_waiting",
  .noat "Party" "_withdrawing",
  .noat "Party" "_offers",
  .noat "Party" "_journal",
  .cls "Play",
  .mkr "Play",
  .noat "Play" "_machines",
  .noat "Play" "_parties",
  .noat "Play" "_net",
  .noat "Play" "_taken",
  .meth "Party" "offers",
  .meth "Party" "rests",
  .meth "Party" "has",
  .meth "Party" "can",
  .meth "Party" "settled",
  .meth "Party" "carry_out",
  .meth "Party" "entry_of_act",
  .meth "Party" "entry_of_message",
  .meth "Party" "post",
  .meth "Party" "take",
  .meth "Party" "withdraw",
  .meth "Party" "again",
  .meth "Party" "hear",
  .meth "Play" "names",
  .meth "Play" "taken",
  .meth "Play" "party_of",
  .meth "Play" "can",
  .meth "Play" "rests",
  .meth "Play" "check_place",
  .meth "Play" "check_room",
  .meth "Play" "do",
  .meth "Play" "act",
  .meth "Play" "empty_net",
  .meth "Play" "offer",
  .exc "TooLarge",
  .exm "TooLarge" "TooLarge" true]
def names : List Str := (["_wall", "PactError", "TooLarge", "NotPossible", "MOST_STATES", "grouped", "subset_table", "refined_classes", "alike_classes", "least", "next_state", "parties_of", "concerns", "view", "reached_unseen", "erased", "machine_of", "machines_of", "MOST_JOINT", "next_joint"] : List Str) ++ (["joint_states", "seen_alike", "states_by_party", "sends_at", "stray_at", "idle_at", "check", "KINDS", "DIGITS", "MOST_DIGITS", "START", "FACTOR", "MODULUS", "sum_of", "record", "is_number", "parsed", "read_records", "Party", "text_of"] : List Str) ++ (["ascends", "sorted_summary", "summary_length", "recover", "MOST_MESSAGES", "addressee", "Play", "play_of", "_law_state", "_law_draw", "_law_name", "_law_names", "_law_table", "_law_edge", "_law_step", "_law_walk", "_law_view", "_law_told", "_law_follows"] : List Str)
abbrev R : PySem.W.OpenRow := PySem.W.OpenLaw.row PySem.Challenge.rw_pactloom_k56_whole_refused_protocols_go
abbrev hk : PySem.W.Hook := He.hookD 5 fa fn
def ob (s : PySem.W.SharedT) : He.AlD := He.obsDG 5 fa fn (HandSHeadRun.getT s)
theorem ob_eq (s : PySem.W.SharedT) : ob s = hk.obs s.abs := He.obsDG_eq (HandSHeadRun.getT_eq s)
theorem run (w : World) : HandSHeadRun.RunEq R (PySem.W.view R.prog [68]) hk ob 4000 names w := by
  intro os
  kernel_rfl
theorem txt_of {K : PySem.W.Frag} {h : Heap} {mg : Str → Option Value} (X : K.In h) (G : h.Ns mainGlobals mg) (c : He.SaysD fa fn K) : Txt K mg where
  d_grouped := c.def_ 0 (d := D_grouped) rfl
  d_subset_table := c.def_ 1 (d := D_subset_table) rfl
  d_refined_classes := c.def_ 2 (d := D_refined_classes) rfl
  d_alike_classes := c.def_ 3 (d := D_alike_classes) rfl
  d_least := c.def_ 4 (d := D_least) rfl
  d_next_state := c.def_ 5 (d := D_next_state) rfl
  d_parties_of := c.def_ 6 (d := D_parties_of) rfl
  d_concerns := c.def_ 7 (d := D_concerns) rfl
  d_view := c.def_ 8 (d := D_view) rfl
  d_reached_unseen := c.def_ 9 (d := D_reached_unseen) rfl
  d_erased := c.def_ 10 (d := D_erased) rfl
  d_machine_of := c.def_ 11 (d := D_machine_of) rfl
  d_machines_of := c.def_ 12 (d := D_machines_of) rfl
  d_next_joint := c.def_ 13 (d := D_next_joint) rfl
  d_joint_states := c.def_ 14 (d := D_joint_states) rfl
  d_seen_alike := c.def_ 15 (d := D_seen_alike) rfl
  d_states_by_party := c.def_ 16 (d := D_states_by_party) rfl
  d_sends_at := c.def_ 17 (d := D_sends_at) rfl
  d_stray_at := c.def_ 18 (d := D_stray_at) rfl
  d_idle_at := c.def_ 19 (d := D_idle_at) rfl
  d_check := c.def_ 20 (d := D_check) rfl
  d_sum_of := c.def_ 21 (d := D_sum_of) rfl
  d_record := c.def_ 22 (d := D_record) rfl
  d_Party_init := c.def_ 23 (d := D_Party_init) rfl
  d_Party_offers := c.def_ 24 (d := D_Party_offers) rfl
  d_Party_rests := c.def_ 25 (d := D_Party_rests) rfl
  d_Party_has := c.def_ 26 (d := D_Party_has) rfl
  d_Party_can := c.def_ 27 (d := D_Party_can) rfl
  d_Party_settled := c.def_ 28 (d := D_Party_settled) rfl
  d_Party_carry_out := c.def_ 29 (d := D_Party_carry_out) rfl
  d_Party_entry_of_act := c.def_ 30 (d := D_Party_entry_of_act) rfl
  d_Party_entry_of_message := c.def_ 31 (d := D_Party_entry_of_message) rfl
  d_Party_post := c.def_ 32 (d := D_Party_post) rfl
  d_Party_take := c.def_ 33 (d := D_Party_take) rfl
  d_Party_withdraw := c.def_ 34 (d := D_Party_withdraw) rfl
  d_Party_again := c.def_ 35 (d := D_Party_again) rfl
  d_Party_hear := c.def_ 36 (d := D_Party_hear) rfl
  d_addressee := c.def_ 37 (d := D_addressee) rfl
  d_Play_init := c.def_ 38 (d := D_Play_init) rfl
  d_Play_names := c.def_ 39 (d := D_Play_names) rfl
  d_Play_taken := c.def_ 40 (d := D_Play_taken) rfl
  d_Play_party_of := c.def_ 41 (d := D_Play_party_of) rfl
  d_Play_can := c.def_ 42 (d := D_Play_can) rfl
  d_Play_rests := c.def_ 43 (d := D_Play_rests) rfl
  d_Play_check_place := c.def_ 44 (d := D_Play_check_place) rfl
  d_Play_check_room := c.def_ 45 (d := D_Play_check_room) rfl
  d_Play_do := c.def_ 46 (d := D_Play_do) rfl
  d_Play_act := c.def_ 47 (d := D_Play_act) rfl
  d_Play_empty_net := c.def_ 48 (d := D_Play_empty_net) rfl
  d_Play_offer := c.def_ 49 (d := D_Play_offer) rfl
  d_play_of := c.def_ 50 (d := D_play_of) rfl
  d_law_state := c.def_ 51 (d := D_law_state) rfl
  d_law_draw := c.def_ 52 (d := D_law_draw) rfl
  d_law_name := c.def_ 53 (d := D_law_name) rfl
  d_law_names := c.def_ 54 (d := D_law_names) rfl
  d_law_table := c.def_ 55 (d := D_law_table) rfl
  d_law_edge := c.def_ 56 (d := D_law_edge) rfl
  d_law_step := c.def_ 57 (d := D_law_step) rfl
  d_law_walk := c.def_ 58 (d := D_law_walk) rfl
  d_law_told := c.def_ 59 (d := D_law_told) rfl
  d_law_follows := c.def_ 60 (d := D_law_follows) rfl
  d_law := c.def_ 61 (d := D_law) rfl
  g_grouped := He.glo_ok X G (c.fact 0 (f := .glo "grouped") rfl)
  g_subset_table := He.glo_ok X G (c.fact 1 (f := .glo "subset_table") rfl)
  g_refined_classes := He.glo_ok X G (c.fact 2 (f := .glo "refined_classes") rfl)
  g_alike_classes := He.glo_ok X G (c.fact 3 (f := .glo "alike_classes") rfl)
  g_least := He.glo_ok X G (c.fact 4 (f := .glo "least") rfl)
  g_next_state := He.glo_ok X G (c.fact 5 (f := .glo "next_state") rfl)
  g_parties_of := He.glo_ok X G (c.fact 6 (f := .glo "parties_of") rfl)
  g_concerns := He.glo_ok X G (c.fact 7 (f := .glo "concerns") rfl)
  g_view := He.glo_ok X G (c.fact 8 (f := .glo "view") rfl)
  g_reached_unseen := He.glo_ok X G (c.fact 9 (f := .glo "reached_unseen") rfl)
  g_erased := He.glo_ok X G (c.fact 10 (f := .glo "erased") rfl)
  g_machine_of := He.glo_ok X G (c.fact 11 (f := .glo "machine_of") rfl)
  g_machines_of := He.glo_ok X G (c.fact 12 (f := .glo "machines_of") rfl)
  g_next_joint := He.glo_ok X G (c.fact 13 (f := .glo "next_joint") rfl)
  g_joint_states := He.glo_ok X G (c.fact 14 (f := .glo "joint_states") rfl)
  g_seen_alike := He.glo_ok X G (c.fact 15 (f := .glo "seen_alike") rfl)
  g_states_by_party := He.glo_ok X G (c.fact 16 (f := .glo "states_by_party") rfl)
  g_sends_at := He.glo_ok X G (c.fact 17 (f := .glo "sends_at") rfl)
  g_stray_at := He.glo_ok X G (c.fact 18 (f := .glo "stray_at") rfl)
  g_idle_at := He.glo_ok X G (c.fact 19 (f := .glo "idle_at") rfl)
  g_check := He.glo_ok X G (c.fact 20 (f := .glo "check") rfl)
  g_sum_of := He.glo_ok X G (c.fact 21 (f := .glo "sum_of") rfl)
  g_record := He.glo_ok X G (c.fact 22 (f := .glo "record") rfl)
  g_addressee := He.glo_ok X G (c.fact 23 (f := .glo "addressee") rfl)
  g_play_of := He.glo_ok X G (c.fact 24 (f := .glo "play_of") rfl)
  g_law_state := He.glo_ok X G (c.fact 25 (f := .glo "_law_state") rfl)
  g_law_draw := He.glo_ok X G (c.fact 26 (f := .glo "_law_draw") rfl)
  g_law_name := He.glo_ok X G (c.fact 27 (f := .glo "_law_name") rfl)
  g_law_names := He.glo_ok X G (c.fact 28 (f := .glo "_law_names") rfl)
  g_law_table := He.glo_ok X G (c.fact 29 (f := .glo "_law_table") rfl)
  g_law_edge := He.glo_ok X G (c.fact 30 (f := .glo "_law_edge") rfl)
  g_law_step := He.glo_ok X G (c.fact 31 (f := .glo "_law_step") rfl)
  g_law_walk := He.glo_ok X G (c.fact 32 (f := .glo "_law_walk") rfl)
  g_law_told := He.glo_ok X G (c.fact 33 (f := .glo "_law_told") rfl)
  g_law_follows := He.glo_ok X G (c.fact 34 (f := .glo "_law_follows") rfl)
  g_law := He.glo_ok X G (c.fact 35 (f := .glo "law") rfl)
  g_Party := He.glo_ok X G (c.fact 36 (f := .glo "Party") rfl)
  g_Play := He.glo_ok X G (c.fact 37 (f := .glo "Play") rfl)
  g_TooLarge := He.glo_ok X G (c.fact 38 (f := .glo "TooLarge") rfl)
  n_dict := He.free_ok X G (c.fact 39 (f := .free "dict") rfl)
  n_enumerate := He.free_ok X G (c.fact 40 (f := .free "enumerate") rfl)
  n_int := He.free_ok X G (c.fact 41 (f := .free "int") rfl)
  n_len := He.free_ok X G (c.fact 42 (f := .free "len") rfl)
  n_list := He.free_ok X G (c.fact 43 (f := .free "list") rfl)
  n_ord := He.free_ok X G (c.fact 44 (f := .free "ord") rfl)
  n_range := He.free_ok X G (c.fact 45 (f := .free "range") rfl)
  n_set := He.free_ok X G (c.fact 46 (f := .free "set") rfl)
  n_sorted := He.free_ok X G (c.fact 47 (f := .free "sorted") rfl)
  n_str := He.free_ok X G (c.fact 48 (f := .free "str") rfl)
  n_tuple := He.free_ok X G (c.fact 49 (f := .free "tuple") rfl)
  i_MOST_STATES := He.int_ok X G (c.fact 50 (f := .int "MOST_STATES" 300) rfl)
  i_MOST_JOINT := He.int_ok X G (c.fact 51 (f := .int "MOST_JOINT" 3000) rfl)
  i_START := He.int_ok X G (c.fact 52 (f := .int "START" 7) rfl)
  i_FACTOR := He.int_ok X G (c.fact 53 (f := .int "FACTOR" 31) rfl)
  i_MODULUS := He.int_ok X G (c.fact 54 (f := .int "MODULUS" 9973) rfl)
  i_MOST_MESSAGES := He.int_ok X G (c.fact 55 (f := .int "MOST_MESSAGES" 200) rfl)
  c_Party := He.cls_ok (c.fact 56 (f := .cls "Party") rfl)
  m_Party := He.mkr_ok (c.fact 57 (f := .mkr "Party") rfl)
  a_Party__name := He.noat_ok (c.fact 58 (f := .noat "Party" "_name") rfl)
  a_Party__machine := He.noat_ok (c.fact 59 (f := .noat "Party" "_machine") rfl)
  a_Party__state := He.noat_ok (c.fact 60 (f := .noat "Party" "_state") rfl)
  a_Party__posted := He.noat_ok (c.fact 61 (f := .noat "Party" "_posted") rfl)
  a_Party__settled := He.noat_ok (c.fact 62 (f := .noat "Party" "_settled") rfl)
  a_Party__waiting := He.noat_ok (c.fact 63 (f := .noat "Party" "_waiting") rfl)
  a_Party__withdrawing := He.noat_ok (c.fact 64 (f := .noat "Party" "_withdrawing") rfl)
  a_Party__offers := He.noat_ok (c.fact 65 (f := .noat "Party" "_offers") rfl)
  a_Party__journal := He.noat_ok (c.fact 66 (f := .noat "Party" "_journal") rfl)
  c_Play := He.cls_ok (c.fact 67 (f := .cls "Play") rfl)
  m_Play := He.mkr_ok (c.fact 68 (f := .mkr "Play") rfl)
  a_Play__machines := He.noat_ok (c.fact 69 (f := .noat "Play" "_machines") rfl)
  a_Play__parties := He.noat_ok (c.fact 70 (f := .noat "Play" "_parties") rfl)
  a_Play__net := He.noat_ok (c.fact 71 (f := .noat "Play" "_net") rfl)
  a_Play__taken := He.noat_ok (c.fact 72 (f := .noat "Play" "_taken") rfl)
  m_Party_offers := He.meth_ok (c.fact 73 (f := .meth "Party" "offers") rfl)
  m_Party_rests := He.meth_ok (c.fact 74 (f := .meth "Party" "rests") rfl)
  m_Party_has := He.meth_ok (c.fact 75 (f := .meth "Party" "has") rfl)
  m_Party_can := He.meth_ok (c.fact 76 (f := .meth "Party" "can") rfl)
  m_Party_settled := He.meth_ok (c.fact 77 (f := .meth "Party" "settled") rfl)
  m_Party_carry_out := He.meth_ok (c.fact 78 (f := .meth "Party" "carry_out") rfl)
  m_Party_entry_of_act := He.meth_ok (c.fact 79 (f := .meth "Party" "entry_of_act") rfl)
  m_Party_entry_of_message := He.meth_ok (c.fact 80 (f := .meth "Party" "entry_of_message") rfl)
  m_Party_post := He.meth_ok (c.fact 81 (f := .meth "Party" "post") rfl)
  m_Party_take := He.meth_ok (c.fact 82 (f := .meth "Party" "take") rfl)
  m_Party_withdraw := He.meth_ok (c.fact 83 (f := .meth "Party" "withdraw") rfl)
  m_Party_again := He.meth_ok (c.fact 84 (f := .meth "Party" "again") rfl)
  m_Party_hear := He.meth_ok (c.fact 85 (f := .meth "Party" "hear") rfl)
  m_Play_names := He.meth_ok (c.fact 86 (f := .meth "Play" "names") rfl)
  m_Play_taken := He.meth_ok (c.fact 87 (f := .meth "Play" "taken") rfl)
  m_Play_party_of := He.meth_ok (c.fact 88 (f := .meth "Play" "party_of") rfl)
  m_Play_can := He.meth_ok (c.fact 89 (f := .meth "Play" "can") rfl)
  m_Play_rests := He.meth_ok (c.fact 90 (f := .meth "Play" "rests") rfl)
  m_Play_check_place := He.meth_ok (c.fact 91 (f := .meth "Play" "check_place") rfl)
  m_Play_check_room := He.meth_ok (c.fact 92 (f := .meth "Play" "check_room") rfl)
  m_Play_do := He.meth_ok (c.fact 93 (f := .meth "Play" "do") rfl)
  m_Play_act := He.meth_ok (c.fact 94 (f := .meth "Play" "act") rfl)
  m_Play_empty_net := He.meth_ok (c.fact 95 (f := .meth "Play" "empty_net") rfl)
  m_Play_offer := He.meth_ok (c.fact 96 (f := .meth "Play" "offer") rfl)
  x_TooLarge := He.exc_ok (c.fact 97 (f := .exc "TooLarge") rfl)
  e_TooLarge := He.exm_ok (c.fact 98 (f := .exm "TooLarge" "TooLarge" true) rfl)
end Pk
set_option Elab.async false
set_option linter.all false
set_option maxRecDepth 100000
set_option maxHeartbeats 2000000
/-! Rules of our own, 1: calls of defs that hold a promise; data that stays; sorted over data; raise X(). -/
namespace Pk
open PySem PySem.Spec PyProof.Rows L2

/-! ### defs that hold a promise, by name -/
structure Ok (P : Program) (w : World) (K : PySem.W.Frag) (mg : Str → Option Value) (base : Heap) (CX : CXT) (x : Str) (k : Nat) (ps : List Str) (sp : Sp) : Prop where
  out : ∃ f fd, FnOk P w K mg base CX k f fd ps sp ∧ mg x = some (.ref f) ∧ PySem.W.keepIn K (.ref f) = true ∧ Binds K fd ps []
structure OkM (P : Program) (w : World) (K : PySem.W.Frag) (mg : Str → Option Value) (base : Heap) (CX : CXT) (C : Addr) (m : Str) (k : Nat) (ps : List Str) (sp : Sp) : Prop where
  cls : Cls K C
  out : ∃ f fd, FnOk P w K mg base CX k f fd ps sp ∧ Meth K C m f ∧ Binds K fd ps []
theorem Ok.up {P : Program} {w : World} {K : PySem.W.Frag} {mg : Str → Option Value} {base : Heap} {CX : CXT} {x : Str} {j k : Nat} {ps : List Str} {sp : Sp} (O : Ok P w K mg base CX x j ps sp) (h : j ≤ k) : Ok P w K mg base CX x k ps sp :=
  let ⟨f, fd, G, r⟩ := O.out
  ⟨f, fd, G.mono h, r⟩
section
variable {X : Cx} {x m : Str} {k : Nat} {ps : List Str} {sp : Sp} {p pos apos : Pos} {e o : Expr} {es : List Expr} {t : TA} {ta : TE} {C : Addr}
theorem pe_cl (O : Ok X.prog X.w X.K X.mg X.base CX0 x k ps sp) (hr : Room k X.A) (ha : PA X (e :: es) t) (hg : Gl X x := by rfl) (hdb : (x == ("__debug__" : Str)) = false := by decide)
    (he : starEach (e :: es) X.env = (false, eval e X.env) :: starEach es X.env := by rfl) (hpl : (backTo pos (starEach es X.env)).any (·.1) = false := by rfl) : PE X (.Call (.Name x p) (e :: es) [] pos) (tCall sp [] E0 t) := by
  obtain ⟨f, fd, G, hm, hk, hb⟩ := O.out
  exact pe_call G hr hg hm hk hb .nil pass0 ha hdb he hpl
theorem pe_clX {E : XK} (O : Ok X.prog X.w X.K X.mg X.base (L2.CX X.prog X.w) x k ps sp) (hx : Passes (L2.CX X.prog X.w) X E) (hr : Room k X.A) (ha : PA X (e :: es) t) (hg : Gl X x := by rfl) (hdb : (x == ("__debug__" : Str)) = false := by decide)
    (he : starEach (e :: es) X.env = (false, eval e X.env) :: starEach es X.env := by rfl) (hpl : (backTo pos (starEach es X.env)).any (·.1) = false := by rfl) : PE X (.Call (.Name x p) (e :: es) [] pos) (tCall sp [] E t) := by
  obtain ⟨f, fd, G, hm, hk, hb⟩ := O.out
  exact pe_call G hr hg hm hk hb .nil hx ha hdb he hpl
theorem pe_clS {E : L2.St → XK} (O : Ok X.prog X.w X.K X.mg X.base (L2.CX X.prog X.w) x k ps sp) (hx : ∀ σ, PassesAt (L2.CX X.prog X.w) X σ (E σ)) (hr : Room k X.A) (ha : PA X (e :: es) t) (hg : Gl X x := by rfl) (hdb : (x == ("__debug__" : Str)) = false := by decide)
    (he : starEach (e :: es) X.env = (false, eval e X.env) :: starEach es X.env := by rfl) (hpl : (backTo pos (starEach es X.env)).any (·.1) = false := by rfl) : PE X (.Call (.Name x p) (e :: es) [] pos) (tCallS sp E t) := by
  obtain ⟨f, fd, G, hm, hk, hb⟩ := O.out
  exact pe_callS G hr hg hm hk hb hx ha hdb he hpl
theorem pe_mt {pl : Sem Bool} (O : OkM X.prog X.w X.K X.mg X.base CX0 C m k ps sp) (hr : Room k X.A) (he : PE X o ta) (ha : PA X (e :: es) t)
    (hst : starEach (e :: es) X.env = (false, eval e X.env) :: starEach es X.env := by rfl) (hpl : (backTo pos (starEach es X.env)).any (·.1) = false := by rfl)
    (ht : eval (.Call (.Attribute o m apos) (e :: es) [] pos) X.env = (do
      let ov ← eval o X.env
      standAt apos.atName
      let (f, first) ← holding [ov] (getMethod ov m pl)
      callWith pos f first (backTo pos (starEach (e :: es) X.env)) (backToKw pos (keywordEach [] X.env))) := by rfl) : PE X (.Call (.Attribute o m apos) (e :: es) [] pos) (tMeth C m sp [] E0 ta t) := by
  obtain ⟨f, fd, G, hm, hb⟩ := O.out
  exact pe_meth (pl := pl) he O.cls hm G hr hb .nil pass0 ha hst hpl ht
theorem pe_mt0 {pl : Sem Bool} (O : OkM X.prog X.w X.K X.mg X.base CX0 C m k ps sp) (hr : Room k X.A) (he : PE X o ta)
    (ht : eval (.Call (.Attribute o m apos) [] [] pos) X.env = (do
      let ov ← eval o X.env
      standAt apos.atName
      let (f, first) ← holding [ov] (getMethod ov m pl)
      callWith pos f first (backTo pos (starEach [] X.env)) (backToKw pos (keywordEach [] X.env))) := by rfl) : PE X (.Call (.Attribute o m apos) [] [] pos) (tMeth C m sp [] E0 ta tNil) := by
  obtain ⟨f, fd, G, hm, hb⟩ := O.out
  exact pe_meth0 (pl := pl) he O.cls hm G hr hb .nil pass0 ht
end

/-! ### what stays -/
theorem same_new {H : Hp} {p : Addr} {o : HO} (h : H p = none) : Same H (upd H p o) := fun a u e => by
  rw [upd_ne (ne_of_none e h)]
  exact e
/-- an object that was not there at first may change -/
theorem same_put {H H' : Hp} {p : Addr} {o : HO} (e : Same H H') (h : H p = none) : Same H (upd H' p o) := fun a u ha => by
  rw [upd_ne (ne_of_none ha h)]
  exact e a u ha
theorem same_t {K : PySem.W.Frag} {H H' : Hp} {a : Addr} {xs : List V} (e : Same H H') (h : SqT K H a xs) : SqT K H' a xs := by
  rcases h with (h | ⟨o, h⟩) | h
  · exact .inl (.inl (e _ _ h))
  · exact .inl (.inr ⟨o, e _ _ h⟩)
  · exact .inr h
mutual
theorem dp_mono {K : PySem.W.Frag} {H H' : Hp} (e : Same H H') : ∀ {d : PyData} {v : V}, Dp K H v d → Dp K H' v d
  | .none, _, h => by cases h; exact .non
  | .bool _, _, h => by cases h; exact .bl _
  | .int _, _, h => by cases h; exact .int _
  | .str _, _, h => by cases h; exact .str _
  | .list ds, _, h => by
    cases h with
    | lst a b => exact .lst (e.seq a) (dpAll_mono e b)
  | .tuple ds, _, h => by
    cases h with
    | tup a b => exact .tup (same_t e a) (dpAll_mono e b)
  | .dict _, _, h => by cases h
theorem dpAll_mono {K : PySem.W.Frag} {H H' : Hp} (e : Same H H') : ∀ {ds : List PyData} {vs : List V}, DpAll K H vs ds → DpAll K H' vs ds
  | [], _, h => by cases h; exact .nil
  | d :: ds, _, h => by
    cases h with
    | cons a b => exact .cons (dp_mono e a) (dpAll_mono e b)
end
section
variable {K : PySem.W.Frag} {H : Hp}
theorem dpAll_len : ∀ {ds : List PyData} {vs : List V}, DpAll K H vs ds → vs.length = ds.length
  | [], _, h => by cases h; rfl
  | d :: ds, _, h => by
    cases h with
    | cons a b => rw [List.length_cons, List.length_cons, dpAll_len b]
theorem dpAll_get : ∀ {ds : List PyData} {vs : List V} {i : Nat} {d : PyData}, DpAll K H vs ds → ds[i]? = some d → ∃ v, vs[i]? = some v ∧ Dp K H v d
  | [], _, _, _, _, q => by simp at q
  | d :: ds, _, 0, d', h, q => by
    cases h with
    | cons a b =>
      cases (show some d = some d' from q)
      exact ⟨_, rfl, a⟩
  | d :: ds, _, i + 1, d', h, q => by
    cases h with
    | cons a b =>
      obtain ⟨v, q1, q2⟩ := dpAll_get (i := i) (d := d') b q
      exact ⟨v, q1, q2⟩
theorem dpAll_at : ∀ {ds : List PyData} {vs : List V} {i : Nat} {v : V}, DpAll K H vs ds → vs[i]? = some v → ∃ d, ds[i]? = some d ∧ Dp K H v d
  | ds, [], _, _, h, q => by simp at q
  | ds, u :: vs, 0, v, h, q => by
    cases h with
    | cons a b =>
      cases (show some u = some v from q)
      exact ⟨_, rfl, a⟩
  | ds, u :: vs, i + 1, v, h, q => by
    cases h with
    | cons a b =>
      obtain ⟨d, q1, q2⟩ := dpAll_at (i := i) (v := v) b q
      exact ⟨d, q1, q2⟩
theorem dpAll_app : ∀ {ds es : List PyData} {vs us : List V}, DpAll K H vs ds → DpAll K H us es → DpAll K H (vs ++ us) (ds ++ es)
  | [], _, _, _, h, q => by cases h; exact q
  | d :: ds, _, _, _, h, q => by
    cases h with
    | cons a b => exact .cons a (dpAll_app b q)
theorem dp_tup {v : V} {ds : List PyData} (h : Dp K H v (.tuple ds)) : ∃ a vs, v = .ref a ∧ SqT K H a vs ∧ DpAll K H vs ds := by
  cases h with
  | tup a b => exact ⟨_, _, rfl, a, b⟩
theorem dp_lst {v : V} {ds : List PyData} (h : Dp K H v (.list ds)) : ∃ a vs, v = .ref a ∧ SqL K H a vs ∧ DpAll K H vs ds := by
  cases h with
  | lst a b => exact ⟨_, _, rfl, a, b⟩
theorem dp_int {v : V} {i : Int} (h : Dp K H v (.int i)) : v = .int i := by
  cases h
  rfl
theorem dp_str {v : V} {i : Str} (h : Dp K H v (.str i)) : v = .str i := by
  cases h
  rfl
theorem dp_bl {v : V} {i : Bool} (h : Dp K H v (.bool i)) : v = .bl i := by
  cases h
  rfl
theorem dpAll_ints : ∀ (ns : List Int), DpAll K H (ns.map V.int) (ns.map PyData.int)
  | [] => .nil
  | n :: ns => .cons (.int n) (dpAll_ints ns)
theorem of_dpAll_ints : ∀ {ns : List Int} {vs : List V}, DpAll K H vs (ns.map PyData.int) → vs = ns.map V.int
  | [], _, h => by cases h; rfl
  | n :: ns, _, h => by
    cases (show DpAll K H _ (PyData.int n :: ns.map PyData.int) from h) with
    | cons a b => rw [dp_int a, of_dpAll_ints b] <;> rfl
theorem of_dpAll_bls : ∀ {ns : List Bool} {vs : List V}, DpAll K H vs (ns.map PyData.bool) → vs = ns.map V.bl
  | [], _, h => by cases h; rfl
  | n :: ns, _, h => by
    cases (show DpAll K H _ (PyData.bool n :: ns.map PyData.bool) from h) with
    | cons a b => rw [dp_bl a, of_dpAll_bls b] <;> rfl
theorem dpAll_bls : ∀ (ns : List Bool), DpAll K H (ns.map V.bl) (ns.map PyData.bool)
  | [] => .nil
  | n :: ns => .cons (.bl n) (dpAll_bls ns)
end

/-! ### sorted over data -/
section
variable {β : Type} {enc : β → PyData} {X : Cx} {pins : List (Addr × Obj)} {σ : L2.St} {H : Hp} {s : Shared}
/-- the value v stands for data d in H -/
def Std (K : PySem.W.Frag) (H : Hp) (u : Value) (d : PyData) : Prop := ∃ x, RelV x u ∧ Dp K H x d
theorem each_std {K : PySem.W.Frag} : ∀ {bs : List β} {vs : List V} {us : List Value}, DpAll K H vs (bs.map enc) → Vals vs us → PySem.W.EachIs (fun u b => Std K H u (enc b)) us bs
  | [], _, _, h, r => by
    cases (show DpAll K H _ [] from h)
    cases r
    exact .nil
  | b :: bs, _, _, h, r => by
    cases (show DpAll K H _ (enc b :: bs.map enc) from h) with
    | cons a c =>
      cases r with
      | cons r1 r2 => exact .cons ⟨_, r1, a⟩ (each_std c r2)
theorem of_each_std {K : PySem.W.Frag} : ∀ {bs : List β} {us : List Value}, PySem.W.EachIs (fun u b => Std K H u (enc b)) us bs → ∃ vs, Vals vs us ∧ DpAll K H vs (bs.map enc)
  | _, _, .nil => ⟨[], .nil, .nil⟩
  | _, _, .cons ⟨x, r, d⟩ t => by
    obtain ⟨vs, r2, d2⟩ := of_each_std t
    exact ⟨x :: vs, .cons r r2, .cons d d2⟩
/-- sorted(xs), xs a list of data of one kind -/
def rSortD (K : PySem.W.Frag) : List V → Hp → VK → Prop := fun vs H Q => ∃ (β : Type) (enc : β → PyData) (bs : List β) (a : Addr) (xs : List V), vs = [.ref a] ∧ SqL K H a xs ∧ DpAll K H xs (bs.map enc) ∧
  PySem.W.AllAlike (bs.map enc) ∧ PySem.W.Sortable (bs.map enc) ∧ (∀ b ∈ bs, (enc b).depth ≤ 60) ∧
  ∀ p ys, H p = none → DpAll K H ys ((bs.mergeSort (PySem.W.dataLe false enc)).map enc) → Q (.ref p) (upd H p (.lst ys))
theorem cr_sortD (hu : X.A.units + 64 < cLine) : CallR X (.builtin "sorted") (rSortD X.K) := by
  intro pins s σ H vs us Q I r h
  obtain ⟨β, enc, bs, a, xs, rfl, hs, hd, hal, hso, hdep, q⟩ := h
  obtain ⟨its, rv, hl, hz⟩ := I.list hs
  rw [Vals.ref1 r]
  have e := each_std hd rv
  have hlen : bs.length ≤ sizeLine := by
    have := dpAll_len hd
    rw [List.length_map] at this
    omega
  refine PySem.W.sorted_data hl.isList e (e.mono fun u b ⟨x, rx, dx⟩ => Dp.reads I (enc b) x u dx rx) hal hso hlen (fun b hb => by have := hdep b hb; omega) fun out ho eo => ?_
  obtain ⟨ys, ry, dy⟩ := of_each_std eo
  obtain ⟨ep, he'⟩ := PyProof.Rows.sortedAll_at s.heap its out.toArray
  have hy : ys.length ≤ sizeLine := by rw [ry.length, ho]; exact hlen
  exact ⟨.ref _, upd H (s.heap.objs.size + 1) (.lst ys), I.laid (t' := s.toks) (fun _ _ => PyProof.Rows.sortedAll_old) (Nat.le_succ _) ⟨hy, out, ep, ry, he'⟩, rfl, q _ ys (I.hok.fresh (Nat.le_succ _)) dy⟩
end

/-! ### sorted of a dict whose keys are tuples -/
def kdD : Key → PyData
  | .inl i => .int i
  | .inr x => .str x
theorem dp_key {K : PySem.W.Frag} {H : Hp} (k : Key) : Dp K H (kV k) (kdD k) := by
  cases k with
  | inl i => exact .int i
  | inr x => exact .str x
theorem dp_keys {K : PySem.W.Frag} {H : Hp} : ∀ ks : List Key, DpAll K H (ks.map kV) (ks.map kdD)
  | [] => .nil
  | k :: ks => .cons (dp_key k) (dp_keys ks)
/-- a key's tuple as data -/
def tkD (ks : List Key) : PyData := .tuple (ks.map kdD)
theorem dp_tk {K : PySem.W.Frag} {H : Hp} {ks : List Key} {a : Addr} (h : H a = some (.tup (ks.map kV))) : Dp K H (.ref a) (tkD ks) := .tup (SqT.of h) (dp_keys ks)
theorem dp_isKeys {K : PySem.W.Frag} {H : Hp} {kvs : List (List Key × V)} {bs : List Addr} (h : IsKeys H kvs bs) : DpAll K H (bs.map V.ref) (kvs.map fun p => tkD p.1) := by
  induction h with
  | nil => exact .nil
  | cons a b ih => exact .cons (dp_tk a) ih
mutual
theorem reads_lt {h : Heap} : ∀ (d : PyData) {v : Value} {as : List Addr}, PySem.W.alike d d = true → Reads h v d as → ∀ a ∈ as, a < h.objs.size
  | .none, _, _, _, r, _, m => by cases r; exact nomatch m
  | .bool _, _, _, _, r, _, m => by cases r; exact nomatch m
  | .int _, _, _, _, r, _, m => by cases r; exact nomatch m
  | .str _, _, _, _, r, _, m => by cases r; exact nomatch m
  | .list xs, _, _, ha, r, a, m => by
    cases r with
    | list h1 h2 h3 h4 =>
      rcases List.mem_cons.mp m with e | m
      · rw [e]; exact Heap.lt_size h1
      · exact readsAll_lt xs (by simpa [PySem.W.alike] using ha) h4 a m
  | .tuple xs, _, _, ha, r, a, m => by
    cases r with
    | tuple h1 h2 h3 h4 => exact readsAll_lt xs (by simpa [PySem.W.alike] using ha) h4 a m
  | .dict _, _, _, ha, _, _, _ => absurd ha (by simp [PySem.W.alike])
theorem readsAll_lt {h : Heap} : ∀ (ds : List PyData) {vs : List Value} {as : List Addr}, PySem.W.alikeAll ds ds = true → ReadsAll h vs ds as → ∀ a ∈ as, a < h.objs.size
  | [], _, _, _, r, _, m => by cases r; exact nomatch m
  | d :: ds, _, _, ha, r, a, m => by
    cases r with
    | cons h1 h2 =>
      have q := PySem.W.alike_all_cons ha
      rcases List.mem_append.mp m with m | m
      · exact reads_lt d q.1 h1 a m
      · exact readsAll_lt ds q.2 h2 a m
end
section
variable {X : Cx}
def rSortKT (K : PySem.W.Frag) : List V → Hp → VK → Prop := fun vs H Q => ∃ (β : Type) (enc : β → PyData) (bs : List β) (d : Addr) (kvs : List (List Key × V)), vs = [.ref d] ∧ Rd H d (.dT kvs) ∧ (kvs.map fun p => tkD p.1) = bs.map enc ∧
  PySem.W.AllAlike (bs.map enc) ∧ PySem.W.Sortable (bs.map enc) ∧ (∀ b ∈ bs, (enc b).depth ≤ 60) ∧
  ∀ p ys, H p = none → DpAll K H ys ((bs.mergeSort (PySem.W.dataLe false enc)).map enc) → Q (.ref p) (upd H p (.lst ys))
theorem cr_sortKT (hc : X.calm = true) (hu : X.A.units + 64 < cLine) : CallR X (.builtin "sorted") (rSortKT X.K) := by
  intro pins s σ H vs us Q I r h
  obtain ⟨β, enc, bs, d, kvs, rfl, hd, hbs, hal, hso, hdep, q⟩ := h
  rw [Vals.ref1 r]
  obtain ⟨z, hs, ks, pr, o, es, ep, ho, hx, hdt, he, hn⟩ := (show ObjOk X.prog X.w H s.heap d (.dT kvs) from hd.ok I.hok)
  have l1 : es.size = ks.length := size_of_entries he
  have l2 : kvs.length = ks.length := Paired.length pr
  refine Calls.call_function_entry PyProof.Rows.kind_sorted PyProof.Rows.plain_sorted PyProof.Rows.entry_sorted (PyProof.Rows.args_sorted1 _) ?_
  unfold Builtin.«sorted»
  refine wpAny_bind (m := checkCount "sorted" 1 1 _) (wpAny_pure ?_)
  refine wpAny_bind (PySem.W.kdu_collect (A := X.A.in1) (kdl_raw hs hx hdt) (I.ok.hd hc) ho (by omega) fun h' tk acc kp it => ?_)
  -- what was gathered: the keys' own tuples
  have ea : acc.toList = (ks.map fun x => x.2.1).map Value.ref := by
    rw [List.map_map]
    have hl : acc.toList.length = ks.length := by rw [Array.length_toList, it.1]; exact l1
    refine List.ext_getElem? fun j => ?_
    rw [List.getElem?_map]
    cases hj : acc.toList[j]? with
    | none =>
      have h1 := List.getElem?_eq_none_iff.mp hj
      rw [List.getElem?_eq_none (by omega)] <;> rfl
    | some v =>
      obtain ⟨en, hen, hv⟩ := it.2 j v (by rw [← Array.getElem?_toList]; exact hj)
      have qe := entry_at he j
      rw [hen] at qe
      cases hb : ks[j]? with
      | none =>
        rw [hb] at qe
        exact nomatch (show some en = none from qe)
      | some b =>
        rw [hb] at qe
        have e2 : en = entryOfKey (tupleKind (mixKind X.prog X.w)) b := Option.some.inj qe
        rw [hv, e2] <;> rfl
  have rv : Vals ((ks.map fun x => x.2.1).map V.ref) acc.toList := by rw [ea]; exact vals_refs _
  have dv : DpAll X.K H ((ks.map fun x => x.2.1).map V.ref) (bs.map enc) := by rw [← hbs]; exact dp_isKeys (isKeys_of pr)
  have hlen : bs.length ≤ sizeLine := by
    have h1 := dpAll_len dv
    rw [List.length_map, List.length_map, List.length_map] at h1
    omega
  have I1 : Inv X pins σ H { s with heap := h', toks := tk } := I.kept kp
  have hal0 : acc.toList.length ≤ sizeLine := by rw [← rv.length, List.length_map, List.length_map]; omega
  refine wpAny_bind (wpAny_newList ?_ hal0)
  have hoL : (h'.push (seqObj "list" acc.toList.toArray 0)).get? h'.objs.size = some (seqObj "list" acc.toList.toArray 0) := Heap.get?_push_size _ rfl
  show wpAny _ _ _ _ _ { s with heap := h'.push (seqObj "list" acc.toList.toArray 0), toks := tk }
  have I2 : Inv X pins σ H { s with heap := h'.push (seqObj "list" acc.toList.toArray 0), toks := tk } := I1.kept (t' := tk) fun b o e => Heap.get?_push_of_some _ e
  have e := each_std dv rv
  have er : PySem.W.EachIs (fun v b => ∃ as, Reads (h'.push (seqObj "list" acc.toList.toArray 0)) v (enc b) as ∧ h'.objs.size ∉ as) acc.toList bs := by
    refine (PySem.W.each_mem e).mono fun u b ⟨⟨x, rx, dx⟩, hb⟩ => ?_
    obtain ⟨as, q1⟩ := Dp.reads I1 (enc b) x u dx rx
    refine ⟨as, PyProof.Rows.Reads.keeps (fun b o e => Heap.get?_push_of_some _ e) q1, fun m => ?_⟩
    exact absurd (reads_lt _ (hal _ (List.mem_map.mpr ⟨b, hb, rfl⟩) _ (List.mem_map.mpr ⟨b, hb, rfl⟩)) q1 _ m) (Nat.lt_irrefl _)
  refine wpAny_bind (wpAny_holding (PySem.W.list_sort_data (R := fun u b => Std X.K H u (enc b)) hoL e er hal hso hlen (fun b hb => by have := hdep b hb; show X.A.units + 1 + 1 + _ < _; omega) fun out h1 eo => ?_))
  obtain ⟨ys, ry, dy⟩ := of_each_std eo
  obtain ⟨e', he'⟩ := PyProof.Rows.sortedHeap_at (vs := acc.toList) (out := out.toArray) hoL
  have hy : ys.length ≤ sizeLine := by rw [ry.length, h1]; exact hlen
  refine wpAny_pure ⟨_, rfl, .ref h'.objs.size, upd H h'.objs.size (.lst ys), I1.laid (t' := tk) (fun b u e => ?_) (Nat.le_refl _) (show ObjOk X.prog X.w _ _ _ (.lst ys) from ⟨hy, out, e', ry, he'⟩), rfl, q _ ys (I1.hok.fresh (Nat.le_refl _)) dy⟩
  have hb : b < h'.objs.size := Heap.lt_size e
  rw [PyProof.Rows.sortedHeap_old (Nat.ne_of_lt hb) (by rw [size_push']; exact Nat.lt_succ_of_lt hb)]
  exact Heap.get?_push_of_some _ e
end

/-! ### raise X(): an own exception class without own __init__, no arguments -/
section
variable {X : Cx} {C : Addr} {bmB : List Value} {B newId initId : String}
theorem pmk_own0 {x : Str} {p pos : Pos} (F : ExcBaseFacts B newId initId bmB) (q : PySem.W.excIn X.K C bmB newId = true) (gC : X.mg x = some (.ref C)) (kC : PySem.W.keepIn X.K (.ref C) = true) (r : Raises X (.ref C)) (hg : Gl X x := by rfl)
    (hdb : (x == ("__debug__" : Str)) = false := by decide) : PMk X (.Call (.Name x p) [] [] pos) (fun _ H Q => Q (.ref C) none H) := by
  intro pins s σ H Q I h
  refine wpAny_Call_Name_kw (ld_glob I hg gC ?_ hdb)
  refine PySem.W.callWith_K0 I.kIn kC ?_
  obtain ⟨bm, N, nm, qn, bs, hdct, sn, sub, ab, col, dd, k0, k1, k2, k3, k5, mN, hC, hN, hni, T⟩ := exc_obj I.kIn q
  refine wpAny_call_exc_subT F T hC hN hni (fun h' e hm => ?_) (Nat.zero_le _)
  exact mk_of I hm r h (I.hok.gone hm.new)
end
end Pk
set_option Elab.async false
set_option linter.all false
set_option maxRecDepth 100000
set_option maxHeartbeats 2000000
/-! Rules of our own, 2: dicts whose keys are tuples (setdefault, a display of one pair), dict comprehensions of either kind of keys. -/
namespace Pk
open PySem PySem.Spec PyProof.Rows L2

section
variable {X : Cx}
/-- d.setdefault(k, z), keys tuples -/
def rSetdT : V → List V → Hp → VK → Prop := fun x vs H Q => ∃ (a : Addr) (kvs : List (List Key × V)) (k : List Key) (b : Addr) (z : V), x = .ref a ∧ vs = [.ref b, z] ∧ H a = some (.dT kvs) ∧ H b = some (.tup (k.map kV)) ∧ kvs.length < sizeLine ∧
  (∀ v, valV kvs k = some v → Q v H) ∧ (valV kvs k = none → Q z (upd H a (.dT (putK kvs k z))))
theorem mt_setdT (hu : X.A.units + 1 < cLine) : MtR X "dict.setdefault" rSetdT := by
  intro pins s σ H x vs u us Q I rx rvs h
  obtain ⟨a, kvs, k, b, z, rfl, rfl, ha, hb, hl, h1, h2⟩ := h
  cases rx
  obtain ⟨u1, u2, rfl, r1, r2⟩ := rvs.two
  cases r1
  obtain ⟨zz, hd, xs, rel, dd⟩ := dt_of I.hok ha
  have hz : xs.length ≤ sizeLine := by rw [← Paired.length rel]; exact zz
  refine call_setdefault_heap (hsz := hz) (tupleKind_room_in1 hu) (key_of I.hok hb) hd dd (fun p hp => ?_) fun hn h' dd' hs => ?_
  · have q := rel.val k
    rw [hp] at q
    cases q0 : valV kvs k with
    | none => rw [q0] at q; exact (show False from q).elim
    | some v =>
      rw [q0] at q
      exact ⟨v, H, I.tok _, q, h1 v q0⟩
  · have q := rel.val k
    rw [hn] at q
    cases q0 : valV kvs k with
    | some v => rw [q0] at q; exact (show False from q).elim
    | none =>
      have hl2 : (putK kvs k z).length ≤ sizeLine := by have := length_putK kvs k z; omega
      obtain ⟨q, es, ep, hq, g2, g3, g4, _, g5⟩ := dd'
      refine ⟨z, upd H a (.dT (putK kvs k z)), d_write I (by rw [ha]; exact True.intro) hs ⟨q, hq⟩ ⟨hl2, hd, _, (rel.put k hb r2).keeps fun c ys ec => ?_, q, es, ep, hq, g2, g3, g4, g5⟩, r2, h2 q0⟩
      rw [upd_ne (ne_of ec ha (fun y => nomatch y))]
      exact ec
/-- {k: v}, one pair, the key a tuple -/
def tDisp1 (tk tv : TE) : TE := fun σ H Q => ∀ p, H p = none → tk σ (upd H p (.dT [])) fun y H1 => tv σ H1 fun z H2 => H2 p = some (.dT []) ∧ ∃ (k : List Key) (b : Addr), y = .ref b ∧ H2 b = some (.tup (k.map kV)) ∧ Q (.ref p) (upd H2 p (.dT [(k, z)]))
theorem pe_disp1 {k v : Expr} {pos : Pos} {tk tv : TE} (hu : X.A.units + 1 < cLine) (hk : PE X k tk) (hv : PE X v tv) : PE X (.Dict [some k] [v] pos) (tDisp1 tk tv) := by
  refine ⟨fun pins s σ H Q I q => ?_⟩
  have hn := I.hok.fresh (Nat.le_refl s.heap.objs.size)
  have I1 := I.laid (a := s.heap.objs.size) (o := .dT []) (h' := s.heap.push { cls := .type "dict", data := .dict #[] }) (t' := s.toks) (fun _ _ q => Heap.get?_push_of_some _ q) (Nat.le_refl _) (dt_empty s.heap I.big)
  rw [arm_eval_Dict]
  have e0 : (evalEachOpt [some k] X.env).zip ((evalEach [v] X.env).map fun v => do let x ← v; standAt pos; pure x) = (pairTrees [some k] [v] X.env pos).map fun p => (some p.1, p.2) := rfl
  rw [e0, dictDisplay_pairs _ (by intro z; cases z) (by show 1 < 17; decide)]
  refine wpAny_bind (wpAny_standAt (wpAny_bind (wpAny_subDictH (knd := tupleKind (mixKind X.prog X.w)) (show X.A.units < cLine by omega) (by show 1 ≤ 15; decide) ?_)))
  refine thn ((pps_cons hk hv pps_nil).run pins _ σ _ (fun ps H2 => match ps with
    | [(y, z)] => H2 s.heap.objs.size = some (.dT []) ∧ ∃ (kk : List Key) (b : Addr), y = .ref b ∧ H2 b = some (.tup (kk.map kV)) ∧ Q (.ref s.heap.objs.size) (upd H2 s.heap.objs.size (.dT [(kk, z)]))
    | _ => False) I1 (q s.heap.objs.size hn)) fun ws s2 ⟨ps, H2, I2, rel, q2⟩ => ?_
  cases rel with
  | nil => exact q2.elim
  | @cons pr w0 ps' ws' r rr =>
    obtain ⟨y, z⟩ := pr
    obtain ⟨u1, u2⟩ := w0
    cases ps' with
    | cons _ _ => exact (show False from q2).elim
    | nil =>
    cases rr
    obtain ⟨hp, kk, b, ey, hb, qq⟩ := q2
    obtain ⟨r1, r2⟩ := r
    subst ey
    cases (show u1 = Value.ref b from r1)
    obtain ⟨zz, hd, xs, rk, dd⟩ := dt_of I2.hok hp
    cases rk
    refine ⟨[(kk, b, u2)], ⟨rfl, rfl, key_of I2.hok hb, trivial⟩, dd, fun h' tk dd' hs => wpAny_pure ?_⟩
    obtain ⟨o, es, eps, ho, g2, g3, g4, _, g5⟩ := dd'
    refine ⟨.ref s.heap.objs.size, upd H2 s.heap.objs.size (.dT [(kk, z)]), d_write I2 (by rw [hp]; exact True.intro) hs ⟨o, ho⟩ ⟨by show 1 ≤ sizeLine; decide, hd, _, .cons ⟨rfl, ?_, r2⟩ .nil, o, es, eps, ho, g2, g3, g4, g5⟩, rfl, qq⟩
    rw [upd_ne (ne_of hb hp (fun y => nomatch y))]
    exact hb
end

/-! ### dict comprehensions, keys of either kind: the dict begins as u0 -/
section
variable {X : Cx}
theorem dc_set {pins : List (Addr × Obj)} {σ : L2.St} {H H' : Hp} {s : Shared} {E : Value → Shared → Prop} {D : Addr} {y v : V} {u r : Value} {Q : Unit → Shared → Prop} (hu : X.A.units < cLine) (I : Inv X pins σ H s) (g : DPut H D y v H')
    (ry : RelV y u) (rv : RelV v r) (h : ∀ s', Inv X pins σ H' s' → Q () s') : wpAny (model X.prog X.w) X.A (dictSet D u r) Q E s := by
  rcases g with ⟨kvs, k, e, ey, l, eH⟩ | ⟨kvs, k, b, e, ey, eb, l, eH⟩
  · subst ey eH
    exact d_dictSet I e l ry rv h
  · subst ey eH
    cases (show u = Value.ref b from ry)
    obtain ⟨z, hd, xs, rel, dd⟩ := dt_of I.hok e
    have hz : xs.length ≤ sizeLine := by rw [← Paired.length rel]; exact z
    have hl : (putK kvs k v).length ≤ sizeLine := by have := length_putK kvs k v; omega
    refine wpAny_dictSet_heap (hsz := hz) (show (tupleKind (mixKind X.prog X.w)).room X.A from hu) (key_of I.hok eb) dd fun h' dd' hs => h _ ?_
    obtain ⟨q, es, ep, hq, g2, g3, g4, _, g5⟩ := dd'
    refine d_write I (by rw [e]; exact True.intro) hs ⟨q, hq⟩ ⟨hl, hd, _, (rel.put k eb rv).keeps fun c ys ec => ?_, q, es, ep, hq, g2, g3, g4, g5⟩
    rw [upd_ne (ne_of ec e (fun z => nomatch z))]
    exact ec
/-- what a turn of the comprehension asks -/
def DcTurn (g : TG) (tt : TT) (tk tv : TE) (vs : List Nat) (D : Addr) (σ : L2.St) (x : V) (H' : Hp) (Nx : Hp → Prop) : Prop :=
  g x (wipe σ vs) H' fun σ2 H2 => wipe σ2 vs = wipe σ vs ∧ tt σ2 H2 fun b H3 => if b = true then tk σ2 H3 fun y H4 => tv σ2 H4 fun z H5 => ∃ H6, DPut H5 D y z H6 ∧ Nx H6 else Nx H3
def tDcG (u0 : HO) (wi : TI) (g : TG) (tt : TT) (tk tv : TE) (vs : List Nat) : TE := fun σ H Q => wi σ H fun J H1 => ∀ D, H1 D = none → ∃ W : Nat → Nat → Hp → Prop, (∃ m, W 0 m (upd H1 D u0)) ∧ ∀ i m H, W i m H →
  (J.stop i H ∧ Q (.ref D) H) ∨ (J.go i H ∧ ∃ Nx : Hp → Prop, (∀ H', Nx H' → ∃ m', m' < m ∧ W (i + 1) m' H') ∧ ∀ x H', J.yld i H x H' → DcTurn g tt tk tv vs D σ x H' Nx)
theorem pe_dcG {u0 : HO} {kx vx tg iter : Expr} {ifs : List Expr} {scope : Scope} {own : List (Str × Nat)} {pos : Pos} {wi : TI} {g : TG} {tt : TT} {tk tv : TE} (hu0 : u0 = .dK [] ∨ u0 = .dT []) (hu : X.A.units < cLine) (hc : X.calm = true) (hN : X.N.Nodup)
    (hi : PI X tg iter wi) (ok : BlkOk X.N X.env.scope scope own)
    (hg : ∀ (s : Shared) (H : Hp) (C : Addr) (cl : List (Str × Addr)) (fp : List Addr), PG (X.blk s H scope (compEnvC scope cl C X.env) fp) tg g)
    (ht : ∀ (s : Shared) (H : Hp) (C : Addr) (cl : List (Str × Addr)) (fp : List Addr), PTs (X.blk s H scope (compEnvC scope cl C X.env) fp) ifs tt)
    (hk : ∀ (s : Shared) (H : Hp) (C : Addr) (cl : List (Str × Addr)) (fp : List Addr), PE (X.blk s H scope (compEnvC scope cl C X.env) fp) kx tk)
    (he : ∀ (s : Shared) (H : Hp) (C : Addr) (cl : List (Str × Addr)) (fp : List Addr), PE (X.blk s H scope (compEnvC scope cl C X.env) fp) vx tv)
    (hs : ∀ x, foldedSetIterable iter X.env x = pure x := by intro _; rfl) : PE X (.DictComp kx vx [⟨tg, iter, ifs, 0⟩] scope pos) (tDcG u0 wi g tt tk tv (own.map (·.2))) := by
  refine ⟨fun pins s σ H Q I h => ?_⟩
  rw [arm_eval_DictComp]
  have hfree : ∀ y ∈ scope.names, y.2 = .free → ∃ c, X.env.cells.lookup y.1 = some c := fun y hy e => (ok.free y hy e).elim (fun k => I.ok.has _ (.inl k)) fun k => I.ok.has _ (.inr k)
  refine wpAny_comprehension_free rfl hs (closure_ok hfree) ok.kind (fun y hy e => by rw [ok.uniq y hy, e]) (thn (hi.run pins s σ H _ I h) fun xv s1 hx => thn hx fun itv s2 hh2 => ?_)
  obtain ⟨it, fp, tn, J, H2, e, I2, T, st2, f2, q⟩ := hh2
  subst e
  refine wpAny_newObj_type (newEnv_comp ?_)
  -- the new dict
  have hDn : H2 s2.heap.objs.size = none := I2.hok.fresh (Nat.le_refl _)
  obtain ⟨W, ⟨m0, w0⟩, turn⟩ := q _ hDn
  have I3 : Inv X pins σ (upd H2 s2.heap.objs.size u0) { s2 with heap := s2.heap.push { cls := .type "dict", data := .dict #[] } } := by
    refine I2.laid (t' := s2.toks) (fun b o e => Heap.get?_push_of_some _ e) (Nat.le_refl _) ?_
    rcases hu0 with z | z
    · rw [z]; exact dk_empty s2.heap I2.big
    · rw [z]; exact dt_empty s2.heap I2.big
  have sz : ∀ b ∈ fp, b < s2.heap.objs.size := fun b hb => by
    obtain ⟨o, e, _⟩ := T.obj _ _ st2 b hb
    exact Heap.lt_size e
  have st3 : tn 0 (s2.heap.push { cls := .type "dict", data := .dict #[] }) := T.keep _ _ _ st2 fun b _ o e => Heap.get?_push_of_some _ e
  have f3 : ∀ b ∈ fp, FpOk X pins (upd H2 s2.heap.objs.size u0) b ∧ b < (s2.heap.push { cls := .type "dict", data := .dict #[] }).objs.size := fun b hb => by
    have hlt := sz b hb
    refine ⟨⟨?_, (f2 b hb).2⟩, by rw [Heap.size_push]; exact Nat.lt_succ_of_lt hlt⟩
    rw [upd_ne (Nat.ne_of_lt hlt)]
    exact (f2 b hb).1
  generalize s2.heap.objs.size = D at hDn w0 turn I3 f3 ⊢
  generalize hs3 : ({ s2 with heap := s2.heap.push { cls := .type "dict", data := .dict #[] } } : Shared) = s3 at I3
  have h3 : s2.heap.push { cls := .type "dict", data := .dict #[] } = s3.heap := by rw [← hs3]
  rw [h3] at st3 f3
  have I4 := block_start I3 ok hN f3
  generalize hH3 : upd H2 D u0 = H3 at I3 I4 w0 f3
  have nfp : ∀ b ∈ fp, H3 b = none := fun b hb => (f3 b hb).1.1
  -- the block's context
  have pg := hg s3 H3 s3.heap.objs.size (cellsFrom (s3.heap.objs.size + 1) scope.names (cloFrom X.env.cells scope.names [])) fp
  have pt := ht s3 H3 s3.heap.objs.size (cellsFrom (s3.heap.objs.size + 1) scope.names (cloFrom X.env.cells scope.names [])) fp
  have pk := hk s3 H3 s3.heap.objs.size (cellsFrom (s3.heap.objs.size + 1) scope.names (cloFrom X.env.cells scope.names [])) fp
  have pe := he s3 H3 s3.heap.objs.size (cellsFrom (s3.heap.objs.size + 1) scope.names (cloFrom X.env.cells scope.names [])) fp
  generalize hce : compEnvC scope (cellsFrom (s3.heap.objs.size + 1) scope.names (cloFrom X.env.cells scope.names [])) s3.heap.objs.size X.env = ce at I4 pg pt pk pe
  have cL : ce.locals = s3.heap.objs.size := by subst hce; rfl
  generalize hs4 : ({ s3 with heap := pushCells (s3.heap.push { cls := .type "dict", data := .dict #[] }) scope.names } : Shared) = s4 at I4
  have st4 : tn 0 s4.heap := T.keep _ _ _ st3 fun b _ o e => by rw [← hs4]; exact pushCells_keeps _ _ _ _ (Heap.get?_push_of_some _ e)
  have stat : ∀ {σ' : L2.St} {H' : Hp} {s' : Shared}, Inv (X.blk s3 H3 scope ce fp) [] σ' H' s' → (∀ b ∈ fp, H' b = none) → ∀ b ∈ fp, FpOk (X.blk s3 H3 scope ce fp) [] H' b := fun {σ' H' s'} I' hn b hb =>
    ⟨hn b hb, (I'.ok.exf b hb).1, I'.ok.exfs b hb, .inl hb, fun x c e => (I'.ok.exf b hb).2 x c e, fun p hp => nomatch (show p ∈ ([] : List (Addr × Obj)) from hp)⟩
  -- what stands behind a turn
  have after : ∀ {n : Nat} {i : Nat} {σ8 : L2.St} {s7 s' : Shared} {H' : Hp} {Nx : Hp → Prop}, tn (i + 1) s7.heap → wipe σ8 (own.map (·.2)) = wipe σ (own.map (·.2)) → (∀ H', Nx H' → ∃ m', m' < n ∧ W (i + 1) m' H') →
      Inv (X.blk s3 H3 scope ce fp) ([] ++ pinsAt fp s7.heap) σ8 H' s' → Nx H' →
      ∃ m, m < n ∧ ∃ i H', Inv (X.blk s3 H3 scope ce fp) [] (wipe σ (own.map (·.2))) H' s' ∧ tn i s'.heap ∧ (∀ b ∈ fp, H' b = none) ∧ W i m H' := by
    intro n i σ8 s7 s' H' Nx st7 hw8 hNx I' nx
    obtain ⟨m', hm, w'⟩ := hNx H' nx
    have pinned : ∀ b ∈ fp, ∀ o, s7.heap.get? b = some o → s'.heap.get? b = some o ∧ H' b = none := fun b hb o e =>
      let z := I'.pin (b, o) (List.mem_append_right _ (List.mem_append_right _ (mem_pinsAt hb e)))
      ⟨z.1, z.2.1⟩
    have hl : (wipe σ (own.map (·.2))).length = σ8.length := by rw [← hw8, wipe_length]
    refine ⟨m', hm, i + 1, H', (I'.unpinned (pins := [])).weak hl (fun j v e => ?_), T.keep _ _ _ st7 fun b hb o e => (pinned b hb o e).1, fun b hb => ?_, w'⟩
    · rw [← hw8] at e
      exact (wipe_some e).1
    · obtain ⟨o, e, _⟩ := T.obj _ _ st7 b hb
      exact (pinned b hb o e).2
  have loop : ∀ R : Result → Shared → Prop, (∀ s6 H5, Inv X pins σ H5 s6 → Q (.ref D) H5 → (∃ m, s6.heap.Ns s3.heap.objs.size m) → FpOk X pins H5 s3.heap.objs.size → R (.ok .next) s6) →
      codeAny (model X.prog X.w) X.A (.compLoop (.DictComp kx vx [⟨tg, iter, ifs, 0⟩] scope pos) 0 (.ref it) (.ref D) ce) R s4 := by
    intro R hR
    refine compLoop_anyD (fun n s' => ∃ i H', Inv (X.blk s3 H3 scope ce fp) [] (wipe σ (own.map (·.2))) H' s' ∧ tn i s'.heap ∧ (∀ b ∈ fp, H' b = none) ∧ W i n H') ?_ m0 ⟨0, H3, I4, st4, nfp, w0⟩
    rintro n s5 ⟨i, H5, I5, st5, n5, w5⟩
    rcases turn i n H5 w5 with ⟨stop, qq⟩ | ⟨go, Nx, hNx, step⟩
    · refine thnF (T.done (X.blk s3 H3 scope ce fp) rfl rfl rfl hc i [] s5 _ H5 (fun _ _ => False) I5 (stat I5 n5) st5 stop) fun r s6 ⟨hr, I6⟩ => ?_
      subst hr
      have I7 : Inv X pins σ H5 s6 := I3.call' (ch := fp) I6.os I6.base I6.hok I6.bare fun b hb => ⟨(f3 b hb).1.2.2.2.1, (f3 b hb).1.2.1, (f3 b hb).1.2.2.2.2.1, (f3 b hb).1.2.2.2.2.2⟩
      have nC : H5 s3.heap.objs.size = none := by
        have z : H5 ce.locals = none := I6.free
        rwa [cL] at z
      obtain ⟨m, hn, _⟩ := I6.loc
      have hn : s6.heap.Ns ce.locals m := hn
      rw [cL] at hn
      exact hR s6 H5 I7 qq ⟨m, hn⟩ (I3.fpOk (Nat.le_refl _) nC)
    · refine thnF (T.item (X.blk s3 H3 scope ce fp) rfl rfl rfl hc i [] s5 _ H5 (fun _ _ => False) I5 (stat I5 n5) st5 go) fun r s6 ⟨u, hr, h6⟩ => ?_
      subst hr
      refine thnF h6 fun _ s7 ⟨x, H7, I7, r7, y7, st7, n7⟩ => ?_
      refine thnF (pg.run _ s7 _ H7 x u _ (I7.pinned (stat I7 n7) (T.obj _ _ st7)) r7 (step x H7 y7)) fun _ s8 ⟨σ8, H8, I8, hw8, q8⟩ => ?_
      refine thnF (pt.run _ s8 σ8 H8 _ I8 q8) fun b s9 ⟨H9, I9, q9⟩ => ?_
      cases b with
      | false =>
        rw [if_neg Bool.false_ne_true] at q9 ⊢
        exact after st7 hw8 hNx I9 q9
      | true =>
        rw [if_pos rfl] at q9 ⊢
        refine thnF (pk.run _ s9 σ8 H9 _ I9 q9) fun z s10 ⟨yk, H10, I10, r10, q10⟩ => ?_
        refine thnF (pe.run _ s10 σ8 H10 _ I10 q10) fun z2 s11 ⟨yv, H11, I11, r11, H12, dp, nx⟩ => ?_
        exact dc_set (X := X.blk s3 H3 scope ce fp) hu I11 dp r10 r11 fun s12 I12 => after st7 hw8 hNx I12 nx
  have fin := loop (compPost (model X.prog X.w) X.A X.xe none (EP X pins σ Q) (.ref D) s3.heap.objs.size) fun s6 H5 I7 qq ⟨m, hn⟩ f => ⟨m, hn, fun h'' sb => ?_⟩
  · have z := codeAny_compStart_dict fin (T.self X.A 0 _ _ _ st4 fin)
    subst hs4
    subst hce
    subst hs3
    exact z
  · obtain ⟨f0, f1, f2', f3', f4, f5⟩ := f
    exact ⟨.ref D, H5, I7.turned (t' := s6.toks) (fun b o hb e => (sb.2 b hb).trans e) f0 f1 f3' f4 f5, rfl, qq⟩
end
end Pk
set_option Elab.async false
set_option linter.all false
set_option maxRecDepth 100000
set_option maxHeartbeats 2000000
/-! Rules of our own, 3: enumerate over a tuple, over a dict's keys; comprehensions over walks. -/
namespace Pk
open PySem PySem.Spec PyProof.Rows L2
open PySem.AutoSeq1 (wpAny_loadPart')
set_option maxHeartbeats 1000000 in
/-- enumerate(v): v told by how its iterator begins -/
theorem enum_new1 {v : Value} {o : Obj} {H : Heap → Prop} (B : Begins v o H) :
    Meets (Builtin.«enumerate.__new__» ⟨[.type "enumerate", v], []⟩) (fun _ R s => H s.heap ∧
      R (.ok (.ret (.ref (s.heap.push o).objs.size))) { s with heap := (s.heap.push o).push { cls := .type "enumerate", data := .fields #[.none, .bool false, .ref s.heap.objs.size, rawInt 0, .none, .none] } }) :=
  .of_wp fun prog w A R s h => by
    obtain ⟨hp, g, d, tk, os⟩ := s
    obtain ⟨h1, h⟩ := h
    have hsub := sub_enumerate
    have q1 : ∀ {A' : Around} {E : Value → Shared → Prop} {Q : Value → Shared → Prop}, Q (.ref hp.objs.size) ⟨hp.push o, g, d, tk, os⟩ → wpAny (model prog w) A' (pyIter v) Q E ⟨hp, g, d, tk, os⟩ :=
      fun q => B.iter prog w _ _ ⟨hp, g, d, tk, os⟩ _ h1 q
    wp_walk using q1
    refine wpAny_stack_any fun st => wpAny_pure ?_
    split
    · rename_i c _ _ _ _ _
      cases (c == Value.type "enumerate")
      · wp_walk using q1
        exact ⟨_, rfl, h⟩
      · wp_walk using q1
        exact ⟨_, rfl, h⟩
    · wp_walk using q1
      exact ⟨_, rfl, h⟩
section
variable {prog : Program} {w : World} {A : Around} {E : Value → Shared → Prop} {s : Shared}
theorem enum_begins1 {v : Value} {o : Obj} {H : Heap → Prop} {Q : Value → Shared → Prop} (B : Begins v o H) (h1 : H s.heap)
    (h : ∀ h', IsEnum h' (s.heap.objs.size + 1) s.heap.objs.size 0 .none → h'.get? s.heap.objs.size = some o → (∀ b o, s.heap.get? b = some o → h'.get? b = some o) → Q (.ref (s.heap.objs.size + 1)) { s with heap := h' }) :
    wpAny (model prog w) A (call (.type "enumerate") [v]) Q E s := by
  refine callType_new F.called_enumerate (by decide) (F.typeCall_enumerate_1 _) (F.newCall_enumerate_1 _) (fun obj => F.args_object_init_2 obj _) F.entry_enumerate_new (enum_new1 B) ⟨h1, ?_⟩
  have hz : (s.heap.push o).objs.size = s.heap.objs.size + 1 := Heap.size_push ..
  show _ ∧ _
  rw [hz]
  have he : IsEnum ((s.heap.push o).push { cls := .type "enumerate", data := .fields #[.none, .bool false, .ref s.heap.objs.size, rawInt 0, .none, .none] }) (s.heap.objs.size + 1) s.heap.objs.size 0 .none := by
    have q := Heap.get?_push_size (s.heap.push o) (o := { cls := .type "enumerate", data := .fields #[.none, .bool false, .ref s.heap.objs.size, rawInt 0, .none, .none] }) rfl
    rw [hz] at q
    exact q
  exact ⟨⟨_, he, rfl⟩, h _ he (Heap.get?_push_of_some _ (Heap.get?_push_size _ B.free)) fun b o x => Heap.get?_push_of_some _ (Heap.get?_push_of_some _ x)⟩
/-- a dict's keys begin -/
theorem begins_keys {d : Addr} {od : Obj} {es : Array DictEntry} {ep : Nat} (hd : (d == sysModules) = false) (hx : od.ExactDict) (hdat : od.data = .dict es ep) :
    Begins (.ref d) { cls := .type "dict_keyiterator", data := .fields #[.ref d, .int 0 0, .int es.size 0, .int ep 0] } fun h => h.get? d = some od where
  iter := fun prog w A E s Q ho h => iter_keys hd ho hx hdat h
  keeps := fun h h' x hk => hk d od x
  free := rfl
/-- next(it) of a dict's keys, by nextOf -/
theorem keyOf_item {it d : Addr} {i n ep : Nat} {od : Obj} {es : Array DictEntry} {en : DictEntry} {Q : Value → Shared → Prop} (hit : s.heap.IsKeyIter it d i n ep) (hod : s.heap.get? d = some od) (hdd : od.data = .dict es ep)
    (hsz : es.size = n) (hx : es[i]? = some en) (hQ : ∀ h', h'.IsKeyIter it d (i + 1) n ep → Heap.SameBut it s.heap h' → Q en.key { s with heap := h' }) : wpAny (model prog w) A (Builtin.SmallTypes.nextOf (.ref it)) Q E s := by
  obtain ⟨o, ho, hc, hd⟩ := id hit
  unfold Builtin.SmallTypes.nextOf
  refine wpAny_bind (wpAny_callSpecial?_slot (name := Str.ofString "__next__") hit.typeIs F.slot_dict_keyiterator_next
    (wpAny_call_entry F.slot_dict_keyiterator_next hit.typeIs F.entry_dict_keyiterator_next ?_ (F.args_dict_keyiterator_next_1 _)))
  refine wpAny_bind (wpAny_pure (wpAny_bind (wpAny_bind ?_)))
  first | refine wpAny_bind (wpAny_typeNameOfWhole_keyiter hit.typeIs (wpAny_pure ?_)) | refine wpAny_bind (wpAny_typeNameOf_keyiter hit.typeIs (wpAny_pure ?_))
  refine wpAny_bind (wpAny_fieldsOf ho hd ?_)
  simp only [show Builtin.Dict_items.ownsTuple "dict_keyiterator" = false by decide, Bool.false_eq_true, if_false]
  show wpAny _ _ (if (Value.ref d == Value.none) = true then _ else _) _ _ s
  rw [if_neg (show ¬ ((Value.ref d == Value.none) = true) from Bool.false_ne_true)]
  refine wpAny_bind (wpAny_pure (wpAny_bind (wpAny_dictEntries hod hdd ?_)))
  rw [if_neg (by rw [hsz]; simp)]
  refine wpAny_bind (wpAny_pure (wpAny_bind (wpAny_dictEpoch hod hdd ?_)))
  rw [if_neg (by simp)]
  refine wpAny_pure ?_
  obtain ⟨hlt', hen⟩ := Array.getElem?_eq_some_iff.mp hx
  simp only [show ¬ ((i : Int) < 0) from by omega, if_false, Int.toNat_natCast, Array.getElem?_eq_getElem hlt']
  refine wpAny_bind ?_
  first | refine wpAny_bind (wpAny_typeNameOfWhole_keyiter hit.typeIs (wpAny_pure ?_)) | refine wpAny_bind (wpAny_typeNameOf_keyiter hit.typeIs (wpAny_pure ?_))
  refine wpAny_bind (wpAny_isOneOf_keyiter hit.typeIs ?_)
  show wpAny _ _ (setField (.ref it) 1 (rawInt ((i : Int) + 1)) >>= _) _ _ s
  refine wpAny_bind (wpAny_setField ho hd (by simp) ?_)
  have hit' : (s.heap.update it (Obj.mapFields (·.setIfInBounds 1 (rawInt ((i : Int) + 1))))).IsKeyIter it d (i + 1) n ep :=
    ⟨_, Heap.get?_update_self _ ho (Obj.isFreed_of_fields (Obj.data_mapFields hd _)), (Obj.cls_mapFields ..).trans hc, by rw [Obj.data_mapFields hd]; simp [rawInt]⟩
  refine wpAny_bind (wpAny_holding (wpAny_bind (wpAny_isOneOf_keyiter (s := { s with heap := s.heap.update it (Obj.mapFields (·.setIfInBounds 1 (rawInt ((i : Int) + 1)))) }) hit'.typeIs ?_)))
  show wpAny _ _ (pure es[i].key) _ _ _
  rw [hen]
  exact wpAny_pure (wpAny_pure ⟨_, rfl, wpAny_pure (hQ _ hit' (Heap.SameBut.update ..))⟩)
theorem keyOf_end {it d : Addr} {i n ep : Nat} {od : Obj} {es : Array DictEntry} {Q : Value → Shared → Prop} (hh : A.handled = none) (hit : s.heap.IsKeyIter it d i n ep) (hod : s.heap.get? d = some od) (hdd : od.data = .dict es ep)
    (hsz : es.size = n) (hge : n ≤ i) (hE : ∀ h' e, Heap.ExtBut it s.heap h' → (∃ o, h'.get? e = some o ∧ o.cls = .type "StopIteration") → E (.ref e) { s with heap := h' }) : wpAny (model prog w) A (Builtin.SmallTypes.nextOf (.ref it)) Q E s := by
  obtain ⟨o, ho, hc, hd⟩ := id hit
  unfold Builtin.SmallTypes.nextOf
  refine wpAny_bind (wpAny_callSpecial?_slot (name := Str.ofString "__next__") hit.typeIs F.slot_dict_keyiterator_next
    (wpAny_call_entry F.slot_dict_keyiterator_next hit.typeIs F.entry_dict_keyiterator_next ?_ (F.args_dict_keyiterator_next_1 _)))
  refine wpAny_bind (wpAny_pure (wpAny_bind (wpAny_bind ?_)))
  first | refine wpAny_bind (wpAny_typeNameOfWhole_keyiter hit.typeIs (wpAny_pure ?_)) | refine wpAny_bind (wpAny_typeNameOf_keyiter hit.typeIs (wpAny_pure ?_))
  refine wpAny_bind (wpAny_fieldsOf ho hd ?_)
  simp only [show Builtin.Dict_items.ownsTuple "dict_keyiterator" = false by decide, Bool.false_eq_true, if_false]
  show wpAny _ _ (if (Value.ref d == Value.none) = true then _ else _) _ _ s
  rw [if_neg (show ¬ ((Value.ref d == Value.none) = true) from Bool.false_ne_true)]
  refine wpAny_bind (wpAny_pure (wpAny_bind (wpAny_dictEntries hod hdd ?_)))
  rw [if_neg (by rw [hsz]; simp)]
  refine wpAny_bind (wpAny_pure (wpAny_bind (wpAny_dictEpoch hod hdd ?_)))
  rw [if_neg (by simp)]
  refine wpAny_pure ?_
  simp only [show ¬ ((i : Int) < 0) from by omega, if_false, Int.toNat_natCast, Array.getElem?_eq_none (show es.size ≤ i by omega)]
  refine wpAny_bind ?_
  first | refine wpAny_bind (wpAny_typeNameOfWhole_keyiter hit.typeIs (wpAny_pure ?_)) | refine wpAny_bind (wpAny_typeNameOf_keyiter hit.typeIs (wpAny_pure ?_))
  show wpAny _ _ (setField (.ref it) 0 .none >>= _) _ _ s
  refine wpAny_bind (wpAny_setField ho hd (by simp) ?_)
  show wpAny _ _ (newExc (.type "StopIteration") [] >>= _) _ _ _
  refine wpAny_bind ?_
  simp only [newExc, newTuple]
  refine wpAny_bind (wpAny_newObj_type ?_ (by size_fits))
  refine wpAny_bind (m := firstArgMember _ _) (wpAny_of_eq (a := Value.none) (by first | rfl | (simp only [firstArgMember]; rfl)) ?_)
  refine wpAny_newObj_type ?_ (by size_fits)
  simp only [raiseNew]
  refine wpAny_bind (wpAny_handled ?_)
  rw [show A.in1.handled = none from hh]
  exact wpAny_bind (wpAny_pure (wpAny_throw (hE _ _ (((Heap.SameBut.update ..).extBut.push _).push _) ⟨_, Heap.get?_push_size _ rfl, rfl⟩)))
theorem draws_keys (hh : A.handled = none) {it d : Addr} (hne : d ≠ it) {od : Obj} {es : Array DictEntry} {ep : Nat} (hdd : od.data = .dict es ep) :
    Draws prog w A it [it, d] es.size (fun i v => ∃ en, es[i]? = some en ∧ v = en.key) (fun i h => h.IsKeyIter it d i es.size ep ∧ h.get? d = some od) where
  live := fun _ _ st => let ⟨o, ho, _⟩ := st.1; ⟨o, ho⟩
  frame := fun _ _ _ st hk => ⟨st.1.at fun o e => hk it (by simp) o e, hk d (by simp) od st.2⟩
  item := fun i s Q E hi st hQ => by
    have hx : es[i]? = some es[i] := Array.getElem?_eq_getElem hi
    exact keyOf_item st.1 st.2 hdd rfl hx fun h' hit' hs' => hQ _ h' s.toks ⟨_, hx, rfl⟩ ⟨hit', (hs'.2 d hne).trans st.2⟩ hs'
  done := fun s Q E st hE => keyOf_end hh st.1 st.2 hdd rfl (Nat.le_refl _) hE
end

/-! ### for i, x in enumerate(t), t a tuple; enumerate(d), d a locked dict -/
theorem obj_ne {h : Heap} {a b : Addr} {o u : Obj} (ha : h.get? a = some o) (hb : h.get? b = some u) (hc : o.cls ≠ u.cls) : a ≠ b := fun e => by
  rw [e, hb] at ha
  cases ha
  exact hc rfl
/-- the turn of an enumerate whose source draws: what is the same whatever the source -/
theorem enum_turn {X : Cx} {elts : List Expr} {kk : Nat} {tpos : Pos} {e it : Addr} {fp : List Addr} {n i : Nat} {P : Nat → Value → Prop} {St : Nat → Heap → Prop} {x : V} {pins : List (Addr × Obj)} {s : Shared} {σ : L2.St} {H : Hp} {E : Value → Shared → Prop}
    (D : Draws X.prog X.w X.A.in1 it fp n P St) (I : Inv X pins σ H s) (hf : ∀ b ∈ [e, it], FpOk X pins H b) (he : ∃ old, IsEnum s.heap e it ((i : Nat) : Int) old) (hst : St i s.heap) (hlt : i < n) (hne : e ≠ it) (hef : e ∉ fp) (hP : ∀ u, P i u → RelV x u)
    (tnN : Heap → Prop) (hn : ∀ h', (∃ old, IsEnum h' e it (((i + 1 : Nat)) : Int) old) → St (i + 1) h' → tnN h')
    {Q : Option Value → Shared → Prop}
    (k : ∀ u s', (∃ x' H', Inv X pins σ H' s' ∧ RelV x' u ∧ (∃ T, x' = .ref T ∧ H T = none ∧ H' = upd H T (.tup [.int (i : Nat), x])) ∧ tnN s'.heap ∧ ∀ b ∈ [e, it], H' b = none) → Q (some u) s') :
    wpAny (model X.prog X.w) X.A (pyNext (.ref e)) (fun r s' => ∃ u, r = some u ∧ wpAny (model X.prog X.w) X.A (letOwnedTupleGo (.Tuple elts kk tpos) (.ref e) u) (fun _ s2 => Q (some u) s2) E s') E s := by
  obtain ⟨old, he⟩ := he
  have hel : e < s.heap.objs.size := Heap.lt_size he
  have hil : it < s.heap.objs.size := by obtain ⟨_, q⟩ := D.live _ _ hst; exact Heap.lt_size q
  refine wpAny_pyNext_enum_itemC D he hst hlt hne hef fun x' h' tk hx ho hs' hT hsz hk => ⟨_, rfl, ?_⟩
  refine wpAny_letOwnedTupleGo_enum (s := { s with heap := h', toks := tk + 1 }) ho fun h'' he' sb => k _ _ ?_
  have hT2 : h''.get? s.heap.objs.size = some { cls := .type "tuple", data := .seq #[.int i tk, x'] } := (sb.2 _ (Nat.ne_of_gt hel)).trans hT
  have new : ObjOk X.prog X.w (upd H s.heap.objs.size (.tup [.int (i : Nat), x])) h'' s.heap.objs.size (.tup [.int (i : Nat), x]) :=
    ⟨by show 2 ≤ sizeLine; decide, [.int i tk, x'], .cons ⟨_, rfl⟩ (.cons (hP _ hx) .nil), ⟨_, hT2, rfl, _, rfl⟩⟩
  have I1 : Inv X pins σ (upd H s.heap.objs.size (.tup [.int (i : Nat), x])) { s with heap := h'', toks := tk + 1 } :=
    I.turnedNew (ch := [e, it]) (fun b ob hb q => (sb.2 b (fun z => hb (by simp [z]))).trans (hk b ob (fun z => hb (by simp [z])) (fun z => hb (by simp [z])) q)) hf (Nat.le_refl _) new
  refine ⟨.ref s.heap.objs.size, _, I1, rfl, ⟨_, rfl, I.hok.fresh (Nat.le_refl _), rfl⟩, hn _ ⟨x', ?_⟩ (D.frame _ _ _ hs' fun b hb o q => (sb.2 b (fun z => hef (z ▸ hb))).trans q), fun b hb => ?_⟩
  · have e1 : ((i + 1 : Nat) : Int) = (i : Int) + 1 := by omega
    rw [e1]
    exact he'
  · have hb' : b < s.heap.objs.size := by
      rcases (by simpa using hb : b = e ∨ b = it) with z | z
      · rw [z]; exact hel
      · rw [z]; exact hil
    rw [upd_ne (Nat.ne_of_lt hb')]
    exact (hf b hb).1

/-- over a tuple -/
def IteT (K : PySem.W.Frag) (a : Addr) : It :=
  ⟨fun i H => ∃ (xs : List V) (x : V), SqT K H a xs ∧ xs[i]? = some x, fun i H v H' => ∃ T x, v = .ref T ∧ H T = none ∧ H' = upd H T (.tup [.int (i : Nat), x]) ∧ ∀ xs, SqT K H a xs → xs[i]? = some x, fun i H => ∃ xs : List V, SqT K H a xs ∧ xs.length = i⟩
/-- over the keys of a locked dict -/
def IteK (d : Addr) (o : Obj) (kvs : List (Key × V)) : It :=
  ⟨fun i H => H d = some (.frz o (.dK kvs)) ∧ i < kvs.length, fun i H v H' => ∃ T k x, kvs[i]? = some (k, x) ∧ v = .ref T ∧ H T = none ∧ H' = upd H T (.tup [.int (i : Nat), kV k]), fun i H => H d = some (.frz o (.dK kvs)) ∧ kvs.length = i⟩
theorem enum_cls {h : Heap} {e it : Addr} {i : Int} {old : Value} (he : IsEnum h e it i old) : ∃ o, h.get? e = some o ∧ o.cls = .type "enumerate" ∧ ∀ v, o.data ≠ .cell v := ⟨_, he, rfl, fun v q => nomatch q⟩
theorem turn_enumT {P : Program} {w : World} {K : PySem.W.Frag} {elts : List Expr} {kk : Nat} {tpos : Pos} (a e it : Addr) :
    Turn P w K (.Tuple elts kk tpos) (IteT K a) [e, it] e (fun i h => (∃ old, IsEnum h e it ((i : Nat) : Int) old) ∧ h.IsTupleIter it a i ∧ e ≠ it) where
  mem := by simp
  obj := fun i h st b hb => by
    obtain ⟨⟨old, he⟩, ⟨o, ho, hc, hd⟩, _⟩ := st
    rcases (by simpa using hb : b = e ∨ b = it) with z | z
    · rw [z]; exact ⟨_, he, fun v q => nomatch q⟩
    · rw [z]; exact ⟨o, ho, fun v q => by rw [hd] at q; cases q⟩
  keep := fun i h h' st k => let ⟨⟨old, he⟩, hi, hne⟩ := st; ⟨⟨old, k e (by simp) _ he⟩, hi.at fun o q => k it (by simp) o q, hne⟩
  item := by
    intro X hP hw hK hc i pins s σ H E I hf st hg
    subst hP hw hK
    obtain ⟨he, hit, hne⟩ := st
    obtain ⟨xs, x, hq, hx⟩ := hg
    obtain ⟨its, rv, p, hz⟩ := I.tuple hq
    obtain ⟨u, hu, ru⟩ := rv.get hx
    obtain ⟨old, he0⟩ := he
    obtain ⟨oe, hoe, ce, _⟩ := enum_cls he0
    obtain ⟨oi, hoi, ci, _⟩ := id hit
    obtain ⟨oa, hoa, ca, _⟩ := id (show s.heap.IsTuple a its.toArray from p)
    have nai : a ≠ it := obj_ne hoa hoi (by rw [ca, ci]; decide)
    have nea : e ≠ a := obj_ne hoe hoa (by rw [ca, ce]; decide)
    have hlt : i < its.toArray.size := by
      have := (List.getElem?_eq_some_iff.mp hu).1
      simpa using this
    have D := Draws.tuple (prog := X.prog) (w := X.w) (A := X.A.in1) (I.ok.hd hc) it a nai its.toArray
    refine wpAny_mono (enum_turn (elts := elts) (kk := kk) (tpos := tpos) (Q := fun r s2 => ∃ u, r = some u ∧ ∃ x H', Inv X pins σ H' s2 ∧ L2.RelV x u ∧ (IteT X.K a).yld i H x H' ∧ ((∃ old, IsEnum s2.heap e it (((i + 1 : Nat)) : Int) old) ∧ s2.heap.IsTupleIter it a (i + 1) ∧ e ≠ it) ∧ ∀ b ∈ [e, it], H' b = none) (x := x) D I hf ⟨old, he0⟩ ⟨hit, p⟩ hlt hne (by simp [hne, nea])
      (fun v hv => by
        have e2 : u = v := Option.some.inj (by rw [← hu, ← hv]; simp)
        rw [← e2]; exact ru) (fun h' => (∃ old, IsEnum h' e it (((i + 1 : Nat)) : Int) old) ∧ h'.IsTupleIter it a (i + 1) ∧ e ≠ it) (fun h' q1 q2 => ⟨q1, q2.1, hne⟩) ?_) (fun r s1 q => ?_) (fun _ _ q => q)
    · rintro v s' ⟨x', H', I', r', ⟨T, e1, e2, e3⟩, tn, nn⟩
      exact ⟨v, rfl, x', H', I', r', ⟨T, x, e1, e2, e3, fun ys hy => by rw [I.tuple_inj hy hq]; exact hx⟩, tn, nn⟩
    · obtain ⟨v, rv', q⟩ := q
      refine ⟨v, rv', thn q fun _ s2 ⟨v2, ev, z⟩ => ?_⟩
      cases ev
      exact z
  done := by
    intro X hP hw hK hc i pins s σ H E I hf st hg
    subst hP hw hK
    obtain ⟨⟨old, he⟩, hit, hne⟩ := st
    obtain ⟨xs, hq, hx⟩ := hg
    obtain ⟨its, rv, p, hz⟩ := I.tuple hq
    obtain ⟨oi, hoi, ci, _⟩ := id hit
    obtain ⟨oa, hoa, ca, _⟩ := id (show s.heap.IsTuple a its.toArray from p)
    have nai : a ≠ it := obj_ne hoa hoi (by rw [ca, ci]; decide)
    obtain ⟨f0, f1, f2, f3, f4, f5⟩ := hf it (by simp)
    have hl := rv.length
    have D := Draws.tuple (prog := X.prog) (w := X.w) (A := X.A.in1) (I.ok.hd hc) it a nai its.toArray
    have e1 : its.toArray.size = i := by rw [List.size_toArray]; omega
    exact wpAny_pyNext_enum_endD D he (by rw [e1]; exact ⟨hit, p⟩) fun h' eb => ⟨rfl, I.turned (t' := s.toks) (fun b o hb q => eb b o hb q) f0 f1 f3 f4 f5⟩
  self := fun A i s Q E st h => let ⟨⟨_, he⟩, _⟩ := st; wpAny_pyIter_enum he h
theorem turn_enumK {P : Program} {w : World} {K : PySem.W.Frag} {elts : List Expr} {kk : Nat} {tpos : Pos} {d : Addr} {o : Obj} {es : Array DictEntry} {ep : Nat} {kvs : List (Key × V)} (e it : Addr) (hod : o.data = .dict es ep) :
    Turn P w K (.Tuple elts kk tpos) (IteK d o kvs) [e, it] e (fun i h => (∃ old, IsEnum h e it ((i : Nat) : Int) old) ∧ h.IsKeyIter it d i es.size ep ∧ e ≠ it) where
  mem := by simp
  obj := fun i h st b hb => by
    obtain ⟨⟨old, he⟩, ⟨oi, ho, hc, hd⟩, _⟩ := st
    rcases (by simpa using hb : b = e ∨ b = it) with z | z
    · rw [z]; exact ⟨_, he, fun v q => nomatch q⟩
    · rw [z]; exact ⟨oi, ho, fun v q => by rw [hd] at q; cases q⟩
  keep := fun i h h' st k => let ⟨⟨old, he⟩, hi, hne⟩ := st; ⟨⟨old, k e (by simp) _ he⟩, hi.at fun o q => k it (by simp) o q, hne⟩
  item := by
    intro X hP hw hK hc i pins s σ H E I hf st hg
    subst hP hw hK
    obtain ⟨he, hit, hne⟩ := st
    obtain ⟨hd, hi⟩ := hg
    obtain ⟨hs, hgd, hx, es', ep', vs, hdt, hsz, kv, hm⟩ := I.frzK hd
    obtain ⟨rfl, rfl⟩ := dict_ep hod hdt
    obtain ⟨es2, ⟨o2, ho2, hx2, hd2⟩, hz2, hr2⟩ := hm.raw
    have eo : o2 = o := by rw [hgd] at ho2; exact (Option.some.inj ho2).symm
    rw [eo] at hd2
    obtain ⟨rfl, _⟩ := dict_ep hod hd2
    obtain ⟨⟨k, v⟩, hkv⟩ : ∃ p, kvs[i]? = some p := ⟨kvs[i], List.getElem?_eq_getElem hi⟩
    obtain ⟨u, hu, ru⟩ := kv_get kv hkv
    obtain ⟨old, he0⟩ := he
    obtain ⟨oe, hoe, ce, _⟩ := enum_cls he0
    obtain ⟨oi, hoi, ci, _⟩ := id hit
    have ndi : d ≠ it := obj_ne hgd hoi (by rw [hx.1, ci]; decide)
    have ned : e ≠ d := obj_ne hoe hgd (by rw [hx.1, ce]; decide)
    have hlt : i < es2.size := by omega
    have D := draws_keys (prog := X.prog) (w := X.w) (A := X.A.in1) (I.ok.hd hc) ndi hod
    refine wpAny_mono (enum_turn (elts := elts) (kk := kk) (tpos := tpos) (Q := fun r s2 => ∃ u, r = some u ∧ ∃ x H', Inv X pins σ H' s2 ∧ L2.RelV x u ∧ (IteK d o kvs).yld i H x H' ∧ ((∃ old, IsEnum s2.heap e it (((i + 1 : Nat)) : Int) old) ∧ s2.heap.IsKeyIter it d (i + 1) es2.size ep' ∧ e ≠ it) ∧ ∀ b ∈ [e, it], H' b = none) (x := kV k) D I hf ⟨old, he0⟩ ⟨hit, hgd⟩ hlt hne (by simp [hne, ned])
      (fun w' hw' => by
        obtain ⟨en, hen, ew⟩ := hw'
        obtain ⟨h1, h2⟩ := Array.getElem?_eq_some_iff.mp hen
        rw [ew, ← h2]
        exact relV_key (hr2 i hlt k u hu).1) (fun h' => (∃ old, IsEnum h' e it (((i + 1 : Nat)) : Int) old) ∧ h'.IsKeyIter it d (i + 1) es2.size ep' ∧ e ≠ it) (fun h' q1 q2 => ⟨q1, q2.1, hne⟩) ?_) (fun r s1 q => ?_) (fun _ _ q => q)
    · rintro v' s' ⟨x', H', I', r', ⟨T, e1, e2, e3⟩, tn, nn⟩
      exact ⟨v', rfl, x', H', I', r', ⟨T, k, v, hkv, e1, e2, e3⟩, tn, nn⟩
    · obtain ⟨v', rv', q⟩ := q
      refine ⟨v', rv', thn q fun _ s2 ⟨v2, ev, z⟩ => ?_⟩
      cases ev
      exact z
  done := by
    intro X hP hw hK hc i pins s σ H E I hf st hg
    subst hP hw hK
    obtain ⟨⟨old, he⟩, hit, hne⟩ := st
    obtain ⟨hd, hi⟩ := hg
    obtain ⟨hs, hgd, hx, es', ep', vs, hdt, hsz, kv, hm⟩ := I.frzK hd
    obtain ⟨rfl, rfl⟩ := dict_ep hod hdt
    obtain ⟨oi, hoi, ci, _⟩ := id hit
    have ndi : d ≠ it := obj_ne hgd hoi (by rw [hx.1, ci]; decide)
    obtain ⟨f0, f1, f2, f3, f4, f5⟩ := hf it (by simp)
    have D := draws_keys (prog := X.prog) (w := X.w) (A := X.A.in1) (I.ok.hd hc) ndi hod
    have e1 : es'.size = i := by omega
    refine wpAny_pyNext_enum_endD D he ⟨?_, hgd⟩ fun h' eb => ⟨rfl, I.turned (t' := s.toks) (fun b o hb q => eb b o hb q) f0 f1 f3 f4 f5⟩
    rw [← e1] at hit
    exact hit
  self := fun A i s Q E st h => let ⟨⟨_, he⟩, _⟩ := st; wpAny_pyIter_enum he h
section
variable {X : Cx} {e : Expr} {ta : TA} {p pos tpos : Pos} {elts : List Expr} {kk : Nat}
def iEnumT (K : PySem.W.Frag) (ta : TA) : TI := fun σ H R => ta σ H fun vs H1 => ∃ a xs, vs = [.ref a] ∧ SqT K H1 a xs ∧ R (IteT K a) H1
def iEnumK (ta : TA) : TI := fun σ H R => ta σ H fun vs H1 => ∃ d o kvs, vs = [.ref d] ∧ H1 d = some (.frz o (.dK kvs)) ∧ R (IteK d o kvs) H1
theorem fp_new {pins : List (Addr × Obj)} {σ : L2.St} {H : Hp} {s : Shared} (I : Inv X pins σ H s) : ∀ b ∈ [s.heap.objs.size + 1, s.heap.objs.size], FpOk X pins H b := fun b hb => by
  have hle : s.heap.objs.size ≤ b := by
    rcases (by simpa using hb : b = s.heap.objs.size + 1 ∨ b = s.heap.objs.size) with z | z
    · rw [z]; exact Nat.le_add_right _ _
    · rw [z]; exact Nat.le_refl _
  exact I.fpOk hle (I.hok.fresh hle)
theorem pi_enumT (hg : Gl X "enumerate") (hm : X.mg "enumerate" = none) (ha : PA X [e] ta) (hs : starEach [e] X.env = [(false, eval e X.env)] := by rfl) :
    PI X (.Tuple elts kk tpos) (.Call (.Name "enumerate" p) [e] [] pos) (iEnumT X.K ta) := by
  refine ⟨fun pins s σ H R I h => ?_⟩
  refine Call_ (ld_blt I hg hm boot_enumerate (PyProof.Rows.callWith_type1 (thn (ha.run pos pins s σ H _ I h) fun us s1 ⟨vs, H1, I1, r1, q1⟩ => ?_) hs rfl))
  obtain ⟨a, xs, ex, hq, q⟩ := q1
  subst ex
  rw [Vals.ref1 r1]
  obtain ⟨its, rv, p', hz⟩ := I1.tuple hq
  refine enum_begins1 (begins_tuple a its.toArray) p' fun h' he hit hk => wpAny_pyIter_enum he ?_
  exact ⟨s1.heap.objs.size + 1, [s1.heap.objs.size + 1, s1.heap.objs.size], _, _, H1, rfl, I1.kept (t' := s1.toks) hk, turn_enumT a (s1.heap.objs.size + 1) s1.heap.objs.size, ⟨⟨.none, he⟩, ⟨_, hit, rfl, rfl⟩, Nat.succ_ne_self _⟩, fp_new I1, q⟩
theorem pi_enumK (hg : Gl X "enumerate") (hm : X.mg "enumerate" = none) (ha : PA X [e] ta) (hs : starEach [e] X.env = [(false, eval e X.env)] := by rfl) :
    PI X (.Tuple elts kk tpos) (.Call (.Name "enumerate" p) [e] [] pos) (iEnumK ta) := by
  refine ⟨fun pins s σ H R I h => ?_⟩
  refine Call_ (ld_blt I hg hm boot_enumerate (PyProof.Rows.callWith_type1 (thn (ha.run pos pins s σ H _ I h) fun us s1 ⟨vs, H1, I1, r1, q1⟩ => ?_) hs rfl))
  obtain ⟨d, o, kvs, ex, hq, q⟩ := q1
  subst ex
  rw [Vals.ref1 r1]
  obtain ⟨hs', hgd, hx, es, ep, vs, hdt, hsz, kv, hm'⟩ := I1.frzK hq
  refine enum_begins1 (begins_keys hs' hx hdt) hgd fun h' he hit hk => wpAny_pyIter_enum he ?_
  exact ⟨s1.heap.objs.size + 1, [s1.heap.objs.size + 1, s1.heap.objs.size], _, _, H1, rfl, I1.kept (t' := s1.toks) hk, turn_enumK (s1.heap.objs.size + 1) s1.heap.objs.size hdt, ⟨⟨.none, he⟩, ⟨_, hit, rfl, rfl⟩, Nat.succ_ne_self _⟩, fp_new I1, q⟩
end
section
variable {K : PySem.W.Frag} {a d : Addr} {xs : List V} {o : Obj}
theorem walk_enumT : Walk (IteT K a) xs.length (fun H => SqT K H a xs) (YPair (fun i => some (.int (i : Nat))) (fun i => xs[i]?)) := by
  refine ⟨fun i _ hi q => ⟨xs, xs[i], q, by simp [hi]⟩, fun _ q => ⟨xs, q, rfl⟩, fun i H v H' _ q y => ?_⟩
  obtain ⟨T, x, h1, h2, h3, h4⟩ := y
  exact ⟨T, .int (i : Nat), x, h1, h2, h3, rfl, h4 xs q⟩
theorem walk_enumK {kvs : List (Key × V)} : Walk (IteK d o kvs) kvs.length (fun H => H d = some (.frz o (.dK kvs))) (YPair (fun i => some (.int (i : Nat))) (fun i => kvs[i]?.map fun kv => kV kv.1)) := by
  refine ⟨fun i _ hi q => ⟨q, hi⟩, fun _ q => ⟨q, rfl⟩, fun i H v H' _ q y => ?_⟩
  obtain ⟨T, k, x, h0, h1, h2, h3⟩ := y
  exact ⟨T, .int (i : Nat), kV k, h1, h2, h3, rfl, by simp [h0]⟩
end
/-- a dict comprehension over a walk -/
theorem dcg_it {J : It} {n : Nat} {G : Hp → Prop} {Y : Nat → Hp → V → Hp → Prop} (w : Walk J n G Y) {u0 : HO} {g : TG} {tt : TT} {tk tv : TE} {vs : List Nat} {σ : L2.St} {H1 : Hp} {D : Addr} {Qd : Hp → Prop} (Pv : Nat → Hp → Prop) (h0 : Pv 0 (upd H1 D u0)) (hG : ∀ i H, i ≤ n → Pv i H → G H)
    (hs : ∀ i x H H', i < n → Pv i H → Y i H x H' → DcTurn g tt tk tv vs D σ x H' (Pv (i + 1))) (hd : ∀ H, Pv n H → Qd H) :
    ∃ W : Nat → Nat → Hp → Prop, (∃ m, W 0 m (upd H1 D u0)) ∧ ∀ i m H, W i m H → (J.stop i H ∧ Qd H) ∨ (J.go i H ∧ ∃ Nx : Hp → Prop, (∀ H', Nx H' → ∃ m', m' < m ∧ W (i + 1) m' H') ∧ ∀ x H', J.yld i H x H' → DcTurn g tt tk tv vs D σ x H' Nx) := by
  refine ⟨fun i m H => m = n - i ∧ i ≤ n ∧ Pv i H, ⟨n, by simp, Nat.zero_le _, h0⟩, ?_⟩
  rintro i m H ⟨rfl, hi, p⟩
  have q := hG i H hi p
  by_cases hlt : i < n
  · exact .inr ⟨w.goes i H hlt q, Pv (i + 1), fun H' p' => ⟨n - (i + 1), by omega, rfl, hlt, p'⟩, fun x H' y => hs i x H H' hlt p (w.yields i H x H' hlt q y)⟩
  · have e : i = n := by omega
    subst e
    exact .inl ⟨w.stops H q, hd H p⟩
end Pk
set_option Elab.async false
set_option linter.all false
set_option maxRecDepth 100000
set_option maxHeartbeats 2000000
/-! Rules of our own, 4: a dict whose keys are nested tuples; len(set(ints)). -/
namespace Pk
open PySem PySem.Spec PyProof.Rows L2

/-! ### a dict whose keys are nested tuples: xs the keys, their tuples' addresses, the values -/
abbrev NEnt (xs : List (NestedKey × Addr × V)) (ys : List (NestedKey × Addr × Value)) : Prop := Paired (fun p q => p.1 = q.1 ∧ p.2.1 = q.2.1 ∧ L2.RelV p.2.2 q.2.2) xs ys
def NdF (P : Program) (w : World) (a : Addr) (xs : List (NestedKey × Addr × V)) (h : Heap) : Prop :=
  (a == sysModules) = false ∧ xs.length ≤ sizeLine ∧ ∃ (ys : List (NestedKey × Addr × Value)) (o : Obj) (es : Array DictEntry) (ep : Nat), NEnt xs ys ∧ h.get? a = some o ∧ o.ExactDict ∧ o.data = .dict es ep ∧ es.toList = ys.map (entryOfKey (nestedKind P w)) ∧ (ys.map (·.1)).Nodup
def NdO (P : Program) (w : World) (a : Addr) (xs : List (NestedKey × Addr × V)) : HO := .ext (NdF P w a xs)
/-- the keys' tuples can be read -/
def NKey (K : PySem.W.Frag) (H : Hp) (k : NestedKey) (b : Addr) : Prop := Dp K H (.ref b) k.data ∧ k.depth ≤ 8
def NKeys (K : PySem.W.Frag) (H : Hp) (xs : List (NestedKey × Addr × V)) : Prop := ∀ x ∈ xs, NKey K H x.1 x.2.1
def valN (xs : List (NestedKey × Addr × V)) (k : NestedKey) : Option V := (xs.find? fun x => decide (x.1 = k)).map (·.2.2)
theorem ndO_new {P : Program} {w : World} {H : Hp} {h : Heap} {a : Addr} {xs : List (NestedKey × Addr × V)} (R : NdF P w a xs h) : ObjOk P w H h a (NdO P w a xs) := by
  obtain ⟨_, _, ys, o, es, ep, _, ho, _⟩ := id R
  refine ⟨R, ⟨o, ho⟩, fun h1 h2 p k => ?_⟩
  obtain ⟨r1, r2, ys, o, es, ep, r, ho, q⟩ := p
  exact ⟨r1, r2, ys, o, es, ep, r, k o ho, q⟩
mutual
theorem nestedIs_of {h : Heap} : ∀ (k : NestedKey) {u : Value} {as : List Addr}, Reads h u k.data as → NestedIs h k u
  | .none, _, _, r => by
    rw [NestedKey.data] at r
    cases r
    exact .none
  | .num i, _, _, r => by
    rw [NestedKey.data] at r
    cases r
    exact .int _ _
  | .text x, _, _, r => by
    rw [NestedKey.data] at r
    cases r
    exact .text _ _
  | .tup ks, _, _, r => by
    rw [NestedKey.data] at r
    cases r with
    | tuple h1 h2 h3 h4 => exact .tup h1 h2 h3 (nestedAll_of ks h4)
theorem nestedAll_of {h : Heap} : ∀ (ks : List NestedKey) {us : List Value} {as : List Addr}, ReadsAll h us (NestedKey.datas ks) as → NestedAll h ks us
  | [], _, _, r => by
    rw [NestedKey.datas] at r
    cases r
    exact .nil
  | k :: ks, _, _, r => by
    rw [NestedKey.datas] at r
    cases r with
    | cons h1 h2 => exact .cons (nestedIs_of k h1) (nestedAll_of ks h2)
end
theorem nent_find {xs : List (NestedKey × Addr × V)} {ys : List (NestedKey × Addr × Value)} (r : NEnt xs ys) (k : NestedKey) : RelO (valN xs k) ((atKey ys k).map (·.2)) := by
  induction r with
  | nil => trivial
  | @cons p q l m h t ih =>
    by_cases e : p.1 = k
    · have e2 : q.1 = k := by rw [← h.1]; exact e
      have v1 : valN (p :: l) k = some p.2.2 := by simp [valN, List.find?_cons, e]
      have v2 : (atKey (q :: m) k).map (·.2) = some q.2.2 := by simp [atKey, List.find?_cons, e2]
      rw [v1, v2]
      exact h.2.2
    · have e2 : ¬ q.1 = k := by rw [← h.1]; exact e
      have v1 : valN (p :: l) k = valN l k := by simp [valN, List.find?_cons, e]
      have v2 : (atKey (q :: m) k).map (·.2) = (atKey m k).map (·.2) := by simp [atKey, List.find?_cons, e2]
      rw [v1, v2]
      exact ih
section
variable {X : Cx} {pins : List (Addr × Obj)} {σ : L2.St} {H : Hp} {s : Shared}
theorem nkey_is (I : Inv X pins σ H s) {k : NestedKey} {b : Addr} (h : NKey X.K H k b) : (nestedKind X.prog X.w).is s.heap k b := by
  obtain ⟨as, r⟩ := Dp.reads I k.data (.ref b) (.ref b) h.1 rfl
  exact ⟨nestedIs_of k r, h.2⟩
theorem pget' {xs : List (NestedKey × Addr × V)} {ys : List (NestedKey × Addr × Value)} (r : NEnt xs ys) : ∀ y ∈ ys, ∃ x ∈ xs, x.1 = y.1 ∧ x.2.1 = y.2.1 := by
  induction r with
  | nil => intro y hy; cases hy
  | cons h t ih =>
    intro y hy
    rcases List.mem_cons.mp hy with rfl | hy
    · exact ⟨_, List.mem_cons_self, h.1, h.2.1⟩
    · obtain ⟨x, hx, e⟩ := ih y hy
      exact ⟨x, List.mem_cons_of_mem _ hx, e⟩
theorem nd_at (I : Inv X pins σ H s) {a : Addr} {xs : List (NestedKey × Addr × V)} (h : H a = some (NdO X.prog X.w a xs)) (hk : NKeys X.K H xs) :
    (a == sysModules) = false ∧ xs.length ≤ sizeLine ∧ ∃ ys, NEnt xs ys ∧ s.heap.DictOfH (nestedKind X.prog X.w) a ys := by
  obtain ⟨hs, hz, ys, o, es, ep, r, ho, hx, hd, he, hn⟩ := (I.hok a _ h).1
  refine ⟨hs, hz, ys, r, o, es, ep, ho, hx, hd, he, fun y hy => ?_, hn⟩
  obtain ⟨p, hp, e1, e2⟩ := pget' r y hy
  rw [← e1, ← e2]
  exact nkey_is I (hk p hp)
variable {o i value : Expr} {td ty tv : TE} {pos pos' : Pos}
/-- {} that will hold nested keys -/
def tNdNew (P : Program) (w : World) : TE := fun _ H Q => ∀ p, H p = none → Q (.ref p) (upd H p (NdO P w p []))
theorem pe_ndnew : PE X (.Dict [] [] pos) (tNdNew X.prog X.w) := by
  refine ⟨fun pins s σ H Q I h => ?_⟩
  have q := (pe_dnewT (X := X) (pos := pos)).run pins s σ H (fun v H' => ∃ p, v = .ref p ∧ H p = none ∧ H' = upd H p (.dT [])) I (fun p hp => ⟨p, rfl, hp, rfl⟩)
  refine thn q fun u s1 ⟨v, H1, I1, rv, p, ev, hp, eH⟩ => ?_
  subst ev eH
  obtain ⟨zz, hs, xs, r, o, es, ep, ho, hx, hd, he, hn⟩ := (show ObjOk X.prog X.w _ s1.heap p (.dT []) from I1.hok p _ upd_same)
  cases r
  refine ⟨.ref p, upd H p (NdO X.prog X.w p []), ?_, rv, h p hp⟩
  have new : ObjOk X.prog X.w (upd H p (NdO X.prog X.w p [])) s1.heap p (NdO X.prog X.w p []) := ndO_new ⟨hs, Nat.zero_le _, [], o, es, ep, .nil, ho, hx, hd, he, List.nodup_nil⟩
  have w1 := I1.write (x := p) (e := p) (o := NdO X.prog X.w p []) (h' := s1.heap) (t' := s1.toks) (by rw [upd_same]; exact True.intro) (.inl rfl) (fun _ _ _ q => q) ⟨o, ho⟩ (by rw [upd_upd]; exact new)
  rw [upd_upd] at w1
  exact w1
def tNdNotIn (K : PySem.W.Frag) (P : Program) (w : World) (ty td : TE) : TE := fun σ H Q => ty σ H fun y H1 => td σ H1 fun x H2 => ∃ (a : Addr) (xs : List (NestedKey × Addr × V)) (k : NestedKey) (b : Addr), x = .ref a ∧ y = .ref b ∧
  H2 a = some (NdO P w a xs) ∧ NKeys K H2 xs ∧ NKey K H2 k b ∧ Q (.bl (!(valN xs k).isSome)) H2
theorem pc_ndnotin (hu : X.A.units + 64 < cLine) (hi : PE X i ty) (ho : PE X o td) : PC X .NotIn i o (tNdNotIn X.K X.prog X.w ty td) := by
  refine ⟨fun pins s σ H Q I h => ?_⟩
  refine bin hi ho I h fun v u s2 y x H2 I2 ry rx q => ?_
  obtain ⟨a, xs, k, b, rfl, rfl, ha, hk, hb, q⟩ := q
  cases rx
  cases ry
  obtain ⟨hs, hz, ys, r, dd⟩ := nd_at I2 ha hk
  refine wpAny_notIn_heap (show X.A.units + 1 + 8 < cLine by omega) (nkey_is I2 hb) hs dd ?_
  have e := (nent_find r k).isSome_eq
  rw [Option.isSome_map] at e
  rw [← e]
  exact ⟨.bl _, H2, I2.tok _, rfl, q⟩
def tNdGet (K : PySem.W.Frag) (P : Program) (w : World) (td ty : TE) : TE := fun σ H Q => td σ H fun x H1 => ty σ H1 fun y H2 => ∃ (a : Addr) (xs : List (NestedKey × Addr × V)) (k : NestedKey) (b : Addr) (z : V), x = .ref a ∧ y = .ref b ∧
  H2 a = some (NdO P w a xs) ∧ NKeys K H2 xs ∧ NKey K H2 k b ∧ valN xs k = some z ∧ Q z H2
theorem pe_ndget (hu : X.A.units + 64 < cLine) (ho : PE X o td) (hi : PE X i ty) (hs : NoSl i) : PE X (.Subscript o i pos) (tNdGet X.K X.prog X.w td ty) := by
  refine ⟨fun pins s σ H Q I h => ?_⟩
  refine subD_of PySem.F.slot_dict_getitem.lookup hs (thn (ho.run pins s σ H _ I h) fun u s1 ⟨x, H1, I1, rx, q1⟩ => thn (hi.run pins s1 σ H1 _ I1 q1) fun v s2 ⟨y, H2, I2, ry, q⟩ => ?_)
  obtain ⟨a, xs, k, b, z, rfl, rfl, ha, hk, hb, hz', q⟩ := q
  cases rx
  cases ry
  obtain ⟨hs, hz, ys, r, dd⟩ := nd_at I2 ha hk
  have e := nent_find r k
  rw [hz'] at e
  obtain ⟨w', hw, rw'⟩ := RelO.some_of e
  obtain ⟨p, hp, hp2⟩ := Option.map_eq_some_iff.mp hw
  refine ⟨dd.typeIs, wpAny_getItem_heap (show X.A.units + 1 + 8 < cLine by omega) (nkey_is I2 hb) dd hp ?_⟩
  rw [hp2]
  exact ⟨z, H2, I2.tok _, rw', q⟩
/-- d[k] = v, k new -/
def sNdPut (K : PySem.W.Frag) (P : Program) (w : World) (td ty tv : TE) : TS := fun D σ H => tv σ H fun z H1 => td σ H1 fun x H2 => ty σ H2 fun y H3 => ∃ (a : Addr) (xs : List (NestedKey × Addr × V)) (k : NestedKey) (b : Addr), x = .ref a ∧ y = .ref b ∧
  H3 a = some (NdO P w a xs) ∧ NKeys K H3 xs ∧ NKey K H3 k b ∧ valN xs k = none ∧ xs.length < sizeLine ∧ D.nx σ (upd H3 a (NdO P w a (xs ++ [(k, b, z)])))
theorem nent_snoc {xs : List (NestedKey × Addr × V)} {ys : List (NestedKey × Addr × Value)} (r : NEnt xs ys) {k : NestedKey} {b : Addr} {z : V} {u : Value} (ru : L2.RelV z u) : NEnt (xs ++ [(k, b, z)]) (ys ++ [(k, b, u)]) := by
  induction r with
  | nil => exact .cons ⟨rfl, rfl, ru⟩ .nil
  | cons h t ih => exact .cons h ih
theorem ps_ndput (hu : X.A.units + 64 < cLine) (ho : PE X o td) (hi : PE X i ty) (hv : PE X value tv) (hs : swapsWith value (some (.Subscript o i pos')) pos.line X.env = pure false := by rfl) :
    PS X (.Assign [.Subscript o i pos'] value pos) (sNdPut X.K X.prog X.w td ty tv) := by
  refine ⟨fun pins s σ H D I h => ?_⟩
  refine wpAny_Assign_Subscript (thn (hv.run pins s σ H _ I h) fun u s1 ⟨z, H1, I1, rz, q1⟩ => thn (ho.run pins s1 σ H1 _ I1 q1) fun ov s2 ⟨x, H2, I2, rx, q2⟩ => thn (hi.run pins s2 σ H2 _ I2 q2) fun iv s3 ⟨y, H3, I3, ry, h⟩ => ?_) hs
  obtain ⟨a, xs, k, b, rfl, rfl, ha, hk, hb, hn, hl, q⟩ := h
  cases rx
  cases ry
  obtain ⟨hs, hz, ys, r, dd⟩ := nd_at I3 ha hk
  have e := nent_find r k
  rw [hn] at e
  have hno : atKey ys k = none := by
    have := RelO.none_of e
    simpa using this
  have hzy : ys.length ≤ sizeLine := by rw [← Paired.length r]; exact hz
  refine wpAny_setItem_heap (hsz := hzy) (show X.A.units + 1 + 8 < cLine by omega) (nkey_is I3 hb) dd fun h' dd' hs' => ?_
  rw [storedH_new hno] at dd'
  obtain ⟨q', es, ep, hq, g2, g3, g4, _, g5⟩ := dd'
  refine ⟨σ, _, I3.write (x := a) (e := a) (o := NdO X.prog X.w a (xs ++ [(k, b, z)])) (by rw [ha]; exact True.intro) (.inl rfl) (fun c u hc hu => (hs'.2 c hc).trans hu) ⟨q', hq⟩ (ndO_new ⟨hs, ?_, _, q', es, ep, nent_snoc r rz, hq, g2, g3, g4, g5⟩), q⟩
  rw [List.length_append]
  exact hl
/-- len(d) -/
def rLenNd (P : Program) (w : World) (K : PySem.W.Frag) : List V → Hp → VK → Prop := fun vs H Q => ∃ (a : Addr) (xs : List (NestedKey × Addr × V)), vs = [.ref a] ∧ H a = some (NdO P w a xs) ∧ NKeys K H xs ∧ Q (.int ((xs.length : Nat) : Int)) H
theorem call_len_nd : CallR X (.builtin "len") (rLenNd X.prog X.w X.K) := by
  intro pins s σ H vs us Q I r h
  obtain ⟨a, xs, rfl, ha, hk, q⟩ := h
  obtain ⟨u, rfl, rx⟩ := vals1 r
  cases rx
  obtain ⟨hs, hz, ys, rr, dd⟩ := nd_at I ha hk
  have hl : xs.length = ys.length := Paired.length rr
  refine call_len_dictH hs dd (by rw [← hl]; rw [sizeLine_eq] at hz; omega) ?_
  rw [← hl]
  exact ⟨.int ((xs.length : Nat) : Int), H, I.tok _, ⟨_, rfl⟩, q⟩
end
end Pk
set_option Elab.async false
set_option linter.all false
set_option maxRecDepth 100000
set_option maxHeartbeats 2000000
/-! Rules of our own, 5: len(set(ints)); a set comprehension of texts, sorted. -/
namespace Pk
open PySem PySem.Spec PyProof.Rows L2

/-! ### len(set(xs)) -/
def ddI (ns : List Int) : List Int := ns.foldl step_dedup []
theorem firstMet_all (ns : List Int) : PyProof.Rows.firstMet (fun i => ns.getD i 0) ns.length = ddI ns := by
  unfold PyProof.Rows.firstMet ddI
  congr 1
  refine List.ext_getElem? fun i => ?_
  rw [List.getElem?_map]
  by_cases h : i < ns.length
  · rw [List.getElem?_range h, List.getElem?_eq_getElem h]
    simp [List.getD_eq_getElem?_getD, h]
  · rw [List.getElem?_eq_none (by simpa using h), List.getElem?_eq_none (by omega)] <;> rfl
section
variable {X : Cx}
def tLenSetD (K : PySem.W.Frag) (ta : TE) : TE := fun σ H Q => ta σ H fun x H1 => ∃ (l : Addr) (ns : List Int), x = .ref l ∧ SqL K H1 l (ns.map V.int) ∧ ns.length ≤ 4000 ∧ Q (.int ((ddI ns).length : Nat)) H1
theorem pe_lenSetD {a : Expr} {ta : TE} {p p2 q pos : Pos} (hg : Gl X "len") (hm : X.mg "len" = none) (hg2 : Gl X "set") (hm2 : X.mg "set" = none) (ha : PE X a ta) (hc : X.calm = true)
    (na : starEach [a] X.env = (false, eval a X.env) :: starEach [] X.env := by rfl) : PE X (.Call (.Name "len" p) [.Call (.Name "set" p2) [a] [] q] [] pos) (tLenSetD X.K ta) := by
  refine ⟨fun pins s σ H Q I h => Call_ (ld_blt I hg hm boot_len ?_)⟩
  refine PyProof.Rows.callWith_builtin1 (PyProof.Rows.args_cons (Call_ (ld_blt I hg2 hm2 boot_set ?_)) rfl) rfl rfl
  refine PyProof.Rows.callWith_type1 (PyProof.Rows.args_cons (thn (ha.run pins s σ H _ I h) fun v s1 ⟨x, H1, I1, r1, l, ns, ex, hq, hl, q1⟩ => PyProof.Rows.args_nil ?_) na) na rfl
  subst ex
  cases r1
  obtain ⟨its, r, pl, hz⟩ := I1.list hq
  have hlen : its.toArray.size = ns.length := by rw [List.size_toArray, ← r.length, List.length_map]
  refine call_set_list (I1.ok.hd hc) pl.isList (by simpa using RZ.intsAre_vals r) (by rw [hlen]; unfold scanBound; omega) fun h' tk hS hk => PyProof.Rows.args_nil ?_
  have hle := PyProof.Rows.firstMet_length_le (fun i => ns.getD i 0) ns.length
  rw [hlen, firstMet_all] at hS
  rw [firstMet_all] at hle
  obtain ⟨o, es, ep, t, ho, hex, hd, _, _, _, hf, hn⟩ := hS
  have I2 : Inv X pins σ H1 { s1 with heap := h', toks := tk } := I1.kept fun b o e => hk b o (Heap.lt_size e) e
  exact call_len_set ho hex hd hf (by rw [hn] <;> omega) ⟨.int ((ddI ns).length : Nat), H1, I2.tok _, ⟨_, by rw [hn]⟩, q1⟩
end

/-! ### a set of texts: l its members, each once -/
open PySem.Froz in
def StF (P : Program) (w : World) (a : Addr) (l : List Str) (h : Heap) : Prop :=
  ∃ D : SD, h.get? a = some (sObj "set" D) ∧ TxOk P w D l ∧ l.Nodup ∧ Ris D.2.2.place.toList ∧ (w.params.followText "set-order" = true ∨ D.2.2.led = true)
def StO (P : Program) (w : World) (a : Addr) (l : List Str) : HO := .ext (StF P w a l)
theorem stO_new {P : Program} {w : World} {H : Hp} {h : Heap} {a : Addr} {l : List Str} (R : StF P w a l h) : ObjOk P w H h a (StO P w a l) := by
  have ⟨D, ho, _⟩ := R
  refine ⟨R, ⟨_, ho⟩, fun h1 h2 p k => ?_⟩
  obtain ⟨D, ho, r⟩ := p
  exact ⟨D, k _ ho, r⟩
theorem tail_ris {ep : Nat} {es : Array (Int × Value)} {t : SetTable} {wd : Bool} (r : Ris t.place.toList) : Ris (PySem.Froz.tailTx ep es t wd).2.2.place.toList := by
  unfold PySem.Froz.tailTx
  split
  · exact relayAll_ris _ _ _
  · exact r
theorem tail_led {ep : Nat} {es : Array (Int × Value)} {t : SetTable} {wd : Bool} : (PySem.Froz.tailTx ep es t wd).2.2.led = t.led := by
  unfold PySem.Froz.tailTx
  split
  · exact relayAll_led _ _ _
  · rfl
theorem add_ris {h : Int} {v : Value} {D : PySem.Froz.SD} (r : Ris D.2.2.place.toList) : Ris (PySem.Froz.addTx h v D).2.2.place.toList := by
  unfold PySem.Froz.addTx
  refine tail_ris ?_
  have q := layNew_ris D.2.2 D.1 h v r
  split <;> exact q
theorem add_led {h : Int} {v : Value} {D : PySem.Froz.SD} : (PySem.Froz.addTx h v D).2.2.led = D.2.2.led := by
  unfold PySem.Froz.addTx
  rw [tail_led]
  have q := layNew_led D.2.2 D.1 h v
  split <;> exact q
section
variable {P : Program} {w : World} {A : Around} {E : Value → Shared → Prop} {s : Shared} {a : Addr}
/-- a text that is there already -/
theorem st_again {D : PySem.Froz.SD} {l : List Str} {k : Str} {u : Tok} {Q : Bool → Shared → Prop} (ho : s.heap.get? a = some (PySem.Froz.sObj "set" D)) (Fx : PySem.Froz.TxOk P w D l) (hk : k ∈ l) (hb : l.length < scanBound)
    (h : Q false s) : wpAny (model P w) A (setAddHashed a (.str k u) (hashStr w k)) Q E s := by
  obtain ⟨es, ep, t⟩ := D
  have hd : (PySem.Froz.sObj "set" (es, ep, t)).data = .set es ep t := rfl
  have hf : t.fits es.size = true := Fx.fit
  have hel : ElemsOf (strKind P w) es.toList := Fx.el
  have hkey : (strKind P w).is k (.str k u) = true := PySem.Froz.is_str k u
  have hsz : es.size = l.length := Fx.sz
  unfold setAddHashed setAddHashedIn
  refine wpAny_holding (wpAny_bind (wpAny_setState_of ho hd hf ?_))
  dsimp only
  rw [byScan_of rfl (by omega) hel]
  simp only [↓reduceIte]
  unfold setAddByScan
  refine wpAny_bind (wpAny_bind (wpAny_rule (wpAny_bind (wpAny_setScan_of (knd := strKind P w) (k := k) hkey ho hd hf hel ?_))))
  cases hfi : List.findIdx? (fun e => (strKind P w).is k e.2) es.toList with
  | some j =>
    dsimp only
    exact wpAny_pure (wpAny_pure h)
  | none =>
    obtain ⟨e, he, q⟩ := (Fx.mem k).mp hk
    have c := List.findIdx?_eq_none_iff.mp hfi e he
    rw [q] at c
    cases c
/-- found.add(k) -/
theorem st_add {l : List Str} {k : Str} {u : Tok} {Q : Value → Shared → Prop} (R : StF P w a l s.heap) (hb : l.length + 1 < scanBound)
    (hQ : ∀ h', (∀ b, b ≠ a → h'.get? b = s.heap.get? b) → StF P w a (if k ∈ l then l else k :: l) h' → Q .none { s with heap := h', toks := s.toks + 1 }) :
    wpAny (model P w) A (call (.builtin "set.add") [.ref a, .str k u]) Q E s := by
  obtain ⟨D, ho, Fx, nd, hr, hl⟩ := R
  refine wpAny_call_entry F.slot_set_add ⟨_, ho, rfl⟩ F.entry_set_add ?_ (F.args_set_add_2 _ _)
  unfold Builtin.«set.add» Builtin.Frozenset.oneOther
  simp only [List.isEmpty_nil, bind_assoc]
  unfold Builtin.Frozenset.addrOf setAdd
  refine wpAny_bind (wpAny_pure ?_)
  try dsimp only
  refine wpAny_bind (wpAny_pure ?_)
  try dsimp only
  refine wpAny_bind (wpAny_holding (wpAny_bind ((strKind P w).pyHash (PySem.Froz.is_str k u) ?_)))
  by_cases hk : k ∈ l
  · rw [if_pos hk] at hQ
    refine st_again (s := { s with toks := s.toks + 1 }) ho Fx hk (by omega) ?_
    show wpAny _ _ (ret Value.none) _ _ _
    exact wpAny_pure ⟨_, rfl, hQ s.heap (fun _ _ => rfl) ⟨D, ho, Fx, nd, hr, hl⟩⟩
  · rw [if_neg hk] at hQ
    refine PySem.Froz.add_x (s := { s with toks := s.toks + 1 }) ho Fx hk hb ?_
    show wpAny _ _ (ret Value.none) _ _ _
    exact wpAny_pure ⟨_, rfl, hQ _ (fun b hb => (Heap.SameBut.update s.heap a _).2 b hb) ⟨_, PySem.Froz.get_upd _ ho rfl, PySem.Froz.add_ok u Fx, List.nodup_cons.mpr ⟨hk, nd⟩, add_ris hr, hl.imp id fun z => by rw [add_led]; exact z⟩⟩
theorem st_fresh {h : Heap} : StF P w h.objs.size [] (h.push { cls := .type "set", dict := none, data := .set #[] 0 (.fresh 0 0 (!w.params.followText "set-order")) }) :=
  ⟨(#[], 0, .fresh 0 0 (!w.params.followText "set-order")), Heap.get?_push_size _ rfl, PySem.Froz.TxOk.nil (by rfl), List.nodup_nil, List.Pairwise.nil, by
    show _ ∨ (!w.params.followText "set-order") = true
    cases w.params.followText "set-order"
    · exact .inr rfl
    · exact .inl rfl⟩
end

section
variable {X : Cx}
theorem stO_get {pins : List (Addr × Obj)} {σ : L2.St} {H : Hp} {s : Shared} {a : Addr} {l : List Str} (I : Inv X pins σ H s) (ha : H a = some (StO X.prog X.w a l)) : StF X.prog X.w a l s.heap := (I.hok a _ ha).1
theorem st_addI {pins : List (Addr × Obj)} {σ : L2.St} {H : Hp} {s : Shared} {E : Value → Shared → Prop} {D : Addr} {l : List Str} {k : Str} {u : Tok} {Q : Value → Shared → Prop} (I : Inv X pins σ H s) (hD : H D = some (StO X.prog X.w D l)) (room : l.length + 1 < scanBound)
    (h : ∀ s', Inv X pins σ (upd H D (StO X.prog X.w D (if k ∈ l then l else k :: l))) s' → Q .none s') : wpAny (model X.prog X.w) X.A (call (.builtin "set.add") [.ref D, .str k u]) Q E s := by
  refine st_add (stO_get I hD) room fun h' sb new => h _ ?_
  have ⟨_, ho, _⟩ := new
  exact I.write (e := D) (t' := s.toks + 1) (by rw [hD]; trivial) (.inl rfl) (fun b u hb hu => (sb b hb).trans hu) ⟨_, ho⟩ (stO_new new)
/-- {elt for target in iter if ..}, elt a text -/
def StTurn (P : Program) (w : World) (g : TG) (tt : TT) (te : TE) (vs : List Nat) (D : Addr) (σ : L2.St) (x : V) (H' : Hp) (Nx : Hp → Prop) : Prop :=
  g x (wipe σ vs) H' fun σ2 H2 => wipe σ2 vs = wipe σ vs ∧ tt σ2 H2 fun b H3 => if b = true then te σ2 H3 fun y H4 => ∃ (k : Str) (l : List Str), y = .str k ∧ H4 D = some (StO P w D l) ∧ l.length + 1 < scanBound ∧
    Nx (upd H4 D (StO P w D (if k ∈ l then l else k :: l))) else Nx H3
def tStC (P : Program) (w : World) (wi : TI) (g : TG) (tt : TT) (te : TE) (vs : List Nat) : TE := fun σ H Q => wi σ H fun J H1 => ∀ D, H1 D = none → ∃ W : Nat → Nat → Hp → Prop, (∃ m, W 0 m (upd H1 D (StO P w D []))) ∧ ∀ i m H, W i m H →
  (J.stop i H ∧ Q (.ref D) H) ∨ (J.go i H ∧ ∃ Nx : Hp → Prop, (∀ H', Nx H' → ∃ m', m' < m ∧ W (i + 1) m' H') ∧ ∀ x H', J.yld i H x H' → StTurn P w g tt te vs D σ x H' Nx)
theorem pe_stC {elt tg iter : Expr} {ifs : List Expr} {scope : Scope} {own : List (Str × Nat)} {pos : Pos} {wi : TI} {g : TG} {tt : TT} {te : TE} (hc : X.calm = true) (hN : X.N.Nodup)
    (hi : PI X tg iter wi) (ok : BlkOk X.N X.env.scope scope own)
    (hg : ∀ (s : Shared) (H : Hp) (C : Addr) (cl : List (Str × Addr)) (fp : List Addr), PG (X.blk s H scope (compEnvC scope cl C X.env) fp) tg g)
    (ht : ∀ (s : Shared) (H : Hp) (C : Addr) (cl : List (Str × Addr)) (fp : List Addr), PTs (X.blk s H scope (compEnvC scope cl C X.env) fp) ifs tt)
    (he : ∀ (s : Shared) (H : Hp) (C : Addr) (cl : List (Str × Addr)) (fp : List Addr), PE (X.blk s H scope (compEnvC scope cl C X.env) fp) elt te)
    (hs : ∀ x, foldedSetIterable iter X.env x = pure x := by intro _; rfl) : PE X (.SetComp elt [⟨tg, iter, ifs, 0⟩] scope pos) (tStC X.prog X.w wi g tt te (own.map (·.2))) := by
  refine ⟨fun pins s σ H Q I h => ?_⟩
  rw [PpSet.eval_SetComp]
  have hfree : ∀ y ∈ scope.names, y.2 = .free → ∃ c, X.env.cells.lookup y.1 = some c := fun y hy e => (ok.free y hy e).elim (fun k => I.ok.has _ (.inl k)) fun k => I.ok.has _ (.inr k)
  refine wpAny_comprehension_free rfl hs (closure_ok hfree) ok.kind (fun y hy e => by rw [ok.uniq y hy, e]) (thn (hi.run pins s σ H _ I h) fun xv s1 hx => thn hx fun itv s2 hh2 => ?_)
  obtain ⟨it, fp, tn, J, H2, e, I2, T, st2, f2, q⟩ := hh2
  subst e
  refine PpSet.newSet_ok (newEnv_comp ?_)
  have hDn : H2 s2.heap.objs.size = none := I2.hok.fresh (Nat.le_refl _)
  obtain ⟨W, ⟨m0, w0⟩, turn⟩ := q _ hDn
  have I3 : Inv X pins σ (upd H2 s2.heap.objs.size (StO X.prog X.w s2.heap.objs.size [])) { s2 with heap := s2.heap.push { cls := .type "set", dict := none, data := .set #[] 0 (.fresh 0 0 (!X.w.params.followText "set-order")) } } :=
    I2.laid (t' := s2.toks) (fun b o e => Heap.get?_push_of_some _ e) (Nat.le_refl _) (stO_new st_fresh)
  have sz : ∀ b ∈ fp, b < s2.heap.objs.size := fun b hb => by
    obtain ⟨o, e, _⟩ := T.obj _ _ st2 b hb
    exact Heap.lt_size e
  have st3 : tn 0 (s2.heap.push { cls := .type "set", dict := none, data := .set #[] 0 (.fresh 0 0 (!X.w.params.followText "set-order")) }) := T.keep _ _ _ st2 fun b _ o e => Heap.get?_push_of_some _ e
  have f3 : ∀ b ∈ fp, FpOk X pins (upd H2 s2.heap.objs.size (StO X.prog X.w s2.heap.objs.size [])) b ∧ b < (s2.heap.push { cls := .type "set", dict := none, data := .set #[] 0 (.fresh 0 0 (!X.w.params.followText "set-order")) }).objs.size := fun b hb => by
    have hlt := sz b hb
    refine ⟨⟨?_, (f2 b hb).2⟩, by rw [Heap.size_push]; exact Nat.lt_succ_of_lt hlt⟩
    rw [upd_ne (Nat.ne_of_lt hlt)]
    exact (f2 b hb).1
  generalize s2.heap.objs.size = D at hDn w0 turn I3 f3 ⊢
  generalize hs3 : ({ s2 with heap := s2.heap.push { cls := .type "set", dict := none, data := .set #[] 0 (.fresh 0 0 (!X.w.params.followText "set-order")) } } : Shared) = s3 at I3
  have h3 : s2.heap.push { cls := .type "set", dict := none, data := .set #[] 0 (.fresh 0 0 (!X.w.params.followText "set-order")) } = s3.heap := by rw [← hs3]
  rw [h3] at st3 f3
  have I4 := block_start I3 ok hN f3
  generalize hH3 : upd H2 D (StO X.prog X.w D []) = H3 at I3 I4 w0 f3
  have nfp : ∀ b ∈ fp, H3 b = none := fun b hb => (f3 b hb).1.1
  have pg := hg s3 H3 s3.heap.objs.size (cellsFrom (s3.heap.objs.size + 1) scope.names (cloFrom X.env.cells scope.names [])) fp
  have pt := ht s3 H3 s3.heap.objs.size (cellsFrom (s3.heap.objs.size + 1) scope.names (cloFrom X.env.cells scope.names [])) fp
  have pe := he s3 H3 s3.heap.objs.size (cellsFrom (s3.heap.objs.size + 1) scope.names (cloFrom X.env.cells scope.names [])) fp
  generalize hce : compEnvC scope (cellsFrom (s3.heap.objs.size + 1) scope.names (cloFrom X.env.cells scope.names [])) s3.heap.objs.size X.env = ce at I4 pg pt pe
  have cL : ce.locals = s3.heap.objs.size := by subst hce; rfl
  generalize hs4 : ({ s3 with heap := pushCells (s3.heap.push { cls := .type "dict", data := .dict #[] }) scope.names } : Shared) = s4 at I4
  have st4 : tn 0 s4.heap := T.keep _ _ _ st3 fun b _ o e => by rw [← hs4]; exact pushCells_keeps _ _ _ _ (Heap.get?_push_of_some _ e)
  have stat : ∀ {σ' : L2.St} {H' : Hp} {s' : Shared}, Inv (X.blk s3 H3 scope ce fp) [] σ' H' s' → (∀ b ∈ fp, H' b = none) → ∀ b ∈ fp, FpOk (X.blk s3 H3 scope ce fp) [] H' b := fun {σ' H' s'} I' hn b hb =>
    ⟨hn b hb, (I'.ok.exf b hb).1, I'.ok.exfs b hb, .inl hb, fun x c e => (I'.ok.exf b hb).2 x c e, fun p hp => nomatch (show p ∈ ([] : List (Addr × Obj)) from hp)⟩
  have after : ∀ {n : Nat} {i : Nat} {σ8 : L2.St} {s7 s' : Shared} {H' : Hp} {Nx : Hp → Prop}, tn (i + 1) s7.heap → wipe σ8 (own.map (·.2)) = wipe σ (own.map (·.2)) → (∀ H', Nx H' → ∃ m', m' < n ∧ W (i + 1) m' H') →
      Inv (X.blk s3 H3 scope ce fp) ([] ++ pinsAt fp s7.heap) σ8 H' s' → Nx H' →
      ∃ m, m < n ∧ ∃ i H', Inv (X.blk s3 H3 scope ce fp) [] (wipe σ (own.map (·.2))) H' s' ∧ tn i s'.heap ∧ (∀ b ∈ fp, H' b = none) ∧ W i m H' := by
    intro n i σ8 s7 s' H' Nx st7 hw8 hNx I' nx
    obtain ⟨m', hm, w'⟩ := hNx H' nx
    have pinned : ∀ b ∈ fp, ∀ o, s7.heap.get? b = some o → s'.heap.get? b = some o ∧ H' b = none := fun b hb o e =>
      let z := I'.pin (b, o) (List.mem_append_right _ (List.mem_append_right _ (mem_pinsAt hb e)))
      ⟨z.1, z.2.1⟩
    have hl : (wipe σ (own.map (·.2))).length = σ8.length := by rw [← hw8, wipe_length]
    refine ⟨m', hm, i + 1, H', (I'.unpinned (pins := [])).weak hl (fun j v e => ?_), T.keep _ _ _ st7 fun b hb o e => (pinned b hb o e).1, fun b hb => ?_, w'⟩
    · rw [← hw8] at e
      exact (wipe_some e).1
    · obtain ⟨o, e, _⟩ := T.obj _ _ st7 b hb
      exact (pinned b hb o e).2
  have loop : ∀ R : Result → Shared → Prop, (∀ s6 H5, Inv X pins σ H5 s6 → Q (.ref D) H5 → (∃ m, s6.heap.Ns s3.heap.objs.size m) → FpOk X pins H5 s3.heap.objs.size → R (.ok .next) s6) →
      codeAny (model X.prog X.w) X.A (.compLoop (.SetComp elt [⟨tg, iter, ifs, 0⟩] scope pos) 0 (.ref it) (.ref D) ce) R s4 := by
    intro R hR
    refine PpSet.compLoopS_any (fun n s' => ∃ i H', Inv (X.blk s3 H3 scope ce fp) [] (wipe σ (own.map (·.2))) H' s' ∧ tn i s'.heap ∧ (∀ b ∈ fp, H' b = none) ∧ W i n H') ?_ m0 ⟨0, H3, I4, st4, nfp, w0⟩
    rintro n s5 ⟨i, H5, I5, st5, n5, w5⟩
    rcases turn i n H5 w5 with ⟨stop, qq⟩ | ⟨go, Nx, hNx, step⟩
    · refine thnF (T.done (X.blk s3 H3 scope ce fp) rfl rfl rfl hc i [] s5 _ H5 (fun _ _ => False) I5 (stat I5 n5) st5 stop) fun r s6 ⟨hr, I6⟩ => ?_
      subst hr
      have I7 : Inv X pins σ H5 s6 := I3.call' (ch := fp) I6.os I6.base I6.hok I6.bare fun b hb => ⟨(f3 b hb).1.2.2.2.1, (f3 b hb).1.2.1, (f3 b hb).1.2.2.2.2.1, (f3 b hb).1.2.2.2.2.2⟩
      have nC : H5 s3.heap.objs.size = none := by
        have z : H5 ce.locals = none := I6.free
        rwa [cL] at z
      obtain ⟨m, hn, _⟩ := I6.loc
      have hn : s6.heap.Ns ce.locals m := hn
      rw [cL] at hn
      exact hR s6 H5 I7 qq ⟨m, hn⟩ (I3.fpOk (Nat.le_refl _) nC)
    · refine thnF (T.item (X.blk s3 H3 scope ce fp) rfl rfl rfl hc i [] s5 _ H5 (fun _ _ => False) I5 (stat I5 n5) st5 go) fun r s6 ⟨u, hr, h6⟩ => ?_
      subst hr
      refine thnF h6 fun _ s7 ⟨x, H7, I7, r7, y7, st7, n7⟩ => ?_
      refine thnF (pg.run _ s7 _ H7 x u _ (I7.pinned (stat I7 n7) (T.obj _ _ st7)) r7 (step x H7 y7)) fun _ s8 ⟨σ8, H8, I8, hw8, q8⟩ => ?_
      refine thnF (pt.run _ s8 σ8 H8 _ I8 q8) fun b s9 ⟨H9, I9, q9⟩ => ?_
      cases b with
      | false =>
        simp only [Bool.false_eq_true, if_false] at q9 ⊢
        exact after st7 hw8 hNx I9 q9
      | true =>
        simp only [if_true] at q9 ⊢
        refine thnF (pe.run _ s9 σ8 H9 _ I9 q9) fun z s10 ⟨yk, H10, I10, r10, k, l, ey, hD10, hl10, nx⟩ => ?_
        subst ey
        obtain ⟨tk, rfl⟩ := r10
        exact st_addI (X := X.blk s3 H3 scope ce fp) I10 hD10 hl10 fun s11 I11 => after st7 hw8 hNx I11 nx
  have fin := loop (compPost (model X.prog X.w) X.A X.xe none (EP X pins σ Q) (.ref D) s3.heap.objs.size) fun s6 H5 I7 qq ⟨m, hn⟩ f => ⟨m, hn, fun h'' sb => ?_⟩
  · have z := PpSet.codeAny_compStart_set fin (T.self X.A 0 _ _ _ st4 fin)
    subst hs4
    subst hce
    subst hs3
    exact z
  · obtain ⟨f0, f1, f2', f3', f4, f5⟩ := f
    exact ⟨.ref D, H5, I7.turned (t' := s6.toks) (fun b o hb e => (sb.2 b hb).trans e) f0 f1 f3' f4 f5, rfl, qq⟩

/-! ### sorted of a set of texts -/
theorem strs_each {K : PySem.W.Frag} {H : Hp} : ∀ {us : List Value}, (∀ u ∈ us, ∃ k t, u = Value.str k t) → ∃ bs : List Str, us.map (fun u => match u with | .str k _ => k | _ => Str.empty) = bs ∧ PySem.W.EachIs (fun u b => Std K H u (PyData.str b)) us bs
  | [], _ => ⟨[], rfl, .nil⟩
  | u :: us, h => by
    obtain ⟨k, t, e⟩ := h u List.mem_cons_self
    obtain ⟨bs, e1, e2⟩ := strs_each fun v hv => h v (List.mem_cons_of_mem _ hv)
    subst e
    exact ⟨k :: bs, by rw [List.map_cons, e1], .cons ⟨.str k, ⟨t, rfl⟩, .str k⟩ e2⟩
theorem dpAll_strs {K : PySem.W.Frag} {H : Hp} : ∀ {vs : List V} {bs : List Str}, DpAll K H vs (bs.map PyData.str) → vs = bs.map V.str
  | _, [], h => by cases (show DpAll K H _ [] from h); rfl
  | _, b :: bs, h => by
    cases (show DpAll K H _ (PyData.str b :: bs.map PyData.str) from h) with
    | cons a c =>
      cases a
      rw [dpAll_strs c] <;> rfl
def rSortSt (P : Program) (w : World) : List V → Hp → VK → Prop := fun vs H Q => ∃ (a : Addr) (l : List Str), vs = [.ref a] ∧ H a = some (StO P w a l) ∧ l.length < scanBound ∧
  ∀ (p : Addr) (ys : List Str), H p = none → (∀ y, y ∈ ys ↔ y ∈ l) → ys.length = l.length → Q (.ref p) (upd H p (.lst (ys.map V.str)))
theorem cr_sortSt (hc : X.calm = true) (hu : X.A.units + 64 < cLine) : CallR X (.builtin "sorted") (rSortSt X.prog X.w) := by
  intro pins s σ H vs us Q I r h
  obtain ⟨a, l, rfl, ha, hlen, q⟩ := h
  rw [Vals.ref1 r]
  obtain ⟨D, ho, Fx, nd, hr, hl⟩ := stO_get I ha
  have hsz : D.1.size = l.length := Fx.sz
  refine Calls.call_function_entry PyProof.Rows.kind_sorted PyProof.Rows.plain_sorted PyProof.Rows.entry_sorted (PyProof.Rows.args_sorted1 _) ?_
  unfold Builtin.«sorted»
  refine wpAny_bind (m := checkCount "sorted" 1 1 _) (wpAny_pure ?_)
  refine wpAny_bind (collect_set (A := X.A.in1) (I.ok.hd hc) ⟨_, ho, rfl, rfl⟩ Fx.fit (by omega) hr hl fun s1 vs k1 hz g1 o1 pm => ?_)
  have I1 : Inv X pins σ H s1 := I.call' (ch := []) o1 (Un.kept k1) (I.hok.kept k1) (by rw [g1]; exact I.bare) (fun _ z => nomatch z)
  have isS : ∀ u ∈ vs, ∃ k t, u = Value.str k t := fun u hu => by
    obtain ⟨e, he, ee⟩ := List.mem_map.mp (pm.mem_iff.mp hu)
    obtain ⟨⟨k, hk, _⟩, _⟩ := Fx.el e he
    have z : Value.isStrOf k e.2 = true := hk
    rw [← ee]
    revert z
    cases e.2 <;> intro z <;> first | exact ⟨_, _, rfl⟩ | exact absurd z Bool.false_ne_true
  obtain ⟨bs, eb, ee⟩ := strs_each (K := X.K) (H := H) isS
  have hvl : vs.length = l.length := by rw [pm.length_eq, List.length_map, Array.length_toList]; exact hsz
  have hbl : bs.length = l.length := by rw [← hvl, ← eb, List.length_map]
  have hmem : ∀ y, y ∈ bs ↔ y ∈ l := fun y => by
    rw [← eb, Fx.mem y]
    constructor
    · intro hy
      obtain ⟨u, hu, e⟩ := List.mem_map.mp hy
      obtain ⟨k, t, rfl⟩ := isS u hu
      obtain ⟨en, hen, e2⟩ := List.mem_map.mp (pm.mem_iff.mp hu)
      refine ⟨en, hen, ?_⟩
      rw [e2, ← e]
      exact PySem.Froz.is_str k t
    · rintro ⟨en, hen, hk⟩
      refine List.mem_map.mpr ⟨en.2, pm.mem_iff.mpr (List.mem_map.mpr ⟨en, hen, rfl⟩), ?_⟩
      obtain ⟨k, t, e2⟩ := isS en.2 (pm.mem_iff.mpr (List.mem_map.mpr ⟨en, hen, rfl⟩))
      rw [e2] at hk ⊢
      exact (strKind X.prog X.w).inj (.str k t) k y (PySem.Froz.is_str k t) hk
  have hsl : vs.length ≤ sizeLine := by
    rw [hvl, sizeLine_eq]
    have : scanBound = 4096 := rfl
    omega
  refine wpAny_bind (wpAny_newList ?_ hsl)
  have hoL : (s1.heap.push (seqObj "list" vs.toArray 0)).get? s1.heap.objs.size = some (seqObj "list" vs.toArray 0) := Heap.get?_push_size _ rfl
  have er : PySem.W.EachIs (fun v b => ∃ as, Reads (s1.heap.push (seqObj "list" vs.toArray 0)) v (PyData.str b) as ∧ s1.heap.objs.size ∉ as) vs bs := by
    refine (PySem.W.each_mem ee).mono fun u b ⟨⟨x, rx, dx⟩, hb⟩ => ?_
    cases dx
    obtain ⟨t, rfl⟩ := rx
    exact ⟨[], .str _ _, fun m => nomatch m⟩
  refine wpAny_bind (wpAny_holding (PySem.W.list_sort_data (s := { s1 with heap := s1.heap.push (seqObj "list" vs.toArray 0) }) (R := fun u b => Std X.K H u (PyData.str b)) (enc := PyData.str) hoL ee er (fun d hd d' hd' => ?_) (.inr fun d hd => ?_) (by rw [hbl, ← hvl]; exact hsl) (fun b hb => ?_) fun out h1 eo => ?_))
  · obtain ⟨x, _, rfl⟩ := List.mem_map.mp hd
    obtain ⟨y, _, rfl⟩ := List.mem_map.mp hd'
    rfl
  · obtain ⟨x, _, rfl⟩ := List.mem_map.mp hd
    exact ⟨(fun z => nomatch z), fun _ z => nomatch z⟩
  · show X.A.units + 1 + 1 + _ < _
    have : (PyData.str b).depth ≤ 2 := by simp [PyData.depth]
    omega
  obtain ⟨ys, ry, dy⟩ := of_each_std eo
  have ey := dpAll_strs dy
  have pe : (bs.mergeSort (PySem.W.dataLe false PyData.str)).Perm bs := List.mergeSort_perm ..
  obtain ⟨e', he'⟩ := PyProof.Rows.sortedHeap_at (vs := vs) (out := out.toArray) hoL
  have hy : ys.length ≤ sizeLine := by rw [ry.length, h1, hbl, ← hvl]; exact hsl
  refine wpAny_pure ⟨_, rfl, .ref s1.heap.objs.size, upd H s1.heap.objs.size (.lst ys), I1.laid (t' := s1.toks) (fun b u e => ?_) (Nat.le_refl _) (show ObjOk X.prog X.w _ _ _ (.lst ys) from ⟨hy, out, e', ry, he'⟩), rfl, ?_⟩
  · have hb : b < s1.heap.objs.size := Heap.lt_size e
    show (sortedHeap (s1.heap.push (seqObj "list" vs.toArray 0)) s1.heap.objs.size vs out.toArray).get? b = some u
    rw [PyProof.Rows.sortedHeap_old (Nat.ne_of_lt hb) (by rw [size_push']; exact Nat.lt_succ_of_lt hb)]
    exact Heap.get?_push_of_some _ e
  · rw [ey]
    exact q _ _ (I1.hok.fresh (Nat.le_refl _)) (fun y => by rw [pe.mem_iff]; exact hmem y) (by rw [pe.length_eq]; exact hbl)
end
end Pk
set_option Elab.async false
set_option linter.all false
set_option maxRecDepth 100000
set_option maxHeartbeats 2000000
/-! The plain part, 1: tables, subset tables, least tables, the machines of a party; a machine goes along with the table. -/
namespace Pk
open PySem L2

abbrev Act := Str × Str × Str
def con (a : Act) (p : Str) : Bool := decide (a.1 = p) || decide (a.2.1 = p)
abbrev Row := List (Act × Nat)
structure Tab where
  rows : List Row
  ends : List Bool
def nx (r : Row) (a : Act) : Option Nat := (r.find? fun p => decide (p.1 = a)).map (·.2)
def Tab.row (T : Tab) (s : Nat) : Row := T.rows.getD s []
def Tab.step (T : Tab) (s : Nat) (a : Act) : Option Nat := nx (T.row s) a
def Tab.walk (T : Tab) : Nat → List Act → Option Nat
  | s, [] => some s
  | s, a :: l => match T.step s a with
    | none => none
    | some t => T.walk t l
structure Wf (T : Tab) : Prop where
  pos : 0 < T.rows.length
  lens : T.ends.length = T.rows.length
  goal : ∀ r ∈ T.rows, ∀ p ∈ r, p.2 < T.rows.length
  keys : ∀ r ∈ T.rows, (r.map (·.1)).Nodup
theorem row_mem {T : Tab} {s : Nat} {p : Act × Nat} (h : p ∈ T.row s) : T.row s ∈ T.rows := by
  unfold Tab.row at *
  rw [List.getD_eq_getElem?_getD] at *
  cases q : T.rows[s]? with
  | none => rw [q] at h; exact nomatch (show p ∈ [] from h)
  | some r => exact List.mem_of_getElem? q
theorem nx_mem {r : Row} {a : Act} {t : Nat} (h : nx r a = some t) : (a, t) ∈ r := by
  unfold nx at h
  obtain ⟨p, hp, rfl⟩ := Option.map_eq_some_iff.mp h
  have h1 := List.mem_of_find?_eq_some hp
  have h2 := List.find?_some hp
  have h3 : p.1 = a := of_decide_eq_true h2
  rw [← h3]
  exact h1
theorem nx_some {r : Row} {a : Act} {t : Nat} (nd : (r.map (·.1)).Nodup) (h : (a, t) ∈ r) : nx r a = some t := by
  induction r with
  | nil => cases h
  | cons p r ih =>
    rw [List.map_cons, List.nodup_cons] at nd
    rcases List.mem_cons.mp h with e | h
    · subst e
      simp [nx]
    · have ne : ¬ p.1 = a := fun e => nd.1 (List.mem_map.mpr ⟨(a, t), h, e.symm⟩)
      have := ih nd.2 h
      simp only [nx, List.find?_cons, ne, decide_false] at this ⊢
      exact this
theorem nx_none {r : Row} {a : Act} : nx r a = none ↔ ∀ t, (a, t) ∉ r := by
  constructor
  · intro h t m
    unfold nx at h
    rw [Option.map_eq_none_iff] at h
    have := List.find?_eq_none.mp h _ m
    simp at this
  · intro h
    cases q : nx r a with
    | none => rfl
    | some t => exact absurd (nx_mem q) (h t)

/-! ### groups -/
abbrev Grp := List (Act × List Nat)
abbrev Mvs := List Grp
def addOne (gs : List Nat) (g : Nat) : List Nat := if g ∈ gs then gs else gs ++ [g]
def addG (G : Grp) (p : Act × List Nat) : Grp :=
  if p.1 ∈ G.map (·.1) then G.map (fun e => if e.1 = p.1 then (e.1, p.2.foldl addOne e.2) else e) else G ++ [(p.1, p.2.foldl addOne [])]
def srt (l : List Nat) : List Nat := l.mergeSort fun a b => decide (a ≤ b)
def pairsAt (nodes : List Nat) (moves : Mvs) : Grp := nodes.flatMap fun n => moves.getD n []
def grpRaw (nodes : List Nat) (moves : Mvs) : Grp := (pairsAt nodes moves).foldl addG []
def grp (nodes : List Nat) (moves : Mvs) : Grp := (grpRaw nodes moves).map fun e => (e.1, srt e.2)
theorem addOne_mem {gs : List Nat} {g x : Nat} : x ∈ addOne gs g ↔ x ∈ gs ∨ x = g := by
  unfold addOne
  split
  · rename_i h
    constructor
    · exact .inl
    · rintro (h1 | rfl)
      · exact h1
      · exact h
  · rw [List.mem_append, List.mem_singleton]
theorem addOne_nodup {gs : List Nat} {g : Nat} (h : gs.Nodup) : (addOne gs g).Nodup := by
  unfold addOne
  split
  · exact h
  · rename_i hn
    rw [List.nodup_append]
    refine ⟨h, by simp, fun a ha b hb e => ?_⟩
    rw [List.mem_singleton] at hb
    subst hb
    subst e
    exact hn ha
theorem addAll_mem {gs l : List Nat} {x : Nat} : x ∈ l.foldl addOne gs ↔ x ∈ gs ∨ x ∈ l := by
  induction l generalizing gs with
  | nil => simp
  | cons a l ih => rw [List.foldl_cons, ih, addOne_mem, List.mem_cons, or_assoc]
theorem addAll_nodup {gs l : List Nat} (h : gs.Nodup) : (l.foldl addOne gs).Nodup := by
  induction l generalizing gs with
  | nil => exact h
  | cons a l ih => exact ih (addOne_nodup h)
structure GOk (ps G : Grp) : Prop where
  keys : (G.map (·.1)).Nodup
  act : ∀ a, a ∈ G.map (·.1) ↔ a ∈ ps.map (·.1)
  nd : ∀ e ∈ G, e.2.Nodup
  mem : ∀ e ∈ G, ∀ g, g ∈ e.2 ↔ ∃ p ∈ ps, p.1 = e.1 ∧ g ∈ p.2
theorem GOk.nil : GOk [] [] := ⟨List.nodup_nil, (fun a => Iff.rfl), (fun e h => nomatch h), (fun e h => nomatch h)⟩
theorem GOk.snoc {ps G : Grp} (o : GOk ps G) (p : Act × List Nat) : GOk (ps ++ [p]) (addG G p) := by
  unfold addG
  by_cases hp : p.1 ∈ G.map (·.1)
  · rw [if_pos hp]
    have ek : (G.map (fun e => if e.1 = p.1 then (e.1, p.2.foldl addOne e.2) else e)).map (·.1) = G.map (·.1) := by
      rw [List.map_map]
      refine List.map_congr_left fun e _ => ?_
      show (if e.1 = p.1 then (e.1, p.2.foldl addOne e.2) else e).1 = e.1
      split <;> rfl
    refine ⟨by rw [ek]; exact o.keys, fun a => ?_, fun e he => ?_, fun e he g => ?_⟩
    · rw [ek, o.act a, List.map_append, List.mem_append]
      constructor
      · exact .inl
      · rintro (h | h)
        · exact h
        · have : a = p.1 := by simpa using h
          rw [this]
          exact (o.act _).mp hp
    · obtain ⟨e0, h0, rfl⟩ := List.mem_map.mp he
      split
      · exact addAll_nodup (o.nd _ h0)
      · exact o.nd _ h0
    · obtain ⟨e0, h0, rfl⟩ := List.mem_map.mp he
      by_cases c : e0.1 = p.1
      · rw [if_pos c]
        show g ∈ p.2.foldl addOne e0.2 ↔ ∃ q ∈ ps ++ [p], q.1 = e0.1 ∧ g ∈ q.2
        rw [addAll_mem, o.mem _ h0]
        constructor
        · rintro (⟨q, h1, h2, h3⟩ | h)
          · exact ⟨q, List.mem_append_left _ h1, h2, h3⟩
          · exact ⟨p, List.mem_append_right _ (List.mem_singleton.mpr rfl), c.symm, h⟩
        · rintro ⟨q, h1, h2, h3⟩
          rcases List.mem_append.mp h1 with h1 | h1
          · exact .inl ⟨q, h1, h2, h3⟩
          · rw [List.mem_singleton] at h1
            subst h1
            exact .inr h3
      · rw [if_neg c]
        rw [o.mem _ h0]
        constructor
        · rintro ⟨q, h1, h2, h3⟩
          exact ⟨q, List.mem_append_left _ h1, h2, h3⟩
        · rintro ⟨q, h1, h2, h3⟩
          rcases List.mem_append.mp h1 with h1 | h1
          · exact ⟨q, h1, h2, h3⟩
          · rw [List.mem_singleton] at h1
            subst h1
            exact absurd h2.symm c
  · rw [if_neg hp]
    have hq : p.1 ∉ ps.map (·.1) := fun h => hp ((o.act _).mpr h)
    refine ⟨?_, fun a => ?_, fun e he => ?_, fun e he g => ?_⟩
    · rw [List.map_append, List.nodup_append]
      refine ⟨o.keys, by simp, fun a ha b hb e => ?_⟩
      have : b = p.1 := by simpa using hb
      subst this
      subst e
      exact hp ha
    · rw [List.map_append, List.map_append, List.mem_append, List.mem_append, o.act a]
      simp
    · rcases List.mem_append.mp he with he | he
      · exact o.nd _ he
      · rw [List.mem_singleton] at he
        subst he
        exact addAll_nodup List.nodup_nil
    · rcases List.mem_append.mp he with he | he
      · rw [o.mem _ he]
        constructor
        · rintro ⟨q, h1, h2, h3⟩
          exact ⟨q, List.mem_append_left _ h1, h2, h3⟩
        · rintro ⟨q, h1, h2, h3⟩
          rcases List.mem_append.mp h1 with h1 | h1
          · exact ⟨q, h1, h2, h3⟩
          · rw [List.mem_singleton] at h1
            rw [h1] at h2
            exact absurd (List.mem_map.mpr ⟨e, he, h2.symm⟩) hp
      · rw [List.mem_singleton] at he
        subst he
        show g ∈ p.2.foldl addOne [] ↔ _
        rw [addAll_mem]
        constructor
        · rintro (h | h)
          · cases h
          · exact ⟨p, List.mem_append_right _ (List.mem_singleton.mpr rfl), rfl, h⟩
        · rintro ⟨q, h1, h2, h3⟩
          rcases List.mem_append.mp h1 with h1 | h1
          · exact absurd (List.mem_map.mpr ⟨q, h1, h2⟩) hq
          · rw [List.mem_singleton] at h1
            subst h1
            exact .inr h3
theorem gok_fold {ps ps' G : Grp} (o : GOk ps G) : GOk (ps ++ ps') (ps'.foldl addG G) := by
  induction ps' generalizing ps G with
  | nil => rw [List.append_nil]; exact o
  | cons p r ih =>
    have := ih (o.snoc p)
    rw [List.append_assoc] at this
    exact this
theorem gok_raw (nodes : List Nat) (moves : Mvs) : GOk (pairsAt nodes moves) (grpRaw nodes moves) := by
  have := gok_fold (ps' := pairsAt nodes moves) GOk.nil
  exact this
theorem srt_perm (l : List Nat) : (srt l).Perm l := List.mergeSort_perm ..
theorem srt_le (l : List Nat) : (srt l).Pairwise (· ≤ ·) := by
  have := List.pairwise_mergeSort (le := fun a b : Nat => decide (a ≤ b)) (fun a b c h1 h2 => by simp at *; omega) (fun a b => by simp; omega) l
  exact this.imp fun h => of_decide_eq_true h
theorem srt_lt {l : List Nat} (h : l.Nodup) : (srt l).Pairwise (· < ·) := by
  have nd : (srt l).Nodup := (srt_perm l).nodup_iff.mpr h
  exact (srt_le l).imp₂ (fun _ _ h1 h2 => Nat.lt_of_le_of_ne h1 h2) nd
/-- ascending lists with the same members are the same -/
theorem asc_eq : ∀ {l m : List Nat}, l.Pairwise (· < ·) → m.Pairwise (· < ·) → (∀ x, x ∈ l ↔ x ∈ m) → l = m
  | [], [], _, _, _ => rfl
  | [], y :: m, _, _, h => absurd ((h y).mpr List.mem_cons_self) (by simp)
  | x :: l, [], _, _, h => absurd ((h x).mp List.mem_cons_self) (by simp)
  | x :: l, y :: m, h1, h2, h => by
    obtain ⟨a1, a2⟩ := List.pairwise_cons.mp h1
    obtain ⟨b1, b2⟩ := List.pairwise_cons.mp h2
    have e : x = y := by
      rcases List.mem_cons.mp ((h x).mp List.mem_cons_self) with e | hx
      · exact e
      · rcases List.mem_cons.mp ((h y).mpr List.mem_cons_self) with e | hy
        · exact e.symm
        · have := a1 y hy
          have := b1 x hx
          omega
    subst e
    congr 1
    refine asc_eq a2 b2 fun z => ?_
    constructor
    · intro hz
      rcases List.mem_cons.mp ((h z).mp (List.mem_cons_of_mem _ hz)) with e | hz2
      · have := a1 z hz
        omega
      · exact hz2
    · intro hz
      rcases List.mem_cons.mp ((h z).mpr (List.mem_cons_of_mem _ hz)) with e | hz2
      · have := b1 z hz
        omega
      · exact hz2
theorem grp_keys (nodes : List Nat) (moves : Mvs) : ((grp nodes moves).map (·.1)).Nodup := by
  have := (gok_raw nodes moves).keys
  unfold grp
  rw [List.map_map]
  exact this
theorem grp_act {nodes : List Nat} {moves : Mvs} {a : Act} {g : List Nat} (h : (a, g) ∈ grp nodes moves) : ∃ p ∈ pairsAt nodes moves, p.1 = a := by
  obtain ⟨e, he, q⟩ := List.mem_map.mp h
  cases q
  obtain ⟨p, hp, e2⟩ := List.mem_map.mp (((gok_raw nodes moves).act e.1).mp (List.mem_map.mpr ⟨e, he, rfl⟩))
  exact ⟨p, hp, e2⟩
theorem grp_mem {nodes : List Nat} {moves : Mvs} {a : Act} {g : List Nat} (h : (a, g) ∈ grp nodes moves) : g.Pairwise (· < ·) ∧ ∀ x, x ∈ g ↔ ∃ p ∈ pairsAt nodes moves, p.1 = a ∧ x ∈ p.2 := by
  obtain ⟨e, he, q⟩ := List.mem_map.mp h
  cases q
  have o := gok_raw nodes moves
  exact ⟨srt_lt (o.nd e he), fun x => by rw [(srt_perm e.2).mem_iff]; exact o.mem e he x⟩
theorem grp_has {nodes : List Nat} {moves : Mvs} {p : Act × List Nat} (h : p ∈ pairsAt nodes moves) : ∃ g, (p.1, g) ∈ grp nodes moves := by
  have := ((gok_raw nodes moves).act p.1).mpr (List.mem_map.mpr ⟨p, h, rfl⟩)
  obtain ⟨e, he, q⟩ := List.mem_map.mp this
  exact ⟨srt e.2, List.mem_map.mpr ⟨e, he, by rw [← q]⟩⟩

/-! ### subset tables -/
def kA (a : Act) : List Key := [.inr a.1, .inr a.2.1, .inr a.2.2]
def leA : Act → Act → Bool := PySem.W.dataLe false fun a => tkD (kA a)
def sortA (l : List Act) : List Act := l.mergeSort leA
theorem sortA_perm (l : List Act) : (sortA l).Perm l := List.mergeSort_perm ..
def lkG (G : Grp) (a : Act) : List Nat := ((G.find? fun e => decide (e.1 = a)).map (·.2)).getD []
def ent (G : Grp) : Grp := (sortA (G.map (·.1))).map fun a => (a, lkG G a)
def pos {α : Type} [DecidableEq α] (o : List α) (g : α) : Option Nat := o.findIdx? fun x => decide (x = g)
def stepS (st : List (List Nat) × Row) (e : Act × List Nat) : List (List Nat) × Row :=
  match pos st.1 e.2 with
  | some i => (st.1, st.2 ++ [(e.1, i)])
  | none => (st.1 ++ [e.2], st.2 ++ [(e.1, st.1.length)])
def rowS (moves : Mvs) (o : List (List Nat)) (i : Nat) : List (List Nat) × Row := (ent (grp (o.getD i []) moves)).foldl stepS (o, [])
def subF (moves : Mvs) : Nat → List (List Nat) → List Row → List (List Nat) × List Row
  | 0, o, r => (o, r)
  | k + 1, o, r => if r.length < o.length then subF moves k (rowS moves o r.length).1 (r ++ [(rowS moves o r.length).2]) else (o, r)
def subset (start : List Nat) (moves : Mvs) (ends : List Bool) (L : Nat) : Tab :=
  ⟨(subF moves L [start] []).2, (subF moves L [start] []).1.map fun ns => decide (ns.filter (fun n => ends.getD n false) ≠ [])⟩
section
variable {α : Type} [DecidableEq α]
theorem pos_some {o : List α} {g : α} {i : Nat} (h : pos o g = some i) : o[i]? = some g := by
  obtain ⟨hl, h1, _⟩ := List.findIdx?_eq_some_iff_getElem.mp h
  rw [List.getElem?_eq_getElem hl, of_decide_eq_true h1]
theorem pos_none {o : List α} {g : α} : pos o g = none ↔ g ∉ o := by
  unfold pos
  rw [List.findIdx?_eq_none_iff]
  constructor
  · intro h m
    have := h g m
    simp at this
  · intro h x hx
    exact decide_eq_false fun e => h (e ▸ hx)
theorem get_snoc {o : List α} {x y : α} {i : Nat} (h : o[i]? = some y) : (o ++ [x])[i]? = some y := by
  have hl : i < o.length := (List.getElem?_eq_some_iff.mp h).1
  rw [List.getElem?_append_left hl]
  exact h
theorem nodup_snoc {o : List α} {x : α} (h : o.Nodup) (hx : x ∉ o) : (o ++ [x]).Nodup := by
  rw [List.nodup_append]
  refine ⟨h, by simp, fun a ha b hb e => ?_⟩
  rw [List.mem_singleton] at hb
  subst hb
  subst e
  exact hx ha
theorem nodup_len : ∀ {l m : List α}, l.Nodup → (∀ x ∈ l, x ∈ m) → l.length ≤ m.length
  | [], _, _, _ => Nat.zero_le _
  | x :: l, m, h, hs => by
    obtain ⟨h1, h2⟩ := List.nodup_cons.mp h
    have hx := hs x List.mem_cons_self
    have := nodup_len (l := l) (m := m.erase x) h2 fun y hy => by
      have hy2 := hs y (List.mem_cons_of_mem _ hy)
      exact (List.mem_erase_of_ne (fun e => by subst e; exact h1 hy)).mpr hy2
    rw [List.length_erase_of_mem hx] at this
    have hp : 0 < m.length := List.length_pos_of_mem hx
    rw [List.length_cons]
    omega
end
theorem ent_mem {nodes : List Nat} {moves : Mvs} {e : Act × List Nat} : e ∈ ent (grp nodes moves) ↔ e ∈ grp nodes moves := by
  have nd := grp_keys nodes moves
  generalize grp nodes moves = G at nd
  have lk : ∀ e ∈ G, lkG G e.1 = e.2 := by
    intro e he
    induction G with
    | nil => cases he
    | cons p G ih =>
      rw [List.map_cons, List.nodup_cons] at nd
      rcases List.mem_cons.mp he with rfl | he
      · simp [lkG]
      · have ne : ¬ p.1 = e.1 := fun q => nd.1 (List.mem_map.mpr ⟨e, he, q.symm⟩)
        have := ih nd.2 he
        simp only [lkG, List.find?_cons, ne, decide_false] at this ⊢
        exact this
  constructor
  · intro h
    obtain ⟨a, ha, rfl⟩ := List.mem_map.mp h
    obtain ⟨e, he, rfl⟩ := List.mem_map.mp ((sortA_perm _).mem_iff.mp ha)
    rw [lk e he]
    exact he
  · intro h
    exact List.mem_map.mpr ⟨e.1, (sortA_perm _).mem_iff.mpr (List.mem_map.mpr ⟨e, h, rfl⟩), by rw [lk e h]⟩
/-- a row stands for groups -/
structure ROk (o : List (List Nat)) (G : Grp) (r : Row) : Prop where
  keys : r.map (·.1) = G.map (·.1)
  nd : (G.map (·.1)).Nodup
  mem : ∀ e ∈ G, ∃ j, (e.1, j) ∈ r ∧ o[j]? = some e.2
  back : ∀ p ∈ r, ∃ g, (p.1, g) ∈ G ∧ o[p.2]? = some g
theorem ROk.mono {o o' : List (List Nat)} {G : Grp} {r : Row} (h : ROk o G r) (hm : ∀ (i : Nat) x, o[i]? = some x → o'[i]? = some x) : ROk o' G r :=
  ⟨h.keys, h.nd, fun e he => let ⟨j, h1, h2⟩ := h.mem e he; ⟨j, h1, hm _ _ h2⟩, fun p hp => let ⟨g, h1, h2⟩ := h.back p hp; ⟨g, h1, hm _ _ h2⟩⟩
theorem stepS_ok {st : List (List Nat) × Row} {G : Grp} {e : Act × List Nat} (h : ROk st.1 G st.2) (hn : e.1 ∉ G.map (·.1)) :
    ROk (stepS st e).1 (G ++ [e]) (stepS st e).2 ∧ (∀ (i : Nat) x, st.1[i]? = some x → (stepS st e).1[i]? = some x) ∧ (st.1.Nodup → (stepS st e).1.Nodup) ∧ ∀ x ∈ (stepS st e).1, x ∈ st.1 ∨ x = e.2 := by
  obtain ⟨o, r⟩ := st
  unfold stepS
  dsimp only
  cases q : pos o e.2 with
  | some i =>
    dsimp only
    refine ⟨⟨?_, ?_, fun f hf => ?_, fun p hp => ?_⟩, fun _ _ h => h, id, fun x hx => .inl hx⟩
    · rw [List.map_append, List.map_append, h.keys] <;> rfl
    · rw [List.map_append]
      exact nodup_snoc h.nd hn
    · rcases List.mem_append.mp hf with hf | hf
      · obtain ⟨j, h1, h2⟩ := h.mem f hf
        exact ⟨j, List.mem_append_left _ h1, h2⟩
      · rw [List.mem_singleton] at hf
        subst hf
        exact ⟨i, List.mem_append_right _ (List.mem_singleton.mpr rfl), pos_some q⟩
    · rcases List.mem_append.mp hp with hp | hp
      · obtain ⟨g, h1, h2⟩ := h.back p hp
        exact ⟨g, List.mem_append_left _ h1, h2⟩
      · rw [List.mem_singleton] at hp
        subst hp
        exact ⟨e.2, List.mem_append_right _ (List.mem_singleton.mpr rfl), pos_some q⟩
  | none =>
    dsimp only
    have hm : ∀ (i : Nat) x, o[i]? = some x → (o ++ [e.2])[i]? = some x := fun i x h => get_snoc h
    have hl : (o ++ [e.2])[o.length]? = some e.2 := by simp
    refine ⟨⟨?_, ?_, fun f hf => ?_, fun p hp => ?_⟩, hm, fun nd => nodup_snoc nd (pos_none.mp q), fun x hx => ?_⟩
    · rw [List.map_append, List.map_append, h.keys] <;> rfl
    · rw [List.map_append]
      exact nodup_snoc h.nd hn
    · rcases List.mem_append.mp hf with hf | hf
      · obtain ⟨j, h1, h2⟩ := h.mem f hf
        exact ⟨j, List.mem_append_left _ h1, hm _ _ h2⟩
      · rw [List.mem_singleton] at hf
        subst hf
        exact ⟨_, List.mem_append_right _ (List.mem_singleton.mpr rfl), hl⟩
    · rcases List.mem_append.mp hp with hp | hp
      · obtain ⟨g, h1, h2⟩ := h.back p hp
        exact ⟨g, List.mem_append_left _ h1, hm _ _ h2⟩
      · rw [List.mem_singleton] at hp
        subst hp
        exact ⟨e.2, List.mem_append_right _ (List.mem_singleton.mpr rfl), hl⟩
    · rcases List.mem_append.mp hx with hx | hx
      · exact .inl hx
      · exact .inr (List.mem_singleton.mp hx)
theorem foldS_ok : ∀ {l : Grp} {st : List (List Nat) × Row} {G : Grp}, ROk st.1 G st.2 → ((G ++ l).map (·.1)).Nodup →
    ROk (l.foldl stepS st).1 (G ++ l) (l.foldl stepS st).2 ∧ (∀ (i : Nat) x, st.1[i]? = some x → (l.foldl stepS st).1[i]? = some x) ∧ (st.1.Nodup → (l.foldl stepS st).1.Nodup) ∧ ∀ x ∈ (l.foldl stepS st).1, x ∈ st.1 ∨ ∃ e ∈ l, x = e.2
  | [], st, G, h, _ => ⟨by rw [List.append_nil]; exact h, fun _ _ h => h, id, fun x hx => .inl hx⟩
  | e :: l, st, G, h, nd => by
    have hn : e.1 ∉ G.map (·.1) := by
      rw [List.map_append, List.nodup_append] at nd
      intro hm
      exact nd.2.2 _ hm _ (List.mem_map.mpr ⟨e, List.mem_cons_self, rfl⟩) rfl
    obtain ⟨s1, s2, s3, s4⟩ := stepS_ok h hn
    obtain ⟨t1, t2, t3, t4⟩ := foldS_ok (l := l) s1 (by rw [List.append_assoc]; exact nd)
    rw [List.append_assoc] at t1
    refine ⟨t1, fun i x q => t2 i x (s2 i x q), fun q => t3 (s3 q), fun x hx => ?_⟩
    rcases t4 x hx with q | ⟨f, hf, rfl⟩
    · rcases s4 x q with q | rfl
      · exact .inl q
      · exact .inr ⟨e, List.mem_cons_self, rfl⟩
    · exact .inr ⟨f, List.mem_cons_of_mem _ hf, rfl⟩
theorem ent_keys (nodes : List Nat) (moves : Mvs) : ((ent (grp nodes moves)).map (·.1)).Nodup := by
  unfold ent
  rw [List.map_map]
  have : (sortA ((grp nodes moves).map (·.1))).Nodup := (sortA_perm _).nodup_iff.mpr (grp_keys nodes moves)
  have e : ((fun x : Act × List Nat => x.1) ∘ fun a => (a, lkG (grp nodes moves) a)) = id := rfl
  rw [e, List.map_id]
  exact this
theorem rowS_ok (moves : Mvs) (o : List (List Nat)) (i : Nat) :
    ROk (rowS moves o i).1 (ent (grp (o.getD i []) moves)) (rowS moves o i).2 ∧ (∀ (i' : Nat) x, o[i']? = some x → (rowS moves o i).1[i']? = some x) ∧ (o.Nodup → (rowS moves o i).1.Nodup) ∧ ∀ x ∈ (rowS moves o i).1, x ∈ o ∨ ∃ e ∈ grp (o.getD i []) moves, x = e.2 := by
  have h0 : ROk o [] [] := ⟨rfl, List.nodup_nil, (fun e h => nomatch h), (fun p h => nomatch h)⟩
  have := foldS_ok (l := ent (grp (o.getD i []) moves)) (st := (o, [])) (G := []) h0 (by rw [List.nil_append]; exact ent_keys _ _)
  rw [List.nil_append] at this
  exact ⟨this.1, this.2.1, this.2.2.1, fun x hx => (this.2.2.2 x hx).imp id fun ⟨e, he, q⟩ => ⟨e, ent_mem.mp he, q⟩⟩
/-- the universe of sets -/
structure Uni (start : List Nat) (moves : Mvs) (L : Nat) (U : List (List Nat)) : Prop where
  len : U.length ≤ L
  st : start ∈ U
  next : ∀ ns ∈ U, ∀ e ∈ grp ns moves, e.2 ∈ U
structure SOk (start : List Nat) (moves : Mvs) (U : List (List Nat)) (o : List (List Nat)) (r : List Row) : Prop where
  le : r.length ≤ o.length
  st : o[0]? = some start
  nd : o.Nodup
  sub : ∀ x ∈ o, x ∈ U
  row : ∀ (i : Nat) w, r[i]? = some w → ∃ x, o[i]? = some x ∧ ROk o (ent (grp x moves)) w
theorem sok_start {start : List Nat} {moves : Mvs} {L : Nat} {U : List (List Nat)} (u : Uni start moves L U) : SOk start moves U [start] [] :=
  ⟨Nat.zero_le _, rfl, by simp, fun x hx => by rw [List.mem_singleton] at hx; rw [hx]; exact u.st, fun i w h => by simp at h⟩
theorem sok_next {start : List Nat} {moves : Mvs} {L : Nat} {U o : List (List Nat)} {r : List Row} (u : Uni start moves L U) (h : SOk start moves U o r) (hl : r.length < o.length) :
    SOk start moves U (rowS moves o r.length).1 (r ++ [(rowS moves o r.length).2]) := by
  obtain ⟨a, b, c, d⟩ := rowS_ok moves o r.length
  have hx : o[r.length]? = some o[r.length] := List.getElem?_eq_getElem hl
  have hg : o.getD r.length [] = o[r.length] := by rw [List.getD_eq_getElem?_getD, hx] <;> rfl
  have hlen : o.length ≤ (rowS moves o r.length).1.length := by
    have hp : o.length - 1 < o.length := by omega
    have := b (o.length - 1) _ (List.getElem?_eq_getElem hp)
    have := (List.getElem?_eq_some_iff.mp this).1
    omega
  refine ⟨?_, b 0 _ h.st, c h.nd, fun x hx' => ?_, fun i w hw => ?_⟩
  · rw [List.length_append, List.length_singleton]
    omega
  · rcases d x hx' with q | ⟨e, he, rfl⟩
    · exact h.sub x q
    · rw [hg] at he
      exact u.next _ (h.sub _ (List.getElem_mem hl)) e he
  · by_cases hi : i < r.length
    · rw [List.getElem?_append_left hi] at hw
      obtain ⟨x, h1, h2⟩ := h.row i w hw
      exact ⟨x, b _ _ h1, h2.mono b⟩
    · have hi2 : i = r.length := by
        have := (List.getElem?_eq_some_iff.mp hw).1
        rw [List.length_append, List.length_singleton] at this
        omega
      subst hi2
      have : w = (rowS moves o r.length).2 := by simpa using hw.symm
      subst this
      rw [hg] at a
      exact ⟨_, b _ _ hx, a⟩
theorem sok_len {start : List Nat} {moves : Mvs} {L : Nat} {U o : List (List Nat)} {r : List Row} (u : Uni start moves L U) (h : SOk start moves U o r) : o.length ≤ L := Nat.le_trans (nodup_len h.nd h.sub) u.len
theorem subF_ok {start : List Nat} {moves : Mvs} {L : Nat} {U : List (List Nat)} (u : Uni start moves L U) : ∀ (k : Nat) (o : List (List Nat)) (r : List Row), SOk start moves U o r → L ≤ k + r.length →
    SOk start moves U (subF moves k o r).1 (subF moves k o r).2 ∧ (subF moves k o r).2.length = (subF moves k o r).1.length
  | 0, o, r, h, hk => by
    have := sok_len u h
    have := h.le
    exact ⟨h, by show r.length = o.length; omega⟩
  | k + 1, o, r, h, hk => by
    unfold subF
    split
    · rename_i hl
      exact subF_ok u k _ _ (sok_next u h hl) (by rw [List.length_append, List.length_singleton]; omega)
    · rename_i hl
      have := h.le
      exact ⟨h, by show r.length = o.length; omega⟩
/-- what a subset table is -/
theorem subset_ok {start : List Nat} {moves : Mvs} {L : Nat} {U : List (List Nat)} (u : Uni start moves L U) (ends : List Bool) : ∃ o : List (List Nat), SOk start moves U o (subset start moves ends L).rows ∧ (subset start moves ends L).rows.length = o.length ∧ (subset start moves ends L).ends.length = o.length := by
  obtain ⟨h1, h2⟩ := subF_ok u L [start] [] (sok_start u) (by simp)
  exact ⟨_, h1, h2, by unfold subset; rw [List.length_map]⟩
theorem subset_wf {start : List Nat} {moves : Mvs} {L : Nat} {U : List (List Nat)} (u : Uni start moves L U) (ends : List Bool) : Wf (subset start moves ends L) := by
  obtain ⟨o, h1, h2, h3⟩ := subset_ok u ends
  have hp : 0 < o.length := (List.getElem?_eq_some_iff.mp h1.st).1
  refine ⟨by omega, by omega, fun r hr p hp => ?_, fun r hr => ?_⟩
  · obtain ⟨i, hi⟩ := List.mem_iff_getElem?.mp hr
    obtain ⟨x, q1, q2⟩ := h1.row i r hi
    obtain ⟨g, _, q3⟩ := q2.back p hp
    have := (List.getElem?_eq_some_iff.mp q3).1
    omega
  · obtain ⟨i, hi⟩ := List.mem_iff_getElem?.mp hr
    obtain ⟨x, q1, q2⟩ := h1.row i r hi
    rw [q2.keys]
    exact q2.nd
end Pk
set_option Elab.async false
set_option linter.all false
set_option maxRecDepth 100000
set_option maxHeartbeats 2000000
/-! The plain part, 2: classes, least tables, machines. -/
namespace Pk
open PySem L2

/-! ### numbering -/
section
variable {α : Type} [DecidableEq α]
def stepN (st : List α × List Nat) (x : α) : List α × List Nat :=
  match pos st.1 x with
  | some i => (st.1, st.2 ++ [i])
  | none => (st.1 ++ [x], st.2 ++ [st.1.length])
structure NOk (l : List α) (st : List α × List Nat) : Prop where
  nd : st.1.Nodup
  len : st.2.length = l.length
  le : st.1.length ≤ l.length
  at_ : ∀ (i : Nat) x, l[i]? = some x → ∃ k, st.2[i]? = some k ∧ st.1[k]? = some x
  sub : ∀ x ∈ st.1, x ∈ l
theorem NOk.nil : NOk ([] : List α) ([], []) := ⟨List.nodup_nil, rfl, Nat.le_refl _, fun i x h => by simp at h, fun x h => nomatch h⟩
theorem NOk.snoc {l : List α} {st : List α × List Nat} (h : NOk l st) (x : α) : NOk (l ++ [x]) (stepN st x) := by
  obtain ⟨o, f⟩ := st
  unfold stepN
  dsimp only
  have hf : f.length = l.length := h.len
  cases q : pos o x with
  | some i =>
    dsimp only
    refine ⟨h.nd, by simp [hf], by have := h.le; simp at this ⊢; omega, fun j y hy => ?_, fun y hy => List.mem_append_left _ (h.sub y hy)⟩
    by_cases hj : j < l.length
    · rw [List.getElem?_append_left hj] at hy
      obtain ⟨k, h1, h2⟩ := h.at_ j y hy
      exact ⟨k, get_snoc h1, h2⟩
    · have hj2 : j = l.length := by
        have := (List.getElem?_eq_some_iff.mp hy).1
        simp at this
        omega
      subst hj2
      have : y = x := by simpa using hy.symm
      subst this
      exact ⟨i, by rw [← hf]; simp, pos_some q⟩
  | none =>
    dsimp only
    refine ⟨nodup_snoc h.nd (pos_none.mp q), by simp [hf], by have := h.le; simp at this ⊢; omega, fun j y hy => ?_, fun y hy => ?_⟩
    · by_cases hj : j < l.length
      · rw [List.getElem?_append_left hj] at hy
        obtain ⟨k, h1, h2⟩ := h.at_ j y hy
        exact ⟨k, get_snoc h1, get_snoc h2⟩
      · have hj2 : j = l.length := by
          have := (List.getElem?_eq_some_iff.mp hy).1
          simp at this
          omega
        subst hj2
        have : y = x := by simpa using hy.symm
        subst this
        exact ⟨o.length, by rw [← hf]; simp, by simp⟩
    · rcases List.mem_append.mp hy with hy | hy
      · exact List.mem_append_left _ (h.sub y hy)
      · exact List.mem_append_right _ hy
theorem nok_fold : ∀ {l l' : List α} {st : List α × List Nat}, NOk l st → NOk (l ++ l') (l'.foldl stepN st)
  | l, [], st, h => by rw [List.append_nil]; exact h
  | l, x :: l', st, h => by
    have := nok_fold (l' := l') (h.snoc x)
    rw [List.append_assoc] at this
    exact this
def numF (l : List α) : List α × List Nat := l.foldl stepN ([], [])
theorem num_ok (l : List α) : NOk l (numF l) := nok_fold (l' := l) NOk.nil
theorem num_get (l : List α) {i : Nat} {x : α} (h : l[i]? = some x) : ∃ k, (numF l).2.getD i 0 = k ∧ (numF l).1[k]? = some x ∧ k < l.length := by
  obtain ⟨k, h1, h2⟩ := (num_ok l).at_ i x h
  refine ⟨k, by rw [List.getD_eq_getElem?_getD, h1] <;> rfl, h2, ?_⟩
  have := (List.getElem?_eq_some_iff.mp h2).1
  have := (num_ok l).le
  omega
theorem num_eq (l : List α) {i j : Nat} {x y : α} (hi : l[i]? = some x) (hj : l[j]? = some y) : (numF l).2.getD i 0 = (numF l).2.getD j 0 ↔ x = y := by
  obtain ⟨k, a1, a2, _⟩ := num_get l hi
  obtain ⟨m, b1, b2, _⟩ := num_get l hj
  rw [a1, b1]
  constructor
  · intro e
    rw [e, b2] at a2
    exact (Option.some.inj a2).symm
  · intro e
    subst e
    obtain ⟨ha, ea⟩ := List.getElem?_eq_some_iff.mp a2
    obtain ⟨hb, eb⟩ := List.getElem?_eq_some_iff.mp b2
    rcases Nat.lt_trichotomy k m with q | q | q
    · exact absurd (ea.trans eb.symm) (List.pairwise_iff_getElem.mp (num_ok l).nd k m ha hb q)
    · exact q
    · exact absurd (eb.trans ea.symm) (List.pairwise_iff_getElem.mp (num_ok l).nd m k hb ha q)
end

/-! ### counting -/
def cI (l : List Nat) : List Int := l.map fun (n : Nat) => (n : Int)
def cnt (l : List Nat) : Nat := (ddI (cI l)).length
def dd (l : List Nat) : List Nat := l.foldl addOne []
theorem ddI_cast (l : List Nat) : ddI (cI l) = cI (dd l) := by
  unfold ddI dd
  have : ∀ (l : List Nat) (a : List Nat), (cI l).foldl PyProof.Rows.step_dedup (cI a) = cI (l.foldl addOne a) := by
    intro l
    induction l with
    | nil => intro a; rfl
    | cons x l ih =>
      intro a
      rw [show cI (x :: l) = (x : Int) :: cI l from rfl, List.foldl_cons, List.foldl_cons, ← ih]
      congr 1
      unfold PyProof.Rows.step_dedup addOne cI
      have e : ((a.map fun n : Nat => (n : Int)).any (· == (x : Int))) = decide (x ∈ a) := by
        rw [Bool.eq_iff_iff, List.any_eq_true, decide_eq_true_eq]
        constructor
        · rintro ⟨y, hy, e⟩
          obtain ⟨z, hz, rfl⟩ := List.mem_map.mp hy
          have : (z : Int) = x := eq_of_beq e
          have : z = x := by omega
          rw [← this]; exact hz
        · intro h
          exact ⟨x, List.mem_map.mpr ⟨x, h, rfl⟩, by simp⟩
      rw [e]
      by_cases h : x ∈ a
      · simp [h]
      · simp [h]
  exact this l []
theorem cnt_dd (l : List Nat) : cnt l = (dd l).length := by
  unfold cnt
  rw [ddI_cast, cI, List.length_map]
theorem dd_mem {l : List Nat} {x : Nat} : x ∈ dd l ↔ x ∈ l := by
  unfold dd
  rw [addAll_mem]
  simp
theorem dd_nodup (l : List Nat) : (dd l).Nodup := addAll_nodup List.nodup_nil
theorem dd_len_le (l : List Nat) : (dd l).length ≤ l.length := nodup_len (dd_nodup l) fun x h => dd_mem.mp h
/-- a list that covers a list without doubles of its length has none itself -/
theorem cover_nodup : ∀ {l m : List Nat}, m.Nodup → (∀ x ∈ m, x ∈ l) → l.length ≤ m.length → l.Nodup
  | [], _, _, _, _ => List.nodup_nil
  | x :: l, m, hm, hs, hl => by
    by_cases hx : x ∈ l
    · -- then l covers m alone
      have : m.length ≤ l.length := nodup_len hm fun y hy => by
        rcases List.mem_cons.mp (hs y hy) with rfl | h
        · exact hx
        · exact h
      rw [List.length_cons] at hl
      omega
    · refine List.nodup_cons.mpr ⟨hx, cover_nodup (m := m.erase x) (hm.erase x) (fun y hy => ?_) ?_⟩
      · have hy2 := List.mem_of_mem_erase hy
        rcases List.mem_cons.mp (hs y hy2) with rfl | h
        · exact absurd hy ((List.Nodup.not_mem_erase hm))
        · exact h
      · by_cases hxm : x ∈ m
        · rw [List.length_erase_of_mem hxm]
          rw [List.length_cons] at hl
          omega
        · rw [List.erase_of_not_mem hxm]
          have : m.length ≤ l.length := nodup_len hm fun y hy => by
            rcases List.mem_cons.mp (hs y hy) with rfl | h
            · exact absurd hy hxm
            · exact h
          rw [List.length_cons] at hl
          omega
/-- f refines c -/
theorem cnt_refine {n : Nat} {f c : List Nat} (hf : f.length = n) (hc : c.length = n) (h : ∀ i j, i < n → j < n → f.getD i 0 = f.getD j 0 → c.getD i 0 = c.getD j 0) :
    cnt c ≤ cnt f ∧ (cnt f = cnt c → ∀ i j, i < n → j < n → c.getD i 0 = c.getD j 0 → f.getD i 0 = f.getD j 0) := by
  have getm : ∀ (l : List Nat) i, i < l.length → l.getD i 0 ∈ l := fun l i hi => by
    rw [List.getD_eq_getElem?_getD, List.getElem?_eq_getElem hi]
    exact List.getElem_mem hi
  have mget : ∀ (l : List Nat) x, x ∈ l → ∃ i, i < l.length ∧ l.getD i 0 = x := fun l x hx => by
    obtain ⟨i, hi, e⟩ := List.mem_iff_getElem.mp hx
    exact ⟨i, hi, by rw [List.getD_eq_getElem?_getD, List.getElem?_eq_getElem hi]; exact e⟩
  -- the class of a value of f
  have phi : ∃ φ : Nat → Nat, ∀ i, i < n → φ (f.getD i 0) = c.getD i 0 := by
    refine ⟨fun v => if hv : ∃ i, i < n ∧ f.getD i 0 = v then c.getD hv.choose 0 else 0, fun i hi => ?_⟩
    have hv : ∃ j, j < n ∧ f.getD j 0 = f.getD i 0 := ⟨i, hi, rfl⟩
    show (if hv : ∃ j, j < n ∧ f.getD j 0 = f.getD i 0 then c.getD hv.choose 0 else 0) = _
    rw [dif_pos hv]
    exact h _ _ hv.choose_spec.1 hi hv.choose_spec.2
  obtain ⟨φ, hφ⟩ := phi
  rw [cnt_dd, cnt_dd]
  have cov : ∀ x ∈ dd c, x ∈ (dd f).map φ := fun x hx => by
    obtain ⟨i, hi, e⟩ := mget c x (dd_mem.mp hx)
    rw [hc] at hi
    exact List.mem_map.mpr ⟨f.getD i 0, dd_mem.mpr (getm f i (by omega)), by rw [hφ i hi, e]⟩
  have hle : (dd c).length ≤ (dd f).length := by
    have := nodup_len (dd_nodup c) cov
    rw [List.length_map] at this
    exact this
  refine ⟨hle, fun e i j hi hj hij => ?_⟩
  have nd : ((dd f).map φ).Nodup := cover_nodup (dd_nodup c) cov (by rw [List.length_map]; omega)
  have inj : ∀ {l : List Nat}, (l.map φ).Nodup → ∀ x ∈ l, ∀ y ∈ l, φ x = φ y → x = y := by
    intro l
    induction l with
    | nil => intro _ x hx; cases hx
    | cons z l ih =>
      intro hn x hx y hy e
      rw [List.map_cons, List.nodup_cons] at hn
      rcases List.mem_cons.mp hx with ex | hx
      · rcases List.mem_cons.mp hy with ey | hy
        · rw [ex, ey]
        · rw [ex] at e
          exact absurd (List.mem_map.mpr ⟨y, hy, e.symm⟩) hn.1
      · rcases List.mem_cons.mp hy with ey | hy
        · rw [ey] at e
          exact absurd (List.mem_map.mpr ⟨x, hx, e⟩) hn.1
        · exact ih hn.2 x hx y hy e
  exact inj nd _ (dd_mem.mpr (getm f i (by omega))) _ (dd_mem.mpr (getm f j (by omega))) (by rw [hφ i hi, hφ j hj]; exact hij)

/-! ### classes -/
abbrev Sg := Nat × List (Act × Nat)
def sgn (cl : List Nat) (s : Nat) (r : Row) : Sg := (cl.getD s 0, r.map fun p => (p.1, cl.getD p.2 0))
def sgns (rows : List Row) (cl : List Nat) : List Sg := rows.zipIdx.map fun p => sgn cl p.2 p.1
def refF (rows : List Row) (cl : List Nat) : List Nat := (numF (sgns rows cl)).2
theorem sgns_len (rows : List Row) (cl : List Nat) : (sgns rows cl).length = rows.length := by unfold sgns; simp
theorem sgns_get {rows : List Row} {cl : List Nat} {i : Nat} {r : Row} (h : rows[i]? = some r) : (sgns rows cl)[i]? = some (sgn cl i r) := by
  unfold sgns
  rw [List.getElem?_map, List.getElem?_zipIdx, h]
  simp
theorem refF_len (rows : List Row) (cl : List Nat) : (refF rows cl).length = rows.length := by
  unfold refF
  rw [(num_ok _).len, sgns_len]
def alikeF (rows : List Row) : Nat → List Nat → Nat → List Nat
  | 0, cl, c => refF rows cl
  | k + 1, cl, c => if cnt (refF rows cl) = c then refF rows cl else alikeF rows k (refF rows cl) (cnt (refF rows cl))
/-- states of one class go alike -/
structure Stab (rows : List Row) (cl : List Nat) : Prop where
  len : cl.length = rows.length
  lt : ∀ x ∈ cl, x < rows.length
  row : ∀ (i j : Nat) r r', rows[i]? = some r → rows[j]? = some r' → cl.getD i 0 = cl.getD j 0 → r.map (fun p => (p.1, cl.getD p.2 0)) = r'.map fun p => (p.1, cl.getD p.2 0)
theorem ref_refines {rows : List Row} {cl : List Nat} (i j : Nat) (hi : i < rows.length) (hj : j < rows.length) (h : (refF rows cl).getD i 0 = (refF rows cl).getD j 0) : sgn cl i rows[i] = sgn cl j rows[j] := by
  have h1 : (sgns rows cl)[i]? = some (sgn cl i rows[i]) := sgns_get (List.getElem?_eq_getElem hi)
  have h2 : (sgns rows cl)[j]? = some (sgn cl j rows[j]) := sgns_get (List.getElem?_eq_getElem hj)
  exact (num_eq _ h1 h2).mp h
theorem cnt_le {l : List Nat} : cnt l ≤ l.length := by rw [cnt_dd]; exact dd_len_le l
theorem ref_cnt {rows : List Row} {cl : List Nat} (hl : cl.length = rows.length) : cnt cl ≤ cnt (refF rows cl) ∧ cnt (refF rows cl) ≤ rows.length := by
  refine ⟨(cnt_refine (n := rows.length) (refF_len _ _) hl fun i j hi hj h => ?_).1, by have := cnt_le (l := refF rows cl); rw [refF_len] at this; exact this⟩
  exact congrArg Prod.fst (ref_refines i j hi hj h)
theorem ref_stab {rows : List Row} {cl : List Nat} (hl : cl.length = rows.length) (hg : ∀ r ∈ rows, ∀ p ∈ r, p.2 < rows.length) (hc : cnt (refF rows cl) = cnt cl) : Stab rows (refF rows cl) := by
  have fine := (cnt_refine (n := rows.length) (refF_len rows cl) hl fun i j hi hj h => congrArg Prod.fst (ref_refines i j hi hj h)).2 hc
  refine ⟨refF_len _ _, fun x hx => ?_, fun i j r r' hr hr' h => ?_⟩
  · obtain ⟨i, hi, e⟩ := List.mem_iff_getElem.mp hx
    rw [refF_len] at hi
    obtain ⟨k, h1, _, h3⟩ := num_get (sgns rows cl) (sgns_get (List.getElem?_eq_getElem hi))
    rw [sgns_len] at h3
    have : (refF rows cl).getD i 0 = x := by rw [List.getD_eq_getElem?_getD, List.getElem?_eq_getElem (by rw [refF_len]; exact hi)]; exact e
    rw [← this]
    show (numF (sgns rows cl)).2.getD i 0 < _
    rw [h1]; exact h3
  · obtain ⟨hi, ei⟩ := List.getElem?_eq_some_iff.mp hr
    obtain ⟨hj, ej⟩ := List.getElem?_eq_some_iff.mp hr'
    have := congrArg Prod.snd (ref_refines (cl := cl) i j hi hj h)
    rw [ei, ej] at this
    have e : r.map (fun p => (p.1, cl.getD p.2 0)) = r'.map (fun p => (p.1, cl.getD p.2 0)) := this
    have hgr := hg r (List.mem_of_getElem? hr)
    have hgr' := hg r' (List.mem_of_getElem? hr')
    clear this hr hr' ei ej h
    induction r generalizing r' with
    | nil =>
      cases r' with
      | nil => rfl
      | cons => cases e
    | cons p r ih =>
      cases r' with
      | nil => cases e
      | cons p' r' =>
        rw [List.map_cons, List.map_cons] at e
        obtain ⟨e1, e2⟩ := List.cons.inj e
        rw [List.map_cons, List.map_cons, ih r' e2 (fun q hq => hgr q (List.mem_cons_of_mem _ hq)) (fun q hq => hgr' q (List.mem_cons_of_mem _ hq))]
        congr 1
        have a1 : p.1 = p'.1 := (Prod.mk.inj e1).1
        have a2 : cl.getD p.2 0 = cl.getD p'.2 0 := (Prod.mk.inj e1).2
        have := fine p.2 p'.2 (hgr p List.mem_cons_self) (hgr' p' List.mem_cons_self) a2
        rw [a1, this]
theorem alike_stab {rows : List Row} (hg : ∀ r ∈ rows, ∀ p ∈ r, p.2 < rows.length) : ∀ (k : Nat) (cl : List Nat), cl.length = rows.length → rows.length < k + cnt cl → Stab rows (alikeF rows k cl (cnt cl))
  | 0, cl, hl, hk => by
    have := cnt_le (l := cl)
    omega
  | k + 1, cl, hl, hk => by
    unfold alikeF
    split
    · rename_i h
      exact ref_stab hl hg h
    · rename_i h
      have := (ref_cnt hl).1
      exact alike_stab hg k _ (refF_len _ _) (by omega)
def b2n (b : Bool) : Nat := if b then 1 else 0
def alike (T : Tab) : List Nat := alikeF T.rows (T.rows.length + 1) (T.ends.map b2n) (cnt (T.ends.map b2n))
theorem alike_ok {T : Tab} (w : Wf T) : Stab T.rows (alike T) := alike_stab w.goal _ _ (by rw [List.length_map]; exact w.lens) (by omega)

/-! ### least tables -/
def lsMv (rows : List Row) (cl : List Nat) (i : Nat) : Mvs := (rows.take i).zipIdx.foldl (fun m p => m.set (cl.getD p.2 0) (p.1.map fun e => (e.1, [cl.getD e.2 0]))) (List.replicate cl.length [])
def lsEn (rows : List Row) (ends : List Bool) (cl : List Nat) (i : Nat) : List Bool := (rows.take i).zipIdx.foldl (fun m p => m.set (cl.getD p.2 0) (ends.getD p.2 false)) (List.replicate cl.length false)
def least (T : Tab) : Tab := subset [(alike T).getD 0 0] (lsMv T.rows (alike T) T.rows.length) (lsEn T.rows T.ends (alike T) T.rows.length) (alike T).length
theorem ls_zip_succ {rows : List Row} {i : Nat} {r : Row} (h : rows[i]? = some r) : (rows.take (i + 1)).zipIdx = (rows.take i).zipIdx ++ [(r, i)] := by
  rw [List.take_add_one, h]
  have hl : i < rows.length := (List.getElem?_eq_some_iff.mp h).1
  rw [List.zipIdx_append, List.length_take]
  have : min i rows.length = i := by omega
  simp [this]
theorem lsMv_succ {rows : List Row} {cl : List Nat} {i : Nat} {r : Row} (h : rows[i]? = some r) : lsMv rows cl (i + 1) = (lsMv rows cl i).set (cl.getD i 0) (r.map fun e => (e.1, [cl.getD e.2 0])) := by
  unfold lsMv
  rw [ls_zip_succ h, List.foldl_append] <;> rfl
theorem lsEn_succ {rows : List Row} {ends : List Bool} {cl : List Nat} {i : Nat} {r : Row} (h : rows[i]? = some r) : lsEn rows ends cl (i + 1) = (lsEn rows ends cl i).set (cl.getD i 0) (ends.getD i false) := by
  unfold lsEn
  rw [ls_zip_succ h, List.foldl_append] <;> rfl
theorem lsMv_len (rows : List Row) (cl : List Nat) (i : Nat) : (lsMv rows cl i).length = cl.length := by
  unfold lsMv
  generalize (rows.take i).zipIdx = l
  have : ∀ (l : List (Row × Nat)) (m : Mvs), (l.foldl (fun m p => m.set (cl.getD p.2 0) (p.1.map fun e => (e.1, [cl.getD e.2 0]))) m).length = m.length := by
    intro l
    induction l with
    | nil => intro m; rfl
    | cons x l ih => intro m; rw [List.foldl_cons, ih, List.length_set]
  rw [this, List.length_replicate]
theorem lsEn_len (rows : List Row) (ends : List Bool) (cl : List Nat) (i : Nat) : (lsEn rows ends cl i).length = cl.length := by
  unfold lsEn
  generalize (rows.take i).zipIdx = l
  have : ∀ (l : List (Row × Nat)) (m : List Bool), (l.foldl (fun m p => m.set (cl.getD p.2 0) (ends.getD p.2 false)) m).length = m.length := by
    intro l
    induction l with
    | nil => intro m; rfl
    | cons x l ih => intro m; rw [List.foldl_cons, ih, List.length_set]
  rw [this, List.length_replicate]
theorem ls_spec {rows : List Row} {cl : List Nat} (st : Stab rows cl) : ∀ i, i ≤ rows.length → (∀ (j : Nat) r, j < i → rows[j]? = some r → (lsMv rows cl i)[cl.getD j 0]? = some (r.map fun e => (e.1, [cl.getD e.2 0]))) ∧
    ∀ m ∈ lsMv rows cl i, m = [] ∨ ∃ (j : Nat) (r : Row), rows[j]? = some r ∧ m = r.map fun e => (e.1, [cl.getD e.2 0])
  | 0, _ => ⟨fun j r h => absurd h (Nat.not_lt_zero _), fun m hm => by
      unfold lsMv at hm
      simp at hm
      exact .inl hm.2⟩
  | i + 1, hi => by
    obtain ⟨h1, h2⟩ := ls_spec st i (by omega)
    have hri := List.getElem?_eq_getElem (show i < rows.length from hi)
    rw [lsMv_succ hri]
    have conv : ∀ {r r' : Row}, r.map (fun p => (p.1, cl.getD p.2 0)) = r'.map (fun p => (p.1, cl.getD p.2 0)) → r.map (fun e => (e.1, [cl.getD e.2 0])) = r'.map (fun e => (e.1, [cl.getD e.2 0])) := by
      intro r r' e
      have := congrArg (List.map fun p : Act × Nat => (p.1, [p.2])) e
      rw [List.map_map, List.map_map] at this
      exact this
    refine ⟨fun j r hj hr => ?_, fun m hm => ?_⟩
    · by_cases hc : cl.getD i 0 = cl.getD j 0
      · rw [hc]
        have hlt : cl.getD j 0 < (lsMv rows cl i).length := by
          rw [lsMv_len, st.len]
          have hjl : j < cl.length := by have := (List.getElem?_eq_some_iff.mp hr).1; rw [st.len]; exact this
          refine st.lt _ ?_
          rw [List.getD_eq_getElem?_getD, List.getElem?_eq_getElem hjl]
          exact List.getElem_mem hjl
        rw [List.getElem?_set_self hlt]
        congr 1
        exact conv (st.row i j _ r hri hr hc)
      · rw [List.getElem?_set_ne hc]
        have hji : j ≠ i := fun e => hc (by rw [e])
        exact h1 j r (by omega) hr
    · rcases List.mem_or_eq_of_mem_set hm with hm | rfl
      · exact h2 m hm
      · exact .inr ⟨i, _, hri, rfl⟩
theorem pairs_one (moves : Mvs) (n : Nat) : pairsAt [n] moves = moves.getD n [] := by
  unfold pairsAt
  simp
theorem ls_uni {T : Tab} (w : Wf T) : Uni [(alike T).getD 0 0] (lsMv T.rows (alike T) T.rows.length) (alike T).length ((List.range T.rows.length).map fun c => [c]) := by
  have st := alike_ok w
  have lt : ∀ i, (alike T).getD i 0 < T.rows.length := fun i => by
    by_cases h : i < (alike T).length
    · refine st.lt _ ?_
      rw [List.getD_eq_getElem?_getD, List.getElem?_eq_getElem h]
      exact List.getElem_mem h
    · rw [List.getD_eq_getElem?_getD, List.getElem?_eq_none (by omega)]
      exact w.pos
  refine ⟨by rw [List.length_map, List.length_range, st.len]; exact Nat.le_refl _, List.mem_map.mpr ⟨_, List.mem_range.mpr (lt 0), rfl⟩, fun ns hns e he => ?_⟩
  obtain ⟨c, hc, rfl⟩ := List.mem_map.mp hns
  obtain ⟨a, g⟩ := e
  obtain ⟨hasc, hmem⟩ := grp_mem he
  obtain ⟨p, hp, hpa⟩ := grp_act he
  rw [pairs_one] at hmem hp
  -- the row of that class
  have hm : ∃ (j : Nat) (r : Row), T.rows[j]? = some r ∧ (lsMv T.rows (alike T) T.rows.length).getD c [] = r.map fun e => (e.1, [(alike T).getD e.2 0]) := by
    rw [List.getD_eq_getElem?_getD] at hp ⊢
    cases q : (lsMv T.rows (alike T) T.rows.length)[c]? with
    | none => rw [q] at hp; exact nomatch (show p ∈ [] from hp)
    | some m =>
      rw [q] at hp
      rcases (ls_spec st _ (Nat.le_refl _)).2 m (List.mem_of_getElem? q) with rfl | ⟨j, r, h1, h2⟩
      · exact nomatch (show p ∈ [] from hp)
      · exact ⟨j, r, h1, h2⟩
  obtain ⟨j, r, hr, hm⟩ := hm
  rw [hm] at hmem hp
  have nd := w.keys r (List.mem_of_getElem? hr)
  obtain ⟨e0, he0, rfl⟩ := List.mem_map.mp hp
  have hg : g = [(alike T).getD e0.2 0] := by
    refine asc_eq hasc (List.pairwise_singleton _ _) fun x => ?_
    rw [hmem x]
    constructor
    · rintro ⟨q, hq, e1, e2⟩
      obtain ⟨e3, he3, rfl⟩ := List.mem_map.mp hq
      have k1 := nx_some nd (show (e3.1, e3.2) ∈ r from he3)
      have k2 := nx_some nd (show (e0.1, e0.2) ∈ r from he0)
      rw [show e3.1 = e0.1 from e1.trans hpa.symm, k2] at k1
      rw [Option.some.inj k1]
      exact e2
    · intro hx
      exact ⟨_, List.mem_map.mpr ⟨e0, he0, rfl⟩, hpa, hx⟩
  rw [hg]
  exact List.mem_map.mpr ⟨_, List.mem_range.mpr (lt _), rfl⟩
theorem least_ok {T : Tab} (w : Wf T) : Wf (least T) ∧ (∃ R : Nat → Nat → Prop, R 0 0 ∧ (∀ s q, R s q → q < (least T).rows.length) ∧ ∀ s q, R s q → ∀ a t, (a, t) ∈ T.row s → ∃ q', (least T).step q a = some q' ∧ R t q') ∧
    (∀ r ∈ (least T).rows, ∀ e ∈ r, ∃ r' ∈ T.rows, ∃ t, (e.1, t) ∈ r') ∧ (least T).rows.length ≤ T.rows.length := by
  have st := alike_ok w
  have u := ls_uni w
  have lw : Wf (least T) := subset_wf u _
  obtain ⟨o, h1, h2, h3⟩ := subset_ok u (lsEn T.rows T.ends (alike T) T.rows.length)
  have h1 : SOk _ _ _ o (least T).rows := h1
  have h2 : (least T).rows.length = o.length := h2
  have mvs : ∀ c, ∀ p ∈ pairsAt [c] (lsMv T.rows (alike T) T.rows.length), ∃ (j : Nat) (r : Row), T.rows[j]? = some r ∧ p ∈ r.map fun e => (e.1, [(alike T).getD e.2 0]) := by
    intro c p hp
    rw [pairs_one, List.getD_eq_getElem?_getD] at hp
    cases q : (lsMv T.rows (alike T) T.rows.length)[c]? with
    | none => rw [q] at hp; exact nomatch (show p ∈ [] from hp)
    | some m =>
      rw [q] at hp
      rcases (ls_spec st _ (Nat.le_refl _)).2 m (List.mem_of_getElem? q) with rfl | ⟨j, r, a1, a2⟩
      · exact nomatch (show p ∈ [] from hp)
      · exact ⟨j, r, a1, by rw [← a2]; exact hp⟩
  refine ⟨lw, ⟨fun s q => o[q]? = some [(alike T).getD s 0], h1.st, fun s q h => ?_, fun s q h a t hat => ?_⟩, fun r hr e he => ?_, ?_⟩
  · rw [h2]
    exact (List.getElem?_eq_some_iff.mp h).1
  · have hrm := row_mem hat
    have hr : T.rows[s]? = some (T.row s) := by
      unfold Tab.row at hat ⊢
      rw [List.getD_eq_getElem?_getD] at hat ⊢
      cases q : T.rows[s]? with
      | none => rw [q] at hat; exact nomatch (show (a, t) ∈ [] from hat)
      | some r => rfl
    have hs : s < T.rows.length := (List.getElem?_eq_some_iff.mp hr).1
    have hp : (a, [(alike T).getD t 0]) ∈ pairsAt [(alike T).getD s 0] (lsMv T.rows (alike T) T.rows.length) := by
      rw [pairs_one, List.getD_eq_getElem?_getD, (ls_spec st _ (Nat.le_refl _)).1 s _ hs hr]
      exact List.mem_map.mpr ⟨(a, t), hat, rfl⟩
    obtain ⟨g, hg⟩ := grp_has hp
    have hU := u.next [(alike T).getD s 0] (h1.sub _ (List.mem_of_getElem? h)) _ hg
    obtain ⟨c, _, hc⟩ := List.mem_map.mp hU
    have hc : [c] = g := hc
    have : (alike T).getD t 0 ∈ g := ((grp_mem hg).2 _).mpr ⟨_, hp, rfl, List.mem_singleton.mpr rfl⟩
    rw [← hc, List.mem_singleton] at this
    rw [← this] at hc
    have hql : q < (least T).rows.length := by rw [h2]; exact (List.getElem?_eq_some_iff.mp h).1
    have hrow := List.getElem?_eq_getElem hql
    obtain ⟨x, hx, rok⟩ := h1.row q _ hrow
    rw [h] at hx
    cases hx
    obtain ⟨j, hj, ho⟩ := rok.mem _ (ent_mem.mpr hg)
    refine ⟨j, ?_, ?_⟩
    · unfold Tab.step Tab.row
      rw [List.getD_eq_getElem?_getD, hrow]
      exact nx_some (by show ((least T).rows[q].map (·.1)).Nodup; rw [rok.keys]; exact rok.nd) hj
    · show o[j]? = some [(alike T).getD t 0]
      rw [hc]
      exact ho
  · obtain ⟨i, hi⟩ := List.mem_iff_getElem?.mp hr
    obtain ⟨x, hx, rok⟩ := h1.row i r hi
    obtain ⟨g, hg, _⟩ := rok.back e he
    obtain ⟨p, hp, hpa⟩ := grp_act (ent_mem.mp hg)
    obtain ⟨c, _, hc⟩ := List.mem_map.mp (h1.sub x (List.mem_of_getElem? hx))
    have hc : [c] = x := hc
    rw [← hc] at hp
    obtain ⟨j, r', a1, a2⟩ := mvs c p hp
    obtain ⟨f, hf, rfl⟩ := List.mem_map.mp a2
    have hpa : f.1 = e.1 := hpa
    exact ⟨r', List.mem_of_getElem? a1, f.2, by rw [← hpa]; exact hf⟩
  · rw [h2]
    have := sok_len u h1
    rw [st.len] at this
    exact this

/-! ### machines -/
inductive Un (T : Tab) (p : Str) (s : Nat) : Nat → Prop where
  | self : Un T p s s
  | go {t : Nat} {a : Act} {g : Nat} : Un T p s t → (a, g) ∈ T.row t → con a p = false → Un T p s g
noncomputable def unB (T : Tab) (p : Str) (s t : Nat) : Bool := @decide (Un T p s t) (Classical.propDecidable _)
theorem unB_iff {T : Tab} {p : Str} {s t : Nat} : unB T p s t = true ↔ Un T p s t := by
  unfold unB
  exact @decide_eq_true_iff _ (Classical.propDecidable _)
noncomputable def reach (T : Tab) (p : Str) (s : Nat) : List Nat := (List.range T.rows.length).filter (unB T p s)
noncomputable def mcMv (T : Tab) (p : Str) : Mvs := T.rows.map fun r => (r.filter fun e => con e.1 p).map fun e => (e.1, reach T p e.2)
noncomputable def mach (T : Tab) (p : Str) : Tab := least (subset (reach T p 0) (mcMv T p) T.ends 300)
theorem un_lt {T : Tab} (w : Wf T) {p : Str} {s t : Nat} (h : Un T p s t) (hs : s < T.rows.length) : t < T.rows.length := by
  cases h with
  | self => exact hs
  | go h1 h2 h3 => exact w.goal _ (row_mem h2) _ h2
theorem reach_mem {T : Tab} (w : Wf T) {p : Str} {s t : Nat} (hs : s < T.rows.length) : t ∈ reach T p s ↔ Un T p s t := by
  unfold reach
  rw [List.mem_filter, List.mem_range, unB_iff]
  exact ⟨fun h => h.2, fun h => ⟨un_lt w h hs, h⟩⟩
theorem range_lt (n : Nat) : (List.range n).Pairwise (· < ·) := by
  first | exact List.pairwise_lt_range | exact List.pairwise_lt_range _ | exact List.pairwise_lt_range n
theorem reach_asc (T : Tab) (p : Str) (s : Nat) : (reach T p s).Pairwise (· < ·) := (range_lt _).sublist List.filter_sublist
def subs : Nat → List (List Nat)
  | 0 => [[]]
  | n + 1 => subs n ++ (subs n).map (· ++ [n])
theorem subs_len : ∀ n, (subs n).length = 2 ^ n
  | 0 => rfl
  | n + 1 => by
    show (subs n ++ (subs n).map (· ++ [n])).length = _
    rw [List.length_append, List.length_map, subs_len n, Nat.pow_succ]
    omega
theorem subs_mem : ∀ (n : Nat) (l : List Nat), l.Pairwise (· < ·) → (∀ x ∈ l, x < n) → l ∈ subs n
  | 0, l, _, h => by
    cases l with
    | nil => exact List.mem_singleton.mpr rfl
    | cons x l => exact absurd (h x List.mem_cons_self) (Nat.not_lt_zero _)
  | n + 1, l, ha, h => by
    show l ∈ subs n ++ (subs n).map (· ++ [n])
    by_cases hn : n ∈ l
    · refine List.mem_append_right _ (List.mem_map.mpr ⟨l.filter fun x => decide (x < n), subs_mem n _ (ha.sublist List.filter_sublist) (fun x hx => of_decide_eq_true (List.mem_filter.mp hx).2), ?_⟩)
      refine asc_eq (List.pairwise_append.mpr ⟨ha.sublist List.filter_sublist, List.pairwise_singleton _ _, fun x hx y hy => ?_⟩) ha fun x => ?_
      · rw [List.mem_singleton.mp hy]
        exact of_decide_eq_true (List.mem_filter.mp hx).2
      · rw [List.mem_append, List.mem_filter, List.mem_singleton, decide_eq_true_eq]
        constructor
        · rintro (h | h)
          · exact h.1
          · rw [h]; exact hn
        · intro hx
          have := h x hx
          by_cases e : x = n
          · exact .inr e
          · exact .inl ⟨hx, by omega⟩
    · exact List.mem_append_left _ (subs_mem n l ha fun x hx => by
        have := h x hx
        have : x ≠ n := fun e => hn (e ▸ hx)
        omega)
theorem mc_pairs {T : Tab} {p : Str} {ns : List Nat} {e : Act × List Nat} (h : e ∈ pairsAt ns (mcMv T p)) : ∃ s ∈ ns, ∃ t, (e.1, t) ∈ T.row s ∧ con e.1 p = true ∧ e.2 = reach T p t := by
  unfold pairsAt at h
  obtain ⟨s, hs, he⟩ := List.mem_flatMap.mp h
  unfold mcMv at he
  rw [List.getD_eq_getElem?_getD, List.getElem?_map] at he
  cases q : T.rows[s]? with
  | none => rw [q] at he; exact nomatch (show e ∈ [] from he)
  | some r =>
    rw [q] at he
    obtain ⟨f, hf, rfl⟩ := List.mem_map.mp (show e ∈ (r.filter fun e => con e.1 p).map fun e => (e.1, reach T p e.2) from he)
    obtain ⟨h1, h2⟩ := List.mem_filter.mp hf
    refine ⟨s, hs, f.2, ?_, h2, rfl⟩
    unfold Tab.row
    rw [List.getD_eq_getElem?_getD, q]
    exact h1
theorem mc_pairs' {T : Tab} {p : Str} {ns : List Nat} {s : Nat} {a : Act} {t : Nat} (hs : s ∈ ns) (h : (a, t) ∈ T.row s) (hc : con a p = true) : (a, reach T p t) ∈ pairsAt ns (mcMv T p) := by
  refine List.mem_flatMap.mpr ⟨s, hs, ?_⟩
  unfold mcMv
  unfold Tab.row at h
  rw [List.getD_eq_getElem?_getD, List.getElem?_map]
  rw [List.getD_eq_getElem?_getD] at h
  cases q : T.rows[s]? with
  | none => rw [q] at h; exact nomatch (show (a, t) ∈ [] from h)
  | some r =>
    rw [q] at h
    show (a, reach T p t) ∈ (r.filter fun e => con e.1 p).map fun e => (e.1, reach T p e.2)
    exact List.mem_map.mpr ⟨(a, t), List.mem_filter.mpr ⟨h, hc⟩, rfl⟩
/-- closed under the unseen -/
def Clo (T : Tab) (p : Str) (x : List Nat) : Prop := ∀ s ∈ x, ∀ a t, (a, t) ∈ T.row s → con a p = false → t ∈ x
noncomputable def cloB (T : Tab) (p : Str) (x : List Nat) : Bool := @decide (Clo T p x) (Classical.propDecidable _)
theorem cloB_iff {T : Tab} {p : Str} {x : List Nat} : cloB T p x = true ↔ Clo T p x := by
  unfold cloB
  exact @decide_eq_true_iff _ (Classical.propDecidable _)
noncomputable def mcU (T : Tab) (p : Str) : List (List Nat) := (subs T.rows.length).filter (cloB T p)
theorem reach_clo {T : Tab} (w : Wf T) {p : Str} {s : Nat} (hs : s < T.rows.length) : Clo T p (reach T p s) := fun x hx a t hat hc =>
  (reach_mem w hs).mpr (.go ((reach_mem w hs).mp hx) hat hc)
theorem mc_uni {T : Tab} (w : Wf T) (p : Str) (h8 : T.rows.length ≤ 8) : Uni (reach T p 0) (mcMv T p) 300 (mcU T p) := by
  have rl : ∀ s, ∀ x ∈ reach T p s, x < T.rows.length := fun s x hx => by
    unfold reach at hx
    exact List.mem_range.mp (List.mem_filter.mp hx).1
  refine ⟨?_, List.mem_filter.mpr ⟨subs_mem _ _ (reach_asc T p 0) (rl 0), cloB_iff.mpr (reach_clo w w.pos)⟩, fun ns _ e he => ?_⟩
  · have h1 : (mcU T p).length ≤ (subs T.rows.length).length := List.length_filter_le ..
    rw [subs_len] at h1
    have := Nat.pow_le_pow_right (show 0 < 2 by omega) h8
    omega
  · obtain ⟨a, g⟩ := e
    obtain ⟨h1, h2⟩ := grp_mem he
    refine List.mem_filter.mpr ⟨subs_mem _ _ h1 fun x hx => ?_, cloB_iff.mpr fun x hx b t hbt hc => ?_⟩
    · obtain ⟨q, hq, _, e2⟩ := (h2 x).mp hx
      obtain ⟨s, _, t, _, _, e3⟩ := mc_pairs hq
      rw [e3] at e2
      exact rl t x e2
    · obtain ⟨q, hq, e1, e2⟩ := (h2 x).mp hx
      obtain ⟨s', hs', t', ht', hc', e3⟩ := mc_pairs hq
      have ht'l : t' < T.rows.length := w.goal _ (row_mem ht') _ ht'
      rw [e3] at e2
      exact (h2 t).mpr ⟨q, hq, e1, by rw [e3]; exact reach_clo w ht'l x e2 b t hbt hc⟩
structure MOk (T : Tab) (p : Str) (M : Tab) : Prop where
  wf : Wf M
  sim : ∃ R : Nat → Nat → Prop, R 0 0 ∧ (∀ s q, R s q → q < M.rows.length) ∧ ∀ s q, R s q → ∀ a t, (a, t) ∈ T.row s → if con a p = true then ∃ q', M.step q a = some q' ∧ R t q' else R t q
  lab : ∀ r ∈ M.rows, ∀ e ∈ r, con e.1 p = true ∧ ∃ r' ∈ T.rows, ∃ t, (e.1, t) ∈ r'
  len : M.rows.length ≤ 300
theorem mach_ok {T : Tab} (w : Wf T) (p : Str) (h8 : T.rows.length ≤ 8) : MOk T p (mach T p) := by
  have u := mc_uni w p h8
  have w0 : Wf (subset (reach T p 0) (mcMv T p) T.ends 300) := subset_wf u _
  obtain ⟨o, h1, h2, h3⟩ := subset_ok u T.ends
  obtain ⟨l1, ⟨R, r1, r2, r3⟩, l3, l4⟩ := least_ok w0
  show MOk T p (least (subset (reach T p 0) (mcMv T p) T.ends 300))
  generalize subset (reach T p 0) (mcMv T p) T.ends 300 = M0 at *
  have hlen : o.length ≤ 300 := sok_len u h1
  have lab0 : ∀ r ∈ M0.rows, ∀ e ∈ r, con e.1 p = true ∧ ∃ r' ∈ T.rows, ∃ t, (e.1, t) ∈ r' := fun r hr e he => by
    obtain ⟨i, hi⟩ := List.mem_iff_getElem?.mp hr
    obtain ⟨x, hx, rok⟩ := h1.row i r hi
    obtain ⟨g, hg, _⟩ := rok.back e he
    obtain ⟨q, hq, e1⟩ := grp_act (ent_mem.mp hg)
    obtain ⟨s, hs, t, h4, h5, h6⟩ := mc_pairs hq
    rw [e1] at h4 h5
    exact ⟨h5, _, row_mem h4, t, h4⟩
  refine ⟨l1, ⟨fun s q => ∃ i x, o[i]? = some x ∧ s ∈ x ∧ R i q, ⟨0, _, h1.st, (reach_mem w w.pos).mpr .self, r1⟩, fun s q ⟨i, x, _, _, h⟩ => r2 i q h, fun s q ⟨i, x, hx, hs, hR⟩ a t hat => ?_⟩, fun r hr e he => ?_, by omega⟩
  · split
    · rename_i hc
      have hp := mc_pairs' hs hat hc
      obtain ⟨g, hg⟩ := grp_has hp
      have hg : (a, g) ∈ grp x (mcMv T p) := hg
      have htl : t < T.rows.length := w.goal _ (row_mem hat) _ hat
      have htg : t ∈ g := ((grp_mem hg).2 t).mpr ⟨_, hp, rfl, (reach_mem w htl).mpr .self⟩
      have hil : i < M0.rows.length := by rw [h2]; exact (List.getElem?_eq_some_iff.mp hx).1
      have hrow := List.getElem?_eq_getElem hil
      obtain ⟨y, hy, rok⟩ := h1.row i _ hrow
      rw [hx] at hy
      cases hy
      obtain ⟨j, hj, ho⟩ := rok.mem _ (ent_mem.mpr hg)
      have hrow2 : M0.row i = M0.rows[i] := by
        unfold Tab.row
        rw [List.getD_eq_getElem?_getD, hrow] <;> rfl
      obtain ⟨q', hq', hR'⟩ := r3 i q hR a j (by rw [hrow2]; exact hj)
      exact ⟨q', hq', j, g, ho, htg, hR'⟩
    · rename_i hc
      have := List.mem_filter.mp (h1.sub x (List.mem_of_getElem? hx))
      exact ⟨i, x, hx, cloB_iff.mp this.2 s hs a t hat (by simpa using hc), hR⟩
  · obtain ⟨r', hr', t, ht⟩ := l3 r hr e he
    obtain ⟨h4, h5⟩ := lab0 r' hr' _ ht
    exact ⟨h4, h5⟩
end Pk
set_option Elab.async false
set_option linter.all false
set_option maxRecDepth 100000
set_option maxHeartbeats 2000000
/-! How a def is said to keep its promise; tables and actions in the heap; readings of what the program asks of them. -/
namespace Pk
open PySem PySem.Spec PyProof.Rows L2

/-! ### rooms -/
theorem ru0 {k : Nat} {A : Around} (r : Room k A) : A.units < cLine := by have := r.un; omega
theorem ru1 {k : Nat} {A : Around} (r : Room k A) : A.units + 1 < cLine := by have := r.un; omega
theorem ru64 {k : Nat} {A : Around} (r : Room k A) : A.units + 64 < cLine := by have := r.un; omega
theorem ru65 {k : Nat} {A : Around} (r : Room k A) : A.units + 65 < cLine := by have := r.un; omega

/-! ### defs -/
section
variable {P : Program} {w : World} {K : PySem.W.Frag} {mg : Str → Option Value} {base : Heap} {x qual : Str} {st : Stmt} {f C : Addr} {k : Nat} {N ps : List Str} {sp : Sp} {CX : CXT}
theorem ok_def (d : ∃ fd, FnP K x qual st f fd) (g : mg x = some (.ref f)) (S : FnScope N ps (defScope st))
    (b : ∀ (kV doc pm : Value) (an : Option Addr) (cdv ct : Value) (us : List Value), us.length = ps.length → bindArgs (PySem.W.fnOf x qual (defArgs st) (defBody st) (defScope st) .none kV doc pm an cdv ct) ⟨us, []⟩ = pure (ps.zip us))
    (len : ∀ vs H Q E, sp vs H Q E → vs.length = ps.length)
    (hbody : ∀ (cdv : Value) (A : Around) (outer : List Env) (s : Shared) (H : Hp) (vs : List V) (Q : VK) (E : XK), Room k (A.deeper (envOfC qual (defScope st) s.heap.objs.size f cdv)) → sp vs H Q E →
      ∃ t, PSs (cxOf CX P w K mg base N qual (defScope st) f cdv A outer s H E) (defBody st) t ∧ t { nx := fun _ H' => Q .non H', rt := Q } (start N vs) H) : Ok P w K mg base CX x (k + 1) ps sp := by
  obtain ⟨fd, F⟩ := d
  exact ⟨f, fd, F.ok S len hbody, g, FunD.kp F, FunD.bindsN F b⟩
theorem okm_def (cl : Cls K C) (d : ∃ fd, FnP K x qual st f fd) (m : Meth K C x f) (S : FnScope N ps (defScope st))
    (b : ∀ (kV doc pm : Value) (an : Option Addr) (cdv ct : Value) (us : List Value), us.length = ps.length → bindArgs (PySem.W.fnOf x qual (defArgs st) (defBody st) (defScope st) .none kV doc pm an cdv ct) ⟨us, []⟩ = pure (ps.zip us))
    (len : ∀ vs H Q E, sp vs H Q E → vs.length = ps.length)
    (hbody : ∀ (cdv : Value) (A : Around) (outer : List Env) (s : Shared) (H : Hp) (vs : List V) (Q : VK) (E : XK), Room k (A.deeper (envOfC qual (defScope st) s.heap.objs.size f cdv)) → sp vs H Q E →
      ∃ t, PSs (cxOf CX P w K mg base N qual (defScope st) f cdv A outer s H E) (defBody st) t ∧ t { nx := fun _ H' => Q .non H', rt := Q } (start N vs) H) : OkM P w K mg base CX C x (k + 1) ps sp := by
  obtain ⟨fd, F⟩ := d
  exact ⟨cl, f, fd, F.ok S len hbody, m, FunD.bindsN F b⟩
end

/-! ### what stays: tuples -/
def Tp (H H' : Hp) : Prop := ∀ b xs, H b = some (.tup xs) → H' b = some (.tup xs)
theorem Tp.refl (H : Hp) : Tp H H := fun _ _ h => h
theorem Tp.trans {H H1 H2 : Hp} (a : Tp H H1) (b : Tp H1 H2) : Tp H H2 := fun c o h => b c o (a c o h)
theorem Tp.of {H H' : Hp} (s : Same H H') : Tp H H' := fun b xs h => s b _ h
theorem Tp.new {H : Hp} {p : Addr} {o : HO} (h : H p = none) : Tp H (upd H p o) := Tp.of (same_new h)
/-- what is no tuple is written -/
theorem Tp.put {H H' : Hp} {p : Addr} {o u : HO} (s : Tp H H') (hp : H' p = some u) (hu : ∀ xs, u ≠ .tup xs) : Tp H (upd H' p o) := fun b xs h => by
  have h2 := s b xs h
  have : b ≠ p := fun e => by
    subst e
    rw [hp] at h2
    exact hu xs (Option.some.inj h2)
  rw [upd_ne this]
  exact h2
theorem Tp.add {H H' : Hp} {p : Addr} {o : HO} (s : Tp H H') (hp : H' p = none) : Tp H (upd H' p o) := s.trans (Tp.new hp)

/-! ### tables -/
def okA (a : Act) : Bool := PySem.PyData.strOk a.1 && PySem.PyData.strOk a.2.1 && PySem.PyData.strOk a.2.2
def ActV (H : Hp) (v : V) (a : Act) : Prop := ∃ b, v = .ref b ∧ H b = some (.tup [.str a.1, .str a.2.1, .str a.2.2]) ∧ okA a = true
def MvV (H : Hp) (v : V) (p : Act × Nat) : Prop := ∃ b x, v = .ref b ∧ H b = some (.tup [x, .int (p.2 : Nat)]) ∧ ActV H x p.1
def RowV (H : Hp) (v : V) (r : Row) : Prop := ∃ b xs, v = .ref b ∧ H b = some (.tup xs) ∧ Paired (MvV H) xs r
def TabV (H : Hp) (v : V) (T : Tab) : Prop := ∃ b rr ee xs, v = .ref b ∧ H b = some (.tup [.str "table", .ref rr, .ref ee]) ∧ H rr = some (.tup xs) ∧ Paired (RowV H) xs T.rows ∧ H ee = some (.tup (T.ends.map V.bl))
theorem ActV.mono {H H' : Hp} {v : V} {a : Act} (t : Tp H H') (h : ActV H v a) : ActV H' v a := let ⟨b, e, q, k⟩ := h; ⟨b, e, t _ _ q, k⟩
theorem ActV.ok {H : Hp} {v : V} {a : Act} (h : ActV H v a) : okA a = true := let ⟨_, _, _, k⟩ := h; k
theorem MvV.mono {H H' : Hp} {v : V} {a : Act × Nat} (t : Tp H H') (h : MvV H v a) : MvV H' v a := let ⟨b, x, e, q, r⟩ := h; ⟨b, x, e, t _ _ q, r.mono t⟩
theorem RowV.mono {H H' : Hp} {v : V} {a : Row} (t : Tp H H') (h : RowV H v a) : RowV H' v a := let ⟨b, x, e, q, r⟩ := h; ⟨b, x, e, t _ _ q, L2.Paired.mapP r fun _ _ z => z.mono t⟩
theorem TabV.mono {H H' : Hp} {v : V} {a : Tab} (t : Tp H H') (h : TabV H v a) : TabV H' v a :=
  let ⟨b, rr, ee, xs, e, q, r, z, y⟩ := h; ⟨b, rr, ee, xs, e, t _ _ q, t _ _ r, L2.Paired.mapP z fun _ _ z => z.mono t, t _ _ y⟩
theorem pr_get {α β : Type} {F : α → β → Prop} : ∀ {l : List α} {m : List β} {i : Nat} {y : β}, Paired F l m → m[i]? = some y → ∃ x, l[i]? = some x ∧ F x y
  | _, _, 0, _, .cons h t, e => ⟨_, rfl, by cases (show some _ = some _ from e); exact h⟩
  | _, _, i + 1, y, .cons h t, e => pr_get (i := i) (y := y) t e
theorem pr_get' {α β : Type} {F : α → β → Prop} : ∀ {l : List α} {m : List β} {i : Nat} {x : α}, Paired F l m → l[i]? = some x → ∃ y, m[i]? = some y ∧ F x y
  | _, _, 0, _, .cons h t, e => ⟨_, rfl, by cases (show some _ = some _ from e); exact h⟩
  | _, _, i + 1, y, .cons h t, e => pr_get' (i := i) (x := y) t e
theorem pr_app {α β : Type} {F : α → β → Prop} : ∀ {l l' : List α} {m m' : List β}, Paired F l m → Paired F l' m' → Paired F (l ++ l') (m ++ m')
  | _, _, _, _, .nil, h => h
  | _, _, _, _, .cons h t, h' => .cons h (pr_app t h')
theorem pr_map {α β : Type} {F : α → β → Prop} (g : β → α) (h : ∀ b, F (g b) b) : ∀ (m : List β), Paired F (m.map g) m
  | [] => .nil
  | b :: m => .cons (h b) (pr_map g h m)
/-- the action's key -/
theorem ActV.key {H : Hp} {v : V} {a : Act} (h : ActV H v a) : ∃ b, v = .ref b ∧ H b = some (.tup ((kA a).map kV)) := let ⟨b, e, q, _⟩ := h; ⟨b, e, q⟩

/-! ### sorted, the items told by any word -/
section
variable {X : Cx}
def rSortR (K : PySem.W.Frag) : List V → Hp → VK → Prop := fun vs H Q => ∃ (β : Type) (R : V → β → Prop) (enc : β → PyData) (bs : List β) (a : Addr) (xs : List V), vs = [.ref a] ∧ SqL K H a xs ∧ Paired R xs bs ∧ (∀ x b, R x b → Dp K H x (enc b)) ∧
  PySem.W.AllAlike (bs.map enc) ∧ PySem.W.Sortable (bs.map enc) ∧ (∀ b ∈ bs, (enc b).depth ≤ 60) ∧
  ∀ p ys, H p = none → Paired R ys (bs.mergeSort (PySem.W.dataLe false enc)) → Q (.ref p) (upd H p (.lst ys))
theorem each_of {β : Type} {R : V → β → Prop} : ∀ {xs : List V} {bs : List β} {us : List Value}, Paired R xs bs → Vals xs us → PySem.W.EachIs (fun u b => ∃ x, L2.RelV x u ∧ R x b) us bs
  | _, _, _, .nil, .nil => .nil
  | _, _, _, .cons h t, .cons r q => .cons ⟨_, r, h⟩ (each_of t q)
theorem of_each {β : Type} {R : V → β → Prop} : ∀ {bs : List β} {us : List Value}, PySem.W.EachIs (fun u b => ∃ x, L2.RelV x u ∧ R x b) us bs → ∃ xs, Vals xs us ∧ Paired R xs bs
  | _, _, .nil => ⟨[], .nil, .nil⟩
  | _, _, .cons ⟨x, r, d⟩ t => by
    obtain ⟨vs, r2, d2⟩ := of_each t
    exact ⟨x :: vs, .cons r r2, .cons d d2⟩
theorem cr_sortR (hu : X.A.units + 64 < cLine) : CallR X (.builtin "sorted") (rSortR X.K) := by
  intro pins s σ H vs us Q I r h
  obtain ⟨β, R, enc, bs, a, xs, rfl, hs, hd, hR, hal, hso, hdep, q⟩ := h
  obtain ⟨its, rv, hl, hz⟩ := I.list hs
  rw [Vals.ref1 r]
  have e := each_of hd rv
  have hlen : bs.length ≤ sizeLine := by
    have := Paired.length hd
    omega
  refine PySem.W.sorted_data hl.isList e (e.mono fun u b ⟨x, rx, dx⟩ => Dp.reads I (enc b) x u (hR x b dx) rx) hal hso hlen (fun b hb => by have := hdep b hb; omega) fun out ho eo => ?_
  obtain ⟨ys, ry, dy⟩ := of_each eo
  obtain ⟨ep, he'⟩ := PyProof.Rows.sortedAll_at s.heap its out.toArray
  have hy : ys.length ≤ sizeLine := by rw [ry.length, ho]; exact hlen
  exact ⟨.ref _, upd H (s.heap.objs.size + 1) (.lst ys), I.laid (t' := s.toks) (fun _ _ => PyProof.Rows.sortedAll_old) (Nat.le_succ _) ⟨hy, out, ep, ry, he'⟩, rfl, q _ ys (I.hok.fresh (Nat.le_succ _)) dy⟩
/-- sorted(d), the keys actions -/
def rSortA : List V → Hp → VK → Prop := fun vs H Q => ∃ (d : Addr) (kvs : List (List Key × V)) (as : List Act), vs = [.ref d] ∧ Rd H d (.dT kvs) ∧ kvs.map (·.1) = as.map kA ∧ (∀ a ∈ as, okA a = true) ∧
  ∀ p ys, H p = none → Paired (ActV H) ys (sortA as) → Q (.ref p) (upd H p (.lst ys))
theorem dA_alike (as : List Act) : PySem.W.AllAlike (as.map fun a => tkD (kA a)) := fun d hd d' hd' => by
  obtain ⟨a, _, rfl⟩ := List.mem_map.mp hd
  obtain ⟨b, _, rfl⟩ := List.mem_map.mp hd'
  rfl
theorem dA_sortable (as : List Act) : PySem.W.Sortable (as.map fun a => tkD (kA a)) := .inl fun d hd => by
  obtain ⟨a, _, rfl⟩ := List.mem_map.mp hd
  exact ⟨_, _, rfl⟩
theorem dA_depth (a : Act) : (tkD (kA a)).depth ≤ 60 := by
  show PyData.depth (.tuple [.str a.1, .str a.2.1, .str a.2.2]) ≤ 60
  simp [PyData.depth, PyData.depthAll]
theorem ActV.dp {K : PySem.W.Frag} {H : Hp} {v : V} {a : Act} (h : ActV H v a) : Dp K H v (tkD (kA a)) := by
  obtain ⟨b, rfl, q, _⟩ := h
  exact dp_tk q
theorem cr_sortA (hc : X.calm = true) (hu : X.A.units + 64 < cLine) : CallR X (.builtin "sorted") rSortA := by
  intro pins s σ H vs us Q I r h
  obtain ⟨d, kvs, bs, rfl, hd, hbs, hok, q⟩ := h
  rw [Vals.ref1 r]
  obtain ⟨z, hs, ks, pr, o, es, ep, ho, hx, hdt, he, hn⟩ := (show ObjOk X.prog X.w H s.heap d (.dT kvs) from hd.ok I.hok)
  have l1 : es.size = ks.length := size_of_entries he
  have l2 : kvs.length = ks.length := Paired.length pr
  have l3 : kvs.length = bs.length := by have := congrArg List.length hbs; simpa using this
  refine Calls.call_function_entry PyProof.Rows.kind_sorted PyProof.Rows.plain_sorted PyProof.Rows.entry_sorted (PyProof.Rows.args_sorted1 _) ?_
  unfold Builtin.«sorted»
  refine wpAny_bind (m := checkCount "sorted" 1 1 _) (wpAny_pure ?_)
  refine wpAny_bind (PySem.W.kdu_collect (A := X.A.in1) (kdl_raw hs hx hdt) (I.ok.hd hc) ho (by omega) fun h' tk acc kp it => ?_)
  have hal : acc.toList.length = bs.length := by rw [Array.length_toList, it.1]; omega
  -- each of what was gathered is its key's tuple
  have ea : ∀ (j : Nat) (v : Value) (a : Act), acc.toList[j]? = some v → bs[j]? = some a → ∃ x, L2.RelV x v ∧ ActV H x a := fun j v a hj hb => by
    obtain ⟨en, hen, hv⟩ := it.2 j v (by rw [← Array.getElem?_toList]; exact hj)
    have qe := entry_at he j
    rw [hen] at qe
    cases hk : ks[j]? with
    | none =>
      rw [hk] at qe
      exact nomatch (show some en = none from qe)
    | some y =>
      rw [hk] at qe
      have e2 : en = entryOfKey (tupleKind (mixKind X.prog X.w)) y := Option.some.inj qe
      obtain ⟨p, hp, p1, p2, _⟩ := pr_get pr hk
      have hk2 : p.1 = kA a := by
        have e1 : (kvs.map (·.1))[j]? = some p.1 := by rw [List.getElem?_map, hp] <;> rfl
        rw [hbs, List.getElem?_map, hb] at e1
        exact (Option.some.inj e1).symm
      refine ⟨.ref y.2.1, ?_, y.2.1, rfl, ?_, hok _ (List.mem_of_getElem? hb)⟩
      · show v = Value.ref y.2.1
        rw [hv, e2] <;> rfl
      · rw [hk2] at p2
        exact p2
  have mk : ∀ (us : List Value) (bs : List Act), us.length = bs.length → (∀ (j : Nat) (v : Value) (a : Act), us[j]? = some v → bs[j]? = some a → ∃ x, L2.RelV x v ∧ ActV H x a) → PySem.W.EachIs (fun u b => ∃ x, L2.RelV x u ∧ ActV H x b) us bs := by
    intro us
    induction us with
    | nil => intro bs hl _; cases bs with
      | nil => exact .nil
      | cons b bs => simp at hl
    | cons u us ih => intro bs hl hh; cases bs with
      | nil => simp at hl
      | cons b bs => exact .cons (hh 0 u b rfl rfl) (ih bs (by simpa using hl) fun j v a h1 h2 => hh (j + 1) v a h1 h2)
  have e := mk acc.toList bs hal ea
  have hlen : bs.length ≤ sizeLine := by omega
  have I1 : Inv X pins σ H { s with heap := h', toks := tk } := I.kept kp
  have hal0 : acc.toList.length ≤ sizeLine := by omega
  refine wpAny_bind (wpAny_newList ?_ hal0)
  have hoL : (h'.push (seqObj "list" acc.toList.toArray 0)).get? h'.objs.size = some (seqObj "list" acc.toList.toArray 0) := Heap.get?_push_size _ rfl
  show wpAny _ _ _ _ _ { s with heap := h'.push (seqObj "list" acc.toList.toArray 0), toks := tk }
  have er : PySem.W.EachIs (fun v b => ∃ as, Reads (h'.push (seqObj "list" acc.toList.toArray 0)) v (tkD (kA b)) as ∧ h'.objs.size ∉ as) acc.toList bs := by
    refine (PySem.W.each_mem e).mono fun u b ⟨⟨x, rx, dx⟩, hb⟩ => ?_
    obtain ⟨as, q1⟩ := Dp.reads I1 (tkD (kA b)) x u dx.dp rx
    refine ⟨as, PyProof.Rows.Reads.keeps (fun b o e => Heap.get?_push_of_some _ e) q1, fun m => ?_⟩
    exact absurd (reads_lt _ (by rfl) q1 _ m) (Nat.lt_irrefl _)
  refine wpAny_bind (wpAny_holding (PySem.W.list_sort_data (enc := fun a => tkD (kA a)) (R := fun u b => ∃ x, L2.RelV x u ∧ ActV H x b) hoL e er (dA_alike bs) (dA_sortable bs) hlen (fun b hb => by have := dA_depth b; show X.A.units + 1 + 1 + _ < _; omega) fun out h1 eo => ?_))
  obtain ⟨ys, ry, dy⟩ := of_each eo
  obtain ⟨e', he'⟩ := PyProof.Rows.sortedHeap_at (vs := acc.toList) (out := out.toArray) hoL
  have hy : ys.length ≤ sizeLine := by rw [ry.length, h1]; exact hlen
  refine wpAny_pure ⟨_, rfl, .ref h'.objs.size, upd H h'.objs.size (.lst ys), I1.laid (t' := tk) (fun b u e => ?_) (Nat.le_refl _) (show ObjOk X.prog X.w _ _ _ (.lst ys) from ⟨hy, out, e', ry, he'⟩), rfl, q _ ys (I1.hok.fresh (Nat.le_refl _)) dy⟩
  have hb : b < h'.objs.size := Heap.lt_size e
  rw [PyProof.Rows.sortedHeap_old (Nat.ne_of_lt hb) (by rw [size_push']; exact Nat.lt_succ_of_lt hb)]
  exact Heap.get?_push_of_some _ e
end

/-! ### readings -/
section
variable {K : PySem.W.Frag} {te ti : TE} {σ : L2.St} {H : Hp} {Q : VK} {v : V} {T : Tab} {s : Nat}
/-- te gives v and leaves all -/
def Gv (te : TE) (σ : L2.St) (H : Hp) (v : V) : Prop := ∀ Q : VK, Q v H → te σ H Q
theorem gv_var {i : Nat} (h : σ[i]? = some (some v)) : Gv (tVar i) σ H v := fun Q q => ⟨v, h, q⟩
theorem gv_int {i : Int} : Gv (tC (.int i)) σ H (.int i) := fun Q q => q
theorem gv_ixT {x : V} {xs : List V} {b : Addr} {i : Nat} (h1 : Gv te σ H (.ref b)) (h2 : Gv ti σ H (.int (i : Nat))) (hb : H b = some (.tup xs)) (hi : xs[i]? = some x) : Gv (tOp (rIxT K) te ti) σ H x := fun Q q =>
  h1 _ (h2 _ ⟨b, xs, (i : Nat), x, rfl, rfl, SqT.of hb, atI_nat hi, q⟩)
theorem gv_ixL {x : V} {xs : List V} {b : Addr} {i : Nat} (h1 : Gv te σ H (.ref b)) (h2 : Gv ti σ H (.int (i : Nat))) (hb : H b = some (.lst xs)) (hi : xs[i]? = some x) : Gv (tOp (rIxL K) te ti) σ H x := fun Q q =>
  h1 _ (h2 _ ⟨b, xs, (i : Nat), x, rfl, rfl, SqL.of hb, atI_nat hi, q⟩)
theorem gv_rows (h : TabV H v T) (h1 : Gv te σ H v) : ∃ rr xs, H rr = some (.tup xs) ∧ Paired (RowV H) xs T.rows ∧ Gv (tOp (rIxT K) te (tC (.int 1))) σ H (.ref rr) := by
  obtain ⟨b, rr, ee, xs, rfl, hb, hr, hp, he⟩ := h
  exact ⟨rr, xs, hr, hp, gv_ixT (i := 1) h1 gv_int hb rfl⟩
theorem gv_ends (h : TabV H v T) (h1 : Gv te σ H v) : ∃ ee, H ee = some (.tup (T.ends.map V.bl)) ∧ Gv (tOp (rIxT K) te (tC (.int 2))) σ H (.ref ee) := by
  obtain ⟨b, rr, ee, xs, rfl, hb, hr, hp, he⟩ := h
  exact ⟨ee, he, gv_ixT (i := 2) h1 gv_int hb rfl⟩
theorem row_get (hs : s < T.rows.length) : T.rows[s]? = some (T.row s) := by
  unfold Tab.row
  rw [List.getD_eq_getElem?_getD, List.getElem?_eq_getElem hs] <;> rfl
/-- table[1][state] -/
theorem gv_row (h : TabV H v T) (hs : s < T.rows.length) (h1 : Gv te σ H v) (h2 : Gv ti σ H (.int (s : Nat))) : ∃ b xs, H b = some (.tup xs) ∧ Paired (MvV H) xs (T.row s) ∧ Gv (tOp (rIxT K) (tOp (rIxT K) te (tC (.int 1))) ti) σ H (.ref b) := by
  obtain ⟨rr, xs, hr, hp, g⟩ := gv_rows (K := K) h h1
  obtain ⟨w, hw, b, ys, rfl, hb, hy⟩ := pr_get hp (row_get hs)
  exact ⟨b, ys, hb, hy, gv_ixT g h2 hr hw⟩
/-- table[2][state] -/
theorem gv_end (h : TabV H v T) (hs : s < T.ends.length) (h1 : Gv te σ H v) (h2 : Gv ti σ H (.int (s : Nat))) : Gv (tOp (rIxT K) (tOp (rIxT K) te (tC (.int 2))) ti) σ H (.bl (T.ends.getD s false)) := by
  obtain ⟨ee, he, g⟩ := gv_ends (K := K) h h1
  refine gv_ixT g h2 he ?_
  rw [List.getElem?_map, List.getD_eq_getElem?_getD, List.getElem?_eq_getElem hs] <;> rfl
/-- action[i] -/
theorem gv_act0 {a : Act} (h : ActV H v a) (h1 : Gv te σ H v) : Gv (tOp (rIxT K) te (tC (.int 0))) σ H (.str a.1) := by
  obtain ⟨b, rfl, hb, _⟩ := h
  exact gv_ixT (i := 0) h1 gv_int hb rfl
theorem gv_act1 {a : Act} (h : ActV H v a) (h1 : Gv te σ H v) : Gv (tOp (rIxT K) te (tC (.int 1))) σ H (.str a.2.1) := by
  obtain ⟨b, rfl, hb, _⟩ := h
  exact gv_ixT (i := 1) h1 gv_int hb rfl
theorem gv_act2 {a : Act} (h : ActV H v a) (h1 : Gv te σ H v) : Gv (tOp (rIxT K) te (tC (.int 2))) σ H (.str a.2.2) := by
  obtain ⟨b, rfl, hb, _⟩ := h
  exact gv_ixT (i := 2) h1 gv_int hb rfl
/-- action, goal = pair -/
theorem g_two {i j : Nat} {x y : V} {b : Addr} {Qs : L2.St → Hp → Prop} (hb : H b = some (.tup [x, y])) (q : Qs ((σ.set i (some x)).set j (some y)) H) : gTup K 2 (gCons (gName i) (gCons (gName j) gNil)) (.ref b) σ H Qs :=
  ⟨b, [x, y], rfl, SqT.of hb, rfl, _, _, rfl, _, _, rfl, rfl, q⟩
/-- two data that are actions: == -/
theorem eq_act {a b : Act} : PyData.eqv (tkD (kA a)) (tkD (kA b)) = decide (a = b) := by
  obtain ⟨a1, a2, a3⟩ := a
  obtain ⟨b1, b2, b3⟩ := b
  show PyData.eqv (.tuple [.str a1, .str a2, .str a3]) (.tuple [.str b1, .str b2, .str b3]) = _
  rw [Bool.eq_iff_iff, decide_eq_true_eq]
  simp [PyData.eqv, PyData.eqvAll]
end
end Pk
set_option Elab.async false
set_option linter.all false
set_option maxRecDepth 100000
set_option maxHeartbeats 2000000
/-! The rules once more with the frame K said outright (within comprehensions). -/
namespace Pk
open PySem PySem.Spec PyProof.Rows L2
theorem look_rel {env : Env} : ∀ {names : List (Str × NameKind)} {x : Str}, names.lookup x = some .cell ∨ names.lookup x = some .free →
    (names.map fun (n, k) => if (k == NameKind.free && env.scope.kind == .function && env.kindOf n == some .cell) then (n, NameKind.cell) else (n, k)).lookup x = some .cell ∨
    (names.map fun (n, k) => if (k == NameKind.free && env.scope.kind == .function && env.kindOf n == some .cell) then (n, NameKind.cell) else (n, k)).lookup x = some .free
  | [], _, h => by simp at h
  | (n, k) :: r, x, h => by
    have ih := @look_rel env r x
    simp only [List.map_cons]
    cases hx : x == n with
    | true =>
      simp only [List.lookup_cons, hx] at h
      by_cases hc : (k == NameKind.free && env.scope.kind == .function && env.kindOf n == some .cell) = true
      · rw [if_pos hc]
        left
        simp only [List.lookup_cons, hx]
      · rw [if_neg hc]
        simp only [List.lookup_cons, hx]
        exact h
    | false =>
      simp only [List.lookup_cons, hx] at h
      by_cases hc : (k == NameKind.free && env.scope.kind == .function && env.kindOf n == some .cell) = true
      · rw [if_pos hc]; simp only [List.lookup_cons, hx]; exact ih h
      · rw [if_neg hc]; simp only [List.lookup_cons, hx]; exact ih h
/-- a comprehension within a comprehension -/
theorem blk_rel {N : List Str} {sc scope : Scope} {own : List (Str × Nat)} {env : Env} (h : BlkOk N sc scope own) : BlkOk N (relabel sc env) scope own :=
  ⟨h.kind, h.uniq, h.ix, fun y hy e => look_rel (h.free y hy e), h.own⟩
section
variable {X : Cx} {K : PySem.W.Frag}
theorem kx_tup (h : X.K = K) : IxR X (rIxT K) := by subst h; exact ix_tup
theorem kx_list (h : X.K = K) : IxR X (rIxL K) := by subst h; exact ix_list
theorem kx_seq (h : X.K = K) : IxR X (rIx K) := by subst h; exact ix_seq
def rTupOf (K : PySem.W.Frag) : List V → Hp → VK → Prop := fun xs H Q => ∃ p ys, xs = [.ref p] ∧ ((SqL K H p ys ∧ ∀ l, H l = none → Q (.ref l) (upd H l (.tup ys))) ∨ (SqT K H p ys ∧ Q (.ref p) H))
theorem kc_tuple (h : X.K = K) : CallR X (.type "tuple") (rTupOf K) := by subst h; exact call_tuple_of
def rLstOf (K : PySem.W.Frag) : List V → Hp → VK → Prop := fun xs H Q => ∃ p ys, xs = [.ref p] ∧ (SqL K H p ys ∨ SqT K H p ys) ∧ ∀ l, H l = none → Q (.ref l) (upd H l (.lst ys))
theorem kc_list (h : X.K = K) : CallR X (.type "list") (rLstOf K) := by subst h; exact call_list_of
def rLenSq (K : PySem.W.Frag) : List V → Hp → VK → Prop := fun xs H Q => ∃ p ys, xs = [.ref p] ∧ (SqL K H p ys ∨ SqT K H p ys) ∧ Q (.int ys.length) H
theorem kc_len (h : X.K = K) : CallR X (.builtin "len") (rLenSq K) := by subst h; exact call_len_seq
theorem ko_eqD (h : X.K = K) (hu : X.A.units + 64 < cLine) : OpR X (compareOp .Eq) (rEqD K) := by subst h; exact op_eqD hu
theorem ko_neD (h : X.K = K) (hu : X.A.units + 64 < cLine) : OpR X (compareOp .NotEq) (rNeD K) := by subst h; exact op_neD hu
theorem ko_inD (h : X.K = K) (hu : X.A.units + 65 < cLine) : OpR X (compareOp .In) (rInD K) := by subst h; exact op_inD hu
theorem ko_in (h : X.K = K) : OpR X (compareOp .In) (rIn K false) := by subst h; exact op_in_seq
theorem kc_sortR (h : X.K = K) (hu : X.A.units + 64 < cLine) : CallR X (.builtin "sorted") (rSortR K) := by subst h; exact cr_sortR hu
theorem kg_tup {pos : Pos} {es : List Expr} {k : Nat} {t : TGs} {n : Nat} (h : X.K = K) (hc : X.calm = true) (hg : PGs X es t)
    (hn : (assignEach es X.env).length = n := by rfl) (hst : (assignEach es X.env).findIdx? (·.1) = none := by rfl) : PG X (.Tuple es k pos) (gTup K n t) := by subst h; exact pg_tup hc hg hn hst
theorem ki_list {tg l : Expr} {tl : TE} (h : X.K = K) (hl : PE X l tl) : PI X tg l (iList K tl) := by subst h; exact pi_list hl
theorem ki_tup {tg l : Expr} {tl : TE} (h : X.K = K) (hl : PE X l tl) : PI X tg l (iTup K tl) := by subst h; exact pi_tup hl
theorem ke_fld {e : Expr} {f : Str} {pos : Pos} {ta : TE} (h : X.K = K) (he : PE X e ta) (hb : attributeBase e f X.env (eval e X.env) = eval e X.env) : PE X (.Attribute e f pos) (tFld K ta f) := by subst h; exact pe_fld he hb
end
end Pk
set_option Elab.async false
set_option linter.all false
set_option maxRecDepth 100000
set_option maxHeartbeats 2000000
/-! The defs, 1: concerns, next_state, _law_step, _law_walk. The walks' terms are printed by gen.py. -/
namespace Pk
open PySem PySem.Spec PyProof.Rows L2
variable {P : Program} {w : World} {K : PySem.W.Frag} {mg : Str → Option Value} {base : Heap}
theorem dropc {α : Type} {l : List α} {i : Nat} {p : α} (h : l[i]? = some p) : l.drop i = p :: l.drop (i + 1) := by
  obtain ⟨hl, e⟩ := List.getElem?_eq_some_iff.mp h
  rw [List.drop_eq_getElem_cons hl, e]
theorem takec {α : Type} {l : List α} {i : Nat} {p : α} (h : l[i]? = some p) : l.take (i + 1) = l.take i ++ [p] := by
  rw [List.take_add_one, h] <;> rfl
def optI : Option Nat → V
  | some n => .int (n : Nat)
  | none => .non

theorem shA {a : Act} (h : okA a = true) : SeqAt.shaped (tkD (kA a)) = true := by
  show SeqAt.shaped (.tuple [.str a.1, .str a.2.1, .str a.2.2]) = true
  unfold okA at h
  simp only [Bool.and_eq_true] at h
  simp [SeqAt.shaped, PyData.canLay0, PyData.canLayAll0, PyData.depth, PyData.depthAll, h.1.1, h.1.2, h.2]
def spConcerns : Sp := fun vs H Q _ => ∃ (v : V) (a : Act) (p : Str), vs = [v, .str p] ∧ ActV H v a ∧ Q (.bl (con a p)) H
theorem sc_concerns : FnScope ["action", "party"] ["action", "party"] (defScope s_concerns) := ⟨rfl, rfl, rfl, by decide +kernel, rfl, by decide +kernel, by decide +kernel⟩
theorem o_concerns (T : Txt K mg) : Ok P w K mg base CX0 "concerns" 1 ["action", "party"] spConcerns :=
  ok_def T.d_concerns T.g_concerns sc_concerns (fun _ _ _ _ _ _ us hl => match us, hl with | [_, _], _ => rfl) (fun vs H Q E h => by obtain ⟨_, _, _, rfl, _⟩ := h; rfl) fun cdv A outer s H vs Q E hr h => by
  obtain ⟨v, a, p, rfl, ha, hQ⟩ := h
  refine ⟨_, (PSs.nox (pss_one (ps_ret (pe_or (pe_cmpR op_eq (pe_ix (kx_tup (K := K) rfl) (pv 0) pe_int (fun _ _ => rfl)) (pv 1) (nomark _)) (pe_one (pe_cmpR op_eq (pe_ix (kx_tup (K := K) rfl) (pv 0) pe_int (fun _ _ => rfl)) (pv 1) (nomark _))))))), ?_⟩
  refine gv_act0 ha (gv_var rfl) _ ⟨_, rfl, rfl, _, rfl, ?_⟩
  have e1 : decide (V.str a.1 = V.str p) = decide (a.1 = p) := by simp
  have e2 : decide (V.str a.2.1 = V.str p) = decide (a.2.1 = p) := by simp
  rw [e1]
  unfold con at hQ
  refine ite2 (fun c => ?_) (fun c => ?_)
  · rw [c] at hQ
    exact hQ
  · rw [Bool.not_eq_true] at c
    rw [c] at hQ
    refine gv_act1 ha (gv_var rfl) _ ⟨_, rfl, rfl, ?_⟩
    rw [e2]
    exact hQ

def spNext : Sp := fun vs H Q _ => ∃ (v : V) (s : Nat) (u : V) (T : Tab) (a : Act), vs = [v, .int (s : Nat), u] ∧ TabV H v T ∧ s < T.rows.length ∧ ActV H u a ∧ Q (optI (T.step s a)) H
theorem nx_cons {p : Act × Nat} {r : Row} {a : Act} : nx (p :: r) a = if p.1 = a then some p.2 else nx r a := by
  unfold nx
  rw [List.find?_cons]
  by_cases h : p.1 = a <;> simp [h]
/-- the walk of a row for an action -/
theorem next_loop {σ0 : V} {s : Nat} {u : V} {a : Act} {row : Row} {b : Addr} {xs : List V} {H : Hp} {Q : VK} (hb : H b = some (.tup xs)) (hx : Paired (MvV H) xs row) (hu : ActV H u a) (hQ : Q (optI (nx row a)) H) :
    ∃ W : Nat → Nat → L2.St → Hp → Prop, (∃ m, W 0 m [some σ0, some (.int (s : Nat)), some u, none, none] H) ∧ ∀ i m σ H', W i m σ H' →
      ((Itt K b).stop i H' ∧ (Q .non H')) ∨
      ((Itt K b).go i H' ∧ ∃ N : L2.St → Hp → Prop, (∀ σ' H', N σ' H' → ∃ m', m' < m ∧ W (i + 1) m' σ' H') ∧ ∀ x H1, (Itt K b).yld i H' x H1 →
        gTup K 2 (gCons (gName 3) (gCons (gName 4) gNil)) x σ H1 fun σ2 H2 => tIfS (tTest (tOp (rEqD K) (tVar 3) (tVar 2))) (tRet (tVar 4)) tNext { nx := N, ct := N, rt := Q, bk := fun _ H' => Q .non H' } σ2 H2) := by
  refine for_tup (K := K) (a := b) (xs := xs) (D := { nx := fun _ H' => Q .non H', rt := Q }) (fun i σ H' => H' = H ∧ (∃ x y, σ = [some σ0, some (.int (s : Nat)), some u, x, y]) ∧ nx (row.drop i) a = nx row a) ⟨rfl, ⟨_, _, rfl⟩, rfl⟩ (fun i σ H' _ h => by rw [h.1]; exact SqT.of hb) ?_ ?_
  · rintro i x σ H' hi ⟨rfl, ⟨y0, y1, rfl⟩, hn⟩
    obtain ⟨p, hp, c, z, rfl, hc, hz⟩ := pr_get' hx hi
    refine g_two hc ?_
    refine ⟨_, rfl, _, rfl, _, _, hz.dp, hu.dp, shA hz.ok, shA hu.ok, _, rfl, ?_⟩
    rw [eq_act]
    rw [dropc hp, nx_cons] at hn
    refine ite2 (fun q => ?_) (fun q => ?_)
    · rw [if_pos (of_decide_eq_true q)] at hn
      rw [← hn] at hQ
      exact ⟨_, rfl, hQ⟩
    · rw [if_neg (fun e => q (decide_eq_true e))] at hn
      exact ⟨rfl, ⟨_, _, rfl⟩, hn⟩
  · rintro σ H' ⟨rfl, _, hn⟩
    have e : row.drop xs.length = [] := by rw [Paired.length hx]; exact List.drop_length
    rw [e] at hn
    rw [← hn] at hQ
    exact hQ
theorem sc_next_state : FnScope ["table", "state", "action", "other", "goal"] ["table", "state", "action"] (defScope s_next_state) := ⟨rfl, rfl, rfl, by decide +kernel, rfl, by decide +kernel, by decide +kernel⟩
theorem o_next_state (T : Txt K mg) : Ok P w K mg base CX0 "next_state" 1 ["table", "state", "action"] spNext :=
  ok_def T.d_next_state T.g_next_state sc_next_state (fun _ _ _ _ _ _ us hl => match us, hl with | [_, _, _], _ => rfl) (fun vs H Q E h => by obtain ⟨_, _, _, _, _, rfl, _⟩ := h; rfl) fun cdv A outer s H vs Q E hr h => by
  obtain ⟨v, s, u, T', a, rfl, hT, hs, ha, hQ⟩ := h
  refine ⟨_, (PSs.nox (pss_cons (ps_for PassesOwn.never rfl (ki_tup (K := K) rfl (pe_ix (kx_tup (K := K) rfl) (pe_ix (kx_tup (K := K) rfl) (pv 0) pe_int (fun _ _ => rfl)) (pv 1) (fun _ _ => rfl))) (kg_tup (K := K) rfl rfl (pgs_cons (pg_name (i := 3) sc_next_state.nd rfl (by first | exact Or.inl rfl | exact Or.inr rfl)) (pgs_cons (pg_name (i := 4) sc_next_state.nd rfl (by first | exact Or.inl rfl | exact Or.inr rfl)) pgs_nil))) (pss_one (ps_if (pt_cmpR (ko_eqD (K := K) rfl (ru64 hr)) (pv 3) (pv 2) (nomark _)) (pss_one (ps_ret (pv 4))) pss_nil)))
      (pss_one (ps_ret pe_non)))), ?_⟩
  obtain ⟨b, xs, hb, hx, g⟩ := gv_row (K := K) (σ := start _ [v, .int (s : Nat), u]) hT hs (gv_var (i := 0) rfl) (gv_var (i := 1) rfl)
  exact g _ ⟨b, rfl, ⟨_, SqT.of hb⟩, next_loop hb hx ha hQ⟩
theorem sc_law_step : FnScope ["_law_table_here", "_law_state_here", "_law_action", "_law_other", "_law_goal"] ["_law_table_here", "_law_state_here", "_law_action"] (defScope s_law_step) := ⟨rfl, rfl, rfl, by decide +kernel, rfl, by decide +kernel, by decide +kernel⟩
theorem o_law_step (T : Txt K mg) : Ok P w K mg base CX0 "_law_step" 1 ["_law_table_here", "_law_state_here", "_law_action"] spNext :=
  ok_def T.d_law_step T.g_law_step sc_law_step (fun _ _ _ _ _ _ us hl => match us, hl with | [_, _, _], _ => rfl) (fun vs H Q E h => by obtain ⟨_, _, _, _, _, rfl, _⟩ := h; rfl) fun cdv A outer s H vs Q E hr h => by
  obtain ⟨v, s, u, T', a, rfl, hT, hs, ha, hQ⟩ := h
  refine ⟨_, (PSs.nox (pss_cons (ps_for PassesOwn.never rfl (ki_tup (K := K) rfl (pe_ix (kx_tup (K := K) rfl) (pe_ix (kx_tup (K := K) rfl) (pv 0) pe_int (fun _ _ => rfl)) (pv 1) (fun _ _ => rfl))) (kg_tup (K := K) rfl rfl (pgs_cons (pg_name (i := 3) sc_law_step.nd rfl (by first | exact Or.inl rfl | exact Or.inr rfl)) (pgs_cons (pg_name (i := 4) sc_law_step.nd rfl (by first | exact Or.inl rfl | exact Or.inr rfl)) pgs_nil))) (pss_one (ps_if (pt_cmpR (ko_eqD (K := K) rfl (ru64 hr)) (pv 3) (pv 2) (nomark _)) (pss_one (ps_ret (pv 4))) pss_nil)))
      (pss_one (ps_ret pe_non)))), ?_⟩
  obtain ⟨b, xs, hb, hx, g⟩ := gv_row (K := K) (σ := start _ [v, .int (s : Nat), u]) hT hs (gv_var (i := 0) rfl) (gv_var (i := 1) rfl)
  exact g _ ⟨b, rfl, ⟨_, SqT.of hb⟩, next_loop hb hx ha hQ⟩
end Pk
set_option Elab.async false
set_option linter.all false
set_option maxRecDepth 100000
set_option maxHeartbeats 2000000
/-! The defs, 2: parties_of, reached_unseen. -/
namespace Pk
open PySem PySem.Spec PyProof.Rows L2
variable {P : Program} {w : World} {K : PySem.W.Frag} {mg : Str → Option Value} {base : Heap}

/-! ### order of texts -/
theorem lc_anti : ∀ a b : List Nat, ltCps a b = false → ltCps b a = false → a = b
  | [], [], _, _ => rfl
  | [], _ :: _, h, _ => nomatch h
  | _ :: _, [], _, h => nomatch h
  | a :: r, b :: t, h1, h2 => by
    simp only [ltCps, Bool.or_eq_false_iff, decide_eq_false_iff_not, Bool.and_eq_false_iff, beq_eq_false_iff_ne] at h1 h2
    have e : a = b := by omega
    subst e
    rw [lc_anti r t (by rcases h1.2 with q | q; · exact absurd rfl q
                        · exact q) (by rcases h2.2 with q | q; · exact absurd rfl q
                                       · exact q)]
theorem lc_trans : ∀ a b c : List Nat, ltCps b a = false → ltCps c b = false → ltCps c a = false
  | a, b, [], h1, h2 => by
    cases a with
    | nil => rfl
    | cons x a =>
      cases b with
      | nil => exact nomatch h1
      | cons y b => exact nomatch h2
  | [], _, _ :: _, _, _ => rfl
  | a :: r, [], c :: t, h1, h2 => nomatch h1
  | a :: r, b :: u, c :: t, h1, h2 => by
    simp only [ltCps, Bool.or_eq_false_iff, decide_eq_false_iff_not, Bool.and_eq_false_iff, beq_eq_false_iff_ne] at h1 h2 ⊢
    refine ⟨by omega, ?_⟩
    by_cases e : c = a
    · right
      subst e
      have e2 : b = c := by omega
      subst e2
      refine lc_trans r u t ?_ ?_
      · rcases h1.2 with q | q
        · exact absurd rfl q
        · exact q
      · rcases h2.2 with q | q
        · exact absurd rfl q
        · exact q
    · exact .inl e
def leS (a b : Str) : Bool := !ltCps b.cps.toList a.cps.toList
theorem leS_anti {a b : Str} (h1 : leS a b = true) (h2 : leS b a = true) : a = b := by
  unfold leS at h1 h2
  have := lc_anti _ _ (by simpa using h1) (by simpa using h2)
  obtain ⟨x⟩ := a
  obtain ⟨y⟩ := b
  have e : y = x := by simpa using this
  rw [e]
theorem leS_trans {a b c : Str} (h1 : leS a b = true) (h2 : leS b c = true) : leS a c = true := by
  unfold leS at *
  have := lc_trans _ _ _ (by simpa using h1) (by simpa using h2)
  rw [this] <;> rfl
theorem leS_total (a b : Str) : leS a b = true ∨ leS b a = true := by
  unfold leS
  cases h : ltCps b.cps.toList a.cps.toList with
  | false => exact .inl rfl
  | true =>
    right
    have : ∀ x y : List Nat, ltCps x y = true → ltCps y x = false := by
      intro x
      induction x with
      | nil => intro y h; cases y <;> first | rfl | exact nomatch h
      | cons p x ih =>
        intro y h
        cases y with
        | nil => exact nomatch h
        | cons q y =>
          simp only [ltCps, Bool.or_eq_true, decide_eq_true_eq, Bool.and_eq_true, beq_iff_eq] at h
          simp only [ltCps, Bool.or_eq_false_iff, decide_eq_false_iff_not, Bool.and_eq_false_iff, beq_eq_false_iff_ne]
          rcases h with h | ⟨h1, h2⟩
          · exact ⟨by omega, .inl (by omega)⟩
          · exact ⟨by omega, .inr (ih y h2)⟩
    rw [this _ _ h] <;> rfl
def srtS (l : List Str) : List Str := l.mergeSort leS
theorem srtS_perm (l : List Str) : (srtS l).Perm l := List.mergeSort_perm ..
theorem sortedS_pw : ∀ {l : List Str}, sortedS l = true → l.Pairwise fun a b => leS a b = true
  | [], _ => .nil
  | x :: r, h => by
    have key : ∀ (r : List Str) (p : Str), risingS p r = true → (p :: r).Pairwise fun a b => leS a b = true := by
      intro r
      induction r with
      | nil => intro p _; exact List.pairwise_singleton _ _
      | cons y r ih =>
        intro p h
        have h' : (!ltCps y.cps.toList p.cps.toList && risingS y r) = true := h
        rw [Bool.and_eq_true] at h'
        have q := ih y h'.2
        refine List.pairwise_cons.mpr ⟨fun z hz => ?_, q⟩
        rcases List.mem_cons.mp hz with rfl | hz
        · exact h'.1
        · exact leS_trans h'.1 ((List.pairwise_cons.mp q).1 z hz)
    exact key r x h
theorem sortedS_eq {l m : List Str} (h : sortedS l = true) (p : l.Perm m) : l = srtS m := by
  refine List.Perm.eq_of_pairwise (le := fun a b => leS a b = true) (fun a b _ _ h1 h2 => leS_anti h1 h2) (sortedS_pw h) ?_ (p.trans (srtS_perm m).symm)
  exact List.pairwise_mergeSort (le := leS) (fun a b c h1 h2 => leS_trans h1 h2) (fun a b => by simpa [Bool.or_eq_true] using leS_total a b) m

/-! ### dicts of marks -/
def addT {α : Type} [DecidableEq α] (l : List α) (x : α) : List α := if x ∈ l then l else l ++ [x]
def mk {α : Type} (f : α → Key) (l : List α) : List (Key × V) := l.map fun x => (f x, V.bl true)
section
variable {α : Type} [DecidableEq α] {f : α → Key}
theorem mk_val (hf : ∀ a b, f a = f b → a = b) (l : List α) (x : α) : valV (mk f l) (f x) = if x ∈ l then some (.bl true) else none := by
  induction l with
  | nil => rfl
  | cons a l ih =>
    by_cases h : a = x
    · subst h
      rw [if_pos List.mem_cons_self]
      exact valV_pos rfl
    · have : ¬ f a = f x := fun e => h (hf _ _ e)
      show valV ((f a, V.bl true) :: mk f l) (f x) = _
      rw [valV_neg (p := (f a, V.bl true)) this, ih]
      have : x ∈ a :: l ↔ x ∈ l := by rw [List.mem_cons]; exact ⟨fun q => q.resolve_left fun e => h e.symm, .inr⟩
      simp only [this]
theorem mk_put (hf : ∀ a b, f a = f b → a = b) (l : List α) (x : α) : putK (mk f l) (f x) (.bl true) = mk f (addT l x) := by
  unfold addT
  by_cases h : x ∈ l
  · rw [if_pos h]
    unfold putK
    rw [if_pos]
    · unfold mk
      rw [List.map_map]
      refine List.map_congr_left fun a _ => ?_
      show (if f a = f x then (f a, V.bl true) else (f a, V.bl true)) = (f a, V.bl true)
      split <;> rfl
    · rw [List.any_eq_true]
      exact ⟨(f x, V.bl true), List.mem_map.mpr ⟨x, h, rfl⟩, by simp⟩
  · rw [if_neg h, putK_new]
    · unfold mk
      rw [List.map_append] <;> rfl
    · rw [mk_val hf, if_neg h]
theorem mk_len (l : List α) : (mk f l).length = l.length := by unfold mk; rw [List.length_map]
theorem mk_keys (l : List α) : (mk f l).map (·.1) = l.map f := by
  unfold mk
  rw [List.map_map] <;> rfl
theorem addT_mem {l : List α} {x y : α} : y ∈ addT l x ↔ y ∈ l ∨ y = x := by
  unfold addT
  split
  · rename_i h
    constructor
    · exact .inl
    · rintro (h1 | rfl)
      · exact h1
      · exact h
  · rw [List.mem_append, List.mem_singleton]
theorem addT_nodup {l : List α} {x : α} (h : l.Nodup) : (addT l x).Nodup := by
  unfold addT
  split
  · exact h
  · rename_i hn
    exact nodup_snoc h hn
theorem addT_len {l : List α} {x : α} : (addT l x).length ≤ l.length + 1 := by
  unfold addT
  split
  · omega
  · simp
end
def kS (x : Str) : Key := .inr x
def kN (n : Nat) : Key := .inl (n : Int)
theorem kS_inj : ∀ a b, kS a = kS b → a = b := fun a b h => Sum.inr.inj h
theorem kN_inj : ∀ a b, kN a = kN b → a = b := fun a b h => by have := Sum.inl.inj h; omega

/-! ### parties_of -/
def ptS (l : List Str) (a : Act) : List Str := addT (addT l a.1) a.2.1
def ptR (l : List Str) (r : Row) : List Str := (r.map (·.1)).foldl ptS l
def parties (T : Tab) : List Str := srtS (T.rows.foldl ptR [])
theorem ptR_mem {l : List Str} {r : Row} {x : Str} : x ∈ ptR l r ↔ x ∈ l ∨ ∃ e ∈ r, con e.1 x = true := by
  unfold ptR
  induction r generalizing l with
  | nil => simp
  | cons p r ih =>
    rw [List.map_cons, List.foldl_cons, ih]
    unfold ptS
    rw [addT_mem, addT_mem]
    simp only [List.mem_cons, exists_eq_or_imp, con, Bool.or_eq_true, decide_eq_true_eq]
    constructor
    · rintro ((h | rfl) | h)
      · rcases h with h | rfl
        · exact .inl h
        · exact .inr (.inl (.inl rfl))
      · exact .inr (.inl (.inr rfl))
      · exact .inr (.inr h)
    · rintro (h | (h | h) | h)
      · exact .inl (.inl (.inl h))
      · exact .inl (.inl (.inr h.symm))
      · exact .inl (.inr h.symm)
      · exact .inr h
theorem ptR_nodup {l : List Str} {r : Row} (h : l.Nodup) : (ptR l r).Nodup := by
  unfold ptR
  induction r generalizing l with
  | nil => exact h
  | cons p r ih =>
    rw [List.map_cons, List.foldl_cons]
    exact ih (addT_nodup (addT_nodup h))
theorem ptF_mem {l : List Str} {rs : List Row} {x : Str} : x ∈ rs.foldl ptR l ↔ x ∈ l ∨ ∃ r ∈ rs, ∃ e ∈ r, con e.1 x = true := by
  induction rs generalizing l with
  | nil => simp
  | cons r rs ih =>
    rw [List.foldl_cons, ih, ptR_mem, or_assoc]
    simp
theorem ptF_nodup {l : List Str} {rs : List Row} (h : l.Nodup) : (rs.foldl ptR l).Nodup := by
  induction rs generalizing l with
  | nil => exact h
  | cons r rs ih =>
    rw [List.foldl_cons]
    exact ih (ptR_nodup h)
theorem parties_nodup (T : Tab) : (parties T).Nodup := (srtS_perm _).nodup_iff.mpr (ptF_nodup List.nodup_nil)
theorem parties_mem {T : Tab} {x : Str} : x ∈ parties T ↔ ∃ r ∈ T.rows, ∃ e ∈ r, con e.1 x = true := by
  unfold parties
  rw [(srtS_perm _).mem_iff, ptF_mem]
  simp

def spParties : Sp := fun vs H Q _ => ∃ (v : V) (T : Tab), vs = [v] ∧ TabV H v T ∧ (parties T).length < 60 ∧ ∀ b H', Same H H' → H b = none → H' b = some (.lst ((parties T).map V.str)) → Q (.ref b) H'
/-- no more than at the end -/
theorem ptF_le {rs rs' : List Row} : (rs.foldl ptR []).length ≤ ((rs ++ rs').foldl ptR []).length :=
  nodup_len (ptF_nodup List.nodup_nil) fun x hx => by
    rw [ptF_mem] at hx ⊢
    rcases hx with hx | ⟨r, hr, q⟩
    · cases hx
    · exact .inr ⟨r, List.mem_append_left _ hr, q⟩
theorem ptR_le {l : List Str} {r r' : Row} (h : l.Nodup) : (ptR l r).length ≤ (ptR l (r ++ r')).length :=
  nodup_len (ptR_nodup h) fun x hx => by
    rw [ptR_mem] at hx ⊢
    rcases hx with hx | ⟨e, he, q⟩
    · exact .inl hx
    · exact .inr ⟨e, List.mem_append_left _ he, q⟩
theorem sc_parties_of : FnScope ["table", "found", "row", "action", "_"] ["table"] (defScope s_parties_of) := ⟨rfl, rfl, rfl, by decide +kernel, rfl, by decide +kernel, by decide +kernel⟩
theorem o_parties_of (T : Txt K mg) : Ok P w K mg base CX0 "parties_of" 1 ["table"] spParties :=
  ok_def T.d_parties_of T.g_parties_of sc_parties_of (fun _ _ _ _ _ _ us hl => match us, hl with | [_], _ => rfl) (fun vs H Q E h => by obtain ⟨_, _, rfl, _⟩ := h; rfl) fun cdv A outer s H vs Q E hr h => by
  obtain ⟨v, T', rfl, hT, hlt, hQ⟩ := h
  refine ⟨_, (PSs.nox (pss_cons (ps_set (i := 1) sc_parties_of.nd rfl (by first | exact Or.inl rfl | exact Or.inr rfl) pe_dnewK)
      (pss_cons (ps_for PassesOwn.never rfl (ki_tup (K := K) rfl (pe_ix (kx_tup (K := K) rfl) (pv 0) pe_int (fun _ _ => rfl))) (pg_name (i := 2) sc_parties_of.nd rfl (by first | exact Or.inl rfl | exact Or.inr rfl)) (pss_one (ps_for PassesOwn.never rfl (ki_tup (K := K) rfl (pv 2)) (kg_tup (K := K) rfl rfl (pgs_cons (pg_name (i := 3) sc_parties_of.nd rfl (by first | exact Or.inl rfl | exact Or.inr rfl)) (pgs_cons (pg_name (i := 4) sc_parties_of.nd rfl (by first | exact Or.inl rfl | exact Or.inr rfl)) pgs_nil))) (pss_cons (ps_dput (ru1 hr) (pv 1) (pe_ix (kx_tup (K := K) rfl) (pv 3) pe_int (fun _ _ => rfl)) pe_bl rfl)
      (pss_one (ps_dput (ru1 hr) (pv 1) (pe_ix (kx_tup (K := K) rfl) (pv 3) pe_int (fun _ _ => rfl)) pe_bl rfl))))))
      (pss_one (ps_ret (pe_callB (id := "sorted") (call_sortedD rfl) (by rfl) T.n_sorted (by decide +kernel) (pa_cons (pv 1) pa_nil))))))), ?_⟩
  intro d hd
  have hlen : ∀ i, ((T'.rows.take i).foldl ptR []).length < 60 := fun i => by
    have h1 := ptF_le (rs := T'.rows.take i) (rs' := T'.rows.drop i)
    rw [List.take_append_drop] at h1
    have h2 : (parties T').length = (T'.rows.foldl ptR []).length := (srtS_perm _).length_eq
    omega
  have s0 : Same H (upd H d (.dK [])) := same_new hd
  obtain ⟨rr, xs, hr', hx, g⟩ := gv_rows (K := K) (σ := (start ["table", "found", "row", "action", "_"] [v]).set 1 (some (.ref d))) (hT.mono (Tp.of s0)) (gv_var (i := 0) rfl)
  refine g _ ⟨rr, rfl, ⟨_, SqT.of hr'⟩, for_tup (K := K) (a := rr) (xs := xs) (fun i σ H' => (∃ x y z, σ = [some v, some (.ref d), x, y, z]) ∧ Same H H' ∧ H' rr = some (.tup xs) ∧ Paired (RowV H') xs T'.rows ∧ H' d = some (.dK (mk kS ((T'.rows.take i).foldl ptR [])))) ⟨⟨_, _, _, rfl⟩, s0, hr', hx, upd_same⟩ (fun i σ H' _ h => SqT.of h.2.2.1) ?_ ?_⟩
  · rintro i x σ H' hi ⟨⟨x0, y0, z0, rfl⟩, s1, h1, h2, h3⟩
    obtain ⟨row, hrow, b, ys, rfl, hb, hys⟩ := pr_get' h2 hi
    refine ⟨_, rfl, b, rfl, ⟨_, SqT.of hb⟩, for_tup (K := K) (a := b) (xs := ys) (fun j σ H2 => (∃ y z, σ = [some v, some (.ref d), some (.ref b), y, z]) ∧ Same H H2 ∧ Tp H' H2 ∧ H2 d = some (.dK (mk kS (ptR ((T'.rows.take i).foldl ptR []) (row.take j))))) ⟨⟨_, _, rfl⟩, s1, Tp.refl _, h3⟩ (fun j σ H2 _ h => SqT.of (h.2.2.1 _ _ hb)) ?_ ?_⟩
    · rintro j y σ H2 hj ⟨⟨y1, z1, rfl⟩, s2, t2, h4⟩
      obtain ⟨p, hp, c, z, rfl, hc, hz⟩ := pr_get' hys hj
      refine g_two (t2 _ _ hc) ?_
      have hz2 := hz.mono t2
      have lim : (ptR ((T'.rows.take i).foldl ptR []) (row.take (j + 1))).length < 60 := by
        have h1 := ptR_le (l := (T'.rows.take i).foldl ptR []) (r := row.take (j + 1)) (r' := row.drop (j + 1)) (ptF_nodup List.nodup_nil)
        rw [List.take_append_drop] at h1
        have h2 := hlen (i + 1)
        rw [takec hrow, List.foldl_append] at h2
        have : ptR ((T'.rows.take i).foldl ptR []) row = List.foldl ptR (List.foldl ptR [] (List.take i T'.rows)) [row] := rfl
        rw [← this] at h2
        omega
      have e1 : ptR ((T'.rows.take i).foldl ptR []) (row.take (j + 1)) = ptS (ptR ((T'.rows.take i).foldl ptR []) (row.take j)) p.1 := by
        unfold ptR
        rw [takec hp, List.map_append, List.foldl_append] <;> rfl
      rw [e1] at lim
      generalize ptR ((T'.rows.take i).foldl ptR []) (row.take j) = l at h4 e1 lim
      have l2 : (addT l p.1.1).length ≤ (ptS l p.1).length := by
        unfold ptS addT
        split <;> split <;> simp
      have l1 : l.length ≤ (addT l p.1.1).length := by
        unfold addT
        split <;> simp
      have big : (60 : Nat) < sizeLine := by decide
      refine ⟨_, rfl, gv_act0 hz2 (gv_var rfl) _ ⟨d, _, rfl, DPut.k (k := kS p.1.1) h4 (by rw [mk_len]; omega), ?_⟩⟩
      rw [mk_put kS_inj]
      have t3 : Tp H2 (upd H2 d (.dK (mk kS (addT l p.1.1)))) := (Tp.refl H2).put h4 (fun _ z => nomatch z)
      refine ⟨_, rfl, gv_act1 (hz2.mono t3) (gv_var rfl) _ ⟨d, _, rfl, DPut.k (k := kS p.1.2.1) upd_same (by rw [mk_len]; omega), ?_⟩⟩
      rw [mk_put kS_inj, upd_upd]
      refine ⟨⟨_, _, rfl⟩, same_put s2 hd, t2.trans ((Tp.refl H2).put h4 (fun _ z => nomatch z)), ?_⟩
      rw [upd_same, e1] <;> rfl
    · rintro σ H2 ⟨⟨y1, z1, rfl⟩, s2, t2, h4⟩
      refine ⟨⟨_, _, _, rfl⟩, s2, t2 _ _ h1, L2.Paired.mapP h2 fun _ _ q => q.mono t2, ?_⟩
      rw [Paired.length hys, List.take_length] at h4
      rw [takec hrow, List.foldl_append]
      exact h4
  · rintro σ H' ⟨⟨x0, y0, z0, rfl⟩, s1, h1, h2, h3⟩
    rw [Paired.length hx, List.take_length] at h3
    have hl := hlen T'.rows.length
    rw [List.take_length] at hl
    refine ⟨_, rfl, d, _, T'.rows.foldl ptR [], rfl, .inl h3, by rw [mk_keys] <;> rfl, by omega, fun ys p hp hs hn => ?_⟩
    rw [sortedS_eq hs hp]
    exact hQ p _ (s1.trans (same_new hn)) (s1.free hn) upd_same
end Pk
set_option Elab.async false
set_option linter.all false
set_option maxRecDepth 100000
set_option maxHeartbeats 2000000
/-! The defs, 3: reached_unseen. -/
namespace Pk
open PySem PySem.Spec PyProof.Rows L2
variable {P : Program} {w : World} {K : PySem.W.Frag} {mg : Str → Option Value} {base : Heap}
def nV (l : List Nat) : List V := l.map fun (n : Nat) => V.int (n : Int)
theorem nV_len (l : List Nat) : (nV l).length = l.length := by unfold nV; rw [List.length_map]
/-- nV sorted: what comes out -/
theorem srt_out {l : List Nat} (nd : l.Nodup) {ys : List Int} (hp : ys.Perm (cI l)) (hs : ys.Pairwise (· ≤ ·)) : ys.map V.int = nV (srt l) := by
  have e : ys = cI (srt l) := by
    refine List.Perm.eq_of_pairwise (le := fun a b : Int => a ≤ b) (fun a b _ _ h1 h2 => by omega) hs ?_ (hp.trans ?_)
    · unfold cI
      rw [List.pairwise_map]
      exact (srt_le l).imp fun h => by omega
    · unfold cI
      exact (srt_perm l).symm.map _
  rw [e]
  unfold cI nV
  rw [List.map_map] <;> rfl
/-- where the search stands: all known, those that wait -/
structure RS (T : Tab) (p : Str) (s : Nat) (fl wl : List Nat) : Prop where
  nd : fl.Nodup
  st : s ∈ fl
  un : ∀ t ∈ fl, Un T p s t
  sub : ∀ t ∈ wl, t ∈ fl
  le : wl.length ≤ fl.length
  clo : ∀ t ∈ fl, t ∈ wl ∨ ∀ e ∈ T.row t, con e.1 p = false → e.2 ∈ fl
/-- the same while the row of t is walked: j of it done -/
structure RS2 (T : Tab) (p : Str) (s t : Nat) (j : Nat) (fl wl : List Nat) : Prop where
  nd : fl.Nodup
  st : s ∈ fl
  tm : t ∈ fl
  un : ∀ t ∈ fl, Un T p s t
  sub : ∀ t ∈ wl, t ∈ fl
  le : wl.length ≤ fl.length
  clo : ∀ t' ∈ fl, t' ∈ wl ∨ t' = t ∨ ∀ e ∈ T.row t', con e.1 p = false → e.2 ∈ fl
  done : ∀ e ∈ (T.row t).take j, con e.1 p = false → e.2 ∈ fl
theorem RS.len {T : Tab} {p : Str} {s : Nat} {fl wl : List Nat} (h : RS T p s fl wl) (w : Wf T) (hs : s < T.rows.length) : fl.length ≤ T.rows.length := by
  have := nodup_len (m := List.range T.rows.length) h.nd fun x hx => List.mem_range.mpr (un_lt w (h.un x hx) hs)
  rw [List.length_range] at this
  exact this
theorem RS2.len {T : Tab} {p : Str} {s t j : Nat} {fl wl : List Nat} (h : RS2 T p s t j fl wl) (w : Wf T) (hs : s < T.rows.length) : fl.length ≤ T.rows.length := by
  have := nodup_len (m := List.range T.rows.length) h.nd fun x hx => List.mem_range.mpr (un_lt w (h.un x hx) hs)
  rw [List.length_range] at this
  exact this
theorem RS.done {T : Tab} {p : Str} {s : Nat} {fl : List Nat} (h : RS T p s fl []) (w : Wf T) (hs : s < T.rows.length) : srt fl = reach T p s := by
  refine asc_eq (srt_lt h.nd) (reach_asc T p s) fun x => ?_
  rw [(srt_perm fl).mem_iff, reach_mem w hs]
  refine ⟨h.un x, fun u => ?_⟩
  induction u with
  | self => exact h.st
  | go _ h2 h3 ih => exact ((h.clo _ ih).resolve_left (fun z => nomatch z)) _ h2 h3
def spReach : Sp := fun vs H Q _ => ∃ (v : V) (s : Nat) (p : Str) (T : Tab), vs = [v, .int (s : Nat), .str p, .bl true] ∧ TabV H v T ∧ Wf T ∧ s < T.rows.length ∧ T.rows.length < 60 ∧ ∀ b H', Same H H' → H b = none → H' b = some (.tup (nV (reach T p s))) → Q (.ref b) H'
theorem sc_reached_unseen : FnScope ["table", "state", "party", "seen", "found", "waiting", "action", "goal"] ["table", "state", "party", "seen"] (defScope s_reached_unseen) := ⟨rfl, rfl, rfl, by decide +kernel, rfl, by decide +kernel, by decide +kernel⟩
theorem o_reached_unseen (T : Txt K mg) : Ok P w K mg base CX0 "reached_unseen" 2 ["table", "state", "party", "seen"] spReach :=
  ok_def T.d_reached_unseen T.g_reached_unseen sc_reached_unseen (fun _ _ _ _ _ _ us hl => match us, hl with | [_, _, _, _], _ => rfl) (fun vs H Q E h => by obtain ⟨_, _, _, _, rfl, _⟩ := h; rfl) fun cdv A outer s H vs Q E hr h => by
  obtain ⟨v, s, p, T', rfl, hT, hw, hs, hlt, hQ⟩ := h
  refine ⟨_, (PSs.nox (pss_cons (ps_set (i := 4) sc_reached_unseen.nd rfl (by first | exact Or.inl rfl | exact Or.inr rfl) (pe_disp (pps_cons (pv 1) pe_bl pps_nil) (by rfl) (by rfl) (fun z => by cases z) (by decide)))
      (pss_cons (ps_set (i := 5) sc_reached_unseen.nd rfl (by first | exact Or.inl rfl | exact Or.inr rfl) (pe_lst (pa_cons (pv 1) pa_nil)))
      (pss_cons (ps_while PassesOwn.never (pt_truth (pv 5) (by intro _; rfl)) (pss_one (ps_for PassesOwn.never rfl (ki_tup (K := K) rfl (pe_ix (kx_tup (K := K) rfl) (pe_ix (kx_tup (K := K) rfl) (pv 0) pe_int (fun _ _ => rfl)) (pe_bm0 PySem.F.plainAttrs_list PySem.F.slot_list_pop PySem.F.type_list_pop mt_pop (pv 5)) (fun _ _ => rfl))) (kg_tup (K := K) rfl rfl (pgs_cons (pg_name (i := 6) sc_reached_unseen.nd rfl (by first | exact Or.inl rfl | exact Or.inr rfl)) (pgs_cons (pg_name (i := 7) sc_reached_unseen.nd rfl (by first | exact Or.inl rfl | exact Or.inr rfl)) pgs_nil))) (pss_one (ps_if (PW.pt (pw_and (pt_cmpR op_ne (pe_cl (o_concerns T) (hr.mono (by decide)) (pa_cons (pv 6) (pa_cons (pv 2) pa_nil))) (pv 3) (nomark _)) (pw_and1 (pt_cmp (pc_dnotin (ru1 hr) (pv 7) (pv 4)))))) (pss_cons (ps_dput (ru1 hr) (pv 4) (pv 7) pe_bl rfl)
      (pss_one (ps_expr (pe_bm PySem.F.plainAttrs_list PySem.F.slot_list_append PySem.F.type_list_append mt_append (pv 5) (pa_cons (pv 7) pa_nil))))) pss_nil)))))
      (pss_one (ps_ret (pe_callTy (T := "tuple") (kc_tuple (K := K) rfl) (by rfl) T.n_tuple (by decide +kernel) (pa_cons (pe_callB (id := "sorted") (call_sortedDI rfl) (by rfl) T.n_sorted (by decide +kernel) (pa_cons (pv 4) pa_nil)) pa_nil)))))))), ?_⟩
  intro d hd
  refine ⟨_, rfl, upd_same, [(.inl (s : Int), .bl true)], rfl, (by show 1 ≤ 15; omega), ?_⟩
  have s1 : Same H (upd (upd H d (.dK [])) d (.dK (mergeK [] [(.inl (s : Int), .bl true)]))) := same_put (same_new hd) hd
  have hd1 : (upd (upd H d (.dK [])) d (.dK (mergeK [] [(.inl (s : Int), .bl true)]))) d = some (.dK (mk kN [s])) := upd_same
  generalize upd (upd H d (.dK [])) d (.dK (mergeK [] [(.inl (s : Int), .bl true)])) = H1 at s1 hd1
  refine ⟨_, rfl, by show 1 ≤ sizeLine; decide, fun l hl => ?_⟩
  have hl0 : H l = none := s1.free hl
  have ndl : d ≠ l := ne_of_none hd1 hl
  -- the loop
  refine ⟨fun m σ H' => ∃ fl wl x y, m = 2 * (T'.rows.length - fl.length) + wl.length ∧ σ = [some v, some (.int (s : Nat)), some (.str p), some (.bl true), some (.ref d), some (.ref l), x, y] ∧ Same H H' ∧ H' d = some (.dK (mk kN fl)) ∧ H' l = some (.lst (nV wl)) ∧ RS T' p s fl wl,
    ⟨_, [s], [s], none, none, rfl, rfl, s1.trans (same_new hl), by rw [upd_ne ndl]; exact hd1, upd_same, ⟨by simp, by simp, fun t ht => by rw [List.mem_singleton.mp ht]; exact .self, fun t ht => ht, Nat.le_refl _, fun t ht => .inl ht⟩⟩, ?_⟩
  rintro m σ H2 ⟨fl, wl, x, y, rfl, rfl, s2, h3, h4, rs⟩
  refine ⟨_, rfl, !(nV wl).isEmpty, .inl ⟨_, SqL.of h4, rfl⟩, ?_⟩
  refine ite2 (fun c => ?_) (fun c => ?_)
  · -- a state out of those that wait
    have hne : wl ≠ [] := fun e => by rw [e] at c; exact Bool.noConfusion c
    have hp : 0 < wl.length := List.length_pos_iff.mpr hne
    obtain ⟨t, ht⟩ : ∃ t, wl[wl.length - 1]? = some t := ⟨_, List.getElem?_eq_getElem (by omega)⟩
    have htm : t ∈ wl := List.mem_of_getElem? ht
    have htl : t < T'.rows.length := un_lt hw (rs.un t (rs.sub t htm)) hs
    have drop : wl = wl.dropLast ++ [t] := by
      have := List.dropLast_concat_getLast hne
      rw [List.getLast_eq_getElem] at this
      have e : wl[wl.length - 1] = t := by rw [List.getElem?_eq_getElem (by omega)] at ht; exact Option.some.inj ht
      rw [e] at this
      exact this.symm
    refine ⟨fun σ' H' => ∃ m', m' < 2 * (T'.rows.length - fl.length) + wl.length ∧ ∃ fl wl x y, m' = 2 * (T'.rows.length - fl.length) + wl.length ∧ σ' = [some v, some (.int (s : Nat)), some (.str p), some (.bl true), some (.ref d), some (.ref l), x, y] ∧ Same H H' ∧ H' d = some (.dK (mk kN fl)) ∧ H' l = some (.lst (nV wl)) ∧ RS T' p s fl wl,
      fun σ' H' h => h, ?_⟩
    obtain ⟨b0, rr, ee, xs, rfl, hb0, hrr, hxs, _⟩ := hT.mono (Tp.of s2)
    refine ⟨_, rfl, b0, _, _, _, rfl, rfl, SqT.of hb0, atI_nat (j := 1) rfl, ?_⟩
    refine ⟨_, rfl, .inl ⟨rfl, _, SqL.of h4⟩, l, _, _, rfl, rfl, h4, (show (nV wl)[(nV wl).length - 1]? = some (.int (t : Nat)) by rw [nV_len]; unfold nV; rw [List.getElem?_map, ht] <;> rfl), ?_⟩
    have t5 : Tp H2 (upd H2 l (.lst (nV wl).dropLast)) := (Tp.refl H2).put h4 (fun _ z => nomatch z)
    have hd5 : (upd H2 l (.lst (nV wl).dropLast)) d = some (.dK (mk kN fl)) := by rw [upd_ne ndl]; exact h3
    have hl5 : (upd H2 l (.lst (nV wl).dropLast)) l = some (.lst (nV wl.dropLast)) := by rw [upd_same]; unfold nV; rw [List.map_dropLast]
    have s5 : Same H (upd H2 l (.lst (nV wl).dropLast)) := same_put s2 hl0
    generalize upd H2 l (.lst (nV wl).dropLast) = H5 at t5 hd5 hl5 s5
    obtain ⟨w', hw', b, ys, rfl, hb, hys⟩ := pr_get hxs (row_get htl)
    refine ⟨rr, _, _, _, rfl, rfl, SqT.of (t5 _ _ hrr), atI_nat hw', b, rfl, ⟨_, SqT.of (t5 _ _ hb)⟩, ?_⟩
    have rs2 : RS2 T' p s t 0 fl wl.dropLast := ⟨rs.nd, rs.st, rs.sub t htm, rs.un, fun x hx => rs.sub x (by rw [drop]; exact List.mem_append_left _ hx), (by have := rs.le; rw [List.length_dropLast]; omega), fun x hx => by
      rcases rs.clo x hx with q | q
      · rw [drop] at q
        rcases List.mem_append.mp q with q | q
        · exact .inl q
        · exact .inr (.inl (List.mem_singleton.mp q))
      · exact .inr (.inr q), fun e he => nomatch he⟩
    have hlen0 : wl.length = wl.dropLast.length + 1 := by rw [List.length_dropLast]; omega
    refine for_tup (K := K) (a := b) (xs := ys) (fun j σ H' => (∃ x y, σ = [some (.ref b0), some (.int (s : Nat)), some (.str p), some (.bl true), some (.ref d), some (.ref l), x, y]) ∧ Same H H' ∧ Tp H5 H' ∧ ∃ fl' wl', H' d = some (.dK (mk kN fl')) ∧ H' l = some (.lst (nV wl')) ∧ RS2 T' p s t j fl' wl' ∧
      2 * (T'.rows.length - fl'.length) + wl'.length + 1 ≤ 2 * (T'.rows.length - fl.length) + wl.length) ⟨⟨_, _, rfl⟩, s5, Tp.refl _, fl, wl.dropLast, hd5, hl5, rs2, by omega⟩ (fun j σ H' _ h => SqT.of (h.2.2.1 _ _ (t5 _ _ hb))) ?_ ?_
    · rintro j x σ H' hj ⟨⟨x0, y0, rfl⟩, s6, t6, fl', wl', h6, h7, r6, hm⟩
      obtain ⟨e, he, c', z, rfl, hc', hz⟩ := pr_get' hys hj
      have t56 := t5.trans t6
      refine g_two (t56 _ _ hc') ?_
      have hz2 := hz.mono t56
      have fin : ∀ {fl'' : List Nat} {wl'' : List Nat}, (∀ e' ∈ (T'.row t).take j, con e'.1 p = false → e'.2 ∈ fl'') → (con e.1 p = false → e.2 ∈ fl'') → ∀ e' ∈ (T'.row t).take (j + 1), con e'.1 p = false → e'.2 ∈ (fl'' : List Nat) := fun {fl'' wl''} h1 h2 e' he' => by
        rw [takec he] at he'
        rcases List.mem_append.mp he' with q | q
        · exact h1 e' q
        · rw [List.mem_singleton.mp q]; exact h2
      refine ⟨_, rfl, _, rfl, _, _, _, rfl, hz2, _, rfl, rfl, _, rfl, ?_⟩
      cases hcon : con e.1 p with
      | true =>
        refine iteF ?_
        refine iteF ⟨⟨_, _, rfl⟩, s6, t6, fl', wl', h6, h7, ⟨r6.nd, r6.st, r6.tm, r6.un, r6.sub, r6.le, r6.clo, fin (wl'' := wl') r6.done (fun q => by rw [hcon] at q; cases q)⟩, hm⟩
      | false =>
        refine iteT ?_
        refine ⟨_, rfl, _, rfl, d, _, rfl, DGet.k (k := kN e.2) h6, _, rfl, ?_⟩
        rw [mk_val kN_inj]
        by_cases hin : e.2 ∈ fl'
        · rw [if_pos hin]
          refine iteF ⟨⟨_, _, rfl⟩, s6, t6, fl', wl', h6, h7, ⟨r6.nd, r6.st, r6.tm, r6.un, r6.sub, r6.le, r6.clo, fin (wl'' := wl') r6.done (fun _ => hin)⟩, hm⟩
        · rw [if_neg hin]
          have hle := RS2.len r6 hw hs
          have big : (1000 : Nat) < sizeLine := by decide
          have heRow : e ∈ T'.row t := List.mem_of_getElem? he
          have hel : e.2 < T'.rows.length := hw.goal _ (row_mem heRow) _ heRow
          have hless : fl'.length < T'.rows.length := by
            have := nodup_len (l := fl' ++ [e.2]) (m := List.range T'.rows.length) (nodup_snoc r6.nd hin) fun x hx => by
              rcases List.mem_append.mp hx with q | q
              · exact List.mem_range.mpr (un_lt hw (r6.un x q) hs)
              · rw [List.mem_singleton.mp q]; exact List.mem_range.mpr hel
            rw [List.length_append, List.length_singleton, List.length_range] at this
            omega
          have hwl : wl'.length < 1000 := by have := r6.le; omega
          refine iteT ⟨_, rfl, _, rfl, d, _, rfl, DPut.k (k := kN e.2) h6 (by rw [mk_len]; omega), ?_⟩
          rw [mk_put kN_inj]
          have s7 : Same H (upd H' d (.dK (mk kN (addT fl' e.2)))) := same_put s6 hd
          have t7 : Tp H' (upd H' d (.dK (mk kN (addT fl' e.2)))) := (Tp.refl H').put h6 (fun _ z => nomatch z)
          have h7' : (upd H' d (.dK (mk kN (addT fl' e.2)))) l = some (.lst (nV wl')) := by rw [upd_ne ndl.symm]; exact h7
          refine ⟨_, rfl, .inl ⟨rfl, _, SqL.of h7'⟩, _, rfl, l, _, _, rfl, rfl, h7', by rw [nV_len]; omega, ?_⟩
          have ea : addT fl' e.2 = fl' ++ [e.2] := by unfold addT; rw [if_neg hin]
          refine ⟨⟨_, _, rfl⟩, same_put s7 hl0, t6.trans (t7.trans ((Tp.refl _).put h7' (fun _ z => nomatch z))), fl' ++ [e.2], wl' ++ [e.2], ?_, ?_, ⟨nodup_snoc r6.nd hin, List.mem_append_left _ r6.st, List.mem_append_left _ r6.tm, fun x hx => ?_, fun x hx => ?_, (by have := r6.le; simp; omega), fun x hx => ?_, ?_⟩, ?_⟩
          · rw [upd_ne ndl, upd_same, ea]
          · rw [upd_same]
            unfold nV
            rw [List.map_append] <;> rfl
          · rcases List.mem_append.mp hx with q | q
            · exact r6.un x q
            · rw [List.mem_singleton.mp q]; exact .go (r6.un t r6.tm) heRow hcon
          · rcases List.mem_append.mp hx with q | q
            · exact List.mem_append_left _ (r6.sub x q)
            · exact List.mem_append_right _ q
          · rcases List.mem_append.mp hx with q | q
            · rcases r6.clo x q with q | q | q
              · exact .inl (List.mem_append_left _ q)
              · exact .inr (.inl q)
              · exact .inr (.inr fun e' h1 h2 => List.mem_append_left _ (q e' h1 h2))
            · exact .inl (List.mem_append_right _ q)
          · exact fin (wl'' := wl') (fun e' h1 h2 => List.mem_append_left _ (r6.done e' h1 h2)) (fun _ => List.mem_append_right _ (List.mem_singleton.mpr rfl))
          · rw [List.length_append, List.length_append, List.length_singleton]
            have : ([e.2] : List Nat).length = 1 := rfl
            omega
    · rintro σ H' ⟨⟨x0, y0, rfl⟩, s6, t6, fl', wl', h6, h7, r6, hm⟩
      refine ⟨_, by omega, fl', wl', _, _, rfl, rfl, s6, h6, h7, r6.nd, r6.st, r6.un, r6.sub, r6.le, fun x hx => ?_⟩
      rcases r6.clo x hx with q | rfl | q
      · exact .inl q
      · right
        have := r6.done
        rw [Paired.length hys, List.take_length] at this
        exact this
      · exact .inr q
  · -- the end
    have hnil : wl = [] := by
      cases wl with
      | nil => rfl
      | cons a b => exact absurd rfl c
    subst hnil
    have hle := rs.len hw hs
    refine ⟨_, rfl, d, _, cI fl, rfl, .inl h3, by rw [mk_keys]; unfold cI; rw [List.map_map] <;> rfl, by unfold cI; rw [List.length_map]; omega, fun ys q hp hs' hn => ?_⟩
    rw [srt_out rs.nd hp hs', rs.done hw hs]
    refine ⟨q, _, rfl, .inl ⟨SqL.of upd_same, fun b hb => ?_⟩⟩
    have s8 := s2.trans (same_new (o := .lst (nV (reach T' p s))) hn)
    exact hQ b _ (s8.trans (same_new hb)) (s8.free hb) upd_same
end Pk
set_option Elab.async false
set_option linter.all false
set_option maxRecDepth 100000
set_option maxHeartbeats 2000000
/-! The defs, 4: grouped. -/
namespace Pk
open PySem PySem.Spec PyProof.Rows L2
variable {P : Program} {w : World} {K : PySem.W.Frag} {mg : Str → Option Value} {base : Heap}
/-- an action with the nodes to which it leads -/
def PrV (H : Hp) (v : V) (p : Act × List Nat) : Prop := ∃ b x g, v = .ref b ∧ H b = some (.tup [x, .ref g]) ∧ ActV H x p.1 ∧ H g = some (.tup (nV p.2))
def RwV (H : Hp) (v : V) (r : Grp) : Prop := ∃ b ps, v = .ref b ∧ H b = some (.lst ps) ∧ Paired (PrV H) ps r
def MvsV (H : Hp) (v : V) (M : Mvs) : Prop := ∃ b ps, v = .ref b ∧ H b = some (.lst ps) ∧ Paired (RwV H) ps M
theorem PrV.mono {H H' : Hp} {v : V} {a : Act × List Nat} (t : Tp H H') (h : PrV H v a) : PrV H' v a := let ⟨b, x, g, e, q, r, z⟩ := h; ⟨b, x, g, e, t _ _ q, r.mono t, t _ _ z⟩
theorem RwV.mono {H H' : Hp} {v : V} {a : Grp} (t : Same H H') (h : RwV H v a) : RwV H' v a := let ⟨b, x, e, q, r⟩ := h; ⟨b, x, e, t _ _ q, L2.Paired.mapP r fun _ _ z => z.mono (Tp.of t)⟩
theorem MvsV.mono {H H' : Hp} {v : V} {a : Mvs} (t : Same H H') (h : MvsV H v a) : MvsV H' v a := let ⟨b, x, e, q, r⟩ := h; ⟨b, x, e, t _ _ q, L2.Paired.mapP r fun _ _ z => z.mono t⟩
/-- what grouped gives -/
def GeV (H : Hp) (kv : List Key × V) (e : Act × List Nat) : Prop := kv.1 = kA e.1 ∧ okA e.1 = true ∧ ∃ g, kv.2 = .ref g ∧ H g = some (.tup (nV e.2))
def GrpV (H : Hp) (d : Addr) (G : Grp) : Prop := ∃ kvs, H d = some (.dT kvs) ∧ Paired (GeV H) kvs G
/-- the same on the way: the inner dicts stand apart -/
def GrV (H0 H : Hp) (kv : List Key × V) (e : Act × List Nat) : Prop := kv.1 = kA e.1 ∧ okA e.1 = true ∧ ∃ g, kv.2 = .ref g ∧ H g = some (.dK (mk kN e.2)) ∧ H0 g = none
def RawV (H0 H : Hp) (d : Addr) (G : Grp) : Prop := ∃ kvs, H d = some (.dT kvs) ∧ Paired (GrV H0 H) kvs G ∧ (kvs.map (·.2)).Nodup
theorem kA_inj : ∀ a b, kA a = kA b → a = b := fun a b h => by
  obtain ⟨a1, a2, a3⟩ := a
  obtain ⟨b1, b2, b3⟩ := b
  simp only [kA, List.cons.injEq, Sum.inr.injEq, and_true] at h
  rw [h.1, h.2.1, h.2.2]
theorem dec_nd {l : Grp} {L R : Grp} {e : Act × List Nat} (nd : ((L ++ e :: R).map (·.1)).Nodup) : (∀ x ∈ L, x.1 ≠ e.1) ∧ ∀ x ∈ R, x.1 ≠ e.1 := by
  rw [List.map_append, List.map_cons, List.nodup_append] at nd
  refine ⟨fun x hx q => nd.2.2 _ (List.mem_map.mpr ⟨x, hx, rfl⟩) _ List.mem_cons_self q, fun x hx q => ?_⟩
  exact (List.nodup_cons.mp nd.2.1).1 (List.mem_map.mpr ⟨x, hx, q⟩)
theorem pr_split {α β : Type} {F : α → β → Prop} : ∀ {xs : List α} {L : List β} {e : β} {R : List β}, Paired F xs (L ++ e :: R) → ∃ l x r, xs = l ++ x :: r ∧ Paired F l L ∧ F x e ∧ Paired F r R
  | _, [], e, R, .cons h t => ⟨[], _, _, rfl, .nil, h, t⟩
  | _, b :: L, e, R, .cons h t => by
    obtain ⟨l, x, r, rfl, h1, h2, h3⟩ := pr_split (L := L) t
    exact ⟨_ :: l, x, r, rfl, .cons h h1, h2, h3⟩
theorem val_app {κ : Type} [DecidableEq κ] {l r : List (κ × V)} {x : κ × V} {k : κ} (h : ∀ y ∈ l, y.1 ≠ k) (hx : x.1 = k) : valV (l ++ x :: r) k = some x.2 := by
  induction l with
  | nil => exact valV_pos hx
  | cons y l ih => rw [List.cons_append, valV_neg (h y List.mem_cons_self), ih fun z hz => h z (List.mem_cons_of_mem _ hz)]
theorem val_no {κ : Type} [DecidableEq κ] {l : List (κ × V)} {k : κ} (h : ∀ y ∈ l, y.1 ≠ k) : valV l k = none := by
  induction l with
  | nil => rfl
  | cons y l ih => rw [valV_neg (h y List.mem_cons_self), ih fun z hz => h z (List.mem_cons_of_mem _ hz)]
theorem pr_keys {G : Grp} {kvs : List (List Key × V)} {H0 H : Hp} (h : Paired (GrV H0 H) kvs G) {a : Act} (ha : ∀ e ∈ G, e.1 ≠ a) : ∀ y ∈ kvs, y.1 ≠ kA a := by
  induction h with
  | nil => intro y hy; cases hy
  | cons r t ih =>
    intro y hy
    rcases List.mem_cons.mp hy with rfl | hy
    · rw [r.1]
      exact fun q => ha _ List.mem_cons_self (kA_inj _ _ q)
    · exact ih (fun e he => ha e (List.mem_cons_of_mem _ he)) y hy
theorem addG_mid {L R : Grp} {a : Act} {l0 gs : List Nat} (nd : ((L ++ (a, l0) :: R).map (·.1)).Nodup) : addG (L ++ (a, l0) :: R) (a, gs) = L ++ (a, gs.foldl addOne l0) :: R := by
  obtain ⟨h1, h2⟩ := dec_nd (l := []) nd
  unfold addG
  rw [if_pos (by rw [List.map_append, List.map_cons]; exact List.mem_append_right _ List.mem_cons_self), List.map_append, List.map_cons]
  have e1 : ∀ X : Grp, (∀ x ∈ X, x.1 ≠ a) → X.map (fun e => if e.1 = a then (e.1, gs.foldl addOne e.2) else e) = X := by
    intro X hX
    rw [List.map_congr_left (g := id) (fun e he => by rw [if_neg (hX e he)] <;> rfl), List.map_id]
  have e2 := e1 L h1
  have e3 := e1 R h2
  show List.map (fun e => if e.1 = a then (e.1, gs.foldl addOne e.2) else e) L ++ (if a = a then (a, gs.foldl addOne l0) else (a, l0)) :: List.map (fun e => if e.1 = a then (e.1, gs.foldl addOne e.2) else e) R = _
  rw [e2, e3, if_pos rfl]
theorem addG_new {G : Grp} {a : Act} {gs : List Nat} (h : a ∉ G.map (·.1)) : addG G (a, gs) = G ++ [(a, gs.foldl addOne [])] := by
  unfold addG
  rw [if_neg h]

def MvOk (moves : Mvs) : Prop := ∀ r ∈ moves, ∀ p ∈ r, ∀ g ∈ p.2, g < 60
def spGrouped : Sp := fun vs H Q _ => ∃ (nb : Addr) (mv : V) (nodes : List Nat) (moves : Mvs), vs = [.ref nb, mv] ∧ H nb = some (.tup (nV nodes)) ∧ MvsV H mv moves ∧ (∀ n ∈ nodes, n < moves.length) ∧ MvOk moves ∧ (pairsAt nodes moves).length ≤ 5000 ∧
  ∀ d H', Same H H' → H d = none → GrpV H' d (grp nodes moves) → Q (.ref d) H'
theorem pairs_app (ns ns' : List Nat) (moves : Mvs) : pairsAt (ns ++ ns') moves = pairsAt ns moves ++ pairsAt ns' moves := by
  unfold pairsAt
  rw [List.flatMap_append]
theorem addG_len (G : Grp) (p : Act × List Nat) : (addG G p).length ≤ G.length + 1 := by
  unfold addG
  split
  · rw [List.length_map]; omega
  · simp
theorem addGs_len (ps G : Grp) : (ps.foldl addG G).length ≤ G.length + ps.length := by
  induction ps generalizing G with
  | nil => exact Nat.le_refl _
  | cons p ps ih =>
    rw [List.foldl_cons, List.length_cons]
    have := ih (addG G p)
    have := addG_len G p
    omega
theorem nV_get {l : List Nat} {i : Nat} {x : V} (h : (nV l)[i]? = some x) : ∃ n, l[i]? = some n ∧ x = .int (n : Nat) := by
  unfold nV at h
  rw [List.getElem?_map] at h
  cases q : l[i]? with
  | none => rw [q] at h; cases h
  | some n => rw [q] at h; exact ⟨n, rfl, (Option.some.inj h).symm⟩
theorem sc_grouped : FnScope ["nodes", "moves", "groups", "node", "action", "goals", "goal", "other"] ["nodes", "moves"] (defScope s_grouped) := ⟨rfl, rfl, rfl, by decide +kernel, rfl, by decide +kernel, by decide +kernel⟩
theorem o_grouped (T : Txt K mg) : Ok P w K mg base CX0 "grouped" 1 ["nodes", "moves"] spGrouped :=
  ok_def T.d_grouped T.g_grouped sc_grouped (fun _ _ _ _ _ _ us hl => match us, hl with | [_, _], _ => rfl) (fun vs H Q E h => by obtain ⟨_, _, _, _, rfl, _⟩ := h; rfl) fun cdv A outer s H vs Q E hr h => by
  obtain ⟨nb, mv, nodes, moves, rfl, hnb, hM, hin, hok, hps, hQ⟩ := h
  refine ⟨_, (PSs.nox (pss_cons (ps_set (i := 2) sc_grouped.nd rfl (by first | exact Or.inl rfl | exact Or.inr rfl) pe_dnewT)
      (pss_cons (ps_for PassesOwn.never rfl (ki_tup (K := K) rfl (pv 0)) (pg_name (i := 3) sc_grouped.nd rfl (by first | exact Or.inl rfl | exact Or.inr rfl)) (pss_one (ps_for PassesOwn.never rfl (ki_list (K := K) rfl (pe_ix (kx_list (K := K) rfl) (pv 1) (pv 3) (fun _ _ => rfl))) (kg_tup (K := K) rfl rfl (pgs_cons (pg_name (i := 4) sc_grouped.nd rfl (by first | exact Or.inl rfl | exact Or.inr rfl)) (pgs_cons (pg_name (i := 5) sc_grouped.nd rfl (by first | exact Or.inl rfl | exact Or.inr rfl)) pgs_nil))) (pss_cons (ps_set (i := 6) sc_grouped.nd rfl (by first | exact Or.inl rfl | exact Or.inr rfl) (pe_bm PySem.F.plainAttrs_dict PySem.F.slot_dict_setdefault PySem.F.type_dict_setdefault (mt_setdT (ru1 hr)) (pv 2) (pa_cons (pv 4) (pa_cons pe_dnewK pa_nil))))
      (pss_one (ps_for PassesOwn.never rfl (ki_tup (K := K) rfl (pv 5)) (pg_name (i := 7) sc_grouped.nd rfl (by first | exact Or.inl rfl | exact Or.inr rfl)) (pss_one (ps_dput (ru1 hr) (pv 6) (pv 7) pe_bl rfl))))))))
      (pss_one (ps_ret (pe_lock (pe_dcG (u0 := .dT []) (.inr rfl) (ru0 hr) (own := [("action", 4)]) (tt := tYes) rfl sc_grouped.nd (pi_keys (pv 2)) (blkOk_by (N := ["nodes", "moves", "groups", "node", "action", "goals", "goal", "other"]) (sc := defScope s_grouped) (by decide +kernel)) (fun _ _ _ _ _ => (pg_name (i := 4) sc_grouped.nd rfl (by first | exact Or.inl rfl | exact Or.inr rfl))) (fun _ _ _ _ _ => pts_nil) (fun _ _ _ _ _ => (pv 4)) (fun _ _ _ _ _ => (pe_callTy (T := "tuple") (kc_tuple (K := K) rfl) (by rfl) T.n_tuple (by decide +kernel) (pa_cons (pe_callB (id := "sorted") (call_sortedDI rfl) (by rfl) T.n_sorted (by decide +kernel) (pa_cons (pe_dget (ru1 hr) (pv 2) (pv 4) (fun _ _ => rfl)) pa_nil)) pa_nil)))))))))), ?_⟩
  intro d hd
  have big : (10000 : Nat) < sizeLine := by decide
  refine ⟨_, rfl, nb, rfl, ⟨_, SqT.of (Tp.new hd _ _ hnb)⟩, for_tup (K := K) (a := nb) (xs := nV nodes) (fun i σ H' => (∃ x y z t u, σ = [some (.ref nb), some mv, some (.ref d), x, y, z, t, u]) ∧ Same H H' ∧ RawV H H' d (grpRaw (nodes.take i) moves)) ⟨⟨_, _, _, _, _, rfl⟩, same_new hd, [], upd_same, .nil, List.nodup_nil⟩ (fun i σ H' _ h => SqT.of (Tp.of h.2.1 _ _ hnb)) ?_ ?_⟩
  · rintro i x σ H' hi ⟨⟨x0, y0, z0, t0, u0, rfl⟩, s1, raw⟩
    obtain ⟨n, hn, rfl⟩ := nV_get hi
    have hnl := hin n (List.mem_of_getElem? hn)
    obtain ⟨mb, ms, rfl, hmb, hms⟩ := hM.mono s1
    obtain ⟨r, hr1, b, ps, rfl, hb, hpr⟩ := pr_get hms (List.getElem?_eq_getElem hnl)
    have eraw : grpRaw (nodes.take (i + 1)) moves = (moves[n]).foldl addG (grpRaw (nodes.take i) moves) := by
      unfold grpRaw
      rw [takec hn, pairs_app, List.foldl_append, pairs_one, List.getD_eq_getElem?_getD, List.getElem?_eq_getElem hnl] <;> rfl
    have elen : (pairsAt (nodes.take i) moves).length + (moves[n]).length ≤ 5000 := by
      have e1 : pairsAt nodes moves = pairsAt (nodes.take (i + 1)) moves ++ pairsAt (nodes.drop (i + 1)) moves := by rw [← pairs_app, List.take_append_drop]
      rw [e1, List.length_append, takec hn, pairs_app, List.length_append, pairs_one, List.getD_eq_getElem?_getD, List.getElem?_eq_getElem hnl] at hps
      have : (some moves[n]).getD [] = moves[n] := rfl
      rw [this] at hps
      omega
    have gl0 : (grpRaw (nodes.take i) moves).length ≤ (pairsAt (nodes.take i) moves).length := by
      have := addGs_len (pairsAt (nodes.take i) moves) []
      unfold grpRaw
      simpa using this
    refine ⟨_, rfl, _, rfl, mb, _, _, _, rfl, rfl, SqL.of hmb, atI_nat hr1, b, rfl, ⟨_, SqL.of hb⟩, ?_⟩
    refine for_list (K := K) (a := b) (xs := ps) (fun j σ H2 => (∃ y z t u, σ = [some (.ref nb), some (.ref mb), some (.ref d), some (.int (n : Nat)), y, z, t, u]) ∧ Same H H2 ∧ Tp H' H2 ∧ H2 b = some (.lst ps) ∧ RawV H H2 d ((moves[n].take j).foldl addG (grpRaw (nodes.take i) moves))) ⟨⟨_, _, _, _, rfl⟩, s1, Tp.refl _, hb, raw⟩ (fun j σ H2 _ h => SqL.of h.2.2.2.1) ?_ ?_
    · rintro j y σ H2 hj ⟨⟨y0, z0, t0, u0, rfl⟩, s2, tp2, hb2, raw2⟩
      obtain ⟨p, hp, c, z, gb, rfl, hc, hz, hg⟩ := pr_get' hpr hj
      obtain ⟨a, gs⟩ := p
      refine g_two (tp2 _ _ hc) ?_
      have hz2 := hz.mono tp2
      obtain ⟨kvs, hdk, hkv, hnd⟩ := raw2
      have kl : kvs.length < 10000 := by
        have h1 := Paired.length hkv
        have h2 := addGs_len (moves[n].take j) (grpRaw (nodes.take i) moves)
        rw [List.length_take] at h2
        omega
      have gok : GOk (pairsAt (nodes.take i) moves ++ moves[n].take j) ((moves[n].take j).foldl addG (grpRaw (nodes.take i) moves)) := gok_fold (gok_raw _ _)
      obtain ⟨ab, rfl, hab⟩ := hz2.key
      -- goal = groups.setdefault(action, {})
      have cont : ∀ (g : Addr) (H3 : Hp) (l0 : List Nat), Same H H3 → Tp H2 H3 → H3 b = some (.lst ps) → H g = none → H3 g = some (.dK (mk kN l0)) → l0.length ≤ 60 → (∀ x ∈ l0, x < 60) → l0.Nodup →
          (∀ H4 : Hp, (∀ x, x ≠ g → H4 x = H3 x) → H4 g = some (.dK (mk kN (gs.foldl addOne l0))) → RawV H H4 d ((moves[n].take (j + 1)).foldl addG (grpRaw (nodes.take i) moves))) →
          gName 6 (.ref g) [some (.ref nb), some (.ref mb), some (.ref d), some (.int (n : Nat)), some (.ref ab), some (.ref gb), t0, u0] H3 fun σ4 H4 => tFor (iTup K (tVar 5)) (gName 7) (sDPut (tVar 6) (tVar 7) (tC (.bl true))) { nx := fun σ H2 => (∃ y z t u, σ = [some (.ref nb), some (.ref mb), some (.ref d), some (.int (n : Nat)), y, z, t, u]) ∧ Same H H2 ∧ Tp H' H2 ∧ H2 b = some (.lst ps) ∧ RawV H H2 d ((moves[n].take (j + 1)).foldl addG (grpRaw (nodes.take i) moves)), rt := Q } σ4 H4 := by
        intro g H3 l0 s3 tp3 hb3 hg0 hg3 hl0 hl60 hnd0 fin
        refine ⟨_, rfl, gb, rfl, ⟨_, SqT.of (tp3 _ _ (tp2 _ _ hg))⟩, for_tup (K := K) (a := gb) (xs := nV gs) (fun k σ H4 => (∃ u, σ = [some (.ref nb), some (.ref mb), some (.ref d), some (.int (n : Nat)), some (.ref ab), some (.ref gb), some (.ref g), u]) ∧ (∀ x, x ≠ g → H4 x = H3 x) ∧ H4 g = some (.dK (mk kN ((gs.take k).foldl addOne l0)))) ⟨⟨_, rfl⟩, fun _ _ => rfl, hg3⟩ (fun k σ H4 _ h => SqT.of ?_) ?_ ?_⟩
        · have hne : gb ≠ g := fun e => by
            have := tp3 _ _ (tp2 _ _ hg)
            rw [e, hg3] at this
            cases this
          rw [h.2.1 _ hne]
          exact tp3 _ _ (tp2 _ _ hg)
        · rintro k x σ H4 hk ⟨⟨u1, rfl⟩, only, hg4⟩
          obtain ⟨m, hm, rfl⟩ := nV_get hk
          have lk : ((gs.take k).foldl addOne l0).length < 10000 := by
            have hb60 : ∀ x ∈ (gs.take k).foldl addOne l0, x ∈ List.range 60 := fun x hx => by
              rcases addAll_mem.mp hx with q | q
              · exact List.mem_range.mpr (hl60 x q)
              · exact List.mem_range.mpr (hok _ (List.getElem_mem hnl) _ (List.mem_of_getElem? hp) x (List.mem_of_mem_take q))
            have := nodup_len (addAll_nodup hnd0) hb60
            rw [List.length_range] at this
            omega
          refine ⟨_, rfl, _, rfl, g, _, rfl, DPut.k (k := kN m) hg4 (by rw [mk_len]; omega), ?_⟩
          rw [mk_put kN_inj]
          refine ⟨⟨_, rfl⟩, fun x hx => by rw [upd_ne hx]; exact only x hx, ?_⟩
          rw [upd_same, takec hm, List.foldl_append] <;> rfl
        · rintro σ H4 ⟨⟨u1, rfl⟩, only, hg4⟩
          rw [nV_len, List.take_length] at hg4
          have nbg : b ≠ g := fun e => by rw [e, hg3] at hb3; cases hb3
          refine ⟨⟨_, _, _, _, rfl⟩, fun x o hx => ?_, fun x o hx => ?_, by rw [only b nbg]; exact hb3, fin H4 only hg4⟩
          · have : x ≠ g := fun e => by rw [e, hg0] at hx; cases hx
            rw [only x this]
            exact s3 _ _ hx
          · have h5 := tp3 _ _ (tp2 _ _ hx)
            have : x ≠ g := fun e => by rw [e, hg3] at h5; cases h5
            rw [only x this]
            exact h5
      refine ⟨_, rfl, .inr (.inr (.inl ⟨rfl, .inr ⟨_, hdk⟩⟩)), _, rfl, fun q hq => ?_⟩
      have hab' : (upd H2 q (.dK [])) ab = some (.tup ((kA a).map kV)) := Tp.new hq _ _ hab
      have hdk' : (upd H2 q (.dK [])) d = some (.dT kvs) := same_new hq _ _ hdk
      refine ⟨d, kvs, kA a, ab, .ref q, rfl, rfl, hdk', hab', by omega, fun v hv => ?_, fun hv => ?_⟩
      · -- it is there already
        have hmem : a ∈ ((moves[n].take j).foldl addG (grpRaw (nodes.take i) moves)).map (·.1) := by
          apply Classical.byContradiction
          intro hno
          have := val_no (pr_keys hkv (a := a) fun e he q => hno (List.mem_map.mpr ⟨e, he, q⟩))
          rw [this] at hv
          cases hv
        obtain ⟨e, he, hea⟩ := List.mem_map.mp hmem
        obtain ⟨L, R, hLR⟩ := List.append_of_mem he
        obtain ⟨a', l0⟩ := e
        cases (show a' = a from hea)
        have ndk := gok.keys
        have gnd := gok.nd _ he
        have gmem := gok.mem _ he
        rw [takec hp, List.foldl_append]
        rw [hLR] at hkv ndk ⊢
        obtain ⟨l, kv, r, rfl, p1, ⟨k1, k2, g, k3, k4, k5⟩, p3⟩ := pr_split hkv
        obtain ⟨n1, n2⟩ := dec_nd (l := []) ndk
        rw [val_app (pr_keys p1 n1) k1, k3] at hv
        cases hv
        have ngq : g ≠ q := ne_of_none k4 hq
        have hl60 : ∀ x ∈ l0, x < 60 := fun x hx => by
          obtain ⟨pp, hpp, _, h2⟩ := (gmem x).mp hx
          rcases List.mem_append.mp hpp with h3 | h3
          · obtain ⟨m, hm, h4⟩ := List.mem_flatMap.mp h3
            rw [List.getD_eq_getElem?_getD] at h4
            cases q' : moves[m]? with
            | none => rw [q'] at h4; exact nomatch (show pp ∈ [] from h4)
            | some rr => rw [q'] at h4; exact hok rr (List.mem_of_getElem? q') pp h4 x h2
          · exact hok _ (List.getElem_mem hnl) pp (List.mem_of_mem_take h3) x h2
        have hl0 : l0.length ≤ 60 := by
          have := nodup_len gnd fun x hx => List.mem_range.mpr (hl60 x hx)
          rw [List.length_range] at this
          exact this
        rw [takec hp, List.foldl_append, hLR] at cont
        refine cont g _ l0 (s2.trans (same_new hq)) (Tp.new hq) (same_new hq _ _ hb2) k5 (by rw [upd_ne ngq]; exact k4) hl0 hl60 gnd fun H4 only hg4 => ?_
        show RawV H H4 d (addG (L ++ (a, l0) :: R) (a, gs))
        rw [addG_mid ndk]
        have ndg : d ≠ g := fun e => by rw [e, k4] at hdk; cases hdk
        rw [List.map_append, List.map_cons, List.nodup_append] at hnd
        obtain ⟨nn1, nn2, nn3⟩ := hnd
        have nn2' := (List.nodup_cons.mp nn2).1
        have other : ∀ (X : List (List Key × V)) (Y : Grp), Paired (GrV H H2) X Y → (∀ x ∈ X, x.2 ≠ .ref g) → Paired (GrV H H4) X Y := by
          intro X Y hXY
          induction hXY with
          | nil => intro _; exact .nil
          | @cons x y X Y hxy t ih =>
            intro hne
            obtain ⟨m1, m2, g', m3, m4, m5⟩ := hxy
            have hg' : g' ≠ g := fun e => hne x List.mem_cons_self (by rw [m3, e])
            refine .cons ⟨m1, m2, g', m3, ?_, m5⟩ (ih fun z hz => hne z (List.mem_cons_of_mem _ hz))
            rw [only g' hg', upd_ne (ne_of_none m4 hq)]
            exact m4
        refine ⟨l ++ kv :: r, by rw [only d ndg]; exact hdk', pr_app (other _ _ p1 fun x hx e => nn3 x.2 (List.mem_map.mpr ⟨x, hx, rfl⟩) kv.2 List.mem_cons_self (by rw [e, k3])) (.cons ⟨k1, k2, g, k3, hg4, k5⟩ (other _ _ p3 fun x hx e => nn2' (List.mem_map.mpr ⟨x, hx, by rw [e, k3]⟩))), ?_⟩
        rw [List.map_append, List.map_cons, List.nodup_append]
        exact ⟨nn1, nn2, nn3⟩
      · -- it is new
        have hno : a ∉ ((moves[n].take j).foldl addG (grpRaw (nodes.take i) moves)).map (·.1) := fun hm => by
          obtain ⟨e, he, hea⟩ := List.mem_map.mp hm
          obtain ⟨L, R, hLR⟩ := List.append_of_mem he
          have ndk := gok.keys
          rw [hLR] at hkv ndk
          obtain ⟨l, kv, r, rfl, p1, ⟨k1, _⟩, p3⟩ := pr_split hkv
          obtain ⟨n1, n2⟩ := dec_nd (l := []) ndk
          rw [← hea, val_app (pr_keys p1 n1) k1] at hv
          cases hv
        have nqd : q ≠ d := fun e => by rw [e, hdk] at hq; cases hq
        rw [takec hp, List.foldl_append] at cont
        rw [takec hp, List.foldl_append]
        have sq : Same H (upd (upd H2 q (.dK [])) d (.dT (putK kvs (kA a) (.ref q)))) := same_put (s2.trans (same_new hq)) hd
        have tq : Tp H2 (upd (upd H2 q (.dK [])) d (.dT (putK kvs (kA a) (.ref q)))) := (Tp.new hq).trans ((Tp.refl _).put hdk' (fun _ z => nomatch z))
        have nbd : b ≠ d := fun e => by rw [e, hdk] at hb2; cases hb2
        refine cont q _ [] sq tq (by rw [upd_ne nbd]; exact same_new hq _ _ hb2) (s2.free hq) (by rw [upd_ne nqd, upd_same] <;> rfl) (Nat.zero_le _) (fun x hx => nomatch hx) List.nodup_nil fun H4 only hg4 => ?_
        show RawV H H4 d (addG _ (a, gs))
        rw [addG_new hno]
        have other : Paired (GrV H H4) kvs ((moves[n].take j).foldl addG (grpRaw (nodes.take i) moves)) := by
          refine L2.Paired.mapP hkv fun x y ⟨m1, m2, g', m3, m4, m5⟩ => ⟨m1, m2, g', m3, ?_, m5⟩
          have h1 : g' ≠ q := ne_of_none m4 hq
          have h2 : g' ≠ d := fun e => by rw [e, hdk] at m4; cases m4
          rw [only g' h1, upd_ne h2, upd_ne h1]
          exact m4
        refine ⟨kvs ++ [(kA a, .ref q)], by rw [only d nqd.symm, upd_same, putK_new _ hv], Paired.snoc other ⟨rfl, hz2.ok, q, rfl, hg4, s2.free hq⟩, ?_⟩
        rw [List.map_append]
        refine nodup_snoc hnd fun hm => ?_
        obtain ⟨x, hx, hxe⟩ := List.mem_map.mp hm
        obtain ⟨ii, hi2⟩ := List.mem_iff_getElem?.mp hx
        obtain ⟨y, _, _, _, g', m3, m4, _⟩ := pr_get' hkv hi2
        rw [m3] at hxe
        cases hxe
        rw [hq] at m4
        cases m4
    · rintro σ H2 ⟨⟨y0, z0, t0, u0, rfl⟩, s2, tp2, hb2, raw2⟩
      rw [Paired.length hpr, List.take_length] at raw2
      refine ⟨⟨_, _, _, _, _, rfl⟩, s2, ?_⟩
      rw [eraw]
      exact raw2
  · -- the answer
    rintro σ H' ⟨⟨x0, y0, z0, t0, u0, rfl⟩, s1, kvs, hdk, hkv, hnd⟩
    rw [nV_len, List.take_length] at hkv
    have gok := gok_raw nodes moves
    have kl : kvs.length < 10000 := by
      have h1 := Paired.length hkv
      have h2 := addGs_len (pairsAt nodes moves) []
      have h3 : (grpRaw nodes moves).length ≤ (pairsAt nodes moves).length := by unfold grpRaw; simpa using h2
      omega
    refine ⟨d, _, hdk, trivial, fun od => ?_⟩
    have hfz : (upd H' d (.frz od (.dT kvs))) d = some (.frz od (.dT kvs)) := upd_same
    have tpz : Tp H' (upd H' d (.frz od (.dT kvs))) := (Tp.refl H').put hdk (fun _ z => nomatch z)
    have samez : ∀ x o, x ≠ d → H' x = some o → (upd H' d (.frz od (.dT kvs))) x = some o := fun x o hx h => by rw [upd_ne hx]; exact h
    generalize upd H' d (.frz od (.dT kvs)) = Hz at hfz tpz samez
    refine ⟨_, rfl, d, od, rfl, .inr ⟨kvs, hfz, fun D hD => ?_⟩⟩
    have nDd : D ≠ d := fun e => by rw [e, hfz] at hD; cases hD
    refine dcg_it (walk_keysT (d := d) (o := od) (kvs := kvs)) (fun i H2 => Same Hz H2 ∧ ∃ kv2, H2 D = some (.dT kv2) ∧ Paired (GeV H2) kv2 (((grpRaw nodes moves).take i).map fun e => (e.1, srt e.2)))
      ⟨same_new hD, [], upd_same, .nil⟩ (fun i H2 _ h => h.1 _ _ hfz) ?_ ?_
    · rintro i x H2 H3 hi ⟨s2, kv2, hD2, hp2⟩ ⟨rfl, k, v, q, hk, rfl, hq⟩
      obtain ⟨e, he, k1, k2, g, k3, k4, k5⟩ := pr_get' hkv hk
      have k1 : k = kA e.1 := k1
      have k3 : v = .ref g := k3
      subst k1 k3
      have kl2 : kv2.length < 10000 := by
        have := Paired.length hp2
        rw [List.length_map, List.length_take] at this
        have := Paired.length hkv
        omega
      refine ⟨rfl, ?_⟩
      have ndg : g ≠ d := fun z => by rw [z, hdk] at k4; cases k4
      have hg2 : H3 g = some (.dK (mk kN e.2)) := s2 _ _ (samez g _ ndg k4)
      have hd2 : H3 d = some (.frz od (.dT kvs)) := s2 _ _ hfz
      have hv : valV kvs (kA e.1) = some (.ref g) := by
        obtain ⟨L, R, hLR⟩ : ∃ L R, grpRaw nodes moves = L ++ e :: R ∧ L.length = i := ⟨(grpRaw nodes moves).take i, (grpRaw nodes moves).drop (i + 1), by rw [← dropc he, List.take_append_drop], by rw [List.length_take]; have := (List.getElem?_eq_some_iff.mp he).1; omega⟩
        have ndk := gok.keys
        rw [hLR.1] at ndk
        have hkv' := hkv
        rw [hLR.1] at hkv'
        obtain ⟨l, kv, r, hl, p1, ⟨m1, m2, g', m3, m4, m5⟩, p3⟩ := pr_split hkv'
        obtain ⟨n1, n2⟩ := dec_nd (l := []) ndk
        have hll : l.length = i := by rw [Paired.length p1, hLR.2]
        rw [hl, List.getElem?_append_right (by omega), hll, Nat.sub_self] at hk
        cases (show some kv = some (kA e.1, V.ref g) from hk)
        rw [hl]
        exact val_app (pr_keys p1 n1) rfl
      have nde := gok.nd e (List.mem_of_getElem? he)
      have l60 : e.2.length < 64 := by
        have := nodup_len (l := e.2) (m := List.range 60) nde fun x hx => by
          obtain ⟨pp, hpp, _, h2⟩ := (gok.mem e (List.mem_of_getElem? he) x).mp hx
          obtain ⟨m, hm, h4⟩ := List.mem_flatMap.mp hpp
          rw [List.getD_eq_getElem?_getD] at h4
          cases q' : moves[m]? with
          | none => rw [q'] at h4; exact nomatch (show pp ∈ [] from h4)
          | some rr => rw [q'] at h4; exact List.mem_range.mpr (hok rr (List.mem_of_getElem? q') pp h4 x h2)
        rw [List.length_range] at this
        omega
      refine ⟨_, rfl, _, rfl, _, rfl, d, _, rfl, .inr ⟨kvs, kA e.1, q, .inr ⟨od, hd2⟩, rfl, hq, hv.symm⟩, g, _, cI e.2, rfl, .inl hg2, by rw [mk_keys]; unfold cI; rw [List.map_map] <;> rfl, by unfold cI; rw [List.length_map]; exact l60, fun ys p hp hs hn => ?_⟩
      rw [srt_out nde hp hs]
      refine ⟨p, _, rfl, .inl ⟨SqL.of upd_same, fun t ht => ?_⟩⟩
      have s3 : Same H3 (upd (upd H3 p (.lst (nV (srt e.2)))) t (.tup (nV (srt e.2)))) := (same_new hn).trans (same_new ht)
      refine ⟨_, DPut.t (k := kA e.1) (s3 _ _ hD2) (s3 _ _ hq) (by omega), same_put (s2.trans s3) hD, ?_⟩
      have tq : Tp (upd (upd H3 p (.lst (nV (srt e.2)))) t (.tup (nV (srt e.2)))) (upd (upd (upd H3 p (.lst (nV (srt e.2)))) t (.tup (nV (srt e.2)))) D (.dT (putK kv2 (kA e.1) (.ref t)))) := (Tp.refl _).put (s3 _ _ hD2) (fun _ z => nomatch z)
      have eno : valV kv2 (kA e.1) = none := by
        refine val_no fun y hy => ?_
        obtain ⟨ii, hii⟩ := List.mem_iff_getElem?.mp hy
        obtain ⟨z, hz, m1, _⟩ := pr_get' hp2 hii
        rw [m1]
        intro q'
        have hze := kA_inj _ _ q'
        rw [List.getElem?_map] at hz
        cases hz2 : ((grpRaw nodes moves).take i)[ii]? with
        | none => rw [hz2] at hz; cases hz
        | some z2 =>
          rw [hz2] at hz
          cases hz
          have hii2 : ii < i := by
            have := (List.getElem?_eq_some_iff.mp hz2).1
            rw [List.length_take] at this
            omega
          rw [List.getElem?_take, if_pos hii2] at hz2
          have ndk := gok.keys
          obtain ⟨q1, q2⟩ := List.getElem?_eq_some_iff.mp hz2
          obtain ⟨q3, q4⟩ := List.getElem?_eq_some_iff.mp he
          have := List.pairwise_iff_getElem.mp ndk ii i (by rw [List.length_map]; exact q1) (by rw [List.length_map]; exact q3) hii2
          rw [List.getElem_map, List.getElem_map, q2, q4] at this
          exact this hze
      rw [putK_new _ eno] at tq ⊢
      refine ⟨_, upd_same, ?_⟩
      rw [takec he, List.map_append]
      exact Paired.snoc (L2.Paired.mapP hp2 fun x y ⟨m1, m2, g', m3, m4⟩ => ⟨m1, m2, g', m3, tq _ _ (Tp.of s3 _ _ m4)⟩) ⟨rfl, k2, t, rfl, tq _ _ upd_same⟩
    · rintro H2 ⟨s2, kv2, hD2, hp2⟩
      refine ⟨s2 _ _ hfz, ?_⟩
      rw [Paired.length hkv, List.take_length] at hp2
      have hz0 : Hz = Hz := rfl
      refine hQ D _ (fun x o hx => ?_) (s1.free ?_) ⟨kv2, by rw [upd_ne nDd]; exact hD2, L2.Paired.mapP hp2 fun x y ⟨m1, m2, g', m3, m4⟩ => ⟨m1, m2, g', m3, ?_⟩⟩
      · have hxd : x ≠ d := fun e => by rw [e, hd] at hx; cases hx
        rw [upd_ne hxd]
        exact s2 _ _ (samez x o hxd (s1 _ _ hx))
      · cases q : H' D with
        | none => rfl
        | some o => rw [samez D o nDd q] at hD; cases hD
      · have : g' ≠ d := fun e => by rw [e, s2 _ _ hfz] at m4; cases m4
        rw [upd_ne this]
        exact m4
end Pk
set_option Elab.async false
set_option linter.all false
set_option maxRecDepth 100000
set_option maxHeartbeats 4000000
/-! The defs, 5: subset_table. -/
namespace Pk
open PySem PySem.Spec PyProof.Rows L2
variable {P : Program} {w : World} {K : PySem.W.Frag} {mg : Str → Option Value} {base : Heap}
def EndsV (H : Hp) (v : V) (es : List Bool) : Prop := ∃ b, v = .ref b ∧ (H b = some (.lst (es.map V.bl)) ∨ H b = some (.tup (es.map V.bl)))
theorem EndsV.mono {H H' : Hp} {v : V} {es : List Bool} (t : Same H H') (h : EndsV H v es) : EndsV H' v es := let ⟨b, e, q⟩ := h; ⟨b, e, q.imp (t _ _) (t _ _)⟩
theorem gv_endsI {te ti : TE} {σ : L2.St} {H : Hp} {v : V} {es : List Bool} {n : Nat} (h : EndsV H v es) (hn : n < es.length) (h1 : Gv te σ H v) (h2 : Gv ti σ H (.int (n : Nat))) : Gv (tOp (rIx K) te ti) σ H (.bl (es.getD n false)) := fun Q q => by
  obtain ⟨b, rfl, hb⟩ := h
  have hi : (es.map V.bl)[n]? = some (.bl (es.getD n false)) := by
    rw [List.getElem?_map, List.getD_eq_getElem?_getD, List.getElem?_eq_getElem hn] <;> rfl
  refine h1 _ (h2 _ ?_)
  rcases hb with hb | hb
  · exact .inl ⟨b, _, _, _, rfl, rfl, SqL.of hb, atI_nat hi, q⟩
  · exact .inr (.inl ⟨b, _, _, _, rfl, rfl, SqT.of hb, atI_nat hi, q⟩)
/-- a tuple of nodes -/
def NsV (H : Hp) (v : V) (ns : List Nat) : Prop := ∃ b, v = .ref b ∧ H b = some (.tup (nV ns))
theorem NsV.mono {H H' : Hp} {v : V} {a : List Nat} (t : Tp H H') (h : NsV H v a) : NsV H' v a := let ⟨b, e, q⟩ := h; ⟨b, e, t _ _ q⟩
def kI (ns : List Nat) : List Key := ns.map fun (n : Nat) => (Sum.inl (n : Int) : Key)
theorem kI_V (ns : List Nat) : (kI ns).map kV = nV ns := by unfold kI nV; rw [List.map_map] <;> rfl
theorem kI_inj : ∀ {a b : List Nat}, kI a = kI b → a = b
  | [], [], _ => rfl
  | [], _ :: _, h => nomatch h
  | _ :: _, [], h => nomatch h
  | x :: a, y :: b, h => by
    have h : (Sum.inl (x : Int) : Key) :: kI a = (Sum.inl (y : Int) : Key) :: kI b := h
    obtain ⟨h1, h2⟩ := List.cons.inj h
    have h3 := Sum.inl.inj h1
    rw [kI_inj h2, show x = y by omega]
def numF' : Nat → List (List Nat) → List (List Key × V)
  | _, [] => []
  | k, g :: o => (kI g, .int (k : Nat)) :: numF' (k + 1) o
theorem numF_val (o : List (List Nat)) (g : List Nat) : ∀ k, valV (numF' k o) (kI g) = (pos o g).map fun i => V.int ((k + i : Nat) : Int) := by
  induction o with
  | nil => intro k; rfl
  | cons x o ih =>
    intro k
    show valV ((kI x, V.int (k : Nat)) :: numF' (k + 1) o) (kI g) = _
    unfold pos
    rw [List.findIdx?_cons]
    by_cases h : x = g
    · subst h
      rw [valV_pos rfl]
      simp
    · rw [valV_neg (p := (kI x, V.int (k : Nat))) (fun e => h (kI_inj e)), ih]
      unfold pos
      rw [decide_eq_false h]
      simp only [Bool.false_eq_true, if_false, Option.map_map]
      congr 1
      funext i
      show V.int ((k + 1 + i : Nat) : Int) = V.int ((k + (i + 1) : Nat) : Int)
      rw [show k + 1 + i = k + (i + 1) by omega]
theorem numF_app (o : List (List Nat)) (g : List Nat) : ∀ k, numF' k (o ++ [g]) = numF' k o ++ [(kI g, .int ((k + o.length : Nat) : Int))] := by
  induction o with
  | nil => intro k; rfl
  | cons x o ih =>
    intro k
    show (kI x, V.int (k : Nat)) :: numF' (k + 1) (o ++ [g]) = _
    rw [ih]
    show _ = (kI x, V.int (k : Nat)) :: (numF' (k + 1) o ++ _)
    rw [List.length_cons, show k + 1 + o.length = k + (o.length + 1) by omega]
theorem numF_len (o : List (List Nat)) : ∀ k, (numF' k o).length = o.length := by
  induction o with
  | nil => intro k; rfl
  | cons x o ih => intro k; show (numF' (k + 1) o).length + 1 = _; rw [ih, List.length_cons]
/-- groups[action] -/
theorem grp_get {H : Hp} {kvs : List (List Key × V)} {G : Grp} (h : Paired (GeV H) kvs G) {a : Act} (ha : a ∈ G.map (·.1)) : ∃ g, valV kvs (kA a) = some (.ref g) ∧ H g = some (.tup (nV (lkG G a))) := by
  induction h with
  | nil => cases ha
  | @cons kv e kvs G r t ih =>
    obtain ⟨r1, r2, g, r3, r4⟩ := r
    by_cases c : e.1 = a
    · refine ⟨g, ?_, ?_⟩
      · rw [valV_pos (by rw [r1, c]), r3]
      · have : lkG (e :: G) a = e.2 := by simp [lkG, c]
        rw [this]
        exact r4
    · rw [List.map_cons, List.mem_cons] at ha
      obtain ⟨g', h1, h2⟩ := ih (ha.resolve_left fun q => c q.symm)
      refine ⟨g', ?_, ?_⟩
      · rw [valV_neg (by rw [r1]; exact fun q => c (kA_inj _ _ q)), h1]
      · have : lkG (e :: G) a = lkG G a := by simp [lkG, c]
        rw [this]
        exact h2
theorem grp_keysV {H : Hp} {kvs : List (List Key × V)} {G : Grp} (h : Paired (GeV H) kvs G) : kvs.map (·.1) = (G.map (·.1)).map kA ∧ ∀ a ∈ G.map (·.1), okA a = true := by
  induction h with
  | nil => exact ⟨rfl, fun a ha => nomatch ha⟩
  | @cons kv e kvs G r t ih =>
    refine ⟨?_, fun a ha => ?_⟩
    · rw [List.map_cons, List.map_cons, List.map_cons, ih.1, r.1]
    · rcases List.mem_cons.mp ha with rfl | ha
      · exact r.2.1
      · exact ih.2 a ha
theorem grp_len (nodes : List Nat) (moves : Mvs) : (grp nodes moves).length ≤ (pairsAt nodes moves).length := by
  unfold grp grpRaw
  rw [List.length_map]
  have := addGs_len (pairsAt nodes moves) []
  simpa using this
/-- what a list of ints that is empty says -/
theorem eqv_nil (l : List Nat) : PyData.eqv (.list ((l.map fun (n : Nat) => (n : Int)).map PyData.int)) (.list []) = decide (l = []) := by
  cases l with
  | nil => rfl
  | cons a b => rfl
theorem shI (l : List Nat) : SeqAt.shaped (.list ((l.map fun (n : Nat) => (n : Int)).map PyData.int)) = true := by
  unfold SeqAt.shaped
  rw [Bool.and_eq_true, decide_eq_true_eq]
  have h1 : ∀ m : List Int, PyData.canLayAll0 (m.map PyData.int) = true := by
    intro m
    induction m with
    | nil => rfl
    | cons a b ih => rw [List.map_cons]; simp [PyData.canLayAll0, PyData.canLay0, ih]
  have h2 : ∀ m : List Int, PyData.depthAll (m.map PyData.int) ≤ 60 := by
    intro m
    induction m with
    | nil => simp [PyData.depthAll]
    | cons a b ih => rw [List.map_cons]; simp [PyData.depthAll, PyData.depth, ih]
  refine ⟨?_, ?_⟩
  · rw [PyData.canLay0]
    exact h1 _
  · simp only [PyData.depth]
    have := h2 (l.map fun (n : Nat) => (n : Int))
    omega
def spSubset : Sp := fun vs H Q _ => ∃ (sb : Addr) (mv ev : V) (L : Nat) (start : List Nat) (moves : Mvs) (ends : List Bool), vs = [.ref sb, mv, ev, .int (L : Nat)] ∧ H sb = some (.tup (nV start)) ∧ MvsV H mv moves ∧ EndsV H ev ends ∧
  L ≤ 300 ∧ (∃ U, Uni start moves L U ∧ (∀ ns ∈ U, ∀ n ∈ ns, n < moves.length ∧ n < ends.length) ∧ (∀ ns ∈ U, (pairsAt ns moves).length ≤ 5000) ∧ ∀ ns ∈ U, ns.length ≤ 5000) ∧ MvOk moves ∧
  ∀ v H', Same H H' → TabV H' v (subset start moves ends L) → Q v H'
theorem subF_stop {moves : Mvs} {k : Nat} {o : List (List Nat)} {r : List Row} (h : o.length ≤ r.length) : subF moves k o r = (o, r) := by
  cases k with
  | zero => rfl
  | succ k => unfold subF; rw [if_neg (by omega)]
theorem subF_go {moves : Mvs} {k : Nat} {o : List (List Nat)} {r : List Row} (h : r.length < o.length) : subF moves (k + 1) o r = subF moves k (rowS moves o r.length).1 (r ++ [(rowS moves o r.length).2]) := by
  rw [subF, if_pos h]
theorem foldS_len : ∀ (l : Grp) (st : List (List Nat) × Row), (l.foldl stepS st).2.length = st.2.length + l.length
  | [], _ => rfl
  | e :: l, st => by
    rw [List.foldl_cons, foldS_len l, List.length_cons]
    have : (stepS st e).2.length = st.2.length + 1 := by
      unfold stepS
      split <;> simp
    omega
/-- the numbers known grow, and stay within the universe -/
theorem foldS_sub {start : List Nat} {moves : Mvs} {L : Nat} {U o : List (List Nat)} {r : List Row} (u : Uni start moves L U) (h : SOk start moves U o r) (hl : r.length < o.length) (i : Nat) :
    (((ent (grp (o.getD r.length []) moves)).take i).foldl stepS (o, [])).1.Nodup ∧ ∀ x ∈ (((ent (grp (o.getD r.length []) moves)).take i).foldl stepS (o, [])).1, x ∈ U := by
  have hx : o[r.length]? = some o[r.length] := List.getElem?_eq_getElem hl
  have hg : o.getD r.length [] = o[r.length] := by rw [List.getD_eq_getElem?_getD, hx] <;> rfl
  have h0 : ROk o [] [] := ⟨rfl, List.nodup_nil, (fun e h => nomatch h), (fun p h => nomatch h)⟩
  have := foldS_ok (l := (ent (grp (o.getD r.length []) moves)).take i) (st := (o, [])) (G := []) h0 (by rw [List.nil_append, List.map_take]; exact (ent_keys _ _).sublist (List.take_sublist _ _))
  refine ⟨this.2.2.1 h.nd, fun x hx' => ?_⟩
  rcases this.2.2.2 x hx' with q | ⟨e, he, rfl⟩
  · exact h.sub x q
  · have he' := ent_mem.mp (List.mem_of_mem_take he)
    rw [hg] at he'
    exact u.next _ (h.sub _ (List.getElem_mem hl)) e he'
theorem sc_subset_table : FnScope ["start", "moves", "ends", "limit", "numbers", "order", "rows", "at", "groups", "row", "action", "goal", "marks", "node", "nodes"] ["start", "moves", "ends", "limit"] (defScope s_subset_table) := ⟨rfl, rfl, rfl, by decide +kernel, rfl, by decide +kernel, by decide +kernel⟩
theorem o_subset_table (T : Txt K mg) : Ok P w K mg base CX0 "subset_table" 2 ["start", "moves", "ends", "limit"] spSubset :=
  ok_def T.d_subset_table T.g_subset_table sc_subset_table (fun _ _ _ _ _ _ us hl => match us, hl with | [_, _, _, _], _ => rfl) (fun vs H Q E h => by obtain ⟨_, _, _, _, _, _, _, rfl, _⟩ := h; rfl) fun cdv A outer s H vs Q E hr h => by
  obtain ⟨sb, mv, ev, L, st, moves, ends, rfl, hsb, hM, hE, hL, ⟨U, hu, hU, hUp, hUl⟩, hok, hQ⟩ := h
  refine ⟨_, (PSs.nox (pss_cons (ps_set (i := 4) sc_subset_table.nd rfl (by first | exact Or.inl rfl | exact Or.inr rfl) (pe_disp1 (ru1 hr) (pv 0) pe_int))
      (pss_cons (ps_set (i := 5) sc_subset_table.nd rfl (by first | exact Or.inl rfl | exact Or.inr rfl) (pe_lst (pa_cons (pv 0) pa_nil)))
      (pss_cons (ps_set (i := 6) sc_subset_table.nd rfl (by first | exact Or.inl rfl | exact Or.inr rfl) (pe_lst pa_nil))
      (pss_cons (ps_set (i := 7) sc_subset_table.nd rfl (by first | exact Or.inl rfl | exact Or.inr rfl) pe_int)
      (pss_cons (ps_while PassesOwn.never (pt_cmpR op_lt (pv 7) (pe_callB (id := "len") (kc_len (K := K) rfl) (by rfl) T.n_len (by decide +kernel) (pa_cons (pv 5) pa_nil)) (nomark _)) (pss_cons (ps_set (i := 8) sc_subset_table.nd rfl (by first | exact Or.inl rfl | exact Or.inr rfl) (pe_cl (o_grouped T) (hr.mono (by decide)) (pa_cons (pe_ix (kx_list (K := K) rfl) (pv 5) (pv 7) (fun _ _ => rfl)) (pa_cons (pv 1) pa_nil))))
      (pss_cons (ps_set (i := 9) sc_subset_table.nd rfl (by first | exact Or.inl rfl | exact Or.inr rfl) (pe_lst pa_nil))
      (pss_cons (ps_for PassesOwn.never rfl (ki_list (K := K) rfl (pe_callB (id := "sorted") (cr_sortA rfl (ru64 hr)) (by rfl) T.n_sorted (by decide +kernel) (pa_cons (pv 8) pa_nil))) (pg_name (i := 10) sc_subset_table.nd rfl (by first | exact Or.inl rfl | exact Or.inr rfl)) (pss_cons (ps_set (i := 11) sc_subset_table.nd rfl (by first | exact Or.inl rfl | exact Or.inr rfl) (pe_dget (ru1 hr) (pv 8) (pv 10) (fun _ _ => rfl)))
      (pss_cons (ps_if (pt_cmp (pc_dnotin (ru1 hr) (pv 11) (pv 4))) (pss_cons (ps_if (pt_cmpR op_eq (pe_callB (id := "len") (kc_len (K := K) rfl) (by rfl) T.n_len (by decide +kernel) (pa_cons (pv 5) pa_nil)) (pv 3) (nomark _)) (pss_one ps_never) pss_nil)
      (pss_cons (ps_dput (ru1 hr) (pv 4) (pv 11) (pe_callB (id := "len") (kc_len (K := K) rfl) (by rfl) T.n_len (by decide +kernel) (pa_cons (pv 5) pa_nil)) rfl)
      (pss_one (ps_expr (pe_bm PySem.F.plainAttrs_list PySem.F.slot_list_append PySem.F.type_list_append mt_append (pv 5) (pa_cons (pv 11) pa_nil)))))) pss_nil)
      (pss_one (ps_expr (pe_bm PySem.F.plainAttrs_list PySem.F.slot_list_append PySem.F.type_list_append mt_append (pv 9) (pa_cons (pe_tup (pa_cons (pv 10) (pa_cons (pe_dget (ru1 hr) (pv 4) (pv 11) (fun _ _ => rfl)) pa_nil))) pa_nil)))))))
      (pss_cons (ps_expr (pe_bm PySem.F.plainAttrs_list PySem.F.slot_list_append PySem.F.type_list_append mt_append (pv 6) (pa_cons (pe_callTy (T := "tuple") (kc_tuple (K := K) rfl) (by rfl) T.n_tuple (by decide +kernel) (pa_cons (pv 9) pa_nil)) pa_nil)))
      (pss_one (ps_aug (i := 7) sc_subset_table.nd rfl (by first | exact Or.inl rfl | exact Or.inr rfl) pe_int ip_add)))))))
      (pss_cons (ps_setLc (i := 12) (own := [("nodes", 14)]) (tt := tYes) rfl sc_subset_table.nd rfl rfl (sw_true rfl rfl rfl (by decide +kernel)) (ki_list (K := K) rfl (pv 5)) (blkOk_by (N := ["start", "moves", "ends", "limit", "numbers", "order", "rows", "at", "groups", "row", "action", "goal", "marks", "node", "nodes"]) (sc := defScope s_subset_table) (by decide +kernel)) (fun _ _ _ _ _ => (pg_name (i := 14) sc_subset_table.nd rfl (by first | exact Or.inl rfl | exact Or.inr rfl))) (fun _ _ _ _ _ => pts_nil) (fun _ _ _ _ _ => (pe_cmpR (ko_neD (K := K) rfl (ru64 hr)) (pe_lc (own := [("node", 13)]) rfl sc_subset_table.nd (ki_tup (K := K) rfl (pv 14)) (blk_rel (blkOk_by (N := ["start", "moves", "ends", "limit", "numbers", "order", "rows", "at", "groups", "row", "action", "goal", "marks", "node", "nodes"]) (by decide +kernel))) (fun _ _ _ _ _ => (pg_name (i := 13) sc_subset_table.nd rfl (by first | exact Or.inl rfl | exact Or.inr rfl))) (fun _ _ _ _ _ => (pts_one (pt_val (pe_ix (kx_seq (K := K) rfl) (pv 2) (pv 13) (fun _ _ => rfl))))) (fun _ _ _ _ _ => (pv 13))) (pe_lst pa_nil) (nomark _))))
      (pss_one (ps_ret (pe_tup (pa_cons pe_str (pa_cons (pe_callTy (T := "tuple") (kc_tuple (K := K) rfl) (by rfl) T.n_tuple (by decide +kernel) (pa_cons (pv 6) pa_nil)) (pa_cons (pe_callTy (T := "tuple") (kc_tuple (K := K) rfl) (by rfl) T.n_tuple (by decide +kernel) (pa_cons (pv 12) pa_nil)) pa_nil))))))))))))), ?_⟩
  have big : (100000 : Nat) < sizeLine := by decide
  intro nm hnm
  have hsb1 : (upd H nm (.dT [])) sb = some (.tup ((kI st).map kV)) := by rw [kI_V]; exact Tp.new hnm _ _ hsb
  refine ⟨_, rfl, upd_same, kI st, sb, rfl, hsb1, ?_⟩
  have s1 : Same H (upd (upd H nm (.dT [])) nm (.dT [(kI st, V.int 0)])) := same_put (same_new hnm) hnm
  have hn1 : (upd (upd H nm (.dT [])) nm (.dT [(kI st, V.int 0)])) nm = some (.dT (numF' 0 [st])) := upd_same
  generalize upd (upd H nm (.dT [])) nm (.dT [(kI st, V.int 0)]) = H1 at s1 hn1
  refine ⟨_, rfl, by show 1 ≤ sizeLine; omega, fun od hod => ?_⟩
  have s2 := s1.trans (same_new (o := .lst [.ref sb]) hod)
  refine ⟨Nat.zero_le _, fun rw_ hrw => ?_⟩
  have s3 := s2.trans (same_new (o := .lst []) hrw)
  have n1 : nm ≠ od := ne_of_none hn1 hod
  have n2 : nm ≠ rw_ := ne_of_none (same_new hod _ _ hn1) hrw
  have n3 : od ≠ rw_ := ne_of_none upd_same hrw
  have ho0 : H od = none := s1.free hod
  have hr0 : H rw_ = none := s2.free hrw
  -- the loop
  refine ⟨fun m σ H' => ∃ o r k ov rv x8 x9 x10 x11 x12 x13 x14, m = k ∧ k + r.length = L ∧ subF moves k o r = subF moves L [st] [] ∧ SOk st moves U o r ∧
      σ = [some (.ref sb), some mv, some ev, some (.int (L : Nat)), some (.ref nm), some (.ref od), some (.ref rw_), some (.int (r.length : Nat)), x8, x9, x10, x11, x12, x13, x14] ∧ Same H H' ∧
      H' nm = some (.dT (numF' 0 o)) ∧ H' od = some (.lst ov) ∧ Paired (NsV H') ov o ∧ H' rw_ = some (.lst rv) ∧ Paired (RowV H') rv r,
    ⟨L, [st], [], L, [.ref sb], [], _, _, _, _, _, _, _, rfl, rfl, rfl, sok_start hu, rfl, s3, ?_, ?_, .cons ⟨sb, rfl, s3 _ _ hsb⟩ .nil, upd_same, .nil⟩, ?_⟩
  · rw [upd_ne n2, upd_ne n1]; exact hn1
  · rw [upd_ne n3, upd_same]
  rintro m σ H2 ⟨o, r, k, ov, rv, x8, x9, x10, x11, x12, x13, x14, rfl, hk, hF, hS, rfl, s4, hnm4, hod4, hov, hrw4, hrv⟩
  have hol : o.length ≤ L := sok_len hu hS
  have hle := hS.le
  have hovl := Paired.length hov
  refine ⟨_, rfl, _, rfl, od, ov, rfl, .inl (SqL.of hod4), _, _, rfl, rfl, _, rfl, ?_⟩
  refine ite2 (fun c => ?_) (fun c => ?_)
  · -- one more state
    have c : ((r.length : Nat) : Int) < (ov.length : Int) := of_decide_eq_true c
    have hro : r.length < o.length := by omega
    obtain ⟨k', rfl⟩ : ∃ k', m = k' + 1 := ⟨m - 1, by omega⟩
    rw [subF_go hro] at hF
    obtain ⟨nodes, hnodes⟩ : ∃ x, o[r.length]? = some x := ⟨_, List.getElem?_eq_getElem hro⟩
    have hgd : o.getD r.length [] = nodes := by rw [List.getD_eq_getElem?_getD, hnodes] <;> rfl
    have hnU : nodes ∈ U := hS.sub _ (List.mem_of_getElem? hnodes)
    obtain ⟨_, hv, nb, rfl, hnb⟩ := pr_get hov hnodes
    refine ⟨fun σ' H' => ∃ m', m' < k' + 1 ∧ ∃ o r k ov rv x8 x9 x10 x11 x12 x13 x14, m' = k ∧ k + r.length = L ∧ subF moves k o r = subF moves L [st] [] ∧ SOk st moves U o r ∧
      σ' = [some (.ref sb), some mv, some ev, some (.int (L : Nat)), some (.ref nm), some (.ref od), some (.ref rw_), some (.int (r.length : Nat)), x8, x9, x10, x11, x12, x13, x14] ∧ Same H H' ∧
      H' nm = some (.dT (numF' 0 o)) ∧ H' od = some (.lst ov) ∧ Paired (NsV H') ov o ∧ H' rw_ = some (.lst rv) ∧ Paired (RowV H') rv r, fun σ' H' h => h, ?_⟩
    refine ⟨_, rfl, _, rfl, od, _, _, _, rfl, rfl, SqL.of hod4, atI_nat hv, _, rfl, nb, mv, nodes, moves, rfl, hnb, hM.mono s4, fun n hn => (hU _ hnU n hn).1, hok, hUp _ hnU, fun gd H3 s5 hgd0 hG => ?_⟩
    have s45 := s4.trans s5
    refine ⟨Nat.zero_le _, fun rb hrb => ?_⟩
    have hrb0 : H rb = none := s45.free hrb
    have s6 : Same H2 (upd H3 rb (.lst [])) := s5.trans (same_new hrb)
    obtain ⟨kvs, hgk, hkv⟩ := hG
    have nrg : rb ≠ gd := fun e => by rw [e, hgk] at hrb; cases hrb
    have hgk' : (upd H3 rb (.lst [])) gd = some (.dT kvs) := same_new hrb _ _ hgk
    have tp6 : Tp H3 (upd H3 rb (.lst [])) := Tp.new hrb
    obtain ⟨gk1, gk2⟩ := grp_keysV hkv
    refine ⟨_, rfl, gd, kvs, _, rfl, .inl hgk', gk1, gk2, fun q ys hq hys => ?_⟩
    have s7 : Same (upd H3 rb (.lst [])) (upd (upd H3 rb (.lst [])) q (.lst ys)) := same_new hq
    have nrm : rb ≠ nm := fun e => by rw [e, s5 _ _ hnm4] at hrb; cases hrb
    have nro : rb ≠ od := fun e => by rw [e, s5 _ _ hod4] at hrb; cases hrb
    have nrw : rb ≠ rw_ := fun e => by rw [e, s5 _ _ hrw4] at hrb; cases hrb
    have nqr : q ≠ rb := fun e => by rw [e, upd_same] at hq; cases hq
    have nqm : q ≠ nm := fun e => by rw [e, s6 _ _ hnm4] at hq; cases hq
    have nqo : q ≠ od := fun e => by rw [e, s6 _ _ hod4] at hq; cases hq
    have nqg : q ≠ gd := fun e => by rw [e, hgk'] at hq; cases hq
    have nmg : nm ≠ gd := fun e => by rw [← e] at hgd0; rw [hnm4] at hgd0; cases hgd0
    have nog : od ≠ gd := fun e => by rw [← e] at hgd0; rw [hod4] at hgd0; cases hgd0
    have entl : (ent (grp nodes moves)).length = ys.length := by
      have h1 := Paired.length hys
      unfold ent
      rw [List.length_map, h1]
    have entlen : (ent (grp nodes moves)).length ≤ 5000 := by
      have h1 : (ent (grp nodes moves)).length = (grp nodes moves).length := by
        unfold ent
        rw [List.length_map, (sortA_perm _).length_eq, List.length_map]
      have := grp_len nodes moves
      have := hUp _ hnU
      omega
    refine ⟨q, rfl, ⟨_, SqL.of upd_same⟩, for_list (K := K) (a := q) (xs := ys) (fun i σ H' => ∃ ov' rv' x10 x11, σ = [some (.ref sb), some mv, some ev, some (.int (L : Nat)), some (.ref nm), some (.ref od), some (.ref rw_), some (.int (r.length : Nat)), some (.ref gd), some (.ref rb), x10, x11, x12, x13, x14] ∧
        Same H H' ∧ Tp H3 H' ∧ H' gd = some (.dT kvs) ∧ H' q = some (.lst ys) ∧ H' rw_ = some (.lst rv) ∧
        H' nm = some (.dT (numF' 0 (((ent (grp nodes moves)).take i).foldl stepS (o, [])).1)) ∧ H' od = some (.lst ov') ∧ Paired (NsV H') ov' (((ent (grp nodes moves)).take i).foldl stepS (o, [])).1 ∧
        H' rb = some (.lst rv') ∧ Paired (MvV H') rv' (((ent (grp nodes moves)).take i).foldl stepS (o, [])).2)
      ⟨ov, [], _, _, rfl, s45.trans ((same_new hrb).trans s7), tp6.trans (Tp.of s7), s7 _ _ hgk', upd_same, s7 _ _ (s6 _ _ hrw4), s7 _ _ (s6 _ _ hnm4), s7 _ _ (s6 _ _ hod4), L2.Paired.mapP hov (fun _ _ z => z.mono (Tp.of (s6.trans s7))), s7 _ _ upd_same, .nil⟩
      (fun i σ H' _ ⟨_, _, _, _, _, _, _, _, h, _⟩ => SqL.of h) ?_ ?_⟩
    · rintro i y σ H' hi ⟨ov', rv', y10, y11, rfl, s8, tp8, hgk8, hq8, hrw8, hnm8, hod8, hov8, hrb8, hrv8⟩
      obtain ⟨a, ha, hav⟩ := pr_get' hys hi
      have hei : (ent (grp nodes moves))[i]? = some (a, lkG (grp nodes moves) a) := by
        unfold ent
        rw [List.getElem?_map, ha] <;> rfl
      have ham : a ∈ (grp nodes moves).map (·.1) := (sortA_perm _).mem_iff.mp (List.mem_of_getElem? ha)
      have hfs := foldS_sub hu hS hro i
      have hfs1 := foldS_sub hu hS hro (i + 1)
      have hrl := foldS_len ((ent (grp nodes moves)).take i) (o, [])
      rw [List.length_take] at hrl
      rw [hgd] at hfs hfs1
      rw [takec hei, List.foldl_append] at hfs1 ⊢
      generalize ((ent (grp nodes moves)).take i).foldl stepS (o, []) = S at hnm8 hov8 hrv8 hfs hfs1 hrl
      obtain ⟨o', r'⟩ := S
      have hrl : r'.length = 0 + min i (ent (grp nodes moves)).length := hrl
      have hrl' : r'.length ≤ 5000 := by omega
      have hol' : o'.length ≤ L := Nat.le_trans (nodup_len hfs.1 hfs.2) hu.len
      have hovl8 : ov'.length = o'.length := Paired.length hov8
      have hrvl8 : rv'.length = r'.length := Paired.length hrv8
      obtain ⟨ab, rfl, hab⟩ := (hav.mono (Tp.refl _)).key
      have hab3 : H' ab = some (.tup ((kA a).map kV)) := by
        obtain ⟨b', e', h3, _⟩ := hav
        cases e'
        cases hz : H3 ab with
        | none =>
          have : ab = rb := by
            apply Classical.byContradiction
            intro hne
            rw [upd_ne hne, hz] at h3
            cases h3
          rw [this, upd_same] at h3
          cases h3
        | some oo =>
          have hne : ab ≠ rb := ne_of_none hz hrb
          rw [upd_ne hne] at h3
          exact tp8 _ _ h3
      have hact : ActV H' (.ref ab) a := ⟨ab, rfl, hab3, hav.ok⟩
      have hkv8 := L2.Paired.mapP hkv (fun x y (z : GeV H3 x y) => (⟨z.1, z.2.1, let ⟨g, e1, e2⟩ := z.2.2; ⟨g, e1, tp8 _ _ e2⟩⟩ : GeV H' x y))
      obtain ⟨g, hg1, hg2⟩ := grp_get hkv8 ham
      have hg2' : H' g = some (.tup ((kI (lkG (grp nodes moves) a)).map kV)) := by rw [kI_V]; exact hg2
      have gN : (grp nodes moves).length ≤ 5000 := by have := grp_len nodes moves; have := hUp _ hnU; omega
      have dn : DGet H' nm (.ref g) (valV (numF' 0 o') (kI (lkG (grp nodes moves) a))) := DGet.t hnm8 hg2'
      refine ⟨_, rfl, _, rfl, gd, _, rfl, .inr ⟨kvs, kA a, ab, .inl hgk8, rfl, hab3, hg1.symm⟩, ?_⟩
      refine ⟨_, rfl, _, rfl, nm, _, rfl, dn, _, rfl, ?_⟩
      have hstep : List.foldl stepS (o', r') [(a, lkG (grp nodes moves) a)] = stepS (o', r') (a, lkG (grp nodes moves) a) := rfl
      rw [hstep] at hfs1 ⊢
      generalize lkG (grp nodes moves) a = ns at hfs1 hg2 hg2' dn
      rw [numF_val]
      cases hp : pos o' ns with
      | some j =>
        have e1 : stepS (o', r') (a, ns) = (o', r' ++ [(a, j)]) := by unfold stepS; simp only [hp]
        rw [e1]
        refine iteF ?_
        refine ⟨_, rfl, .inl ⟨rfl, _, SqL.of hrb8⟩, _, rfl, _, rfl, _, rfl, nm, _, rfl, (by rw [numF_val, hp] at dn; exact dn), (by show 2 ≤ sizeLine; omega), fun t ht => ?_⟩
        have st : Same H' (upd H' t (.tup [.ref ab, .int ((0 + j : Nat) : Int)])) := same_new ht
        refine ⟨rb, rv', _, rfl, rfl, st _ _ hrb8, by omega, ?_⟩
        have hb0 := st _ _ hrb8
        have tpz : Tp H' (upd (upd H' t (.tup [.ref ab, .int ((0 + j : Nat) : Int)])) rb (.lst (rv' ++ [.ref t]))) := (Tp.of st).put hb0 (fun _ z => nomatch z)
        have ne : ∀ x oo, x ≠ rb → H' x = some oo → (upd (upd H' t (.tup [.ref ab, .int ((0 + j : Nat) : Int)])) rb (.lst (rv' ++ [.ref t]))) x = some oo := fun x oo hx h => by rw [upd_ne hx]; exact st _ _ h
        have htn : t ≠ rb := fun e => by rw [e, hrb8] at ht; cases ht
        refine ⟨ov', rv' ++ [.ref t], _, _, rfl, same_put (s8.trans st) hrb0, tp8.trans tpz, ne _ _ nrg.symm hgk8, ne _ _ nqr hq8, ne _ _ nrw.symm hrw8, ne _ _ nrm.symm hnm8, ne _ _ nro.symm hod8, L2.Paired.mapP hov8 (fun _ _ z => z.mono tpz), upd_same, ?_⟩
        refine Paired.snoc (L2.Paired.mapP hrv8 fun _ _ z => z.mono tpz) ⟨t, .ref ab, rfl, ?_, hact.mono tpz⟩
        rw [upd_ne htn, upd_same]
        show some (HO.tup [V.ref ab, V.int ((0 + j : Nat) : Int)]) = some (HO.tup [V.ref ab, V.int ((j : Nat) : Int)])
        rw [Nat.zero_add]
      | none =>
        have hno := pos_none.mp hp
        have e1 : stepS (o', r') (a, ns) = (o' ++ [ns], r' ++ [(a, o'.length)]) := by unfold stepS; simp only [hp]
        rw [e1] at hfs1 ⊢
        have hol1 : (o' ++ [ns]).length ≤ L := Nat.le_trans (nodup_len hfs1.1 hfs1.2) hu.len
        rw [List.length_append, List.length_singleton] at hol1
        refine iteT ?_
        refine ⟨_, rfl, od, ov', rfl, .inl (SqL.of hod8), _, rfl, rfl, _, rfl, ?_⟩
        have hne : ¬ V.int (ov'.length : Int) = V.int (L : Nat) := fun e => by
          have : (ov'.length : Int) = (L : Int) := by injection e
          omega
        rw [decide_eq_false hne]
        refine iteF ?_
        refine ⟨_, rfl, od, ov', rfl, .inl (SqL.of hod8), _, rfl, _, rfl, nm, _, rfl, DPut.t (k := kI ns) hnm8 hg2' (by rw [numF_len]; show o'.length < sizeLine; omega), ?_⟩
        have hvn : valV (numF' 0 o') (kI ns) = none := by rw [numF_val, hp] <;> rfl
        rw [putK_new _ hvn]
        have enum : numF' 0 o' ++ [(kI ns, V.int (ov'.length : Int))] = numF' 0 (o' ++ [ns]) := by rw [numF_app, hovl8, Nat.zero_add]
        rw [enum]
        have t9 : Tp H' (upd H' nm (.dT (numF' 0 (o' ++ [ns])))) := (Tp.refl H').put hnm8 (fun _ z => nomatch z)
        have s9 : Same H (upd H' nm (.dT (numF' 0 (o' ++ [ns])))) := same_put s8 hnm
        have k9 : ∀ x oo, x ≠ nm → H' x = some oo → (upd H' nm (.dT (numF' 0 (o' ++ [ns])))) x = some oo := fun x oo hx h => by rw [upd_ne hx]; exact h
        have hnm9 : (upd H' nm (.dT (numF' 0 (o' ++ [ns])))) nm = some (.dT (numF' 0 (o' ++ [ns]))) := upd_same
        generalize upd H' nm (.dT (numF' 0 (o' ++ [ns]))) = H9 at t9 s9 k9 hnm9
        have hod9 := k9 _ _ n1.symm hod8
        refine ⟨_, rfl, .inl ⟨rfl, _, SqL.of hod9⟩, _, rfl, od, ov', _, rfl, rfl, hod9, by omega, ?_⟩
        have t10 : Tp H9 (upd H9 od (.lst (ov' ++ [.ref g]))) := (Tp.refl H9).put hod9 (fun _ z => nomatch z)
        have s10 : Same H (upd H9 od (.lst (ov' ++ [.ref g]))) := same_put s9 ho0
        have k10 : ∀ x oo, x ≠ od → H9 x = some oo → (upd H9 od (.lst (ov' ++ [.ref g]))) x = some oo := fun x oo hx h => by rw [upd_ne hx]; exact h
        have hod10 : (upd H9 od (.lst (ov' ++ [.ref g]))) od = some (.lst (ov' ++ [.ref g])) := upd_same
        generalize upd H9 od (.lst (ov' ++ [.ref g])) = H10 at t10 s10 k10 hod10
        have t910 := t9.trans t10
        have hrb10 := k10 _ _ nro (k9 _ _ nrm hrb8)
        have hnm10 := k10 _ _ n1 hnm9
        have dn10 : DGet H10 nm (.ref g) (valV (numF' 0 (o' ++ [ns])) (kI ns)) := DGet.t hnm10 (t910 _ _ hg2')
        have hpos : pos (o' ++ [ns]) ns = some o'.length := by
          cases hz : pos (o' ++ [ns]) ns with
          | none => exact absurd (List.mem_append_right _ (List.mem_singleton.mpr rfl)) (pos_none.mp hz)
          | some j =>
            have h1 := pos_some hz
            by_cases hj : j < o'.length
            · rw [List.getElem?_append_left hj] at h1
              exact absurd (List.mem_of_getElem? h1) hno
            · have := (List.getElem?_eq_some_iff.mp h1).1
              rw [List.length_append, List.length_singleton] at this
              rw [show j = o'.length by omega]
        rw [numF_val, hpos] at dn10
        refine ⟨_, rfl, .inl ⟨rfl, _, SqL.of hrb10⟩, _, rfl, _, rfl, _, rfl, nm, _, rfl, dn10, (by show 2 ≤ sizeLine; omega), fun t ht => ?_⟩
        have st : Same H10 (upd H10 t (.tup [.ref ab, .int ((0 + o'.length : Nat) : Int)])) := same_new ht
        refine ⟨rb, rv', _, rfl, rfl, st _ _ hrb10, by omega, ?_⟩
        have hb0 := st _ _ hrb10
        have tpz : Tp H10 (upd (upd H10 t (.tup [.ref ab, .int ((0 + o'.length : Nat) : Int)])) rb (.lst (rv' ++ [.ref t]))) := (Tp.of st).put hb0 (fun _ z => nomatch z)
        have ne : ∀ x oo, x ≠ rb → H10 x = some oo → (upd (upd H10 t (.tup [.ref ab, .int ((0 + o'.length : Nat) : Int)])) rb (.lst (rv' ++ [.ref t]))) x = some oo := fun x oo hx h => by rw [upd_ne hx]; exact st _ _ h
        have htn : t ≠ rb := fun e => by rw [e, hrb10] at ht; cases ht
        have tpa := t910.trans tpz
        refine ⟨ov' ++ [.ref g], rv' ++ [.ref t], _, _, rfl, same_put (s10.trans st) hrb0, tp8.trans tpa, ne _ _ nrg.symm (k10 _ _ nog.symm (k9 _ _ nmg.symm hgk8)), ne _ _ nqr (k10 _ _ nqo (k9 _ _ nqm hq8)), ne _ _ nrw.symm (k10 _ _ n3.symm (k9 _ _ n2.symm hrw8)), ne _ _ nrm.symm hnm10, ne _ _ nro.symm hod10,
          Paired.snoc (L2.Paired.mapP hov8 fun _ _ z => z.mono tpa) ⟨g, rfl, tpa _ _ hg2⟩, upd_same, ?_⟩
        refine Paired.snoc (L2.Paired.mapP hrv8 fun _ _ z => z.mono tpa) ⟨t, .ref ab, rfl, ?_, hact.mono tpa⟩
        rw [upd_ne htn, upd_same]
        show some (HO.tup [V.ref ab, V.int ((0 + o'.length : Nat) : Int)]) = some (HO.tup [V.ref ab, V.int ((o'.length : Nat) : Int)])
        rw [Nat.zero_add]
    · rintro σ H' ⟨ov', rv', y10, y11, rfl, s8, tp8, hgk8, hq8, hrw8, hnm8, hod8, hov8, hrb8, hrv8⟩
      rw [← entl, List.take_length] at hnm8 hov8 hrv8
      have hrowS : (ent (grp nodes moves)).foldl stepS (o, []) = rowS moves o r.length := by unfold rowS; rw [hgd]
      rw [hrowS] at hnm8 hov8 hrv8
      -- rows.append(tuple(row)); at += 1
      refine ⟨_, rfl, .inl ⟨rfl, _, SqL.of hrw8⟩, _, rfl, rb, rv', rfl, .inl ⟨SqL.of hrb8, fun t ht => ?_⟩⟩
      have st : Same H' (upd H' t (.tup rv')) := same_new ht
      have hrl : rv.length = r.length := Paired.length hrv
      refine ⟨rw_, rv, _, rfl, rfl, st _ _ hrw8, by omega, ?_⟩
      have tpz : Tp H' (upd (upd H' t (.tup rv')) rw_ (.lst (rv ++ [.ref t]))) := (Tp.of st).put (st _ _ hrw8) (fun _ z => nomatch z)
      have ne : ∀ x oo, x ≠ rw_ → H' x = some oo → (upd (upd H' t (.tup rv')) rw_ (.lst (rv ++ [.ref t]))) x = some oo := fun x oo hx h => by rw [upd_ne hx]; exact st _ _ h
      have htn : t ≠ rw_ := fun e => by rw [e, hrw8] at ht; cases ht
      refine ⟨_, rfl, _, _, rfl, rfl, ?_⟩
      refine ⟨k', Nat.lt_succ_self _, (rowS moves o r.length).1, r ++ [(rowS moves o r.length).2], k', ov', rv ++ [.ref t], some (.ref gd), some (.ref rb), y10, y11, x12, x13, x14, rfl, by rw [List.length_append, List.length_singleton]; omega, hF, sok_next hu hS hro, ?_, same_put (s8.trans st) hr0, ne _ _ n2 hnm8, ne _ _ n3 hod8, L2.Paired.mapP hov8 (fun _ _ z => z.mono tpz), upd_same, ?_⟩
      · rw [List.length_append, List.length_singleton]
        rfl
      · have tp2 : Tp H2 (upd (upd H' t (.tup rv')) rw_ (.lst (rv ++ [.ref t]))) := (Tp.of s5).trans (tp8.trans tpz)
        exact Paired.snoc (L2.Paired.mapP hrv fun _ _ z => z.mono tp2) ⟨t, rv', rfl, by rw [upd_ne htn, upd_same], L2.Paired.mapP hrv8 fun _ _ z => z.mono tpz⟩
  · -- the marks
    have c : ¬ ((r.length : Nat) : Int) < (ov.length : Int) := fun q => c (decide_eq_true q)
    have hst := subF_stop (moves := moves) (k := m) (o := o) (r := r) (by omega)
    rw [hst] at hF
    refine ⟨_, rfl, od, rfl, ⟨_, SqL.of hod4⟩, fun D hD => ?_⟩
    refine lc_list (K := K) (a := od) (xs := ov) (fun i H' => Same H2 H' ∧ H' D = some (.lst (((o.take i).map fun ns => decide (ns.filter (fun n => ends.getD n false) ≠ [])).map V.bl))) ⟨same_new hD, upd_same⟩ (fun i H' _ h => SqL.of (h.1 _ _ hod4)) ?_ ?_
    · rintro i x H' hi ⟨s5, hD5⟩
      obtain ⟨ns, hns, b, rfl, hb⟩ := pr_get' hov hi
      have hnsU := hS.sub _ (List.mem_of_getElem? hns)
      refine ⟨rfl, ?_⟩
      refine ⟨_, rfl, b, rfl, ⟨_, SqT.of (s5 _ _ hb)⟩, fun D2 hD2 => ?_⟩
      have hDH : H' D ≠ none := by rw [hD5]; exact fun z => nomatch z
      have hE5 := (hE.mono s4).mono s5
      refine lc_tup (K := K) (a := b) (xs := nV ns) (fun j H3 => Same H' H3 ∧ H3 D2 = some (.lst (nV ((ns.take j).filter fun n => ends.getD n false)))) ⟨same_new hD2, upd_same⟩ (fun j H3 _ h => SqT.of (h.1 _ _ (s5 _ _ hb))) ?_ ?_
      · rintro j x H3 hj ⟨s6, hD6⟩
        obtain ⟨n, hn, rfl⟩ := nV_get hj
        have hnl := (hU _ hnsU n (List.mem_of_getElem? hn)).2
        refine ⟨rfl, ?_⟩
        refine gv_endsI (K := K) (hE5.mono s6) hnl (gv_var rfl) (gv_var rfl) _ ⟨_, rfl, ?_⟩
        rw [takec hn, List.filter_append]
        cases hb2 : ends.getD n false with
        | true =>
          refine iteT ⟨_, rfl, _, hD6, ?_, same_put s6 hD2, ?_⟩
          · rw [nV_len]
            have h1 := List.length_filter_le (fun n => ends.getD n false) (ns.take j)
            have h2 : (ns.take j).length ≤ ns.length := by rw [List.length_take]; omega
            have h3 := hUl _ hnsU
            omega
          · rw [upd_same]
            have : [n].filter (fun n => ends.getD n false) = [n] := by rw [List.filter_cons, hb2] <;> rfl
            rw [this]
            unfold nV
            rw [List.map_append] <;> rfl
        | false =>
          refine iteF ⟨s6, ?_⟩
          have : [n].filter (fun n => ends.getD n false) = [] := by rw [List.filter_cons, hb2] <;> rfl
          rw [this, List.append_nil]
          exact hD6
      · rintro H3 ⟨s6, hD6⟩
        rw [nV_len, List.take_length] at hD6
        refine ⟨Nat.zero_le _, fun z hz => ?_⟩
        have s7 : Same H3 (upd H3 z (.lst [])) := same_new hz
        refine ⟨_, _, .lst (SqL.of (s7 _ _ hD6)) (show DpAll K _ (nV (ns.filter fun n => ends.getD n false)) (((ns.filter fun n => ends.getD n false).map fun (n : Nat) => (n : Int)).map PyData.int) from ?_), .lst (SqL.of upd_same) .nil, shI _, by rfl, ?_⟩
        · unfold nV
          have := dpAll_ints (K := K) (H := upd H3 z (.lst [])) ((ns.filter fun n => ends.getD n false).map fun (n : Nat) => (n : Int))
          rw [List.map_map] at this
          exact this
        · rw [eqv_nil]
          have hDl := (s6.trans s7) _ _ hD5
          refine ⟨_, hDl, ?_, same_put ((s5.trans s6).trans s7) hD, ?_⟩
          · rw [List.length_map, List.length_map, List.length_take]
            omega
          · rw [upd_same, takec hns, List.map_append, List.map_append]
            congr 4
            show V.bl (!decide (ns.filter (fun n => ends.getD n false) = [])) = V.bl (decide (ns.filter (fun n => ends.getD n false) ≠ []))
            rw [decide_not]
    · rintro H' ⟨s5, hD5⟩
      rw [hovl, List.take_length] at hD5
      have hrw5 := s5 _ _ hrw4
      refine ⟨_, rfl, rw_, rv, rfl, .inl ⟨SqL.of hrw5, fun t1 ht1 => ?_⟩⟩
      have s6 : Same H' (upd H' t1 (.tup rv)) := same_new ht1
      refine ⟨_, rfl, D, _, rfl, .inl ⟨SqL.of (s6 _ _ hD5), fun t2 ht2 => ?_⟩⟩
      refine ⟨(by show 3 ≤ sizeLine; omega), fun t ht => ?_⟩
      have s7 : Same H' (upd (upd H' t1 (.tup rv)) t2 (.tup ((o.map fun ns => decide (ns.filter (fun n => ends.getD n false) ≠ [])).map V.bl))) := s6.trans (same_new ht2)
      have s8 := s7.trans (same_new (o := .tup [.str "table", .ref t1, .ref t2]) ht)
      have s28 := s5.trans s8
      refine hQ _ _ (s4.trans s28) ⟨t, t1, t2, rv, rfl, upd_same, ?_, ?_, ?_⟩
      · exact same_new ht _ _ (same_new ht2 _ _ upd_same)
      · unfold subset
        rw [← hF]
        exact L2.Paired.mapP hrv fun _ _ z => z.mono (Tp.of s28)
      · unfold subset
        rw [← hF]
        exact same_new ht _ _ upd_same
end Pk
set_option Elab.async false
set_option linter.all false
set_option maxRecDepth 100000
set_option maxHeartbeats 4000000
/-! The defs, 6: refined_classes. -/
namespace Pk
open PySem PySem.Spec PyProof.Rows L2
variable {P : Program} {w : World} {K : PySem.W.Frag} {mg : Str → Option Value} {base : Heap}
def nkA (a : Act) : NestedKey := .tup [.text a.1, .text a.2.1, .text a.2.2]
def nkM (p : Act × Nat) : NestedKey := .tup [nkA p.1, .num (p.2 : Nat)]
def nkS (s : Sg) : NestedKey := .tup [.num (s.1 : Nat), .tup (s.2.map nkM)]
theorem nkA_inj {a b : Act} (h : nkA a = nkA b) : a = b := by
  obtain ⟨a1, a2, a3⟩ := a
  obtain ⟨b1, b2, b3⟩ := b
  simp only [nkA, NestedKey.tup.injEq, List.cons.injEq, NestedKey.text.injEq, and_true] at h
  rw [h.1, h.2.1, h.2.2]
theorem nkM_inj {a b : Act × Nat} (h : nkM a = nkM b) : a = b := by
  obtain ⟨a1, a2⟩ := a
  obtain ⟨b1, b2⟩ := b
  simp only [nkM, NestedKey.tup.injEq, List.cons.injEq, NestedKey.num.injEq, and_true] at h
  have h2 : a2 = b2 := by omega
  rw [nkA_inj h.1, h2]
theorem nkMs_inj : ∀ {a b : List (Act × Nat)}, a.map nkM = b.map nkM → a = b
  | [], [], _ => rfl
  | [], _ :: _, h => nomatch h
  | _ :: _, [], h => nomatch h
  | x :: a, y :: b, h => by
    rw [List.map_cons, List.map_cons] at h
    obtain ⟨h1, h2⟩ := List.cons.inj h
    rw [nkM_inj h1, nkMs_inj h2]
theorem nkS_inj {a b : Sg} (h : nkS a = nkS b) : a = b := by
  obtain ⟨a1, a2⟩ := a
  obtain ⟨b1, b2⟩ := b
  simp only [nkS, NestedKey.tup.injEq, List.cons.injEq, NestedKey.num.injEq, and_true] at h
  have h1 : a1 = b1 := by omega
  rw [nkMs_inj h.2, h1]
def SgV (H : Hp) (v : V) (sg : Sg) : Prop := ∃ b rb xs, v = .ref b ∧ H b = some (.tup [.int (sg.1 : Nat), .ref rb]) ∧ H rb = some (.tup xs) ∧ Paired (MvV H) xs sg.2
theorem SgV.mono {H H' : Hp} {v : V} {sg : Sg} (t : Tp H H') (h : SgV H v sg) : SgV H' v sg := let ⟨b, rb, xs, e, q, r, z⟩ := h; ⟨b, rb, xs, e, t _ _ q, t _ _ r, L2.Paired.mapP z fun _ _ y => y.mono t⟩
theorem mv_dp {H : Hp} {v : V} {p : Act × Nat} (h : MvV H v p) : Dp K H v (nkM p).data := by
  obtain ⟨b, x, rfl, hb, a, rfl, ha, _⟩ := h
  show Dp K H (.ref b) (.tuple [.tuple [.str p.1.1, .str p.1.2.1, .str p.1.2.2], .int (p.2 : Nat)])
  exact .tup (SqT.of hb) (.cons (.tup (SqT.of ha) (.cons (.str _) (.cons (.str _) (.cons (.str _) .nil)))) (.cons (.int _) .nil))
theorem mvs_dp {H : Hp} : ∀ {xs : List V} {l : List (Act × Nat)}, Paired (MvV H) xs l → DpAll K H xs (NestedKey.datas (l.map nkM))
  | _, _, .nil => .nil
  | _, _, .cons h t => .cons (mv_dp h) (mvs_dp t)
theorem SgV.key {H : Hp} {v : V} {sg : Sg} (h : SgV H v sg) : ∃ b, v = .ref b ∧ NKey K H (nkS sg) b := by
  obtain ⟨b, rb, xs, rfl, hb, hr, hx⟩ := h
  refine ⟨b, rfl, ?_, ?_⟩
  · show Dp K H (.ref b) (.tuple [.int (sg.1 : Nat), .tuple (NestedKey.datas (sg.2.map nkM))])
    exact .tup (SqT.of hb) (.cons (.int _) (.cons (.tup (SqT.of hr) (mvs_dp hx)) .nil))
  · have h1 : ∀ l : List (Act × Nat), NestedKey.depthAll (l.map nkM) ≤ 3 := by
      intro l
      induction l with
      | nil => simp [NestedKey.depthAll]
      | cons p l ih =>
        rw [List.map_cons]
        simp only [NestedKey.depthAll, nkM, nkA, NestedKey.depth]
        omega
    have := h1 sg.2
    simp only [nkS, NestedKey.depth, NestedKey.depthAll]
    omega
/-- the signs known, with their numbers -/
def NmV (H : Hp) (xs : List (NestedKey × Addr × V)) (k : Nat) (seen : List Sg) : Prop := match xs, seen with
  | [], [] => True
  | x :: xs, s :: seen => x.1 = nkS s ∧ x.2.2 = .int (k : Nat) ∧ SgV H (.ref x.2.1) s ∧ NmV H xs (k + 1) seen
  | _, _ => False
theorem nm_mono {H H' : Hp} (t : Tp H H') : ∀ {xs : List (NestedKey × Addr × V)} {k : Nat} {seen : List Sg}, NmV H xs k seen → NmV H' xs k seen
  | [], _, [], _ => True.intro
  | x :: xs, k, s :: seen, h => ⟨h.1, h.2.1, h.2.2.1.mono t, nm_mono t h.2.2.2⟩
  | [], _, _ :: _, h => h.elim
  | _ :: _, _, [], h => h.elim
theorem nm_len {H : Hp} : ∀ {xs : List (NestedKey × Addr × V)} {k : Nat} {seen : List Sg}, NmV H xs k seen → xs.length = seen.length
  | [], _, [], _ => rfl
  | x :: xs, k, s :: seen, h => by rw [List.length_cons, List.length_cons, nm_len h.2.2.2]
  | [], _, _ :: _, h => h.elim
  | _ :: _, _, [], h => h.elim
theorem nm_keys {H : Hp} : ∀ {xs : List (NestedKey × Addr × V)} {k : Nat} {seen : List Sg}, NmV H xs k seen → NKeys K H xs
  | [], _, [], _ => fun x hx => nomatch hx
  | x :: xs, k, s :: seen, h => fun y hy => by
    rcases List.mem_cons.mp hy with rfl | hy
    · obtain ⟨b, e, q⟩ := h.2.2.1.key (K := K)
      cases e
      rw [h.1]
      exact q
    · exact nm_keys h.2.2.2 y hy
  | [], _, _ :: _, h => h.elim
  | _ :: _, _, [], h => h.elim
theorem nm_val {H : Hp} {s : Sg} : ∀ {xs : List (NestedKey × Addr × V)} {k : Nat} {seen : List Sg}, NmV H xs k seen → valN xs (nkS s) = (pos seen s).map fun i => V.int ((k + i : Nat) : Int)
  | [], _, [], _ => rfl
  | x :: xs, k, s' :: seen, h => by
    have ih := nm_val (s := s) h.2.2.2
    unfold pos at ih ⊢
    rw [List.findIdx?_cons]
    by_cases c : s' = s
    · subst c
      have : valN (x :: xs) (nkS s') = some x.2.2 := by simp [valN, List.find?_cons, h.1]
      rw [this, h.2.1]
      simp
    · have hne : ¬ x.1 = nkS s := by rw [h.1]; exact fun e => c (nkS_inj e)
      have : valN (x :: xs) (nkS s) = valN xs (nkS s) := by simp [valN, List.find?_cons, hne]
      rw [this, ih, decide_eq_false c]
      simp only [Bool.false_eq_true, if_false, Option.map_map]
      congr 1
      funext i
      show V.int ((k + 1 + i : Nat) : Int) = V.int ((k + (i + 1) : Nat) : Int)
      rw [show k + 1 + i = k + (i + 1) by omega]
  | [], _, _ :: _, h => h.elim
  | _ :: _, _, [], h => h.elim
theorem nm_snoc {H : Hp} {s : Sg} {b : Addr} (hb : SgV H (.ref b) s) : ∀ {xs : List (NestedKey × Addr × V)} {k : Nat} {seen : List Sg}, NmV H xs k seen → NmV H (xs ++ [(nkS s, b, .int ((k + seen.length : Nat) : Int))]) k (seen ++ [s])
  | [], k, [], _ => ⟨rfl, rfl, hb, True.intro⟩
  | x :: xs, k, s' :: seen, h => by
    refine ⟨h.1, h.2.1, h.2.2.1, ?_⟩
    have := nm_snoc hb h.2.2.2
    rw [show k + 1 + seen.length = k + (seen.length + 1) by omega] at this
    exact this
  | [], _, _ :: _, h => h.elim
  | _ :: _, _, [], h => h.elim
def spRefined : Sp := fun vs H Q _ => ∃ (v : V) (cb : Addr) (T : Tab) (cl : List Nat), vs = [v, .ref cb] ∧ TabV H v T ∧ H cb = some (.lst (nV cl)) ∧ cl.length = T.rows.length ∧ (∀ r ∈ T.rows, ∀ p ∈ r, p.2 < T.rows.length) ∧ T.rows.length ≤ 300 ∧ (∀ r ∈ T.rows, r.length ≤ 5000) ∧
  ∀ b H', Same H H' → H b = none → H' b = some (.lst (nV (refF T.rows cl))) → Q (.ref b) H'
theorem nV_at {l : List Nat} {i : Nat} (h : i < l.length) : (nV l)[i]? = some (.int ((l.getD i 0 : Nat) : Int)) := by
  unfold nV
  rw [List.getElem?_map, List.getD_eq_getElem?_getD, List.getElem?_eq_getElem h] <;> rfl
def RcInv (P : Program) (w : World) (H : Hp) (v : V) (cb nm fr rr : Addr) (xs : List V) (T : Tab) (S : List Sg × List Nat) : L2.St → Hp → Prop := fun σ H' => ∃ x4 x5 x6 x7 x8 nxs, σ = [some v, some (.ref cb), some (.ref nm), some (.ref fr), x4, x5, x6, x7, x8] ∧ Same H H' ∧ H' rr = some (.tup xs) ∧ Paired (RowV H') xs T.rows ∧ H' nm = some (NdO P w nm nxs) ∧
      NmV H' nxs 0 S.1 ∧ H' fr = some (.lst (nV S.2))
theorem sc_refined_classes : FnScope ["table", "classes", "numbers", "fresh", "state", "row", "sign", "action", "goal"] ["table", "classes"] (defScope s_refined_classes) := ⟨rfl, rfl, rfl, by decide +kernel, rfl, by decide +kernel, by decide +kernel⟩
theorem o_refined_classes (T : Txt K mg) : Ok P w K mg base CX0 "refined_classes" 1 ["table", "classes"] spRefined :=
  ok_def T.d_refined_classes T.g_refined_classes sc_refined_classes (fun _ _ _ _ _ _ us hl => match us, hl with | [_, _], _ => rfl) (fun vs H Q E h => by obtain ⟨_, _, _, _, rfl, _⟩ := h; rfl) fun cdv A outer s H vs Q E hr h => by
  obtain ⟨v, cb, T', cl, rfl, hT, hcb, hcl, hg, hn, hrl, hQ⟩ := h
  refine ⟨_, (PSs.nox (pss_cons (ps_set (i := 2) sc_refined_classes.nd rfl (by first | exact Or.inl rfl | exact Or.inr rfl) pe_ndnew)
      (pss_cons (ps_set (i := 3) sc_refined_classes.nd rfl (by first | exact Or.inl rfl | exact Or.inr rfl) (pe_lst pa_nil))
      (pss_cons (ps_for PassesOwn.never rfl (pi_enumT (by rfl) T.n_enumerate (pa_cons (pe_ix (kx_tup (K := K) rfl) (pv 0) pe_int (fun _ _ => rfl)) pa_nil)) (kg_tup (K := K) (n := 2) rfl rfl (pgs_cons (pg_name (i := 4) sc_refined_classes.nd rfl (by first | exact Or.inl rfl | exact Or.inr rfl)) (pgs_cons (pg_name (i := 5) sc_refined_classes.nd rfl (by first | exact Or.inl rfl | exact Or.inr rfl)) pgs_nil))) (pss_cons (ps_set (i := 6) sc_refined_classes.nd rfl (by first | exact Or.inl rfl | exact Or.inr rfl) (pe_tup (pa_cons (pe_ix (kx_list (K := K) rfl) (pv 1) (pv 4) (fun _ _ => rfl)) (pa_cons (pe_callTy (T := "tuple") (kc_tuple (K := K) rfl) (by rfl) T.n_tuple (by decide +kernel) (pa_cons (pe_lc (own := [("action", 7), ("goal", 8)]) (tt := tYes) rfl sc_refined_classes.nd (ki_tup (K := K) rfl (pv 5)) (blkOk_by (N := ["table", "classes", "numbers", "fresh", "state", "row", "sign", "action", "goal"]) (sc := defScope s_refined_classes) (by decide +kernel)) (fun _ _ _ _ _ => (kg_tup (K := K) (n := 2) rfl rfl (pgs_cons (pg_name (i := 7) sc_refined_classes.nd rfl (by first | exact Or.inl rfl | exact Or.inr rfl)) (pgs_cons (pg_name (i := 8) sc_refined_classes.nd rfl (by first | exact Or.inl rfl | exact Or.inr rfl)) pgs_nil)))) (fun _ _ _ _ _ => pts_nil) (fun _ _ _ _ _ => (pe_tup (pa_cons (pv 7) (pa_cons (pe_ix (kx_list (K := K) rfl) (pv 1) (pv 8) (fun _ _ => rfl)) pa_nil))))) pa_nil)) pa_nil))))
      (pss_cons (ps_if (pt_cmp (pc_ndnotin (ru64 hr) (pv 6) (pv 2))) (pss_one (ps_ndput (ru64 hr) (pv 2) (pv 6) (pe_callB (id := "len") call_len_nd (by rfl) T.n_len (by decide +kernel) (pa_cons (pv 2) pa_nil)))) pss_nil)
      (pss_one (ps_expr (pe_bm PySem.F.plainAttrs_list PySem.F.slot_list_append PySem.F.type_list_append mt_append (pv 3) (pa_cons (pe_ndget (ru64 hr) (pv 2) (pv 6) (fun _ _ => rfl)) pa_nil)))))))
      (pss_one (ps_ret (pv 3))))))), ?_⟩
  have big : (100000 : Nat) < sizeLine := by decide
  intro nm hnm
  have s1 : Same H (upd H nm (NdO P w nm [])) := same_new hnm
  refine ⟨Nat.zero_le _, fun fr hfr => ?_⟩
  have s2 := s1.trans (same_new (o := .lst []) hfr)
  have nmf : nm ≠ fr := ne_of_none upd_same hfr
  obtain ⟨rr, xs, hrr, hxs, gr⟩ := gv_rows (K := K) (σ := [some v, some (.ref cb), some (.ref nm), some (.ref fr), none, none, none, none, none]) (hT.mono (Tp.of s2)) (gv_var (i := 0) rfl)
  refine gr _ ⟨rr, xs, rfl, SqT.of hrr, for_it (walk_enumT (K := K) (a := rr) (xs := xs)) (fun i => RcInv P w H v cb nm fr rr xs T' (((sgns T'.rows cl).take i).foldl stepN ([], [])))
      ⟨_, _, _, _, _, [], rfl, s2, hrr, hxs, by rw [upd_ne nmf, upd_same], True.intro, upd_same⟩ (fun i σ H' _ ⟨_, _, _, _, _, _, _, _, h, _⟩ => SqT.of h) ?_ ?_⟩
  · rintro i x σ H' H2 hi ⟨y4, y5, y6, y7, y8, nxs, rfl, s3, hr3, hx3, hnm3, hnx3, hfr3⟩ ⟨t, x0, y0, rfl, ht, rfl, e1, e2⟩
    cases e1
    have e2 : xs[i]? = some y0 := e2
    have hlx := Paired.length hx3
    obtain ⟨row, hrow, rb, ps, rfl, hrb, hps⟩ := pr_get' hx3 e2
    have hir : i < T'.rows.length := (List.getElem?_eq_some_iff.mp hrow).1
    refine g_two upd_same ?_
    have s4 : Same H' (upd H' t (.tup [.int (i : Nat), .ref rb])) := same_new ht
    have tp4 := Tp.of s4
    have hnm4 := s4 _ _ hnm3
    have hfr4 := s4 _ _ hfr3
    have hcb4 := s4 _ _ (s3 _ _ hcb)
    have hrb4 := s4 _ _ hrb
    have hr4 := s4 _ _ hr3
    have hx4 := L2.Paired.mapP hx3 fun _ _ z => z.mono tp4
    have hps4 := L2.Paired.mapP hps fun _ _ z => z.mono tp4
    have hnx4 := nm_mono tp4 hnx3
    have s34 := s3.trans s4
    generalize upd H' t (.tup [.int (i : Nat), .ref rb]) = H4 at s4 tp4 hnm4 hfr4 hcb4 hrb4 hr4 hx4 hps4 hnx4 s34
    -- the sign
    refine ⟨_, rfl, _, rfl, cb, _, _, _, rfl, rfl, SqL.of hcb4, atI_nat (nV_at (by omega)), ?_⟩
    refine ⟨_, rfl, rb, rfl, ⟨_, SqT.of hrb4⟩, fun D hD => ?_⟩
    refine lc_tup (K := K) (a := rb) (xs := ps) (fun j H5 => Same H4 H5 ∧ ∃ acc, H5 D = some (.lst acc) ∧ Paired (MvV H5) acc ((row.take j).map fun p => (p.1, cl.getD p.2 0))) ⟨same_new hD, [], upd_same, .nil⟩ (fun j H5 _ h => SqT.of (h.1 _ _ hrb4)) ?_ ?_
    · rintro j z H5 hj ⟨s5, acc, hD5, hacc⟩
      obtain ⟨p, hp, c, u, rfl, hc, hu⟩ := pr_get' hps4 hj
      refine g_two (s5 _ _ hc) ⟨rfl, ?_⟩
      have hpg : p.2 < cl.length := by rw [hcl]; exact hg row (List.mem_of_getElem? hrow) p (List.mem_of_getElem? hp)
      refine ⟨_, rfl, _, rfl, _, rfl, cb, _, _, _, rfl, rfl, SqL.of (s5 _ _ hcb4), atI_nat (nV_at hpg), (by show 2 ≤ sizeLine; omega), fun t2 ht2 => ?_⟩
      have s6 : Same H5 (upd H5 t2 (.tup [u, .int ((cl.getD p.2 0 : Nat) : Int)])) := same_new ht2
      have hal := Paired.length hacc
      rw [List.length_map, List.length_take] at hal
      have hrl2 := hrl row (List.mem_of_getElem? hrow)
      refine ⟨acc, s6 _ _ hD5, by omega, same_put (s5.trans s6) hD, acc ++ [.ref t2], upd_same, ?_⟩
      have tpz : Tp H5 (upd (upd H5 t2 (.tup [u, .int ((cl.getD p.2 0 : Nat) : Int)])) D (.lst (acc ++ [.ref t2]))) := (Tp.of s6).put (s6 _ _ hD5) (fun _ z => nomatch z)
      rw [takec hp, List.map_append]
      have ntD : t2 ≠ D := fun e => by rw [e, hD5] at ht2; cases ht2
      exact Paired.snoc (L2.Paired.mapP hacc fun _ _ z => z.mono tpz) ⟨t2, u, rfl, by rw [upd_ne ntD, upd_same], (hu.mono (Tp.of s5)).mono tpz⟩
    · rintro H5 ⟨s5, acc, hD5, hacc⟩
      rw [Paired.length hps4, List.take_length] at hacc
      refine ⟨D, acc, rfl, .inl ⟨SqL.of hD5, fun t3 ht3 => ?_⟩⟩
      have s6 : Same H5 (upd H5 t3 (.tup acc)) := same_new ht3
      refine ⟨(by show 2 ≤ sizeLine; omega), fun t4 ht4 => ?_⟩
      have s7 := s6.trans (same_new (o := .tup [.int ((cl.getD i 0 : Nat) : Int), .ref t3]) ht4)
      have s47 := s5.trans s7
      have hsg : SgV (upd (upd H5 t3 (.tup acc)) t4 (.tup [.int ((cl.getD i 0 : Nat) : Int), .ref t3])) (.ref t4) (sgn cl i row) :=
        ⟨t4, t3, acc, rfl, upd_same, same_new ht4 _ _ upd_same, L2.Paired.mapP hacc fun _ _ z => z.mono (Tp.of s7)⟩
      generalize upd (upd H5 t3 (.tup acc)) t4 (.tup [.int ((cl.getD i 0 : Nat) : Int), .ref t3]) = H7 at s7 s47 hsg
      have hnm7 := s47 _ _ hnm4
      have hfr7 := s47 _ _ hfr4
      have hnx7 := nm_mono (Tp.of s47) hnx4
      have hsi : (sgns T'.rows cl)[i]? = some (sgn cl i row) := sgns_get hrow
      have nok := nok_fold (l' := (sgns T'.rows cl).take i) (NOk.nil (α := Sg))
      rw [takec hsi, List.foldl_append]
      rw [List.nil_append] at nok
      generalize ((sgns T'.rows cl).take i).foldl stepN ([], []) = S at hnx7 hfr7 nok
      obtain ⟨seen, fresh⟩ := S
      have hst : List.foldl stepN (seen, fresh) [sgn cl i row] = stepN (seen, fresh) (sgn cl i row) := rfl
      rw [hst]
      generalize sgn cl i row = sg at hsg
      have hseenl : seen.length ≤ 300 := by
        have h1 := nok.le
        rw [List.length_take] at h1
        have h2 : ((seen, fresh) : List Sg × List Nat).1.length = seen.length := rfl
        rw [h2] at h1
        omega
      have hfrl : fresh.length ≤ 300 := by
        have h1 := nok.len
        rw [List.length_take] at h1
        have h2 : ((seen, fresh) : List Sg × List Nat).2.length = fresh.length := rfl
        rw [h2] at h1
        omega
      obtain ⟨sb, e3, hkey⟩ := hsg.key (K := K)
      cases e3
      refine ⟨_, rfl, _, rfl, nm, nxs, nkS sg, t4, rfl, rfl, hnm7, nm_keys hnx7, hkey, _, rfl, ?_⟩
      have hval := nm_val (s := sg) hnx7
      have hval : valN nxs (nkS sg) = (pos seen sg).map fun i => V.int ((0 + i : Nat) : Int) := hval
      rw [hval]
      have fin : ∀ (H8 : Hp) (nxs' : List (NestedKey × Addr × V)) (seen' : List Sg) (j : Nat), Same H H8 → Tp H4 H8 → H8 nm = some (NdO P w nm nxs') → NmV H8 nxs' 0 seen' → H8 fr = some (.lst (nV fresh)) → NKeys K H8 nxs' → NKey K H8 (nkS sg) t4 → valN nxs' (nkS sg) = some (.int ((0 + j : Nat) : Int)) →
          stepN (seen, fresh) sg = (seen', fresh ++ [j]) → tDrop (tBM K "list" rAppend (tVar 3) (tCons (tNdGet K P w (tVar 2) (tVar 6)) tNil)) { nx := RcInv P w H v cb nm fr rr xs T' (stepN (seen, fresh) sg), rt := Q } [some v, some (.ref cb), some (.ref nm), some (.ref fr), some (.int (i : Nat)), some (.ref rb), some (.ref t4), y7, y8] H8 := by
        intro H8 nxs' seen' j s8 tp8 hnm8 hnx8 hfr8 hks hk hv hstep
        refine ⟨_, rfl, .inl ⟨rfl, _, SqL.of hfr8⟩, _, rfl, _, rfl, nm, nxs', nkS sg, t4, _, rfl, rfl, hnm8, hks, hk, hv, fr, _, _, rfl, rfl, hfr8, by rw [nV_len]; omega, ?_⟩
        rw [hstep]
        have tpz : Tp H8 (upd H8 fr (.lst (nV fresh ++ [.int ((0 + j : Nat) : Int)]))) := (Tp.refl H8).put hfr8 (fun _ z => nomatch z)
        refine ⟨_, _, _, _, _, nxs', rfl, same_put s8 (s1.free hfr), (tp8.trans tpz) _ _ hr4, L2.Paired.mapP hx4 (fun _ _ z => z.mono (tp8.trans tpz)), by rw [upd_ne nmf]; exact hnm8, nm_mono tpz hnx8, ?_⟩
        rw [upd_same, Nat.zero_add]
        unfold nV
        rw [List.map_append] <;> rfl
      cases hp : pos seen sg with
      | some j =>
        have e1 : stepN (seen, fresh) sg = (seen, fresh ++ [j]) := by unfold stepN; simp only [hp]
        rw [hp] at hval
        refine iteF ?_
        exact fin H7 nxs seen j (s34.trans s47) (Tp.of s47) hnm7 hnx7 hfr7 (nm_keys hnx7) hkey hval e1
      | none =>
        have e1 : stepN (seen, fresh) sg = (seen ++ [sg], fresh ++ [seen.length]) := by unfold stepN; simp only [hp]
        rw [hp] at hval
        have hnl : nxs.length = seen.length := nm_len hnx7
        refine iteT ?_
        refine ⟨_, rfl, nm, nxs, rfl, hnm7, nm_keys hnx7, _, rfl, _, rfl, nm, nxs, nkS sg, t4, rfl, rfl, hnm7, nm_keys hnx7, hkey, hval, by omega, ?_⟩
        have tp8 : Tp H7 (upd H7 nm (NdO P w nm (nxs ++ [(nkS sg, t4, .int ((nxs.length : Nat) : Int))]))) := (Tp.refl H7).put hnm7 (fun _ z => nomatch z)
        have hsnoc := nm_snoc hsg hnx7
        have hsnoc : NmV H7 (nxs ++ [(nkS sg, t4, .int ((0 + seen.length : Nat) : Int))]) 0 (seen ++ [sg]) := hsnoc
        rw [Nat.zero_add, ← hnl] at hsnoc
        have hn8 := nm_mono tp8 hsnoc
        refine fin _ _ (seen ++ [sg]) seen.length (same_put (s34.trans s47) hnm) ((Tp.of s47).trans tp8) upd_same hn8 (by rw [upd_ne nmf.symm]; exact hfr7) (nm_keys hn8) ?_ ?_ e1
        · obtain ⟨b', e4, k4⟩ := (hsg.mono tp8).key (K := K)
          cases e4
          exact k4
        · have := nm_val (s := sg) hn8
          rw [this]
          have hpos : pos (seen ++ [sg]) sg = some seen.length := by
            cases hz : pos (seen ++ [sg]) sg with
            | none => exact absurd (List.mem_append_right _ (List.mem_singleton.mpr rfl)) (pos_none.mp hz)
            | some j =>
              have h1 := pos_some hz
              by_cases hj : j < seen.length
              · rw [List.getElem?_append_left hj] at h1
                exact absurd (List.mem_of_getElem? h1) (pos_none.mp hp)
              · have := (List.getElem?_eq_some_iff.mp h1).1
                rw [List.length_append, List.length_singleton] at this
                rw [show j = seen.length by omega]
          rw [hpos] <;> rfl
  · rintro σ H' ⟨y4, y5, y6, y7, y8, nxs, rfl, s3, hr3, hx3, hnm3, hnx3, hfr3⟩
    have hl : xs.length = (sgns T'.rows cl).length := by rw [sgns_len]; exact Paired.length hx3
    rw [hl, List.take_length] at hfr3
    exact ⟨_, rfl, hQ fr H' s3 (s1.free hfr) hfr3⟩
end Pk
set_option Elab.async false
set_option linter.all false
set_option maxRecDepth 100000
set_option maxHeartbeats 4000000
/-! The defs, 7: alike_classes, least. -/
namespace Pk
open PySem PySem.Spec PyProof.Rows L2
variable {P : Program} {w : World} {K : PySem.W.Frag} {mg : Str → Option Value} {base : Heap}
theorem cI_V (l : List Nat) : (cI l).map V.int = nV l := by unfold cI nV; rw [List.map_map] <;> rfl
def spAlike : Sp := fun vs H Q _ => ∃ (v : V) (T : Tab), vs = [v] ∧ TabV H v T ∧ Wf T ∧ T.rows.length ≤ 300 ∧ (∀ r ∈ T.rows, r.length ≤ 5000) ∧ ∀ b H', Same H H' → H b = none → H' b = some (.lst (nV (alike T))) → Q (.ref b) H'
theorem sc_alike_classes : FnScope ["table", "classes", "end", "count", "fresh", "size"] ["table"] (defScope s_alike_classes) := ⟨rfl, rfl, rfl, by decide +kernel, rfl, by decide +kernel, by decide +kernel⟩
theorem o_alike_classes (T : Txt K mg) : Ok P w K mg base CX0 "alike_classes" 2 ["table"] spAlike :=
  ok_def T.d_alike_classes T.g_alike_classes sc_alike_classes (fun _ _ _ _ _ _ us hl => match us, hl with | [_], _ => rfl) (fun vs H Q E h => by obtain ⟨_, _, rfl, _⟩ := h; rfl) fun cdv A outer s H vs Q E hr h => by
  obtain ⟨v, T', rfl, hT, hw, hn, hrl, hQ⟩ := h
  refine ⟨_, (PSs.nox (pss_cons (ps_setLc (i := 1) (own := [("end", 2)]) (tt := tYes) rfl sc_alike_classes.nd rfl rfl (sw_true rfl rfl rfl (by decide +kernel)) (ki_tup (K := K) rfl (pe_ix (kx_tup (K := K) rfl) (pv 0) pe_int (fun _ _ => rfl))) (blkOk_by (N := ["table", "classes", "end", "count", "fresh", "size"]) (sc := defScope s_alike_classes) (by decide +kernel)) (fun _ _ _ _ _ => (pg_name (i := 2) sc_alike_classes.nd rfl (by first | exact Or.inl rfl | exact Or.inr rfl))) (fun _ _ _ _ _ => pts_nil) (fun _ _ _ _ _ => (pe_callTy (T := "int") call_int1 (by rfl) T.n_int (by decide +kernel) (pa_cons (pv 2) pa_nil))))
      (pss_cons (ps_set (i := 3) sc_alike_classes.nd rfl (by first | exact Or.inl rfl | exact Or.inr rfl) (pe_lenSetD (by rfl) T.n_len (by rfl) T.n_set (pv 1) rfl))
      (pss_one (ps_while PassesOwn.never (pt_val pe_bl) (pss_cons (ps_set (i := 4) sc_alike_classes.nd rfl (by first | exact Or.inl rfl | exact Or.inr rfl) (pe_cl (o_refined_classes T) (hr.mono (by decide)) (pa_cons (pv 0) (pa_cons (pv 1) pa_nil))))
      (pss_cons (ps_set (i := 5) sc_alike_classes.nd rfl (by first | exact Or.inl rfl | exact Or.inr rfl) (pe_lenSetD (by rfl) T.n_len (by rfl) T.n_set (pv 4) rfl))
      (pss_cons (ps_if (pt_cmpR op_eq (pv 5) (pv 3) (nomark _)) (pss_one (ps_ret (pv 4))) pss_nil)
      (pss_cons (ps_set (i := 1) sc_alike_classes.nd rfl (by first | exact Or.inl rfl | exact Or.inr rfl) (pv 4))
      (pss_one (ps_set (i := 3) sc_alike_classes.nd rfl (by first | exact Or.inl rfl | exact Or.inr rfl) (pv 5)))))))))))), ?_⟩
  have big : (100000 : Nat) < sizeLine := by decide
  obtain ⟨ee, hee, g⟩ := gv_ends (K := K) (σ := start ["table", "classes", "end", "count", "fresh", "size"] [v]) hT (gv_var (i := 0) rfl)
  refine g _ ⟨ee, rfl, ⟨_, SqT.of hee⟩, fun D hD => ?_⟩
  refine lc_tup (K := K) (a := ee) (xs := T'.ends.map V.bl) (fun i H' => Same H H' ∧ H' D = some (.lst (nV ((T'.ends.take i).map b2n)))) ⟨same_new hD, upd_same⟩ (fun i H' _ h => SqT.of (h.1 _ _ hee)) ?_ ?_
  · rintro i x H' hi ⟨s1, hD1⟩
    rw [List.getElem?_map] at hi
    cases he : T'.ends[i]? with
    | none => rw [he] at hi; cases hi
    | some b =>
      rw [he] at hi
      cases hi
      refine ⟨rfl, _, rfl, .inr ⟨b, rfl, ?_⟩⟩
      have hil : i < T'.ends.length := (List.getElem?_eq_some_iff.mp he).1
      have hel := hw.lens
      refine ⟨_, hD1, by rw [nV_len, List.length_map, List.length_take]; omega, same_put s1 hD, ?_⟩
      rw [upd_same, takec he, List.map_append]
      unfold nV
      rw [List.map_append]
      congr 3
      cases b <;> rfl
  · rintro H1 ⟨s1, hD1⟩
    rw [List.length_map, List.take_length] at hD1
    have hlen0 : (T'.ends.map b2n).length = T'.rows.length := by rw [List.length_map]; exact hw.lens
    refine ⟨_, rfl, D, cI (T'.ends.map b2n), rfl, SqL.of (by rw [cI_V]; exact hD1), by unfold cI; rw [List.length_map]; omega, ?_⟩
    refine ⟨fun m σ H' => ∃ cl cb x2 x4 x5, alikeF T'.rows m cl (cnt cl) = alike T' ∧ T'.rows.length < m + cnt cl ∧ cl.length = T'.rows.length ∧ σ = [some v, some (.ref cb), x2, some (.int (cnt cl : Nat)), x4, x5] ∧ Same H H' ∧ H' cb = some (.lst (nV cl)),
      ⟨T'.rows.length + 1, T'.ends.map b2n, D, none, none, none, rfl, by omega, hlen0, rfl, s1, hD1⟩, ?_⟩
    rintro m σ H2 ⟨cl, cb, x2, x4, x5, hA, hm, hcl, rfl, s2, hcb⟩
    refine ⟨_, rfl, ?_⟩
    obtain ⟨m', rfl⟩ : ∃ m', m = m' + 1 := ⟨m - 1, by have := cnt_le (l := cl); omega⟩
    refine ⟨fun σ' H' => ∃ m'', m'' < m' + 1 ∧ ∃ cl cb x2 x4 x5, alikeF T'.rows m'' cl (cnt cl) = alike T' ∧ T'.rows.length < m'' + cnt cl ∧ cl.length = T'.rows.length ∧ σ' = [some v, some (.ref cb), x2, some (.int (cnt cl : Nat)), x4, x5] ∧ Same H H' ∧ H' cb = some (.lst (nV cl)), fun σ' H' h => h, ?_⟩
    refine ⟨_, rfl, _, rfl, v, cb, T', cl, rfl, hT.mono (Tp.of s2), hcb, hcl, hw.goal, hn, hrl, fun fb H3 s3 hfb hf => ?_⟩
    have hfl := refF_len T'.rows cl
    have rc := ref_cnt hcl
    refine ⟨_, rfl, fb, cI (refF T'.rows cl), rfl, SqL.of (by rw [cI_V]; exact hf), by unfold cI; rw [List.length_map]; omega, ?_⟩
    refine ⟨_, rfl, _, rfl, rfl, _, rfl, ?_⟩
    unfold alikeF at hA
    have edec : decide (V.int (((ddI (cI (refF T'.rows cl))).length : Nat) : Int) = V.int ((cnt cl : Nat) : Int)) = decide (cnt (refF T'.rows cl) = cnt cl) := by
      unfold cnt
      simp only [V.int.injEq]
      exact decide_eq_decide.mpr ⟨fun h => by omega, fun h => by omega⟩
    rw [edec]
    refine ite2 (fun c => ?_) (fun c => ?_)
    · rw [if_pos (of_decide_eq_true c)] at hA
      refine ⟨_, rfl, hQ fb H3 (s2.trans s3) (s2.free hfb) ?_⟩
      rw [← hA]
      exact hf
    · have c : ¬ cnt (refF T'.rows cl) = cnt cl := fun e => c (decide_eq_true e)
      rw [if_neg c] at hA
      exact ⟨_, rfl, _, rfl, m', Nat.lt_succ_self _, refF T'.rows cl, fb, x2, _, _, hA, by omega, hfl, rfl, s2.trans s3, hf⟩

def spLeast : Sp := fun vs H Q _ => ∃ (v : V) (T : Tab), vs = [v] ∧ TabV H v T ∧ Wf T ∧ T.rows.length < 60 ∧ (∀ r ∈ T.rows, r.length ≤ 5000) ∧ ∀ v' H', Same H H' → TabV H' v' (least T) → Q v' H'
/-- a row of moves that stands at none of Z -/
def RwX (Z : List Addr) (H : Hp) (v : V) (r : Grp) : Prop := ∃ b ps, v = .ref b ∧ b ∉ Z ∧ H b = some (.lst ps) ∧ Paired (PrV H) ps r
theorem RwX.mono {Z : List Addr} {H H' : Hp} {v : V} {r : Grp} (t : Same H H') (h : RwX Z H v r) : RwX Z H' v r := let ⟨b, ps, e, n, q, z⟩ := h; ⟨b, ps, e, n, t _ _ q, L2.Paired.mapP z fun _ _ y => y.mono (Tp.of t)⟩
theorem RwX.put {Z : List Addr} {x : Addr} {H : Hp} {v : V} {r : Grp} {ms : List V} {o : HO} (hx : H x = some (.lst ms)) (hz : x ∈ Z) (h : RwX Z H v r) : RwX Z (upd H x o) v r := by
  obtain ⟨b, ps, e, n, q, z⟩ := h
  exact ⟨b, ps, e, n, by rw [upd_ne (fun e => n (by rw [e]; exact hz))]; exact q, L2.Paired.mapP z fun _ _ y => y.mono ((Tp.refl H).put hx fun _ z => nomatch z)⟩
theorem RwX.more {Z : List Addr} {x : Addr} {H : Hp} {v : V} {r : Grp} (hx : H x = none) (h : RwX Z H v r) : RwX (x :: Z) H v r := by
  obtain ⟨b, ps, e, n, q, z⟩ := h
  refine ⟨b, ps, e, fun m => ?_, q, z⟩
  rcases List.mem_cons.mp m with rfl | m
  · rw [hx] at q
    cases q
  · exact n m
theorem RwX.out {Z : List Addr} {H : Hp} {v : V} {r : Grp} (h : RwX Z H v r) : RwV H v r := let ⟨b, ps, e, _, q, z⟩ := h; ⟨b, ps, e, q, z⟩
theorem pr_set {α β : Type} {F : α → β → Prop} {x : α} {y : β} (h : F x y) : ∀ {l : List α} {m : List β} (i : Nat), Paired F l m → Paired F (l.set i x) (m.set i y)
  | _, _, _, .nil => .nil
  | _, _, 0, .cons _ t => .cons h t
  | _, _, i + 1, .cons a t => .cons a (pr_set h i t)
theorem ixN_nat {n i : Nat} (h : i < n) : ixN n (i : Int) = some i := by
  unfold ixN
  rw [if_pos (by omega), if_pos (by omega)]
  simp
theorem sc_least : FnScope ["table", "classes", "moves", "_", "ends", "state", "row", "action", "goal"] ["table"] (defScope s_least) := ⟨rfl, rfl, rfl, by decide +kernel, rfl, by decide +kernel, by decide +kernel⟩
theorem o_least (T : Txt K mg) : Ok P w K mg base CX0 "least" 3 ["table"] spLeast :=
  ok_def T.d_least T.g_least sc_least (fun _ _ _ _ _ _ us hl => match us, hl with | [_], _ => rfl) (fun vs H Q E h => by obtain ⟨_, _, rfl, _⟩ := h; rfl) fun cdv A outer s H vs Q E hr h => by
  obtain ⟨v, T', rfl, hT, hw, hn, hrl, hQ⟩ := h
  refine ⟨_, (PSs.nox (pss_cons (ps_set (i := 1) sc_least.nd rfl (by first | exact Or.inl rfl | exact Or.inr rfl) (pe_cl (o_alike_classes T) (hr.mono (by decide)) (pa_cons (pv 0) pa_nil)))
      (pss_cons (ps_setLc (i := 2) (own := [("_", 3)]) (tt := tYes) rfl sc_least.nd rfl rfl (sw_true rfl rfl rfl (by decide +kernel)) (ki_list (K := K) rfl (pv 1)) (blkOk_by (N := ["table", "classes", "moves", "_", "ends", "state", "row", "action", "goal"]) (sc := defScope s_least) (by decide +kernel)) (fun _ _ _ _ _ => (pg_name (i := 3) sc_least.nd rfl (by first | exact Or.inl rfl | exact Or.inr rfl))) (fun _ _ _ _ _ => pts_nil) (fun _ _ _ _ _ => (pe_lst pa_nil)))
      (pss_cons (ps_setLc (i := 4) (own := [("_", 3)]) (tt := tYes) rfl sc_least.nd rfl rfl (sw_true rfl rfl rfl (by decide +kernel)) (ki_list (K := K) rfl (pv 1)) (blkOk_by (N := ["table", "classes", "moves", "_", "ends", "state", "row", "action", "goal"]) (sc := defScope s_least) (by decide +kernel)) (fun _ _ _ _ _ => (pg_name (i := 3) sc_least.nd rfl (by first | exact Or.inl rfl | exact Or.inr rfl))) (fun _ _ _ _ _ => pts_nil) (fun _ _ _ _ _ => pe_bl))
      (pss_cons (ps_for PassesOwn.never rfl (pi_enumT (by rfl) T.n_enumerate (pa_cons (pe_ix (kx_tup (K := K) rfl) (pv 0) pe_int (fun _ _ => rfl)) pa_nil)) (kg_tup (K := K) (n := 2) rfl rfl (pgs_cons (pg_name (i := 5) sc_least.nd rfl (by first | exact Or.inl rfl | exact Or.inr rfl)) (pgs_cons (pg_name (i := 6) sc_least.nd rfl (by first | exact Or.inl rfl | exact Or.inr rfl)) pgs_nil))) (pss_cons (ps_asg (pe_lc (own := [("action", 7), ("goal", 8)]) (tt := tYes) rfl sc_least.nd (ki_tup (K := K) rfl (pv 6)) (blkOk_by (N := ["table", "classes", "moves", "_", "ends", "state", "row", "action", "goal"]) (sc := defScope s_least) (by decide +kernel)) (fun _ _ _ _ _ => (kg_tup (K := K) (n := 2) rfl rfl (pgs_cons (pg_name (i := 7) sc_least.nd rfl (by first | exact Or.inl rfl | exact Or.inr rfl)) (pgs_cons (pg_name (i := 8) sc_least.nd rfl (by first | exact Or.inl rfl | exact Or.inr rfl)) pgs_nil)))) (fun _ _ _ _ _ => pts_nil) (fun _ _ _ _ _ => (pe_tup (pa_cons (pv 7) (pa_cons (pe_tup (pa_cons (pe_ix (kx_list (K := K) rfl) (pv 1) (pv 8) (fun _ _ => rfl)) pa_nil)) pa_nil))))) (pg_sub (pv 2) (pe_ix (kx_list (K := K) rfl) (pv 1) (pv 5) (fun _ _ => rfl)) set_list))
      (pss_one (ps_asg (pe_ix (kx_tup (K := K) rfl) (pe_ix (kx_tup (K := K) rfl) (pv 0) pe_int (fun _ _ => rfl)) (pv 5) (fun _ _ => rfl)) (pg_sub (pv 4) (pe_ix (kx_list (K := K) rfl) (pv 1) (pv 5) (fun _ _ => rfl)) set_list)))))
      (pss_one (ps_ret (pe_cl (o_subset_table T) (hr.mono (by decide)) (pa_cons (pe_tup (pa_cons (pe_ix (kx_list (K := K) rfl) (pv 1) pe_int (fun _ _ => rfl)) pa_nil)) (pa_cons (pv 2) (pa_cons (pv 4) (pa_cons (pe_callB (id := "len") (kc_len (K := K) rfl) (by rfl) T.n_len (by decide +kernel) (pa_cons (pv 1) pa_nil)) pa_nil)))))))))))), ?_⟩
  have big : (100000 : Nat) < sizeLine := by decide
  refine ⟨_, rfl, v, T', rfl, hT, hw, by omega, hrl, fun cb H1 s1 hcb0 hcb => ?_⟩
  have st := alike_ok hw
  have hU := ls_uni hw
  have hleast : least T' = subset [(alike T').getD 0 0] (lsMv T'.rows (alike T') T'.rows.length) (lsEn T'.rows T'.ends (alike T') T'.rows.length) (alike T').length := rfl
  rw [hleast] at hQ
  clear hleast
  generalize alike T' = cl at st hU hQ hcb
  have hcl := st.len
  have cllt : ∀ i, i < cl.length → cl.getD i 0 < cl.length := fun i hi => by
    rw [hcl]
    refine st.lt _ ?_
    rw [List.getD_eq_getElem?_getD, List.getElem?_eq_getElem hi]
    exact List.getElem_mem hi
  -- moves = [[] for _ in classes]
  refine ⟨_, rfl, cb, rfl, ⟨_, SqL.of hcb⟩, fun mb hmb => ?_⟩
  have hm0 : H mb = none := s1.free hmb
  refine lc_list (K := K) (a := cb) (xs := nV cl) (fun i H' => Same H1 H' ∧ ∃ ms, H' mb = some (.lst ms) ∧ Paired (RwX [mb] H') ms (List.replicate (min i cl.length) ([] : Grp))) ⟨same_new hmb, [], upd_same, by rw [Nat.zero_min]; exact .nil⟩ (fun i H' _ h => SqL.of (h.1 _ _ hcb)) ?_ ?_
  · rintro i x H' hi ⟨s2, ms, hmb2, hms⟩
    have hil := (List.getElem?_eq_some_iff.mp hi).1
    rw [nV_len] at hil
    refine ⟨rfl, Nat.zero_le _, fun e he => ?_⟩
    have s3 : Same H' (upd H' e (.lst [])) := same_new he
    have hml := Paired.length hms
    rw [List.length_replicate] at hml
    refine ⟨ms, s3 _ _ hmb2, by omega, same_put (s2.trans s3) hmb, ms ++ [.ref e], upd_same, ?_⟩
    have hne : e ≠ mb := fun z => by rw [z, hmb2] at he; cases he
    have erep : List.replicate (min (i + 1) cl.length) ([] : Grp) = List.replicate (min i cl.length) [] ++ [[]] := by
      rw [show min (i + 1) cl.length = min i cl.length + 1 by omega, List.replicate_succ']
    rw [erep]
    exact Paired.snoc (L2.Paired.mapP hms fun _ _ z => (z.mono s3).put (s3 _ _ hmb2) (by simp)) ⟨e, [], rfl, by simpa using hne, by rw [upd_ne hne, upd_same], .nil⟩
  rintro H2 ⟨s2, ms, hmb2, hms⟩
  rw [nV_len, Nat.min_self] at hms
  have hcb2 := s2 _ _ hcb
  -- ends = [False for _ in classes]
  refine ⟨_, rfl, cb, rfl, ⟨_, SqL.of hcb2⟩, fun eb heb => ?_⟩
  have he0 : H eb = none := s1.free (s2.free heb)
  refine lc_list (K := K) (a := cb) (xs := nV cl) (fun i H' => Same H2 H' ∧ H' eb = some (.lst ((List.replicate (min i cl.length) false).map V.bl))) ⟨same_new heb, by rw [Nat.zero_min]; exact upd_same⟩ (fun i H' _ h => SqL.of (h.1 _ _ hcb2)) ?_ ?_
  · rintro i x H' hi ⟨s3, heb3⟩
    have hil := (List.getElem?_eq_some_iff.mp hi).1
    rw [nV_len] at hil
    refine ⟨rfl, _, heb3, by rw [List.length_map, List.length_replicate]; omega, same_put s3 heb, ?_⟩
    rw [upd_same, show min (i + 1) cl.length = min i cl.length + 1 by omega, List.replicate_succ', List.map_append] <;> rfl
  rintro H3 ⟨s3, heb3⟩
  rw [nV_len, Nat.min_self] at heb3
  have hmb3 := s3 _ _ hmb2
  have hcb3 := s3 _ _ hcb2
  have hms3 := L2.Paired.mapP hms fun _ _ z => (z.more heb).mono s3
  have nme : mb ≠ eb := ne_of_none hmb2 heb
  have s13 := (s1.trans s2).trans s3
  have hT3 := hT.mono (Tp.of s13)
  have nmc : cb ≠ mb := ne_of_none hcb hmb
  have nec : cb ≠ eb := ne_of_none hcb2 heb
  obtain ⟨rr, xs, hrr, hxs, gr⟩ := gv_rows (K := K) (σ := [some v, some (.ref cb), some (.ref mb), none, some (.ref eb), none, none, none, none]) hT3 (gv_var (i := 0) rfl)
  refine gr _ ⟨rr, xs, rfl, SqT.of hrr, for_it (walk_enumT (K := K) (a := rr) (xs := xs)) (fun i σ H' => ∃ x3 x5 x6 x7 x8 ms, σ = [some v, some (.ref cb), some (.ref mb), x3, some (.ref eb), x5, x6, x7, x8] ∧ Same H H' ∧ Tp H3 H' ∧ H' cb = some (.lst (nV cl)) ∧
      H' mb = some (.lst ms) ∧ Paired (RwX [eb, mb] H') ms (lsMv T'.rows cl i) ∧ H' eb = some (.lst ((lsEn T'.rows T'.ends cl i).map V.bl)))
      ⟨_, _, _, _, _, ms, rfl, s13, Tp.refl _, hcb3, hmb3, by
        have e0 : lsMv T'.rows cl 0 = List.replicate cl.length [] := by unfold lsMv; simp
        rw [e0]; exact hms3, by
        have e0 : lsEn T'.rows T'.ends cl 0 = List.replicate cl.length false := by unfold lsEn; simp
        rw [e0]; exact heb3⟩ (fun i σ H' _ ⟨_, _, _, _, _, _, _, _, h, _⟩ => SqT.of (h _ _ hrr)) ?_ ?_⟩
  · rintro i x σ H4 H5 hi ⟨y3, y5, y6, y7, y8, ms4, rfl, s4, tp4, hcb4, hmb4, hms4, heb4⟩ ⟨t, x0, y0, rfl, ht, rfl, e1, e2⟩
    cases e1
    have e2 : xs[i]? = some y0 := e2
    obtain ⟨row, hrow, rb, ps, rfl, hrb, hps⟩ := pr_get' hxs e2
    have hir : i < T'.rows.length := (List.getElem?_eq_some_iff.mp hrow).1
    refine g_two upd_same ?_
    have s5 : Same H4 (upd H4 t (.tup [.int (i : Nat), .ref rb])) := same_new ht
    have tp5 := tp4.trans (Tp.of s5)
    have s45 := s4.trans s5
    have hcb5 := s5 _ _ hcb4
    have hmb5 := s5 _ _ hmb4
    have heb5 := s5 _ _ heb4
    have hms5 := L2.Paired.mapP hms4 fun _ _ z => z.mono s5
    generalize upd H4 t (.tup [.int (i : Nat), .ref rb]) = H5 at s5 tp5 s45 hcb5 hmb5 heb5 hms5
    have hps5 := L2.Paired.mapP hps fun _ _ z => z.mono tp5
    refine ⟨_, rfl, rb, rfl, ⟨_, SqT.of (tp5 _ _ hrb)⟩, fun D hD => ?_⟩
    refine lc_tup (K := K) (a := rb) (xs := ps) (fun j H6 => Same H5 H6 ∧ ∃ acc, H6 D = some (.lst acc) ∧ Paired (PrV H6) acc ((row.take j).map fun e => (e.1, [cl.getD e.2 0]))) ⟨same_new hD, [], upd_same, .nil⟩ (fun j H6 _ h => SqT.of (h.1 _ _ (tp5 _ _ hrb))) ?_ ?_
    · rintro j z H6 hj ⟨s6, acc, hD6, hacc⟩
      obtain ⟨p, hp, c, u, rfl, hc, hu⟩ := pr_get' hps5 hj
      refine g_two (s6 _ _ hc) ⟨rfl, ?_⟩
      have hpg : p.2 < cl.length := by rw [hcl]; exact hw.goal row (List.mem_of_getElem? hrow) p (List.mem_of_getElem? hp)
      refine ⟨_, rfl, _, rfl, _, rfl, cb, _, _, _, rfl, rfl, SqL.of (s6 _ _ hcb5), atI_nat (nV_at hpg), (by show 1 ≤ sizeLine; omega), fun g1 hg1 => (by show 2 ≤ sizeLine; omega : (2 : Nat) ≤ sizeLine) |> fun h2 => ⟨h2, fun t2 ht2 => ?_⟩⟩
      have s7 : Same H6 (upd H6 g1 (.tup [.int ((cl.getD p.2 0 : Nat) : Int)])) := same_new hg1
      have s8 := s7.trans (same_new (o := .tup [u, .ref g1]) ht2)
      have hal := Paired.length hacc
      rw [List.length_map, List.length_take] at hal
      have hrl2 := hrl row (List.mem_of_getElem? hrow)
      refine ⟨acc, s8 _ _ hD6, by omega, same_put (s6.trans s8) hD, acc ++ [.ref t2], upd_same, ?_⟩
      have tpz : Tp (upd (upd H6 g1 (.tup [.int ((cl.getD p.2 0 : Nat) : Int)])) t2 (.tup [u, .ref g1])) (upd (upd (upd H6 g1 (.tup [.int ((cl.getD p.2 0 : Nat) : Int)])) t2 (.tup [u, .ref g1])) D (.lst (acc ++ [.ref t2]))) := (Tp.refl _).put (s8 _ _ hD6) (fun _ z => nomatch z)
      rw [takec hp, List.map_append]
      exact Paired.snoc (L2.Paired.mapP hacc fun _ _ z => z.mono ((Tp.of s8).trans tpz)) ⟨t2, u, g1, rfl, tpz _ _ upd_same, (hu.mono (Tp.of (s6.trans s8))).mono tpz, tpz _ _ (same_new ht2 _ _ upd_same)⟩
    · rintro H6 ⟨s6, acc, hD6, hacc⟩
      rw [Paired.length hps5, List.take_length] at hacc
      have hmb6 := s6 _ _ hmb5
      have hcb6 := s6 _ _ hcb5
      have hml := Paired.length hms4
      rw [lsMv_len] at hml
      have hil : i < cl.length := by omega
      refine ⟨_, rfl, _, rfl, _, rfl, cb, _, _, _, rfl, rfl, SqL.of hcb6, atI_nat (nV_at hil), mb, ms4, _, cl.getD i 0, rfl, rfl, hmb6, ixN_nat (by rw [hml]; exact cllt i hil), ?_⟩
      have nDm : D ≠ mb := fun z => by rw [z, hmb5] at hD; cases hD
      have s56 := s45.trans s6
      have tp7 : Tp H6 (upd H6 mb (.lst (ms4.set (cl.getD i 0) (.ref D)))) := (Tp.refl H6).put hmb6 (fun _ z => nomatch z)
      have nDe : D ≠ eb := fun z => by rw [z, heb5] at hD; cases hD
      have hrwx : RwX [eb, mb] H6 (.ref D) (row.map fun e => (e.1, [cl.getD e.2 0])) := ⟨D, acc, rfl, by simp [nDm, nDe], hD6, hacc⟩
      have hms6 := L2.Paired.mapP hms5 fun _ _ z => z.mono s6
      have hms7 := L2.Paired.mapP (pr_set hrwx (cl.getD i 0) hms6) fun _ _ z => z.put (o := .lst (ms4.set (cl.getD i 0) (.ref D))) hmb6 (by simp)
      have hcb7 : (upd H6 mb (.lst (ms4.set (cl.getD i 0) (.ref D)))) cb = some (.lst (nV cl)) := by rw [upd_ne nmc]; exact hcb6
      have heb7 : (upd H6 mb (.lst (ms4.set (cl.getD i 0) (.ref D)))) eb = some (.lst ((lsEn T'.rows T'.ends cl i).map V.bl)) := by rw [upd_ne nme.symm]; exact s6 _ _ heb5
      have hmb7 : (upd H6 mb (.lst (ms4.set (cl.getD i 0) (.ref D)))) mb = some (.lst (ms4.set (cl.getD i 0) (.ref D))) := upd_same
      have s7 : Same H (upd H6 mb (.lst (ms4.set (cl.getD i 0) (.ref D)))) := same_put s56 hm0
      have tp37 := (tp5.trans (Tp.of s6)).trans tp7
      generalize upd H6 mb (.lst (ms4.set (cl.getD i 0) (.ref D))) = H7 at tp7 hms7 hcb7 heb7 hmb7 s7 tp37
      have hT7 := hT.mono (Tp.of s7)
      refine gv_end (K := K) hT7 (by rw [hw.lens]; exact hir) (gv_var rfl) (gv_var rfl) _ ?_
      have hel := lsEn_len T'.rows T'.ends cl i
      refine ⟨_, rfl, _, rfl, _, rfl, cb, _, _, _, rfl, rfl, SqL.of hcb7, atI_nat (nV_at hil), eb, _, _, cl.getD i 0, rfl, rfl, heb7, ixN_nat (by rw [List.length_map, hel]; exact cllt i hil), ?_⟩
      refine ⟨_, _, _, _, _, ms4.set (cl.getD i 0) (.ref D), rfl, same_put s7 he0, tp37.trans ((Tp.refl H7).put heb7 (fun _ z => nomatch z)), by rw [upd_ne nec]; exact hcb7, by rw [upd_ne nme]; exact hmb7, ?_, ?_⟩
      · rw [lsMv_succ hrow]
        exact L2.Paired.mapP hms7 fun _ _ z => z.put heb7 (by simp)
      · rw [upd_same, lsEn_succ hrow, List.map_set]
  · rintro σ H4 ⟨y3, y5, y6, y7, y8, ms4, rfl, s4, tp4, hcb4, hmb4, hms4, heb4⟩
    rw [Paired.length hxs] at hms4 heb4
    have hc0 : 0 < cl.length := by rw [hcl]; exact hw.pos
    refine ⟨_, rfl, cb, _, _, _, rfl, rfl, SqL.of hcb4, atI_nat (nV_at hc0), (by show 1 ≤ sizeLine; omega), fun sb hsb => ?_⟩
    have s5 : Same H4 (upd H4 sb (.tup [.int ((cl.getD 0 0 : Nat) : Int)])) := same_new hsb
    have s45 := s4.trans s5
    refine ⟨_, rfl, _, rfl, _, rfl, cb, _, rfl, .inl (SqL.of (s5 _ _ hcb4)), ?_⟩
    rw [nV_len]
    refine ⟨sb, .ref mb, .ref eb, cl.length, [cl.getD 0 0], lsMv T'.rows cl T'.rows.length, lsEn T'.rows T'.ends cl T'.rows.length, rfl, upd_same, ⟨mb, ms4, rfl, s5 _ _ hmb4, L2.Paired.mapP hms4 fun _ _ z => (z.mono s5).out⟩,
      ⟨eb, rfl, .inl (s5 _ _ heb4)⟩, by omega, ⟨_, hU, fun ns hns n hn => ?_, fun ns hns => ?_, fun ns hns => ?_⟩, fun r hr p hp g hg => ?_, fun v' H' s6 ht => hQ v' H' (s45.trans s6) ht⟩
    · obtain ⟨c, hc, rfl⟩ := List.mem_map.mp hns
      rw [List.mem_singleton] at hn
      subst hn
      have := List.mem_range.mp hc
      rw [lsMv_len, lsEn_len]
      omega
    · obtain ⟨c, hc, rfl⟩ := List.mem_map.mp hns
      rw [pairs_one, List.getD_eq_getElem?_getD]
      cases q : (lsMv T'.rows cl T'.rows.length)[c]? with
      | none => exact Nat.zero_le _
      | some m =>
        rcases (ls_spec st _ (Nat.le_refl _)).2 m (List.mem_of_getElem? q) with rfl | ⟨j, r, a1, rfl⟩
        · exact Nat.zero_le _
        · show (r.map _).length ≤ 5000
          rw [List.length_map]
          exact hrl r (List.mem_of_getElem? a1)
    · obtain ⟨c, hc, rfl⟩ := List.mem_map.mp hns
      show 1 ≤ 5000
      omega
    · rcases (ls_spec st _ (Nat.le_refl _)).2 r hr with rfl | ⟨j, r', a1, rfl⟩
      · cases hp
      · obtain ⟨e, he, rfl⟩ := List.mem_map.mp hp
        rw [List.mem_singleton.mp hg]
        have := cllt e.2 (by rw [hcl]; exact hw.goal r' (List.mem_of_getElem? a1) e he)
        omega
end Pk
set_option Elab.async false
set_option linter.all false
set_option maxRecDepth 100000
set_option maxHeartbeats 4000000
/-! The defs, 8: erased, machine_of, machines_of. -/
namespace Pk
open PySem PySem.Spec PyProof.Rows L2
variable {P : Program} {w : World} {K : PySem.W.Frag} {mg : Str → Option Value} {base : Heap}
theorem subs_small : ∀ (n : Nat) (l : List Nat), l ∈ subs n → l.length ≤ n ∧ ∀ x ∈ l, x < n
  | 0, l, h => by
    rw [show subs 0 = [[]] from rfl, List.mem_singleton] at h
    subst h
    exact ⟨Nat.le_refl _, fun x hx => nomatch hx⟩
  | n + 1, l, h => by
    rw [show subs (n + 1) = subs n ++ (subs n).map (· ++ [n]) from rfl] at h
    rcases List.mem_append.mp h with h | h
    · obtain ⟨a, b⟩ := subs_small n l h
      exact ⟨by omega, fun x hx => by have := b x hx; omega⟩
    · obtain ⟨m, hm, rfl⟩ := List.mem_map.mp h
      obtain ⟨a, b⟩ := subs_small n m hm
      refine ⟨by rw [List.length_append, List.length_singleton]; omega, fun x hx => ?_⟩
      rcases List.mem_append.mp hx with q | q
      · have := b x q; omega
      · rw [List.mem_singleton.mp q]; omega
/-- a table that is small enough -/
structure Sml (T : Tab) : Prop where
  wf : Wf T
  n : T.rows.length ≤ 5
  r : ∀ r ∈ T.rows, r.length ≤ 50
theorem mc_len {T : Tab} (s : Sml T) (p : Str) (ns : List Nat) : (pairsAt ns (mcMv T p)).length ≤ 50 * ns.length := by
  induction ns with
  | nil => exact Nat.le_refl _
  | cons n ns ih =>
    have e : pairsAt (n :: ns) (mcMv T p) = (mcMv T p).getD n [] ++ pairsAt ns (mcMv T p) := by unfold pairsAt; rw [List.flatMap_cons]
    rw [e, List.length_append, List.length_cons]
    have : ((mcMv T p).getD n []).length ≤ 50 := by
      unfold mcMv
      rw [List.getD_eq_getElem?_getD, List.getElem?_map]
      cases q : T.rows[n]? with
      | none => exact Nat.zero_le _
      | some r =>
        show ((r.filter fun e => con e.1 p).map fun e => (e.1, reach T p e.2)).length ≤ 50
        rw [List.length_map]
        have h1 := List.length_filter_le (fun e : Act × Nat => con e.1 p) r
        have h2 := s.r r (List.mem_of_getElem? q)
        omega
    omega
theorem mcU_small {T : Tab} {p : Str} {ns : List Nat} (h : ns ∈ mcU T p) : ns.length ≤ T.rows.length ∧ ∀ x ∈ ns, x < T.rows.length := subs_small _ _ (List.mem_filter.mp h).1
/-- the first subset table is small, too -/
theorem mc_sub {T : Tab} (s : Sml T) (p : Str) : Wf (subset (reach T p 0) (mcMv T p) T.ends 300) ∧ (subset (reach T p 0) (mcMv T p) T.ends 300).rows.length ≤ 32 ∧ ∀ r ∈ (subset (reach T p 0) (mcMv T p) T.ends 300).rows, r.length ≤ 5000 := by
  have hn := s.n
  have u := mc_uni s.wf p (by omega)
  obtain ⟨o, h1, h2, h3⟩ := subset_ok u T.ends
  refine ⟨subset_wf u _, ?_, fun r hr => ?_⟩
  · have := nodup_len h1.nd h1.sub
    have h4 : (mcU T p).length ≤ (subs T.rows.length).length := List.length_filter_le ..
    rw [subs_len] at h4
    have := Nat.pow_le_pow_right (show 0 < 2 by omega) hn
    omega
  · obtain ⟨i, hi⟩ := List.mem_iff_getElem?.mp hr
    obtain ⟨x, hx, rok⟩ := h1.row i r hi
    have e1 : r.length = (ent (grp x (mcMv T p))).length := by have := congrArg List.length rok.keys; rw [List.length_map, List.length_map] at this; exact this
    have e2 : (ent (grp x (mcMv T p))).length = (grp x (mcMv T p)).length := by unfold ent; rw [List.length_map, (sortA_perm _).length_eq, List.length_map]
    have e3 := grp_len x (mcMv T p)
    have e4 := mc_len s p x
    have e5 := (mcU_small (h1.sub x (List.mem_of_getElem? hx))).1
    omega
def spErased : Sp := fun vs H Q _ => ∃ (v : V) (p : Str) (T : Tab), vs = [v, .str p, .bl true] ∧ TabV H v T ∧ Sml T ∧ ∀ v' H', Same H H' → TabV H' v' (mach T p) → Q v' H'
theorem sc_erased : FnScope ["table", "party", "seen", "reach", "state", "moves", "row", "action", "goal"] ["table", "party", "seen"] (defScope s_erased) := ⟨rfl, rfl, rfl, by decide +kernel, rfl, by decide +kernel, by decide +kernel⟩
theorem o_erased (T : Txt K mg) : Ok P w K mg base CX0 "erased" 4 ["table", "party", "seen"] spErased :=
  ok_def T.d_erased T.g_erased sc_erased (fun _ _ _ _ _ _ us hl => match us, hl with | [_, _, _], _ => rfl) (fun vs H Q E h => by obtain ⟨_, _, _, rfl, _⟩ := h; rfl) fun cdv A outer s H vs Q E hr h => by
  obtain ⟨v, p, T', rfl, hT, hs, hQ⟩ := h
  obtain ⟨tMS, gMS⟩ := T.i_MOST_STATES
  refine ⟨_, (PSs.nox (pss_cons (ps_set (i := 3) sc_erased.nd rfl (by first | exact Or.inl rfl | exact Or.inr rfl) (pe_lc (own := [("state", 4)]) (tt := tYes) rfl sc_erased.nd (pi_range1 (by rfl) T.n_range (pa_cons (pe_callB (id := "len") (kc_len (K := K) rfl) (by rfl) T.n_len (by decide +kernel) (pa_cons (pe_ix (kx_tup (K := K) rfl) (pv 0) pe_int (fun _ _ => rfl)) pa_nil)) pa_nil)) (blkOk_by (N := ["table", "party", "seen", "reach", "state", "moves", "row", "action", "goal"]) (sc := defScope s_erased) (by decide +kernel)) (fun _ _ _ _ _ => (pg_name (i := 4) sc_erased.nd rfl (by first | exact Or.inl rfl | exact Or.inr rfl))) (fun _ _ _ _ _ => pts_nil) (fun _ _ _ _ _ => (pe_cl (o_reached_unseen T) (hr.mono (by decide)) (pa_cons (pv 0) (pa_cons (pv 4) (pa_cons (pv 1) (pa_cons (pv 2) pa_nil))))))))
      (pss_cons (ps_set (i := 5) sc_erased.nd rfl (by first | exact Or.inl rfl | exact Or.inr rfl) (pe_lst pa_nil))
      (pss_cons (ps_for PassesOwn.never rfl (ki_tup (K := K) rfl (pe_ix (kx_tup (K := K) rfl) (pv 0) pe_int (fun _ _ => rfl))) (pg_name (i := 6) sc_erased.nd rfl (by first | exact Or.inl rfl | exact Or.inr rfl)) (pss_one (ps_expr (pe_bm PySem.F.plainAttrs_list PySem.F.slot_list_append PySem.F.type_list_append mt_append (pv 5) (pa_cons (pe_lc (own := [("action", 7), ("goal", 8)]) rfl sc_erased.nd (ki_tup (K := K) rfl (pv 6)) (blkOk_by (N := ["table", "party", "seen", "reach", "state", "moves", "row", "action", "goal"]) (sc := defScope s_erased) (by decide +kernel)) (fun _ _ _ _ _ => (kg_tup (K := K) (n := 2) rfl rfl (pgs_cons (pg_name (i := 7) sc_erased.nd rfl (by first | exact Or.inl rfl | exact Or.inr rfl)) (pgs_cons (pg_name (i := 8) sc_erased.nd rfl (by first | exact Or.inl rfl | exact Or.inr rfl)) pgs_nil)))) (fun _ _ _ _ _ => (pts_one (pt_cmpR op_eq (pe_cl (o_concerns T) (hr.mono (by decide)) (pa_cons (pv 7) (pa_cons (pv 1) pa_nil))) (pv 2) (nomark _)))) (fun _ _ _ _ _ => (pe_tup (pa_cons (pv 7) (pa_cons (pe_ix (kx_list (K := K) rfl) (pv 3) (pv 8) (fun _ _ => rfl)) pa_nil))))) pa_nil)))))
      (pss_one (ps_ret (pe_cl (o_least T) (hr.mono (by decide)) (pa_cons (pe_cl (o_subset_table T) (hr.mono (by decide)) (pa_cons (pe_ix (kx_list (K := K) rfl) (pv 3) pe_int (fun _ _ => rfl)) (pa_cons (pv 5) (pa_cons (pe_ix (kx_tup (K := K) rfl) (pv 0) pe_int (fun _ _ => rfl)) (pa_cons (pe_glob (v := .int 300) rfl gMS ⟨_, rfl⟩) pa_nil))))) pa_nil)))))))), ?_⟩
  have hw := hs.wf
  have hn := hs.n
  have big : (100000 : Nat) < sizeLine := by decide
  obtain ⟨rr, xs, hrr, hxs, gr⟩ := gv_rows (K := K) (σ := start ["table", "party", "seen", "reach", "state", "moves", "row", "action", "goal"] [v, .str p, .bl true]) hT (gv_var (i := 0) rfl)
  have hxl : xs.length = T'.rows.length := Paired.length hxs
  refine gr _ ⟨rr, xs, rfl, .inr (SqT.of hrr), _, rfl, by omega, by omega, fun rc hrc => ?_⟩
  rw [show ((xs.length : Nat) : Int).toNat = T'.rows.length by omega]
  have hr0 := hrc
  refine lc_range (lo := 0) (n := T'.rows.length) (fun i H' => Same H H' ∧ ∃ rv, H' rc = some (.lst rv) ∧ Paired (NsV H') rv ((List.range i).map (reach T' p))) ⟨same_new hrc, [], upd_same, .nil⟩ ?_ ?_
  · rintro i H' hi ⟨s1, rv, hrc1, hrv⟩
    refine ⟨rfl, _, rfl, _, rfl, _, rfl, _, rfl, v, i, p, T', by rw [Int.zero_add, List.append_nil], hT.mono (Tp.of s1), hw, hi, by omega, fun b H2 s2 hb0 hb => ?_⟩
    have hl := Paired.length hrv
    rw [List.length_map, List.length_range] at hl
    have hbr : b ≠ rc := fun z => by rw [z, hrc1] at hb0; cases hb0
    have tpz : Tp H2 (upd H2 rc (.lst (rv ++ [.ref b]))) := (Tp.refl H2).put (s2 _ _ hrc1) (fun _ z => nomatch z)
    refine ⟨rv, s2 _ _ hrc1, by omega, same_put (s1.trans s2) hrc, rv ++ [.ref b], upd_same, ?_⟩
    rw [List.range_succ, List.map_append]
    exact Paired.snoc (L2.Paired.mapP hrv fun _ _ z => z.mono ((Tp.of s2).trans tpz)) ⟨b, rfl, tpz _ _ hb⟩
  rintro H1 ⟨s1, rv, hrc1, hrv⟩
  refine ⟨Nat.zero_le _, fun mb hmb => ?_⟩
  have hm0 : H mb = none := s1.free hmb
  have s2 := s1.trans (same_new (o := .lst []) hmb)
  have hrc2 : (upd H1 mb (.lst [])) rc = some (.lst rv) := same_new hmb _ _ hrc1
  have hrv2 := L2.Paired.mapP hrv fun _ _ z => z.mono (Tp.of (same_new (o := .lst []) hmb))
  have hmb2 : (upd H1 mb (.lst [])) mb = some (.lst []) := upd_same
  have nrm : rc ≠ mb := ne_of_none hrc1 hmb
  generalize upd H1 mb (.lst []) = H2 at s2 hrc2 hrv2 hmb2
  obtain ⟨rr2, xs2, hrr2, hxs2, gr2⟩ := gv_rows (K := K) (σ := [some v, some (.str p), some (.bl true), some (.ref rc), none, some (.ref mb), none, none, none]) (hT.mono (Tp.of s2)) (gv_var (i := 0) rfl)
  refine gr2 _ ⟨rr2, rfl, ⟨_, SqT.of hrr2⟩, for_tup (K := K) (a := rr2) (xs := xs2) (fun i σ H' => ∃ x6 x7 x8 ms, σ = [some v, some (.str p), some (.bl true), some (.ref rc), none, some (.ref mb), x6, x7, x8] ∧ Same H H' ∧ Tp H2 H' ∧ H' rc = some (.lst rv) ∧ H' mb = some (.lst ms) ∧ Paired (RwX [mb] H') ms ((mcMv T' p).take i))
    ⟨_, _, _, [], rfl, s2, Tp.refl _, hrc2, hmb2, .nil⟩ (fun i σ H' _ ⟨_, _, _, _, _, _, h, _⟩ => SqT.of (h _ _ hrr2)) ?_ ?_⟩
  · rintro i x σ H' hi ⟨y6, y7, y8, ms, rfl, s3, tp3, hrc3, hmb3, hms3⟩
    obtain ⟨row, hrow, rb, ps, rfl, hrb, hps⟩ := pr_get' hxs2 hi
    refine ⟨_, rfl, .inl ⟨rfl, _, SqL.of hmb3⟩, _, rfl, rb, rfl, ⟨_, SqT.of (tp3 _ _ hrb)⟩, fun D hD => ?_⟩
    have nDm : D ≠ mb := fun z => by rw [z, hmb3] at hD; cases hD
    refine lc_tup (K := K) (a := rb) (xs := ps) (fun j H5 => Same H' H5 ∧ ∃ acc, H5 D = some (.lst acc) ∧ Paired (PrV H5) acc (((row.take j).filter fun e => con e.1 p).map fun e => (e.1, reach T' p e.2))) ⟨same_new hD, [], upd_same, .nil⟩ (fun j H5 _ h => SqT.of (h.1 _ _ (tp3 _ _ hrb))) ?_ ?_
    · rintro j z H5 hj ⟨s5, acc, hD5, hacc⟩
      obtain ⟨e, he, c, u, rfl, hc, hu⟩ := pr_get' hps hj
      have tp5 := tp3.trans (Tp.of s5)
      refine g_two (tp5 _ _ hc) ⟨rfl, ?_⟩
      have hu5 := hu.mono tp5
      refine ⟨_, rfl, _, rfl, _, _, _, rfl, hu5, _, rfl, rfl, _, rfl, ?_⟩
      have ed : decide (V.bl (con e.1 p) = V.bl true) = con e.1 p := by cases con e.1 p <;> rfl
      rw [ed, takec he, List.filter_append, List.map_append]
      have hel : e.2 < T'.rows.length := hw.goal row (List.mem_of_getElem? hrow) e (List.mem_of_getElem? he)
      cases hcon : con e.1 p with
      | false =>
        have : [e].filter (fun e => con e.1 p) = [] := by rw [List.filter_cons, hcon] <;> rfl
        rw [this, List.map_nil, List.append_nil]
        exact iteF ⟨s5, acc, hD5, hacc⟩
      | true =>
        have ef : [e].filter (fun e => con e.1 p) = [e] := by rw [List.filter_cons, hcon] <;> rfl
        rw [ef]
        have hrc5 := s5 _ _ hrc3
        obtain ⟨w', hw', gb, rfl, hgb⟩ := pr_get hrv2 (show ((List.range T'.rows.length).map (reach T' p))[e.2]? = some (reach T' p e.2) by rw [List.getElem?_map, List.getElem?_range hel] <;> rfl)
        refine iteT ⟨_, rfl, _, rfl, _, rfl, rc, _, _, _, rfl, rfl, SqL.of hrc5, atI_nat hw', (by show 2 ≤ sizeLine; omega), fun t2 ht2 => ?_⟩
        have s6 : Same H5 (upd H5 t2 (.tup [u, .ref gb])) := same_new ht2
        have hal := Paired.length hacc
        have h1 := List.length_filter_le (fun e : Act × Nat => con e.1 p) (row.take j)
        rw [List.length_map] at hal
        rw [List.length_take] at h1
        have h2 := hs.r row (List.mem_of_getElem? hrow)
        have tpz : Tp (upd H5 t2 (.tup [u, .ref gb])) (upd (upd H5 t2 (.tup [u, .ref gb])) D (.lst (acc ++ [.ref t2]))) := (Tp.refl _).put (s6 _ _ hD5) (fun _ z => nomatch z)
        refine ⟨acc, s6 _ _ hD5, by omega, same_put (s5.trans s6) hD, acc ++ [.ref t2], upd_same, ?_⟩
        exact Paired.snoc (L2.Paired.mapP hacc fun _ _ z => z.mono ((Tp.of s6).trans tpz)) ⟨t2, u, gb, rfl, tpz _ _ upd_same, hu5.mono ((Tp.of s6).trans tpz), tpz _ _ (Tp.of s6 _ _ (tp5 _ _ hgb))⟩
    · rintro H5 ⟨s5, acc, hD5, hacc⟩
      rw [Paired.length hps, List.take_length] at hacc
      have hml := Paired.length hms3
      rw [List.length_take] at hml
      have hmb5 := s5 _ _ hmb3
      have hmcl : (mcMv T' p).length = T'.rows.length := by unfold mcMv; rw [List.length_map]
      refine ⟨mb, ms, _, rfl, rfl, hmb5, by omega, _, _, _, ms ++ [.ref D], rfl, same_put (s3.trans s5) hm0, tp3.trans ((Tp.of s5).put hmb5 (fun _ z => nomatch z)), by rw [upd_ne nrm]; exact s5 _ _ hrc3, upd_same, ?_⟩
      have hmi : (mcMv T' p)[i]? = some ((row.filter fun e => con e.1 p).map fun e => (e.1, reach T' p e.2)) := by
        unfold mcMv
        rw [List.getElem?_map, hrow] <;> rfl
      rw [takec hmi]
      exact Paired.snoc (L2.Paired.mapP hms3 fun _ _ z => (z.mono s5).put hmb5 (by simp)) (RwX.put hmb5 (by simp) ⟨D, acc, rfl, by simpa using nDm, hD5, hacc⟩)
  · rintro σ H' ⟨y6, y7, y8, ms, rfl, s3, tp3, hrc3, hmb3, hms3⟩
    have hmcl : (mcMv T' p).length = T'.rows.length := by unfold mcMv; rw [List.length_map]
    rw [Paired.length hxs2, ← hmcl, List.take_length] at hms3
    obtain ⟨w0, hw0, sb, rfl, hsb⟩ := pr_get hrv2 (show ((List.range T'.rows.length).map (reach T' p))[0]? = some (reach T' p 0) by rw [List.getElem?_map, List.getElem?_range hw.pos] <;> rfl)
    obtain ⟨ee, hee, ge⟩ := gv_ends (K := K) (σ := [some v, some (.str p), some (.bl true), some (.ref rc), none, some (.ref mb), y6, y7, y8]) (hT.mono (Tp.of s3)) (gv_var (i := 0) rfl)
    have hmc := mc_sub hs p
    refine ⟨_, rfl, rc, _, _, _, rfl, rfl, SqL.of hrc3, atI_nat (j := 0) hw0, _, rfl, ge _ ?_⟩
    refine ⟨sb, .ref mb, .ref ee, 300, reach T' p 0, mcMv T' p, T'.ends, rfl, tp3 _ _ hsb, ⟨mb, ms, rfl, hmb3, L2.Paired.mapP hms3 fun _ _ z => z.out⟩, ⟨ee, rfl, .inr hee⟩, Nat.le_refl _,
      ⟨mcU T' p, mc_uni hw p (by omega), fun ns hns n hn' => ?_, fun ns hns => ?_, fun ns hns => ?_⟩, fun r hr q hq g hg => ?_, fun v1 H4 s4 ht => ?_⟩
    · have := (mcU_small hns).2 n hn'
      rw [hmcl, hw.lens]
      omega
    · have h1 := mc_len hs p ns
      have h2 := (mcU_small hns).1
      omega
    · have h2 := (mcU_small hns).1
      omega
    · unfold mcMv at hr
      obtain ⟨r0, hr0, rfl⟩ := List.mem_map.mp hr
      obtain ⟨e0, he0, rfl⟩ := List.mem_map.mp hq
      unfold reach at hg
      have := List.mem_range.mp (List.mem_filter.mp hg).1
      omega
    · exact ⟨v1, _, rfl, ht, hmc.1, by omega, hmc.2.2, fun v2 H5 s5 ht2 => hQ v2 H5 ((s3.trans s4).trans s5) ht2⟩
def spMach : Sp := fun vs H Q _ => ∃ (v : V) (p : Str) (T : Tab), vs = [v, .str p] ∧ TabV H v T ∧ Sml T ∧ ∀ v' H', Same H H' → TabV H' v' (mach T p) → Q v' H'
theorem sc_machine_of : FnScope ["table", "party"] ["table", "party"] (defScope s_machine_of) := ⟨rfl, rfl, rfl, by decide +kernel, rfl, by decide +kernel, by decide +kernel⟩
theorem o_machine_of (T : Txt K mg) : Ok P w K mg base CX0 "machine_of" 5 ["table", "party"] spMach :=
  ok_def T.d_machine_of T.g_machine_of sc_machine_of (fun _ _ _ _ _ _ us hl => match us, hl with | [_, _], _ => rfl) (fun vs H Q E h => by obtain ⟨_, _, _, rfl, _⟩ := h; rfl) fun cdv A outer s H vs Q E hr h => by
  obtain ⟨v, p, T', rfl, hT, hs, hQ⟩ := h
  refine ⟨_, (PSs.nox (pss_one (ps_ret (pe_cl (o_erased T) (hr.mono (by decide)) (pa_cons (pv 0) (pa_cons (pv 1) (pa_cons pe_bl pa_nil))))))), ?_⟩
  exact ⟨_, rfl, _, rfl, v, p, T', rfl, hT, hs, hQ⟩
/-- machines by their parties -/
def MsV (H : Hp) (kvs : List (Key × V)) (ms : List (Str × Tab)) : Prop := Paired (fun kv m => kv.1 = kS m.1 ∧ TabV H kv.2 m.2) kvs ms
theorem MsV.mono {H H' : Hp} {kvs : List (Key × V)} {ms : List (Str × Tab)} (t : Tp H H') (h : MsV H kvs ms) : MsV H' kvs ms := L2.Paired.mapP h fun _ _ z => ⟨z.1, z.2.mono t⟩
noncomputable def machs (T : Tab) : List (Str × Tab) := (parties T).map fun p => (p, mach T p)
def spMachs : Sp := fun vs H Q _ => ∃ (v : V) (T : Tab), vs = [v] ∧ TabV H v T ∧ Sml T ∧ (parties T).length < 60 ∧ ∀ d H' kvs, Same H H' → H d = none → H' d = some (.dK kvs) → MsV H' kvs (machs T) → Q (.ref d) H'
theorem sc_machines_of : FnScope ["table", "party"] ["table"] (defScope s_machines_of) := ⟨rfl, rfl, rfl, by decide +kernel, rfl, by decide +kernel, by decide +kernel⟩
theorem o_machines_of (T : Txt K mg) : Ok P w K mg base CX0 "machines_of" 6 ["table"] spMachs :=
  ok_def T.d_machines_of T.g_machines_of sc_machines_of (fun _ _ _ _ _ _ us hl => match us, hl with | [_], _ => rfl) (fun vs H Q E h => by obtain ⟨_, _, rfl, _⟩ := h; rfl) fun cdv A outer s H vs Q E hr h => by
  obtain ⟨v, T', rfl, hT, hs, hp, hQ⟩ := h
  refine ⟨_, (PSs.nox (pss_one (ps_ret (pe_dcG (u0 := .dK []) (.inl rfl) (ru0 hr) (own := [("party", 1)]) (tt := tYes) rfl sc_machines_of.nd (ki_list (K := K) rfl (pe_cl (o_parties_of T) (hr.mono (by decide)) (pa_cons (pv 0) pa_nil))) (blkOk_by (N := ["table", "party"]) (sc := defScope s_machines_of) (by decide +kernel)) (fun _ _ _ _ _ => (pg_name (i := 1) sc_machines_of.nd rfl (by first | exact Or.inl rfl | exact Or.inr rfl))) (fun _ _ _ _ _ => pts_nil) (fun _ _ _ _ _ => (pv 1)) (fun _ _ _ _ _ => (pe_cl (o_machine_of T) (hr.mono (by decide)) (pa_cons (pv 0) (pa_cons (pv 1) pa_nil)))))))), ?_⟩
  have big : (100000 : Nat) < sizeLine := by decide
  refine ⟨_, rfl, v, T', rfl, hT, hp, fun b H1 s1 hb0 hb => ?_⟩
  refine ⟨b, rfl, ⟨_, SqL.of hb⟩, fun D hD => ?_⟩
  refine dcg_it (walk_list (K := K) (a := b) (xs := (parties T').map V.str)) (fun i H' => Same H1 H' ∧ ∃ kvs, H' D = some (.dK kvs) ∧ MsV H' kvs (((parties T').take i).map fun p => (p, mach T' p))) ⟨same_new hD, [], upd_same, .nil⟩ (fun i H' _ h => SqL.of (h.1 _ _ hb)) ?_ ?_
  · rintro i x H2 H3 hi ⟨s2, kvs, hD2, hk2⟩ ⟨rfl, hx⟩
    rw [List.getElem?_map] at hx
    cases hpi : (parties T')[i]? with
    | none => rw [hpi] at hx; cases hx
    | some q =>
      rw [hpi] at hx
      cases hx
      have hkl := Paired.length hk2
      rw [List.length_map, List.length_take] at hkl
      refine ⟨rfl, _, rfl, _, rfl, _, rfl, v, q, T', rfl, hT.mono (Tp.of (s1.trans s2)), hs, fun v' H4 s4 ht => ?_⟩
      refine ⟨_, DPut.k (k := kS q) (s4 _ _ hD2) (by omega), same_put (s2.trans s4) hD, ?_⟩
      have hno : valV kvs (kS q) = none := by
        refine val_no fun y hy => ?_
        obtain ⟨ii, hii⟩ := List.mem_iff_getElem?.mp hy
        obtain ⟨z, hz, m1, _⟩ := pr_get' hk2 hii
        rw [m1]
        intro e
        have e2 := kS_inj _ _ e
        rw [List.getElem?_map] at hz
        cases hz2 : ((parties T').take i)[ii]? with
        | none => rw [hz2] at hz; cases hz
        | some z2 =>
          rw [hz2] at hz
          cases hz
          have hii2 : ii < i := by
            have := (List.getElem?_eq_some_iff.mp hz2).1
            rw [List.length_take] at this
            omega
          rw [List.getElem?_take, if_pos hii2] at hz2
          obtain ⟨q1, q2⟩ := List.getElem?_eq_some_iff.mp hz2
          obtain ⟨q3, q4⟩ := List.getElem?_eq_some_iff.mp hpi
          have := List.pairwise_iff_getElem.mp (parties_nodup T') ii i q1 q3 hii2
          rw [q2, q4] at this
          exact this e2
      rw [putK_new _ hno]
      have tpz : Tp H4 (upd H4 D (.dK (kvs ++ [(kS q, v')]))) := (Tp.refl H4).put (s4 _ _ hD2) (fun _ z => nomatch z)
      refine ⟨_, upd_same, ?_⟩
      rw [takec hpi, List.map_append]
      exact Paired.snoc (hk2.mono ((Tp.of s4).trans tpz)) ⟨rfl, ht.mono tpz⟩
  · rintro H2 ⟨s2, kvs, hD2, hk2⟩
    rw [List.length_map, List.take_length] at hk2
    exact hQ D H2 kvs (s1.trans s2) (s1.free hD) hD2 hk2
end Pk
set_option Elab.async false
set_option linter.all false
set_option maxRecDepth 100000
set_option maxHeartbeats 2000000
/-! The plain part, 3: runs of the table and of its machines; joint states. -/
namespace Pk
open PySem L2
def seenBy (p : Str) (run : List Act) : List Act := run.filter fun a => con a p
theorem walk_app {T : Tab} : ∀ {s : Nat} {l l' : List Act}, T.walk s (l ++ l') = (T.walk s l).bind fun t => T.walk t l'
  | s, [], l' => rfl
  | s, a :: l, l' => by
    show (match T.step s a with | none => none | some t => T.walk t (l ++ l')) = ((match T.step s a with | none => none | some t => T.walk t l) : Option Nat).bind _
    cases h : T.step s a with
    | none => rfl
    | some t => exact walk_app
theorem walk_snoc {T : Tab} {s t : Nat} {l : List Act} {a : Act} (h : T.walk s l = some t) : T.walk s (l ++ [a]) = T.step t a := by
  rw [walk_app, h]
  show (match T.step t a with | none => none | some u => some u) = _
  cases T.step t a <;> rfl
theorem step_mem {T : Tab} {s t : Nat} {a : Act} (h : T.step s a = some t) : (a, t) ∈ T.row s := nx_mem h
theorem step_lt {T : Tab} (w : Wf T) {s t : Nat} {a : Act} (h : T.step s a = some t) : t < T.rows.length := w.goal _ (row_mem (step_mem h)) _ (step_mem h)
theorem walk_lt {T : Tab} (w : Wf T) : ∀ {l : List Act} {s t : Nat}, s < T.rows.length → T.walk s l = some t → t < T.rows.length
  | [], s, t, hs, h => by cases h; exact hs
  | a :: l, s, t, hs, h => by
    have h : (match T.step s a with | none => none | some u => T.walk u l) = some t := h
    cases q : T.step s a with
    | none => rw [q] at h; cases h
    | some u => rw [q] at h; exact walk_lt w (step_lt w q) h
theorem step_of {T : Tab} (w : Wf T) {s t : Nat} {a : Act} (h : (a, t) ∈ T.row s) : T.step s a = some t := nx_some (w.keys _ (row_mem h)) h
/-- the machine goes along a run, and has what the table has next -/
theorem sim_run {T M : Tab} {p : Str} (w : Wf T) (h : MOk T p M) {run : List Act} {s : Nat} (hr : T.walk 0 run = some s) :
    ∃ q, M.walk 0 (seenBy p run) = some q ∧ q < M.rows.length ∧ ∀ a t, T.step s a = some t → con a p = true → ∃ q', M.step q a = some q' := by
  obtain ⟨R, r0, r1, r2⟩ := h.sim
  have key : ∀ (run : List Act) (s q : Nat), R s q → ∀ s', T.walk s run = some s' → ∃ q', M.walk q (seenBy p run) = some q' ∧ R s' q' := by
    intro run
    induction run with
    | nil => intro s q hR s' hs; cases hs; exact ⟨q, rfl, hR⟩
    | cons a l ih =>
      intro s q hR s' hs
      have hs : (match T.step s a with | none => none | some u => T.walk u l) = some s' := hs
      cases q1 : T.step s a with
      | none => rw [q1] at hs; cases hs
      | some u =>
        rw [q1] at hs
        have h2 := r2 s q hR a u (step_mem q1)
        unfold seenBy
        rw [List.filter_cons]
        cases hc : con a p with
        | true =>
          rw [if_pos hc] at h2
          obtain ⟨q', e1, e2⟩ := h2
          obtain ⟨q'', e3, e4⟩ := ih u q' e2 s' hs
          refine ⟨q'', ?_, e4⟩
          show (match M.step q a with | none => none | some t => M.walk t (seenBy p l)) = _
          rw [e1]
          exact e3
        | false =>
          rw [if_neg (by rw [hc]; exact Bool.false_ne_true)] at h2
          exact ih u q h2 s' hs
  obtain ⟨q, e1, e2⟩ := key run 0 0 r0 s hr
  refine ⟨q, e1, r1 s q e2, fun a t hat hc => ?_⟩
  have h2 := r2 s q e2 a t (step_mem hat)
  rw [if_pos hc] at h2
  obtain ⟨q', e3, _⟩ := h2
  exact ⟨q', e3⟩
abbrev Mch := List (Str × Tab)
/-- run leads the table to s, and each machine to its state -/
structure Good (T : Tab) (ms : Mch) (run : List Act) (s : Nat) (qs : List Nat) : Prop where
  t : T.walk 0 run = some s
  m : PySem.Paired (fun q (m : Str × Tab) => m.2.walk 0 (seenBy m.1 run) = some q) qs ms
def nxq (a : Act) (q : Nat) (m : Str × Tab) : Nat := if con a m.1 = true then (m.2.step q a).getD 0 else q
def nxqs (a : Act) : List Nat → Mch → List Nat
  | q :: qs, m :: ms => nxq a q m :: nxqs a qs ms
  | _, _ => []
/-- what the machines are -/
structure MsOk (T : Tab) (ms : Mch) : Prop where
  wf : Wf T
  m : ∀ m ∈ ms, MOk T m.1 m.2
theorem good_start (T : Tab) : ∀ ms : Mch, Good T ms [] 0 (List.replicate ms.length 0)
  | [] => ⟨rfl, .nil⟩
  | m :: ms => ⟨rfl, .cons rfl (good_start T ms).m⟩
theorem pr_mem {α β : Type} {F G : α → β → Prop} : ∀ {xs : List α} {ys : List β}, PySem.Paired F xs ys → (∀ x y, y ∈ ys → F x y → G x y) → PySem.Paired G xs ys
  | _, _, .nil, _ => .nil
  | _, _, .cons h t, k => .cons (k _ _ List.mem_cons_self h) (pr_mem t fun x y hy => k x y (List.mem_cons_of_mem _ hy))
theorem pr_nxq {a : Act} {F G : Nat → Str × Tab → Prop} : ∀ {qs : List Nat} {ms : Mch}, PySem.Paired F qs ms → (∀ q m, m ∈ ms → F q m → G (nxq a q m) m) → PySem.Paired G (nxqs a qs ms) ms
  | _, _, .nil, _ => .nil
  | _, _, .cons h t, k => .cons (k _ _ List.mem_cons_self h) (pr_nxq t fun x y hy => k x y (List.mem_cons_of_mem _ hy))
/-- a machine has the action that concerns it, if the table has it -/
theorem Good.has {T : Tab} {ms : Mch} {run : List Act} {s : Nat} {qs : List Nat} (g : Good T ms run s qs) (o : MsOk T ms) {a : Act} {t : Nat} (ha : T.step s a = some t) :
    PySem.Paired (fun q (m : Str × Tab) => q < m.2.rows.length ∧ (con a m.1 = true → ∃ q', m.2.step q a = some q')) qs ms := by
  refine pr_mem g.m fun q m hm h => ?_
  obtain ⟨q0, e1, e2, e3⟩ := sim_run o.wf (o.m m hm) g.t
  rw [h] at e1
  cases e1
  exact ⟨e2, e3 a t ha⟩
theorem Good.lt {T : Tab} {ms : Mch} {run : List Act} {s : Nat} {qs : List Nat} (g : Good T ms run s qs) (o : MsOk T ms) :
    PySem.Paired (fun q (m : Str × Tab) => q < m.2.rows.length) qs ms := by
  refine pr_mem g.m fun q m hm h => ?_
  obtain ⟨q0, e1, e2, e3⟩ := sim_run o.wf (o.m m hm) g.t
  rw [h] at e1
  cases e1
  exact e2
theorem good_next {T : Tab} {ms : Mch} {run : List Act} {s : Nat} {qs : List Nat} (g : Good T ms run s qs) (o : MsOk T ms) {a : Act} {t : Nat} (ha : T.step s a = some t) : Good T ms (run ++ [a]) t (nxqs a qs ms) := by
  refine ⟨by rw [walk_snoc g.t]; exact ha, pr_nxq g.m fun q m hm h => ?_⟩
  obtain ⟨q0, e1, e2, e3⟩ := sim_run o.wf (o.m m hm) g.t
  rw [h] at e1
  cases e1
  unfold seenBy
  rw [List.filter_append]
  unfold nxq
  cases hc : con a m.1 with
  | true =>
    rw [if_pos rfl]
    have ef : [a].filter (fun a => con a m.1) = [a] := by rw [List.filter_cons, hc] <;> rfl
    rw [ef]
    obtain ⟨q', e4⟩ := e3 a t ha hc
    have : m.2.walk 0 (seenBy m.1 run ++ [a]) = m.2.step q a := walk_snoc h
    rw [e4]
    exact this.trans e4
  | false =>
    rw [if_neg Bool.false_ne_true]
    have ef : [a].filter (fun a => con a m.1) = [] := by rw [List.filter_cons, hc] <;> rfl
    rw [ef, List.append_nil]
    exact h
theorem Good.lts {T : Tab} {ms : Mch} {run : List Act} {s : Nat} {qs : List Nat} (g : Good T ms run s qs) (w : Wf T) : s < T.rows.length := walk_lt w w.pos g.t
theorem machs_ok {T : Tab} (s : Sml T) : MsOk T (machs T) := ⟨s.wf, fun m hm => by
  obtain ⟨p, _, rfl⟩ := List.mem_map.mp hm
  exact mach_ok s.wf p (by have := s.n; omega)⟩
theorem machs_names (T : Tab) : (machs T).map (·.1) = parties T := by
  unfold machs
  rw [List.map_map]
  exact List.map_id _
theorem machs_nodup (T : Tab) : ((machs T).map (·.1)).Nodup := by rw [machs_names]; exact parties_nodup T
/-- rows stay small -/
theorem least_rows {T : Tab} (w : Wf T) (hr : ∀ r ∈ T.rows, r.length ≤ 5000) : ∀ r ∈ (least T).rows, r.length ≤ 5000 := by
  intro r hrm
  have u := ls_uni w
  have st := alike_ok w
  obtain ⟨o, h1, h2, h3⟩ := subset_ok u (lsEn T.rows T.ends (alike T) T.rows.length)
  have h1 : SOk _ _ _ o (least T).rows := h1
  obtain ⟨i, hi⟩ := List.mem_iff_getElem?.mp hrm
  obtain ⟨x, hx, rok⟩ := h1.row i r hi
  have e1 : r.length = (ent (grp x (lsMv T.rows (alike T) T.rows.length))).length := by have := congrArg List.length rok.keys; rw [List.length_map, List.length_map] at this; exact this
  have e2 : (ent (grp x (lsMv T.rows (alike T) T.rows.length))).length = (grp x (lsMv T.rows (alike T) T.rows.length)).length := by unfold ent; rw [List.length_map, (sortA_perm _).length_eq, List.length_map]
  have e3 := grp_len x (lsMv T.rows (alike T) T.rows.length)
  obtain ⟨c, _, hc⟩ := List.mem_map.mp (h1.sub x (List.mem_of_getElem? hx))
  have hc : [c] = x := hc
  rw [← hc, pairs_one, List.getD_eq_getElem?_getD] at e3
  rw [← hc] at e1 e2
  have : ((lsMv T.rows (alike T) T.rows.length)[c]?.getD []).length ≤ 5000 := by
    cases q : (lsMv T.rows (alike T) T.rows.length)[c]? with
    | none => exact Nat.zero_le _
    | some m =>
      rcases (ls_spec st _ (Nat.le_refl _)).2 m (List.mem_of_getElem? q) with rfl | ⟨j, r', a1, rfl⟩
      · exact Nat.zero_le _
      · show (r'.map _).length ≤ 5000
        rw [List.length_map]
        exact hr r' (List.mem_of_getElem? a1)
  omega
theorem mach_rows {T : Tab} (s : Sml T) (p : Str) : ∀ r ∈ (mach T p).rows, r.length ≤ 5000 := least_rows (mc_sub s p).1 (mc_sub s p).2.2
end Pk
set_option Elab.async false
set_option linter.all false
set_option maxRecDepth 100000
set_option maxHeartbeats 4000000
/-! The defs, 9: next_joint, states_by_party, sends_at, view. -/
namespace Pk
open PySem PySem.Spec PyProof.Rows L2
variable {P : Program} {w : World} {K : PySem.W.Frag} {mg : Str → Option Value} {base : Heap}
/-! ### a lock -/
def SameX (d : Addr) (H H' : Hp) : Prop := ∀ x o, x ≠ d → H x = some o → H' x = some o
theorem SameX.tp {d : Addr} {H H' : Hp} {kvs : List (Key × V)} (h : SameX d H H') (hd : H d = some (.dK kvs)) : Tp H H' := fun b xs hb => h b _ (fun e => by rw [e, hd] at hb; cases hb) hb
theorem SameX.un {d : Addr} {H H' : Hp} {u : HO} (h : SameX d H H') (hd : H d = some u) : Same H (upd H' d u) := fun x o hx => by
  by_cases e : x = d
  · rw [e, upd_same]
    rw [e, hd] at hx
    exact hx
  · rw [upd_ne e]
    exact h x o e hx
theorem SameX.lock {d : Addr} {H : Hp} {o : HO} : SameX d H (upd H d o) := fun x u hx h => by rw [upd_ne hx]; exact h
theorem SameX.then {d : Addr} {H H1 H2 : Hp} (a : SameX d H H1) (b : Same H1 H2) : SameX d H H2 := fun x o hx h => b x o (a x o hx h)
theorem SameX.put {d p : Addr} {H H1 : Hp} {o : HO} (a : SameX d H H1) (h : H p = none) : SameX d H (upd H1 p o) := fun x u hx hh => by
  rw [upd_ne (ne_of_none hh h)]
  exact a x u hx hh
theorem SameX.put' {d p : Addr} {H H1 : Hp} {o : HO} (a : SameX d H H1) (h : H p = none) (_ : d ≠ p) : SameX d H (upd H1 p o) := a.put h
theorem SameX.fresh {d p : Addr} {H H1 : Hp} {od : Obj} {u : HO} (a : SameX d H H1) (hd : H1 d = some (.frz od u)) (h : H1 p = none) : H p = none ∧ p ≠ d := by
  have hp : p ≠ d := fun e => by rw [e, hd] at h; cases h
  refine ⟨?_, hp⟩
  cases q : H p with
  | none => rfl
  | some o => rw [a p o hp q] at h; cases h
/-! ### machines by name -/
theorem ms_get {H : Hp} {kvs : List (Key × V)} {ms : Mch} (h : MsV H kvs ms) : (ms.map (·.1)).Nodup → ∀ m ∈ ms, ∃ v, valV kvs (kS m.1) = some v ∧ TabV H v m.2 := by
  induction h with
  | nil => intro _ m hm; cases hm
  | @cons kv m' kvs ms r t ih =>
    intro nd m hm
    rw [List.map_cons, List.nodup_cons] at nd
    rcases List.mem_cons.mp hm with rfl | hm
    · exact ⟨kv.2, valV_pos r.1, r.2⟩
    · have : ¬ kv.1 = kS m.1 := fun e => by
        rw [r.1] at e
        exact nd.1 (List.mem_map.mpr ⟨m, hm, (kS_inj _ _ e).symm⟩)
      rw [valV_neg this]
      exact ih nd.2 m hm
theorem ms_key {H : Hp} {kvs : List (Key × V)} {ms : Mch} {i : Nat} {m : Str × Tab} (h : MsV H kvs ms) (hm : ms[i]? = some m) : ∃ v, kvs[i]? = some (kS m.1, v) ∧ TabV H v m.2 := by
  obtain ⟨⟨k, v⟩, h1, h2, h3⟩ := pr_get h hm
  have h2 : k = kS m.1 := h2
  subst h2
  exact ⟨v, h1, h3⟩
theorem nxqs_snoc (a : Act) (q : Nat) (m : Str × Tab) : ∀ (qs : List Nat) (ms : Mch), qs.length = ms.length → nxqs a (qs ++ [q]) (ms ++ [m]) = nxqs a qs ms ++ [nxq a q m]
  | [], [], _ => rfl
  | _ :: qs, _ :: ms, h => by
    show nxq a _ _ :: nxqs a (qs ++ [q]) (ms ++ [m]) = nxq a _ _ :: (nxqs a qs ms ++ [nxq a q m])
    rw [nxqs_snoc a q m qs ms (by simpa using h)]
  | [], _ :: _, h => by simp at h
  | _ :: _, [], h => by simp at h
theorem nxqs_len (a : Act) : ∀ (qs : List Nat) (ms : Mch), (nxqs a qs ms).length = min qs.length ms.length
  | [], [] => rfl
  | [], _ :: _ => by show 0 = _; simp
  | _ :: _, [] => by show 0 = _; simp
  | _ :: qs, _ :: ms => by
    show (nxqs a qs ms).length + 1 = _
    rw [nxqs_len a qs ms, List.length_cons, List.length_cons]
    omega
def spNextJoint : Sp := fun vs H Q _ => ∃ (v : V) (md jb : Addr) (u : V) (T : Tab) (ms : Mch) (kvs : List (Key × V)) (s : Nat) (qs : List Nat) (a : Act) (t : Nat), vs = [v, .ref md, .ref jb, u] ∧ TabV H v T ∧ s < T.rows.length ∧ H md = some (.dK kvs) ∧ MsV H kvs ms ∧ (ms.map (·.1)).Nodup ∧
  H jb = some (.tup (nV (s :: qs))) ∧ ActV H u a ∧ T.step s a = some t ∧ Paired (fun q (m : Str × Tab) => q < m.2.rows.length ∧ (con a m.1 = true → ∃ q', m.2.step q a = some q')) qs ms ∧ ms.length < 60 ∧
  ∀ b H', Same H H' → H b = none → H' b = some (.tup (nV (t :: nxqs a qs ms))) → Q (.ref b) H'
theorem sc_next_joint : FnScope ["table", "machines", "joint", "action", "states", "place", "party", "state"] ["table", "machines", "joint", "action"] (defScope s_next_joint) := ⟨rfl, rfl, rfl, by decide +kernel, rfl, by decide +kernel, by decide +kernel⟩
theorem o_next_joint (T : Txt K mg) : Ok P w K mg base CX0 "next_joint" 2 ["table", "machines", "joint", "action"] spNextJoint :=
  ok_def T.d_next_joint T.g_next_joint sc_next_joint (fun _ _ _ _ _ _ us hl => match us, hl with | [_, _, _, _], _ => rfl) (fun vs H Q E h => by obtain ⟨_, _, _, _, _, _, _, _, _, _, _, rfl, _⟩ := h; rfl) fun cdv A outer s H vs Q E hr h => by
  obtain ⟨v, md, jb, u, T', ms, kvs, s, qs, a, t, rfl, hT, hs, hmd, hms, hnd, hjb, hu, hst, hqs, hlt, hQ⟩ := h
  refine ⟨_, (PSs.nox (pss_cons (ps_set (i := 4) sc_next_joint.nd rfl (by first | exact Or.inl rfl | exact Or.inr rfl) (pe_lst (pa_cons (pe_cl (o_next_state T) (hr.mono (by decide)) (pa_cons (pv 0) (pa_cons (pe_ix (kx_tup (K := K) rfl) (pv 2) pe_int (fun _ _ => rfl)) (pa_cons (pv 3) pa_nil)))) pa_nil)))
      (pss_cons (ps_lock (ps_for PassesOwn.never rfl (pi_enumK (by rfl) T.n_enumerate (pa_cons (pv 1) pa_nil)) (kg_tup (K := K) (n := 2) rfl rfl (pgs_cons (pg_name (i := 5) sc_next_joint.nd rfl (by first | exact Or.inl rfl | exact Or.inr rfl)) (pgs_cons (pg_name (i := 6) sc_next_joint.nd rfl (by first | exact Or.inl rfl | exact Or.inr rfl)) pgs_nil))) (pss_cons (ps_set (i := 7) sc_next_joint.nd rfl (by first | exact Or.inl rfl | exact Or.inr rfl) (pe_ix (kx_tup (K := K) rfl) (pv 2) (pe_op op_add (pv 5) pe_int) (fun _ _ => rfl)))
      (pss_cons (ps_if (pt_val (pe_cl (o_concerns T) (hr.mono (by decide)) (pa_cons (pv 3) (pa_cons (pv 6) pa_nil)))) (pss_one (ps_set (i := 7) sc_next_joint.nd rfl (by first | exact Or.inl rfl | exact Or.inr rfl) (pe_cl (o_next_state T) (hr.mono (by decide)) (pa_cons (pe_dget (ru1 hr) (pv 1) (pv 6) (fun _ _ => rfl)) (pa_cons (pv 7) (pa_cons (pv 3) pa_nil)))))) pss_nil)
      (pss_one (ps_expr (pe_bm PySem.F.plainAttrs_list PySem.F.slot_list_append PySem.F.type_list_append mt_append (pv 4) (pa_cons (pv 7) pa_nil))))))))
      (pss_one (ps_ret (pe_callTy (T := "tuple") (kc_tuple (K := K) rfl) (by rfl) T.n_tuple (by decide +kernel) (pa_cons (pv 4) pa_nil))))))), ?_⟩
  have big : (100000 : Nat) < sizeLine := by decide
  have hkl : kvs.length = ms.length := Paired.length hms
  have hql : qs.length = ms.length := Paired.length hqs
  refine ⟨_, rfl, _, rfl, jb, _, _, _, rfl, rfl, SqT.of hjb, atI_nat (j := 0) rfl, _, rfl, v, s, u, T', a, rfl, hT, hs, hu, ?_⟩
  rw [hst]
  refine ⟨(by show 1 ≤ sizeLine; omega), fun sb hsb => ?_⟩
  have s1 : Same H (upd H sb (.lst [optI (some t)])) := same_new hsb
  have hmd1 := s1 _ _ hmd
  have nsm : sb ≠ md := fun e => by rw [e, hmd] at hsb; cases hsb
  refine ⟨md, _, hmd1, trivial, fun od => ?_⟩
  have sx : SameX md H (upd (upd H sb (.lst [optI (some t)])) md (.frz od (.dK kvs))) := fun x o hx h => by rw [upd_ne hx]; exact s1 _ _ h
  have hfz : (upd (upd H sb (.lst [optI (some t)])) md (.frz od (.dK kvs))) md = some (.frz od (.dK kvs)) := upd_same
  have hsb2 : (upd (upd H sb (.lst [optI (some t)])) md (.frz od (.dK kvs))) sb = some (.lst (nV (t :: nxqs a (qs.take 0) (ms.take 0)))) := by rw [upd_ne nsm, upd_same] <;> rfl
  generalize upd (upd H sb (.lst [optI (some t)])) md (.frz od (.dK kvs)) = H2 at sx hfz hsb2
  refine ⟨_, rfl, md, od, kvs, rfl, hfz, for_it (walk_enumK (d := md) (o := od) (kvs := kvs)) (fun i σ H' => ∃ x5 x6 x7, σ = [some v, some (.ref md), some (.ref jb), some u, some (.ref sb), x5, x6, x7] ∧ SameX md H H' ∧ H' md = some (.frz od (.dK kvs)) ∧ H' sb = some (.lst (nV (t :: nxqs a (qs.take i) (ms.take i)))))
    ⟨_, _, _, rfl, sx, hfz, hsb2⟩ (fun i σ H' _ ⟨_, _, _, _, _, h, _⟩ => h) ?_ ?_⟩
  · rintro i x σ H3 H4 hi ⟨y5, y6, y7, rfl, s3, hfz3, hsb3⟩ ⟨tt, x0, y0, rfl, htt, rfl, e1, e2⟩
    cases e1
    have him : i < ms.length := by omega
    obtain ⟨m, hm⟩ : ∃ m, ms[i]? = some m := ⟨_, List.getElem?_eq_getElem him⟩
    obtain ⟨q, hq, hq1, hq2⟩ := pr_get hqs hm
    obtain ⟨mv, hk1, _⟩ := ms_key hms hm
    have e2 : kvs[i]?.map (fun kv => kV kv.1) = some y0 := e2
    rw [hk1] at e2
    cases e2
    refine g_two upd_same ?_
    have s4 : Same H3 (upd H3 tt (.tup [.int (i : Nat), kV (kS m.1)])) := same_new htt
    have sx4 := s3.then s4
    have hfz4 := s4 _ _ hfz3
    have hsb4 := s4 _ _ hsb3
    generalize upd H3 tt (.tup [.int (i : Nat), kV (kS m.1)]) = H4 at s4 sx4 hfz4 hsb4
    have tp4 := sx4.tp hmd
    have hms4 := hms.mono tp4
    have hu4 := hu.mono tp4
    obtain ⟨mv', hv1, hv2⟩ := ms_get hms4 hnd m (List.mem_of_getElem? hm)
    have hjq : (nV (s :: qs))[i + 1]? = some (.int (q : Nat)) := by
      unfold nV
      rw [List.map_cons, List.getElem?_cons_succ, List.getElem?_map, hq] <;> rfl
    refine ⟨_, rfl, _, rfl, _, _, rfl, rfl, jb, _, _, _, rfl, rfl, SqT.of (tp4 _ _ hjb), atI_nat (j := i + 1) hjq, ?_⟩
    refine ⟨_, rfl, _, rfl, u, a, m.1, rfl, hu4, _, rfl, ?_⟩
    have enx : nxqs a (qs.take (i + 1)) (ms.take (i + 1)) = nxqs a (qs.take i) (ms.take i) ++ [nxq a q m] := by
      rw [takec hq, takec hm]
      exact nxqs_snoc _ _ _ _ _ (by rw [List.length_take, List.length_take, hql])
    have fin : ∀ (n : Nat) (H5 : Hp), n = nxq a q m → Same H4 H5 → tDrop (tBM K "list" rAppend (tVar 4) (tCons (tVar 7) tNil)) { nx := fun σ H' => ∃ x5 x6 x7, σ = [some v, some (.ref md), some (.ref jb), some u, some (.ref sb), x5, x6, x7] ∧ SameX md H H' ∧ H' md = some (.frz od (.dK kvs)) ∧ H' sb = some (.lst (nV (t :: nxqs a (qs.take (i + 1)) (ms.take (i + 1))))), rt := fun v H' => H' md = some (.frz od (.dK kvs)) ∧ Q v (upd H' md (.dK kvs)) } [some v, some (.ref md), some (.ref jb), some u, some (.ref sb), some (.int (i : Nat)), some (.str m.1), some (.int (n : Nat))] H5 := by
      rintro n H5 rfl s5
      have hsb5 := s5 _ _ hsb4
      refine ⟨_, rfl, .inl ⟨rfl, _, SqL.of hsb5⟩, _, rfl, sb, _, _, rfl, rfl, hsb5, ?_, _, _, _, rfl, (sx4.then s5).put hsb, by rw [upd_ne nsm.symm]; exact s5 _ _ hfz4, ?_⟩
      · rw [nV_len, List.length_cons, nxqs_len, List.length_take]
        omega
      · rw [upd_same, enx]
        unfold nV
        rw [List.map_cons, List.map_cons, List.map_append] <;> rfl
    cases hc : con a m.1 with
    | false =>
      refine iteF ?_
      exact fin q H4 (by unfold nxq; rw [if_neg (by rw [hc]; exact Bool.false_ne_true)]) (Same.refl _)
    | true =>
      refine iteT ?_
      obtain ⟨q', hq'⟩ := hq2 hc
      refine ⟨_, rfl, _, rfl, md, _, rfl, .inl ⟨kvs, kS m.1, .inr ⟨od, hfz4⟩, rfl, hv1.symm⟩, _, rfl, _, rfl, mv', q, u, m.2, a, rfl, hv2, hq1, hu4, ?_⟩
      rw [hq']
      exact fin q' H4 (by unfold nxq; rw [if_pos hc, hq'] <;> rfl) (Same.refl _)
  · rintro σ H3 ⟨y5, y6, y7, rfl, s3, hfz3, hsb3⟩
    rw [hkl, List.take_length, ← hql, List.take_length] at hsb3
    refine ⟨hfz3, ?_⟩
    have hs4 : (upd H3 md (.dK kvs)) sb = some (.lst (nV (t :: nxqs a qs ms))) := by rw [upd_ne nsm]; exact hsb3
    refine ⟨_, rfl, sb, _, rfl, .inl ⟨SqL.of hs4, fun b hb => ?_⟩⟩
    have s5 := s3.un hmd
    exact hQ b _ (s5.trans (same_new hb)) (s5.free hb) upd_same

def stK : Mch → List Nat → List (Key × V)
  | m :: ms, q :: qs => (kS m.1, .int (q : Nat)) :: stK ms qs
  | _, _ => []
theorem stK_snoc (q : Nat) (m : Str × Tab) : ∀ (ms : Mch) (qs : List Nat), qs.length = ms.length → stK (ms ++ [m]) (qs ++ [q]) = stK ms qs ++ [(kS m.1, .int (q : Nat))]
  | [], [], _ => rfl
  | _ :: ms, _ :: qs, h => by
    show _ :: stK (ms ++ [m]) (qs ++ [q]) = _ :: (stK ms qs ++ _)
    rw [stK_snoc q m ms qs (by simpa using h)]
  | _ :: _, [], h => by simp at h
  | [], _ :: _, h => by simp at h
theorem stK_keys : ∀ (ms : Mch) (qs : List Nat), ∀ y ∈ stK ms qs, ∃ m ∈ ms, y.1 = kS m.1
  | [], _, _, h => nomatch h
  | _ :: _, [], _, h => nomatch h
  | m :: ms, q :: qs, y, h => by
    rcases List.mem_cons.mp h with rfl | h
    · exact ⟨m, List.mem_cons_self, rfl⟩
    · obtain ⟨m', h1, h2⟩ := stK_keys ms qs y h
      exact ⟨m', List.mem_cons_of_mem _ h1, h2⟩
theorem stK_len : ∀ (ms : Mch) (qs : List Nat), (stK ms qs).length ≤ ms.length
  | [], _ => Nat.le_refl _
  | _ :: _, [] => Nat.zero_le _
  | m :: ms, q :: qs => by show (stK ms qs).length + 1 ≤ _; have := stK_len ms qs; rw [List.length_cons]; omega
theorem stK_val : ∀ {ms : Mch} {qs : List Nat} {i : Nat} {m : Str × Tab} {q : Nat}, (ms.map (·.1)).Nodup → ms[i]? = some m → qs[i]? = some q → valV (stK ms qs) (kS m.1) = some (.int (q : Nat))
  | m' :: ms, q' :: qs, 0, m, q, nd, hm, hq => by
    cases hm
    cases hq
    exact valV_pos rfl
  | m' :: ms, q' :: qs, i + 1, m, q, nd, hm, hq => by
    rw [List.map_cons, List.nodup_cons] at nd
    have hm' : ms[i]? = some m := hm
    have : ¬ kS m'.1 = kS m.1 := fun e => nd.1 (List.mem_map.mpr ⟨m, List.mem_of_getElem? hm', (kS_inj _ _ e).symm⟩)
    show valV ((kS m'.1, V.int (q' : Nat)) :: stK ms qs) (kS m.1) = _
    rw [valV_neg this]
    exact stK_val nd.2 hm' hq
  | [], _, _, _, _, _, hm, _ => by simp at hm
  | _ :: _, [], _, _, _, _, _, hq => by simp at hq
def spStates : Sp := fun vs H Q _ => ∃ (md jb : Addr) (ms : Mch) (kvs : List (Key × V)) (s : Nat) (qs : List Nat), vs = [.ref md, .ref jb] ∧ H md = some (.dK kvs) ∧ MsV H kvs ms ∧ (ms.map (·.1)).Nodup ∧ H jb = some (.tup (nV (s :: qs))) ∧ qs.length = ms.length ∧ ms.length < 60 ∧
  ∀ d H', Same H H' → H d = none → H' d = some (.dK (stK ms qs)) → Q (.ref d) H'
theorem sc_states_by_party : FnScope ["machines", "joint", "place", "party"] ["machines", "joint"] (defScope s_states_by_party) := ⟨rfl, rfl, rfl, by decide +kernel, rfl, by decide +kernel, by decide +kernel⟩
theorem o_states_by_party (T : Txt K mg) : Ok P w K mg base CX0 "states_by_party" 1 ["machines", "joint"] spStates :=
  ok_def T.d_states_by_party T.g_states_by_party sc_states_by_party (fun _ _ _ _ _ _ us hl => match us, hl with | [_, _], _ => rfl) (fun vs H Q E h => by obtain ⟨_, _, _, _, _, _, rfl, _⟩ := h; rfl) fun cdv A outer s H vs Q E hr h => by
  obtain ⟨md, jb, ms, kvs, s, qs, rfl, hmd, hms, hnd, hjb, hql, hlt, hQ⟩ := h
  refine ⟨_, (PSs.nox (pss_one (ps_ret (pe_lock (pe_dcG (u0 := .dK []) (.inl rfl) (ru0 hr) (own := [("place", 2), ("party", 3)]) (tt := tYes) rfl sc_states_by_party.nd (pi_enumK (by rfl) T.n_enumerate (pa_cons (pv 0) pa_nil)) (blkOk_by (N := ["machines", "joint", "place", "party"]) (sc := defScope s_states_by_party) (by decide +kernel)) (fun _ _ _ _ _ => (kg_tup (K := K) (n := 2) rfl rfl (pgs_cons (pg_name (i := 2) sc_states_by_party.nd rfl (by first | exact Or.inl rfl | exact Or.inr rfl)) (pgs_cons (pg_name (i := 3) sc_states_by_party.nd rfl (by first | exact Or.inl rfl | exact Or.inr rfl)) pgs_nil)))) (fun _ _ _ _ _ => pts_nil) (fun _ _ _ _ _ => (pv 3)) (fun _ _ _ _ _ => (pe_ix (kx_tup (K := K) rfl) (pv 1) (pe_op op_add (pv 2) pe_int) (fun _ _ => rfl)))))))), ?_⟩
  have big : (100000 : Nat) < sizeLine := by decide
  have hkl : kvs.length = ms.length := Paired.length hms
  refine ⟨md, _, hmd, trivial, fun od => ?_⟩
  have sx : SameX md H (upd H md (.frz od (.dK kvs))) := SameX.lock
  have hfz : (upd H md (.frz od (.dK kvs))) md = some (.frz od (.dK kvs)) := upd_same
  generalize upd H md (.frz od (.dK kvs)) = H2 at sx hfz
  refine ⟨_, rfl, md, od, kvs, rfl, hfz, fun D hD => ?_⟩
  have hf := sx.fresh hfz hD
  refine dcg_it (walk_enumK (d := md) (o := od) (kvs := kvs)) (fun i H' => SameX md H H' ∧ H' md = some (.frz od (.dK kvs)) ∧ H' D = some (.dK (stK (ms.take i) (qs.take i)))) ⟨sx.put hf.1, by rw [upd_ne hf.2.symm]; exact hfz, upd_same⟩ (fun i H' _ h => h.2.1) ?_ ?_
  · rintro i x H3 H4 hi ⟨s3, hfz3, hD3⟩ ⟨tt, x0, y0, rfl, htt, rfl, e1, e2⟩
    cases e1
    have him : i < ms.length := by omega
    obtain ⟨m, hm⟩ : ∃ m, ms[i]? = some m := ⟨_, List.getElem?_eq_getElem him⟩
    obtain ⟨q, hq⟩ : ∃ q, qs[i]? = some q := ⟨_, List.getElem?_eq_getElem (by omega)⟩
    obtain ⟨mv, hk1, _⟩ := ms_key hms hm
    have e2 : kvs[i]?.map (fun kv => kV kv.1) = some y0 := e2
    rw [hk1] at e2
    cases e2
    unfold DcTurn
    refine g_two upd_same ⟨rfl, ?_⟩
    have s4 : Same H3 (upd H3 tt (.tup [.int (i : Nat), kV (kS m.1)])) := same_new htt
    have sx4 := s3.then s4
    have hfz4 := s4 _ _ hfz3
    have hD4 := s4 _ _ hD3
    generalize upd H3 tt (.tup [.int (i : Nat), kV (kS m.1)]) = H4 at s4 sx4 hfz4 hD4
    have tp4 := sx4.tp hmd
    have hjq : (nV (s :: qs))[i + 1]? = some (.int (q : Nat)) := by
      unfold nV
      rw [List.map_cons, List.getElem?_cons_succ, List.getElem?_map, hq] <;> rfl
    have hsl := stK_len (ms.take i) (qs.take i)
    rw [List.length_take] at hsl
    refine ⟨_, rfl, _, rfl, _, rfl, _, _, rfl, rfl, jb, _, _, _, rfl, rfl, SqT.of (tp4 _ _ hjb), atI_nat (j := i + 1) hjq, _, DPut.k (k := kS m.1) hD4 (by omega), sx4.put hf.1, by rw [upd_ne hf.2.symm]; exact hfz4, ?_⟩
    have hno : valV (stK (ms.take i) (qs.take i)) (kS m.1) = none := by
      refine val_no fun y hy e => ?_
      obtain ⟨m', hm', e2⟩ := stK_keys _ _ y hy
      rw [e2] at e
      have e3 := kS_inj _ _ e
      obtain ⟨ii, hii⟩ := List.mem_iff_getElem?.mp hm'
      have hii2 : ii < i := by
        have := (List.getElem?_eq_some_iff.mp hii).1
        rw [List.length_take] at this
        omega
      rw [List.getElem?_take, if_pos hii2] at hii
      obtain ⟨q1, q2⟩ := List.getElem?_eq_some_iff.mp hii
      obtain ⟨q3, q4⟩ := List.getElem?_eq_some_iff.mp hm
      have := List.pairwise_iff_getElem.mp hnd ii i (by rw [List.length_map]; exact q1) (by rw [List.length_map]; exact q3) hii2
      rw [List.getElem_map, List.getElem_map, q2, q4] at this
      exact this e3
    rw [upd_same, putK_new _ hno, takec hm, takec hq, stK_snoc _ _ _ _ (by rw [List.length_take, List.length_take, hql])]
  · rintro H3 ⟨s3, hfz3, hD3⟩
    rw [hkl, List.take_length, ← hql, List.take_length] at hD3
    exact ⟨hfz3, hQ D _ (s3.un hmd) hf.1 (by rw [upd_ne hf.2]; exact hD3)⟩

/-- the actions that senders' machines have -/
def SendsAt (ms : Mch) (qs : List Nat) (a : Act) : Prop := ∃ (i : Nat) (m : Str × Tab) (q : Nat), ms[i]? = some m ∧ qs[i]? = some q ∧ a.1 = m.1 ∧ ∃ t, (a, t) ∈ m.2.row q
def spSends : Sp := fun vs H Q _ => ∃ (md sd : Addr) (ms : Mch) (kvs : List (Key × V)) (qs : List Nat), vs = [.ref md, .ref sd] ∧ H md = some (.dK kvs) ∧ MsV H kvs ms ∧ (ms.map (·.1)).Nodup ∧ H sd = some (.dK (stK ms qs)) ∧ Paired (fun q (m : Str × Tab) => q < m.2.rows.length) qs ms ∧ ms.length < 60 ∧
  (∀ m ∈ ms, ∀ r ∈ m.2.rows, r.length ≤ 5000) ∧ ∀ b H' ys as, Same H H' → H b = none → H' b = some (.lst ys) → Paired (ActV H') ys as → (∀ a, a ∈ as ↔ SendsAt ms qs a) → as.length ≤ 300000 → Q (.ref b) H'
theorem sc_sends_at : FnScope ["machines", "states", "actions", "party", "action", "_"] ["machines", "states"] (defScope s_sends_at) := ⟨rfl, rfl, rfl, by decide +kernel, rfl, by decide +kernel, by decide +kernel⟩
theorem o_sends_at (T : Txt K mg) : Ok P w K mg base CX0 "sends_at" 1 ["machines", "states"] spSends :=
  ok_def T.d_sends_at T.g_sends_at sc_sends_at (fun _ _ _ _ _ _ us hl => match us, hl with | [_, _], _ => rfl) (fun vs H Q E h => by obtain ⟨_, _, _, _, _, rfl, _⟩ := h; rfl) fun cdv A outer s H vs Q E hr h => by
  obtain ⟨md, sd, ms, kvs, qs, rfl, hmd, hms, hnd, hsd, hqs, hlt, hrl, hQ⟩ := h
  refine ⟨_, (PSs.nox (pss_cons (ps_set (i := 2) sc_sends_at.nd rfl (by first | exact Or.inl rfl | exact Or.inr rfl) (pe_lst pa_nil))
      (pss_cons (ps_lock (ps_for PassesOwn.never rfl (pi_keys (pv 0)) (pg_name (i := 3) sc_sends_at.nd rfl (by first | exact Or.inl rfl | exact Or.inr rfl)) (pss_one (ps_for PassesOwn.never rfl (ki_tup (K := K) rfl (pe_ix (kx_tup (K := K) rfl) (pe_ix (kx_tup (K := K) rfl) (pe_dget (ru1 hr) (pv 0) (pv 3) (fun _ _ => rfl)) pe_int (fun _ _ => rfl)) (pe_dget (ru1 hr) (pv 1) (pv 3) (fun _ _ => rfl)) (fun _ _ => rfl))) (kg_tup (K := K) (n := 2) rfl rfl (pgs_cons (pg_name (i := 4) sc_sends_at.nd rfl (by first | exact Or.inl rfl | exact Or.inr rfl)) (pgs_cons (pg_name (i := 5) sc_sends_at.nd rfl (by first | exact Or.inl rfl | exact Or.inr rfl)) pgs_nil))) (pss_one (ps_if (pt_cmpR op_eq (pe_ix (kx_tup (K := K) rfl) (pv 4) pe_int (fun _ _ => rfl)) (pv 3) (nomark _)) (pss_one (ps_expr (pe_bm PySem.F.plainAttrs_list PySem.F.slot_list_append PySem.F.type_list_append mt_append (pv 2) (pa_cons (pv 4) pa_nil)))) pss_nil))))))
      (pss_one (ps_ret (pe_callB (id := "sorted") (kc_sortR (K := K) rfl (ru64 hr)) (by rfl) T.n_sorted (by decide +kernel) (pa_cons (pv 2) pa_nil))))))), ?_⟩
  have big : (400000 : Nat) < sizeLine := by decide
  have hkl : kvs.length = ms.length := Paired.length hms
  have hql : qs.length = ms.length := Paired.length hqs
  refine ⟨Nat.zero_le _, fun ab hab => ?_⟩
  have s1 : Same H (upd H ab (.lst [])) := same_new hab
  have nam : ab ≠ md := fun e => by rw [e, hmd] at hab; cases hab
  refine ⟨md, _, s1 _ _ hmd, trivial, fun od => ?_⟩
  have sx : SameX md H (upd (upd H ab (.lst [])) md (.frz od (.dK kvs))) := fun x o hx h => by rw [upd_ne hx]; exact s1 _ _ h
  have hfz : (upd (upd H ab (.lst [])) md (.frz od (.dK kvs))) md = some (.frz od (.dK kvs)) := upd_same
  have hab2 : (upd (upd H ab (.lst [])) md (.frz od (.dK kvs))) ab = some (.lst []) := by rw [upd_ne nam, upd_same]
  generalize upd (upd H ab (.lst [])) md (.frz od (.dK kvs)) = H2 at sx hfz hab2
  have rsd : ∀ H', SameX md H H' → H' md = some (.frz od (.dK kvs)) → Rd H' sd (.dK (stK ms qs)) := fun H' h1 h2 => by
    by_cases e : sd = md
    · rw [e, hmd] at hsd
      have h3 := Option.some.inj hsd
      rw [e, ← h3]
      exact .inr ⟨od, h2⟩
    · exact .inl (h1 _ _ e hsd)
  refine ⟨_, rfl, md, od, rfl, .inl ⟨kvs, hfz, for_it (walk_keys (d := md) (o := od) (kvs := kvs)) (fun i σ H' => ∃ x3 x4 x5 ys as, σ = [some (.ref md), some (.ref sd), some (.ref ab), x3, x4, x5] ∧ SameX md H H' ∧ H' md = some (.frz od (.dK kvs)) ∧ H' ab = some (.lst ys) ∧ Paired (ActV H') ys as ∧
      (∀ a, a ∈ as ↔ ∃ i', i' < i ∧ ∃ (m : Str × Tab) (q : Nat), ms[i']? = some m ∧ qs[i']? = some q ∧ a.1 = m.1 ∧ ∃ t, (a, t) ∈ m.2.row q) ∧ as.length ≤ i * 5000) ⟨_, _, _, [], [], rfl, sx, hfz, hab2, .nil, fun a => ⟨(fun h => nomatch h), fun ⟨_, h, _⟩ => absurd h (Nat.not_lt_zero _)⟩, Nat.zero_le _⟩ (fun i σ H' _ ⟨_, _, _, _, _, _, _, h, _⟩ => h) ?_ ?_⟩⟩
  · rintro i x σ H3' H3 hi ⟨y3, y4, y5, ys, as, rfl, s3, hfz3, hab3, hys, hmem, hal⟩ ⟨rfl, k, mv0, hk, rfl⟩
    have him : i < ms.length := by omega
    obtain ⟨m, hm⟩ : ∃ m, ms[i]? = some m := ⟨_, List.getElem?_eq_getElem him⟩
    obtain ⟨q, hq, hq1⟩ := pr_get hqs hm
    obtain ⟨mv, hk1, _⟩ := ms_key hms hm
    rw [hk1] at hk
    cases hk
    have tp3 := s3.tp hmd
    have hms3 := hms.mono tp3
    obtain ⟨mv', hv1, hv2⟩ := ms_get hms3 hnd m (List.mem_of_getElem? hm)
    have g1 : Gv (tDGet (tVar 0) (tVar 3)) [some (.ref md), some (.ref sd), some (.ref ab), some (kV (kS m.1)), y4, y5] H3 mv' := fun Q q => ⟨_, rfl, _, rfl, md, _, rfl, .inl ⟨kvs, kS m.1, .inr ⟨od, hfz3⟩, rfl, hv1.symm⟩, q⟩
    have g2 : Gv (tDGet (tVar 1) (tVar 3)) [some (.ref md), some (.ref sd), some (.ref ab), some (kV (kS m.1)), y4, y5] H3 (.int (q : Nat)) := fun Q z => ⟨_, rfl, _, rfl, sd, _, rfl, .inl ⟨stK ms qs, kS m.1, rsd H3 s3 hfz3, rfl, (stK_val hnd hm hq).symm⟩, z⟩
    obtain ⟨b, xs, hb, hxs, g⟩ := gv_row (K := K) hv2 hq1 g1 g2
    refine g _ ⟨b, rfl, ⟨_, SqT.of hb⟩, for_tup (K := K) (a := b) (xs := xs) (fun j σ H' => ∃ x4 x5 ys as, σ = [some (.ref md), some (.ref sd), some (.ref ab), some (kV (kS m.1)), x4, x5] ∧ SameX md H H' ∧ Tp H3 H' ∧ H' md = some (.frz od (.dK kvs)) ∧ H' ab = some (.lst ys) ∧ Paired (ActV H') ys as ∧
      (∀ a, a ∈ as ↔ (∃ i', i' < i ∧ ∃ (m : Str × Tab) (q : Nat), ms[i']? = some m ∧ qs[i']? = some q ∧ a.1 = m.1 ∧ ∃ t, (a, t) ∈ m.2.row q) ∨ a.1 = m.1 ∧ ∃ t, (a, t) ∈ (m.2.row q).take j) ∧ as.length ≤ i * 5000 + j) ⟨_, _, ys, as, rfl, s3, Tp.refl _, hfz3, hab3, hys, fun a => by rw [hmem a]; simp, hal⟩ (fun j σ H' _ ⟨_, _, _, _, _, _, h, _⟩ => SqT.of (h _ _ hb)) ?_ ?_⟩
    · rintro j x σ H4 hj ⟨y4, y5, ys, as, rfl, s4, tp4, hfz4, hab4, hys4, hmem4, hal4⟩
      obtain ⟨p, hp, c, z, rfl, hc, hz⟩ := pr_get' hxs hj
      refine g_two (tp4 _ _ hc) ?_
      have hz4 := hz.mono tp4
      refine gv_act0 hz4 (gv_var rfl) _ ⟨_, rfl, rfl, _, rfl, ?_⟩
      have ed : decide (V.str p.1.1 = V.str m.1) = decide (p.1.1 = m.1) := by simp
      have ed' : decide (V.str p.1.1 = kV (kS m.1)) = decide (p.1.1 = m.1) := ed
      rw [ed']
      refine ite2 (fun c => ?_) (fun c => ?_)
      · have c := of_decide_eq_true c
        have hrow := hrl m (List.mem_of_getElem? hm) (m.2.row q)
        have hjl : j < (m.2.row q).length := (List.getElem?_eq_some_iff.mp hp).1
        have hrm : m.2.row q ∈ m.2.rows := row_mem (List.mem_of_getElem? hp)
        have h5 := hrow hrm
        have hyl := Paired.length hys4
        refine ⟨_, rfl, .inl ⟨rfl, _, SqL.of hab4⟩, _, rfl, ab, ys, _, rfl, rfl, hab4, by omega, _, _, ys ++ [z], as ++ [p.1], rfl, s4.put' hab nam.symm, tp4.trans ((Tp.refl H4).put hab4 fun _ z => nomatch z), by rw [upd_ne nam.symm]; exact hfz4, upd_same, Paired.snoc (L2.Paired.mapP hys4 fun _ _ z => z.mono ((Tp.refl H4).put hab4 fun _ z => nomatch z)) (hz4.mono ((Tp.refl H4).put hab4 fun _ z => nomatch z)), fun a => ?_, by rw [List.length_append, List.length_singleton]; omega⟩
        rw [List.mem_append, hmem4 a, List.mem_singleton, takec hp]
        constructor
        · rintro ((h | ⟨h1, t, h2⟩) | rfl)
          · exact .inl h
          · exact .inr ⟨h1, t, List.mem_append_left _ h2⟩
          · exact .inr ⟨c, p.2, List.mem_append_right _ (List.mem_singleton.mpr rfl)⟩
        · rintro (h | ⟨h1, t, h2⟩)
          · exact .inl (.inl h)
          · rcases List.mem_append.mp h2 with h2 | h2
            · exact .inl (.inr ⟨h1, t, h2⟩)
            · right
              have := List.mem_singleton.mp h2
              rw [← this]
      · have c : ¬ p.1.1 = m.1 := fun e => c (decide_eq_true e)
        refine ⟨_, _, ys, as, rfl, s4, tp4, hfz4, hab4, hys4, fun a => ?_, by omega⟩
        rw [hmem4 a, takec hp]
        constructor
        · rintro (h | ⟨h1, t, h2⟩)
          · exact .inl h
          · exact .inr ⟨h1, t, List.mem_append_left _ h2⟩
        · rintro (h | ⟨h1, t, h2⟩)
          · exact .inl h
          · rcases List.mem_append.mp h2 with h2 | h2
            · exact .inr ⟨h1, t, h2⟩
            · have := List.mem_singleton.mp h2
              rw [← this] at c
              exact absurd h1 c
    · rintro σ H4 ⟨y4, y5, ys, as, rfl, s4, tp4, hfz4, hab4, hys4, hmem4, hal4⟩
      rw [Paired.length hxs] at hal4
      have hl5 : (m.2.row q).length ≤ 5000 := by
        cases hr : m.2.row q with
        | nil => exact Nat.zero_le _
        | cons e r =>
          have : e ∈ m.2.row q := by rw [hr]; exact List.mem_cons_self
          rw [← hr]
          exact hrl m (List.mem_of_getElem? hm) _ (row_mem this)
      refine ⟨_, _, _, ys, as, rfl, s4, hfz4, hab4, hys4, fun a => ?_, by omega⟩
      rw [hmem4 a, Paired.length hxs, List.take_length]
      constructor
      · rintro (⟨i', h1, h2⟩ | ⟨h1, t, h2⟩)
        · exact ⟨i', by omega, h2⟩
        · exact ⟨i, by omega, m, q, hm, hq, h1, t, h2⟩
      · rintro ⟨i', h1, m', q', h2, h3, h4, t, h5⟩
        by_cases e : i' = i
        · subst e
          rw [hm] at h2
          rw [hq] at h3
          cases h2
          cases h3
          exact .inr ⟨h4, t, h5⟩
        · exact .inl ⟨i', by omega, m', q', h2, h3, h4, t, h5⟩
  · rintro σ H3 ⟨y3, y4, y5, ys, as, rfl, s3, hfz3, hab3, hys, hmem, hal⟩
    refine ⟨hfz3, ?_⟩
    have s5 := s3.un hmd
    have tpu : Tp H3 (upd H3 md (.dK kvs)) := (Tp.refl H3).put hfz3 (fun _ z => nomatch z)
    have hab5 : (upd H3 md (.dK kvs)) ab = some (.lst ys) := by rw [upd_ne nam]; exact hab3
    refine ⟨_, rfl, Act, ActV (upd H3 md (.dK kvs)), (fun a => tkD (kA a)), as, ab, ys, rfl, SqL.of hab5, L2.Paired.mapP hys (fun _ _ z => z.mono tpu), fun x b h => h.dp, dA_alike as, dA_sortable as, fun b _ => dA_depth b, fun p zs hp hzs => ?_⟩
    have pe : (as.mergeSort (PySem.W.dataLe false fun a => tkD (kA a))).Perm as := List.mergeSort_perm ..
    refine hQ p _ zs _ (s5.trans (same_new hp)) (s5.free hp) upd_same (L2.Paired.mapP hzs fun _ _ z => z.mono (Tp.new hp)) (fun a => ?_) (by rw [pe.length_eq]; omega)
    rw [pe.mem_iff, hmem a]
    constructor
    · rintro ⟨i', h1, m, q, h2⟩
      exact ⟨i', m, q, h2⟩
    · rintro ⟨i', m, q, h2⟩
      exact ⟨i', by have := (List.getElem?_eq_some_iff.mp h2.1).1; omega, m, q, h2⟩

def spView : Sp := fun vs H Q _ => ∃ (lb : Addr) (p : Str) (xs : List V) (run : List Act), vs = [.ref lb, .str p] ∧ H lb = some (.lst xs) ∧ xs.length ≤ 5000 ∧ Paired (ActV H) xs run ∧ ∀ b H' ys, Same H H' → H b = none → H' b = some (.lst ys) → Paired (ActV H') ys (seenBy p run) → Q (.ref b) H'
theorem sc_view : FnScope ["actions", "party", "action"] ["actions", "party"] (defScope s_view) := ⟨rfl, rfl, rfl, by decide +kernel, rfl, by decide +kernel, by decide +kernel⟩
theorem o_view (T : Txt K mg) : Ok P w K mg base CX0 "view" 2 ["actions", "party"] spView :=
  ok_def T.d_view T.g_view sc_view (fun _ _ _ _ _ _ us hl => match us, hl with | [_, _], _ => rfl) (fun vs H Q E h => by obtain ⟨_, _, _, _, rfl, _⟩ := h; rfl) fun cdv A outer s H vs Q E hr h => by
  obtain ⟨lb, p, xs, run, rfl, hlb, hxl, hxs, hQ⟩ := h
  have big : (400000 : Nat) < sizeLine := by decide
  refine ⟨_, (PSs.nox (pss_one (ps_ret (pe_lc (own := [("action", 2)]) rfl sc_view.nd (ki_list (K := K) rfl (pv 0)) (blkOk_by (N := ["actions", "party", "action"]) (sc := defScope s_view) (by decide +kernel)) (fun _ _ _ _ _ => (pg_name (i := 2) sc_view.nd rfl (by first | exact Or.inl rfl | exact Or.inr rfl))) (fun _ _ _ _ _ => (pts_one (pt_val (pe_cl (o_concerns T) (hr.mono (by decide)) (pa_cons (pv 2) (pa_cons (pv 1) pa_nil)))))) (fun _ _ _ _ _ => (pv 2)))))), ?_⟩
  refine ⟨_, rfl, lb, rfl, ⟨_, SqL.of hlb⟩, fun D hD => ?_⟩
  refine lc_list (K := K) (a := lb) (xs := xs) (fun i H' => Same H H' ∧ ∃ ys, H' D = some (.lst ys) ∧ ys.length ≤ i ∧ Paired (ActV H') ys (seenBy p (run.take i))) ⟨same_new hD, [], upd_same, Nat.le_refl _, .nil⟩ (fun i H' _ h => SqL.of (h.1 _ _ hlb)) ?_ ?_
  · rintro i x H' hi ⟨s1, ys, hD1, hyl, hys⟩
    obtain ⟨a, ha, hx⟩ := pr_get' hxs hi
    have hx1 := hx.mono (Tp.of s1)
    refine ⟨rfl, _, rfl, _, rfl, x, a, p, rfl, hx1, _, rfl, ?_⟩
    have es : seenBy p (run.take (i + 1)) = seenBy p (run.take i) ++ (if con a p = true then [a] else []) := by
      unfold seenBy
      rw [takec ha, List.filter_append]
      congr 1
      rw [List.filter_cons]
      cases con a p <;> rfl
    rw [es]
    cases hc : con a p with
    | true =>
      have tpz : Tp H' (upd H' D (.lst (ys ++ [x]))) := (Tp.refl H').put hD1 (fun _ z => nomatch z)
      refine iteT ⟨_, rfl, ys, hD1, ?_, same_put s1 hD, ys ++ [x], upd_same, by rw [List.length_append, List.length_singleton]; omega, ?_⟩
      · have := (List.getElem?_eq_some_iff.mp hi).1
        omega
      · rw [if_pos rfl]
        exact Paired.snoc (L2.Paired.mapP hys fun _ _ z => z.mono tpz) (hx1.mono tpz)
    | false =>
      refine iteF ⟨s1, ys, hD1, by omega, ?_⟩
      rw [if_neg Bool.false_ne_true, List.append_nil]
      exact hys
  · rintro H' ⟨s1, ys, hD1, hyl, hys⟩
    rw [Paired.length hxs, List.take_length] at hys
    exact hQ D H' ys s1 hD hD1 hys
end Pk
set_option Elab.async false
set_option linter.all false
set_option maxRecDepth 100000
set_option maxHeartbeats 4000000
/-! The defs, 10: joint_states. -/
namespace Pk
open PySem PySem.Spec PyProof.Rows L2
variable {P : Program} {w : World} {K : PySem.W.Frag} {mg : Str → Option Value} {base : Heap}
abbrev JE := Nat × List Nat × List Act
/-- a joint state with its run; the run's list stands at none of Z -/
def JoX (Z : List Addr) (H : Hp) (v : V) (e : JE) : Prop := ∃ b jb rb rs, v = .ref b ∧ H b = some (.tup [.ref jb, .ref rb]) ∧ H jb = some (.tup (nV (e.1 :: e.2.1))) ∧ rb ∉ Z ∧ H rb = some (.lst rs) ∧ Paired (ActV H) rs e.2.2
theorem JoX.mono {Z : List Addr} {H H' : Hp} {v : V} {e : JE} (t : Same H H') (h : JoX Z H v e) : JoX Z H' v e :=
  let ⟨b, jb, rb, rs, h1, h2, h3, h4, h5, h6⟩ := h; ⟨b, jb, rb, rs, h1, t _ _ h2, t _ _ h3, h4, t _ _ h5, L2.Paired.mapP h6 fun _ _ y => y.mono (Tp.of t)⟩
theorem JoX.put {Z : List Addr} {x : Addr} {H : Hp} {v : V} {e : JE} {o u : HO} (hx : H x = some u) (hu : ∀ xs, u ≠ .tup xs) (hz : x ∈ Z) (h : JoX Z H v e) : JoX Z (upd H x o) v e := by
  obtain ⟨b, jb, rb, rs, h1, h2, h3, h4, h5, h6⟩ := h
  have tp : Tp H (upd H x o) := (Tp.refl H).put hx hu
  exact ⟨b, jb, rb, rs, h1, tp _ _ h2, tp _ _ h3, h4, by rw [upd_ne (fun e => h4 (by rw [e]; exact hz))]; exact h5, L2.Paired.mapP h6 fun _ _ y => y.mono tp⟩
def mkT (l : List (List Nat)) : List (List Key × V) := l.map fun x => (kI x, V.bl true)
theorem mkT_val (l : List (List Nat)) (g : List Nat) : valV (mkT l) (kI g) = if g ∈ l then some (.bl true) else none := by
  induction l with
  | nil => rfl
  | cons a l ih =>
    by_cases h : a = g
    · subst h
      rw [if_pos List.mem_cons_self]
      exact valV_pos rfl
    · have : ¬ kI a = kI g := fun e => h (kI_inj e)
      show valV ((kI a, V.bl true) :: mkT l) (kI g) = _
      rw [valV_neg (p := (kI a, V.bl true)) this, ih]
      have : g ∈ a :: l ↔ g ∈ l := by rw [List.mem_cons]; exact ⟨fun q => q.resolve_left fun e => h e.symm, .inr⟩
      simp only [this]
theorem mkT_snoc (l : List (List Nat)) (g : List Nat) (h : g ∉ l) : putK (mkT l) (kI g) (.bl true) = mkT (l ++ [g]) := by
  rw [putK_new]
  · unfold mkT
    rw [List.map_append] <;> rfl
  · rw [mkT_val, if_neg h]
theorem mkT_len (l : List (List Nat)) : (mkT l).length = l.length := by unfold mkT; rw [List.length_map]
theorem rep_flat (n : Nat) : (List.replicate n [V.int 0]).flatten = nV (List.replicate n 0) := by
  induction n with
  | zero => rfl
  | succ n ih =>
    rw [List.replicate_succ, List.flatten_cons, ih, List.replicate_succ] <;> rfl
def jk (e : JE) : List Nat := e.1 :: e.2.1
/-- what stands in the list of joint states -/
structure JInv (T : Tab) (ms : Mch) (ord : List JE) : Prop where
  good : ∀ e ∈ ord, Good T ms e.2.2 e.1 e.2.1
  run : ∀ (i : Nat) e, ord[i]? = some e → e.2.2.length ≤ i
  le : ord.length ≤ 3000
  first : ord[0]? = some (0, List.replicate ms.length 0, [])
/-- the end -/
structure JOk (T : Tab) (ms : Mch) (ord : List JE) : Prop where
  inv : JInv T ms ord
  clo : ∀ e ∈ ord, ∀ a t, T.step e.1 a = some t → (t :: nxqs a e.2.1 ms) ∈ ord.map jk
theorem JInv.snoc {T : Tab} {ms : Mch} {ord : List JE} (h : JInv T ms ord) (o : MsOk T ms) {i : Nat} {e : JE} (he : ord[i]? = some e) {a : Act} {t : Nat} (ha : T.step e.1 a = some t) (hl : ord.length < 3000) :
    JInv T ms (ord ++ [(t, nxqs a e.2.1 ms, e.2.2 ++ [a])]) := by
  have hi := (List.getElem?_eq_some_iff.mp he).1
  refine ⟨fun x hx => ?_, fun j x hx => ?_, by rw [List.length_append, List.length_singleton]; omega, get_snoc h.first⟩
  · rcases List.mem_append.mp hx with q | q
    · exact h.good x q
    · rw [List.mem_singleton.mp q]
      exact good_next (h.good e (List.mem_of_getElem? he)) o ha
  · by_cases hj : j < ord.length
    · rw [List.getElem?_append_left hj] at hx
      exact h.run j x hx
    · have hj2 : j = ord.length := by
        have := (List.getElem?_eq_some_iff.mp hx).1
        rw [List.length_append, List.length_singleton] at this
        omega
      subst hj2
      have : x = (t, nxqs a e.2.1 ms, e.2.2 ++ [a]) := by simpa using hx.symm
      subst this
      show (e.2.2 ++ [a]).length ≤ _
      rw [List.length_append, List.length_singleton]
      have := h.run i e he
      omega
def spJoint (K : PySem.W.Frag) : Sp := fun vs H Q E => ∃ (v : V) (T : Tab), vs = [v] ∧ TabV H v T ∧ Sml T ∧ (parties T).length < 60 ∧ (∀ b H' ov ord, Same H H' → H b = none → H' b = some (.lst ov) → Paired (JoX [b] H') ov ord → JOk T (machs T) ord → Q (.ref b) H') ∧
  ∀ H', Same H H' → E (.ref (He.ga K "TooLarge")) none H'
theorem sc_joint_states : FnScope ["table", "machines", "start", "found", "order", "at", "joint", "run", "action", "_", "goal"] ["table"] (defScope s_joint_states) := ⟨rfl, rfl, rfl, by decide +kernel, rfl, by decide +kernel, by decide +kernel⟩
theorem o_joint_states (T : Txt K mg) : Ok P w K mg base (L2.CX P w) "joint_states" 7 ["table"] (spJoint K) :=
  ok_def T.d_joint_states T.g_joint_states sc_joint_states (fun _ _ _ _ _ _ us hl => match us, hl with | [_], _ => rfl) (fun vs H Q E h => by obtain ⟨_, _, rfl, _⟩ := h; rfl) fun cdv A outer s H vs Q E hr h => by
  obtain ⟨v, T', rfl, hT, hs, hp, hQ, hE⟩ := h
  obtain ⟨tMJ, gMJ⟩ := T.i_MOST_JOINT
  refine ⟨_, (pss_cons (ps_set (i := 1) sc_joint_states.nd rfl (by first | exact Or.inl rfl | exact Or.inr rfl) (pe_cl (o_machines_of T) (hr.mono (by decide)) (pa_cons (pv 0) pa_nil)))
      (pss_cons (ps_set (i := 2) sc_joint_states.nd rfl (by first | exact Or.inl rfl | exact Or.inr rfl) (pe_callTy (T := "tuple") (kc_tuple (K := K) rfl) (by rfl) T.n_tuple (by decide +kernel) (pa_cons (pe_op op_rep (pe_lst (pa_cons pe_int pa_nil)) (pe_op op_add (pe_callB (id := "len") call_lenD (by rfl) T.n_len (by decide +kernel) (pa_cons (pv 1) pa_nil)) pe_int)) pa_nil)))
      (pss_cons (ps_set (i := 3) sc_joint_states.nd rfl (by first | exact Or.inl rfl | exact Or.inr rfl) (pe_disp1 (ru1 hr) (pv 2) pe_bl))
      (pss_cons (ps_set (i := 4) sc_joint_states.nd rfl (by first | exact Or.inl rfl | exact Or.inr rfl) (pe_lst (pa_cons (pe_tup (pa_cons (pv 2) (pa_cons (pe_lst pa_nil) pa_nil))) pa_nil)))
      (pss_cons (ps_set (i := 5) sc_joint_states.nd rfl (by first | exact Or.inl rfl | exact Or.inr rfl) pe_int)
      (pss_cons (ps_while (passes_of rfl) (pt_cmpR op_lt (pv 5) (pe_callB (id := "len") (kc_len (K := K) rfl) (by rfl) T.n_len (by decide +kernel) (pa_cons (pv 4) pa_nil)) (nomark _)) (pss_cons (ps_asg (pe_ix (kx_list (K := K) rfl) (pv 4) (pv 5) (fun _ _ => rfl)) (kg_tup (K := K) (n := 2) rfl rfl (pgs_cons (pg_name (i := 6) sc_joint_states.nd rfl (by first | exact Or.inl rfl | exact Or.inr rfl)) (pgs_cons (pg_name (i := 7) sc_joint_states.nd rfl (by first | exact Or.inl rfl | exact Or.inr rfl)) pgs_nil))))
      (pss_cons (ps_aug (i := 5) sc_joint_states.nd rfl (by first | exact Or.inl rfl | exact Or.inr rfl) pe_int ip_add)
      (pss_one (ps_for (passes_of rfl) rfl (ki_tup (K := K) rfl (pe_ix (kx_tup (K := K) rfl) (pe_ix (kx_tup (K := K) rfl) (pv 0) pe_int (fun _ _ => rfl)) (pe_ix (kx_tup (K := K) rfl) (pv 6) pe_int (fun _ _ => rfl)) (fun _ _ => rfl))) (kg_tup (K := K) (n := 2) rfl rfl (pgs_cons (pg_name (i := 8) sc_joint_states.nd rfl (by first | exact Or.inl rfl | exact Or.inr rfl)) (pgs_cons (pg_name (i := 9) sc_joint_states.nd rfl (by first | exact Or.inl rfl | exact Or.inr rfl)) pgs_nil))) (pss_cons (ps_set (i := 10) sc_joint_states.nd rfl (by first | exact Or.inl rfl | exact Or.inr rfl) (pe_cl (o_next_joint T) (hr.mono (by decide)) (pa_cons (pv 0) (pa_cons (pv 1) (pa_cons (pv 6) (pa_cons (pv 8) pa_nil))))))
      (pss_one (ps_if (pt_cmp (pc_dnotin (ru1 hr) (pv 10) (pv 3))) (pss_cons (ps_if (pt_cmpR op_eq (pe_callB (id := "len") (kc_len (K := K) rfl) (by rfl) T.n_len (by decide +kernel) (pa_cons (pv 4) pa_nil)) (pe_glob (v := .int 3000) rfl gMJ ⟨_, rfl⟩) (nomark _)) (pss_one (ps_raise rfl (takes_of rfl rfl rfl rfl) (pmk_own0 PySem.F.excBase_ValueError T.x_TooLarge.1 T.g_TooLarge T.x_TooLarge.2.1 (raises_own T.x_TooLarge.2.2.1 T.x_TooLarge.2.2.2) rfl))) pss_nil)
      (pss_cons (ps_dput (ru1 hr) (pv 3) (pv 10) pe_bl rfl)
      (pss_one (ps_expr (pe_bm PySem.F.plainAttrs_list PySem.F.slot_list_append PySem.F.type_list_append mt_append (pv 4) (pa_cons (pe_tup (pa_cons (pv 10) (pa_cons (pe_op op_cat (pv 7) (pe_lst (pa_cons (pv 8) pa_nil))) pa_nil))) pa_nil)))))) pss_nil))))))))
      (pss_one (ps_ret (pv 4))))))))), ?_⟩
  have big : (400000 : Nat) < sizeLine := by decide
  have hw := hs.wf
  have mok := machs_ok hs
  have hnd := machs_nodup T'
  have hml : (machs T').length < 60 := by unfold machs; rw [List.length_map]; exact hp
  refine ⟨_, rfl, v, T', rfl, hT, hs, hp, fun md H1 kvs s1 hmd0 hmd hms => ?_⟩
  generalize machs T' = ms at mok hnd hml hms hQ
  have hkl : kvs.length = ms.length := Paired.length hms
  refine ⟨(by show 1 ≤ sizeLine; omega), fun l hl => ?_⟩
  have t1 : Same H1 (upd H1 l (.lst [.int 0])) := same_new hl
  refine ⟨_, rfl, md, kvs, rfl, t1 _ _ hmd, _, _, rfl, rfl, l, _, _, rfl, rfl, upd_same, by omega, by omega, by show 1 * ((kvs.length : Nat) + 1 : Int).toNat ≤ sizeLine; omega, fun l2 hl2 => ?_⟩
  rw [show (((kvs.length : Nat) : Int) + 1).toNat = ms.length + 1 by omega, rep_flat]
  have t2 := t1.trans (same_new (o := .lst (nV (List.replicate (ms.length + 1) 0))) hl2)
  refine ⟨l2, _, rfl, .inl ⟨SqL.of upd_same, fun sb hsb => ?_⟩⟩
  have t3 := t2.trans (same_new (o := .tup (nV (List.replicate (ms.length + 1) 0))) hsb)
  have hsb3 : (upd (upd (upd H1 l (.lst [.int 0])) l2 (.lst (nV (List.replicate (ms.length + 1) 0)))) sb (.tup (nV (List.replicate (ms.length + 1) 0)))) sb = some (.tup (nV (0 :: List.replicate ms.length 0))) := upd_same
  generalize upd (upd (upd H1 l (.lst [.int 0])) l2 (.lst (nV (List.replicate (ms.length + 1) 0)))) sb (.tup (nV (List.replicate (ms.length + 1) 0))) = H3 at t3 hsb3
  -- found
  intro fd hfd
  have hsb4 : (upd H3 fd (.dT [])) sb = some (.tup ((kI (0 :: List.replicate ms.length 0)).map kV)) := by rw [kI_V]; exact same_new hfd _ _ hsb3
  refine ⟨_, rfl, upd_same, _, sb, rfl, hsb4, ?_⟩
  have t5 : Same H3 (upd (upd H3 fd (.dT [])) fd (.dT [(kI (0 :: List.replicate ms.length 0), V.bl true)])) := same_put (same_new hfd) hfd
  have hfd5 : (upd (upd H3 fd (.dT [])) fd (.dT [(kI (0 :: List.replicate ms.length 0), V.bl true)])) fd = some (.dT (mkT [0 :: List.replicate ms.length 0])) := upd_same
  have hsb5 := t5 _ _ hsb3
  have hfd0 : H fd = none := s1.free (t3.free hfd)
  have t15 := t3.trans t5
  generalize upd (upd H3 fd (.dT [])) fd (.dT [(kI (0 :: List.replicate ms.length 0), V.bl true)]) = H5 at t5 hfd5 hsb5 t15
  -- order
  refine ⟨_, rfl, Nat.zero_le _, fun rb hrb => ⟨(by show 2 ≤ sizeLine; omega), fun tb htb => ⟨(by show 1 ≤ sizeLine; omega), fun od hod => ?_⟩⟩⟩
  have u1 : Same H5 (upd H5 rb (.lst [])) := same_new hrb
  have u2 := u1.trans (same_new (o := .tup [.ref sb, .ref rb]) htb)
  have u3 := u2.trans (same_new (o := .lst [.ref tb]) hod)
  have t16 := t15.trans u3
  have s6 := s1.trans t16
  have hod0 : H od = none := s1.free (t15.free (u2.free hod))
  have nro : rb ≠ od := fun e => by rw [← e, same_new htb _ _ upd_same] at hod; cases hod
  have hjo : JoX [od, fd] (upd (upd (upd H5 rb (.lst [])) tb (.tup [.ref sb, .ref rb])) od (.lst [.ref tb])) (.ref tb) (0, List.replicate ms.length 0, []) :=
    ⟨tb, sb, rb, [], rfl, same_new hod _ _ upd_same, u3 _ _ hsb5, by
      have : rb ≠ fd := fun e => by rw [e, hfd5] at hrb; cases hrb
      simp [nro, this], same_new hod _ _ (same_new htb _ _ upd_same), .nil⟩
  have hod6 : (upd (upd (upd H5 rb (.lst [])) tb (.tup [.ref sb, .ref rb])) od (.lst [.ref tb])) od = some (.lst [.ref tb]) := upd_same
  have hfd6 := u3 _ _ hfd5
  have hmd6 := t16 _ _ hmd
  have hms6 := hms.mono (Tp.of t16)
  generalize upd (upd (upd H5 rb (.lst [])) tb (.tup [.ref sb, .ref rb])) od (.lst [.ref tb]) = H6 at u3 t16 s6 hjo hod6 hfd6 hmd6 hms6
  have nfo : fd ≠ od := fun e => by rw [e, hod6] at hfd6; cases hfd6
  have nmo : md ≠ od := fun e => by rw [e, hod6] at hmd6; cases hmd6
  have nmf : md ≠ fd := fun e => by rw [e, hfd6] at hmd6; cases hmd6
  -- the loop
  refine ⟨fun m σ H' => ∃ (at_ : Nat) (ord : List JE) (ov : List V) (x6 x7 x8 x9 x10 : Option V), m = 3001 - at_ ∧ at_ ≤ ord.length ∧ σ = [some v, some (.ref md), some (.ref sb), some (.ref fd), some (.ref od), some (.int (at_ : Nat)), x6, x7, x8, x9, x10] ∧ Same H H' ∧ Tp H6 H' ∧ H' md = some (.dK kvs) ∧
      H' fd = some (.dT (mkT (ord.map jk))) ∧ H' od = some (.lst ov) ∧ Paired (JoX [od, fd] H') ov ord ∧ JInv T' ms ord ∧ ∀ i e, i < at_ → ord[i]? = some e → ∀ a t, T'.step e.1 a = some t → (t :: nxqs a e.2.1 ms) ∈ ord.map jk,
    ⟨_, 0, [(0, List.replicate ms.length 0, [])], [.ref tb], _, _, _, _, _, rfl, Nat.zero_le _, rfl, s6, Tp.refl _, hmd6, hfd6, hod6, .cons hjo .nil, ⟨fun e he => ?_, fun i e he => ?_, by show 1 ≤ 3000; omega, rfl⟩, fun i e hi => absurd hi (Nat.not_lt_zero _)⟩, ?_⟩
  · rw [List.mem_singleton.mp he]
    exact good_start T' ms
  · cases i with
    | zero => cases he; exact Nat.le_refl _
    | succ i => cases he
  rintro m σ H7 ⟨at_, ord, ov, x6, x7, x8, x9, x10, rfl, hat, rfl, s7, tp7, hmd7, hfd7, hod7, hov7, hinv, hclo⟩
  have hovl := Paired.length hov7
  have hle := hinv.le
  refine ⟨_, rfl, _, rfl, od, ov, rfl, .inl (SqL.of hod7), _, _, rfl, rfl, _, rfl, ?_⟩
  refine ite2 (fun c => ?_) (fun c => ?_)
  · have c : ((at_ : Nat) : Int) < (ov.length : Int) := of_decide_eq_true c
    have hao : at_ < ord.length := by omega
    obtain ⟨e, he⟩ : ∃ e, ord[at_]? = some e := ⟨_, List.getElem?_eq_getElem hao⟩
    obtain ⟨s, qs, run⟩ := e
    obtain ⟨_, hv, b, jb, rb1, rs, rfl, hb, hjb, hrbz, hrb1, hrs⟩ := pr_get hov7 he
    have hgood := hinv.good _ (List.mem_of_getElem? he)
    have hsl : s < T'.rows.length := Good.lts hgood hw
    have hrunl : run.length ≤ at_ := hinv.run at_ _ he
    refine ⟨fun σ' H' => ∃ m', m' < 3001 - at_ ∧ ∃ (at_ : Nat) (ord : List JE) (ov : List V) (x6 x7 x8 x9 x10 : Option V), m' = 3001 - at_ ∧ at_ ≤ ord.length ∧ σ' = [some v, some (.ref md), some (.ref sb), some (.ref fd), some (.ref od), some (.int (at_ : Nat)), x6, x7, x8, x9, x10] ∧ Same H H' ∧ Tp H6 H' ∧ H' md = some (.dK kvs) ∧
      H' fd = some (.dT (mkT (ord.map jk))) ∧ H' od = some (.lst ov) ∧ Paired (JoX [od, fd] H') ov ord ∧ JInv T' ms ord ∧ ∀ i e, i < at_ → ord[i]? = some e → ∀ a t, T'.step e.1 a = some t → (t :: nxqs a e.2.1 ms) ∈ ord.map jk, fun σ' H' h => h, ?_⟩
    refine ⟨_, rfl, _, rfl, od, _, _, _, rfl, rfl, SqL.of hod7, atI_nat hv, ?_⟩
    refine g_two hb ?_
    refine ⟨_, rfl, _, _, rfl, rfl, ?_⟩
    obtain ⟨wb, xs, hwb, hxs, gr⟩ := gv_row (K := K) (te := tVar 0) (ti := tOp (rIxT K) (tVar 6) (tC (.int 0))) (σ := [some v, some (.ref md), some (.ref sb), some (.ref fd), some (.ref od), some (.int ((at_ : Int) + 1)), some (.ref jb), some (.ref rb1), x8, x9, x10]) (hT.mono (Tp.of s7)) hsl (gv_var rfl) (gv_ixT (i := 0) (gv_var rfl) gv_int hjb rfl)
    refine gr _ ⟨wb, rfl, ⟨_, SqT.of hwb⟩, ?_⟩
    refine for_tup (K := K) (a := wb) (xs := xs) (fun j σ H' => ∃ (ord' : List JE) (ov' : List V) (x8 x9 x10 : Option V), σ = [some v, some (.ref md), some (.ref sb), some (.ref fd), some (.ref od), some (.int ((at_ : Int) + 1)), some (.ref jb), some (.ref rb1), x8, x9, x10] ∧ Same H H' ∧ Tp H7 H' ∧ H' md = some (.dK kvs) ∧ H' rb1 = some (.lst rs) ∧
      H' fd = some (.dT (mkT (ord'.map jk))) ∧ H' od = some (.lst ov') ∧ Paired (JoX [od, fd] H') ov' ord' ∧ JInv T' ms ord' ∧ (∃ more, ord' = ord ++ more) ∧ ∀ p ∈ (T'.row s).take j, (p.2 :: nxqs p.1 qs ms) ∈ ord'.map jk)
      ⟨ord, ov, _, _, _, rfl, s7, Tp.refl _, hmd7, hrb1, hfd7, hod7, hov7, hinv, ⟨[], (List.append_nil _).symm⟩, fun p hp => nomatch hp⟩ (fun j σ H' _ ⟨_, _, _, _, _, _, _, h, _⟩ => SqT.of (h _ _ hwb)) ?_ ?_
    · rintro j x σ H8 hj ⟨ord', ov', y8, y9, y10, rfl, s8, tp8, hmd8, hrb8, hfd8, hod8, hov8, hinv8, ⟨more, hmore⟩, hclo8⟩
      obtain ⟨p, hpj, c', z, rfl, hc', hz⟩ := pr_get' hxs hj
      refine g_two (tp8 _ _ hc') ?_
      have hz8 := hz.mono tp8
      have hpm : p ∈ T'.row s := List.mem_of_getElem? hpj
      have hstep : T'.step s p.1 = some p.2 := step_of hw hpm
      have tp68 := tp7.trans tp8
      have hhas := Good.has hgood mok hstep
      refine ⟨_, rfl, _, rfl, _, rfl, _, rfl, v, md, jb, z, T', ms, kvs, s, qs, p.1, p.2, rfl, hT.mono (Tp.of s8), hsl, hmd8, hms6.mono tp68, hnd, tp8 _ _ hjb, hz8, hstep, hhas, hml, fun gb H9 s9 hgb0 hgb => ?_⟩
      have he' : ord'[at_]? = some (s, qs, run) := by rw [hmore, List.getElem?_append_left hao]; exact he
      have hgk : H9 gb = some (.tup ((kI (p.2 :: nxqs p.1 qs ms)).map kV)) := by rw [kI_V]; exact hgb
      have dn : DGet H9 fd (.ref gb) (valV (mkT (ord'.map jk)) (kI (p.2 :: nxqs p.1 qs ms))) := DGet.t (s9 _ _ hfd8) hgk
      refine ⟨_, rfl, _, rfl, fd, _, rfl, dn, _, rfl, ?_⟩
      rw [mkT_val]
      by_cases hin : (p.2 :: nxqs p.1 qs ms) ∈ ord'.map jk
      · rw [if_pos hin]
        refine iteF ⟨ord', ov', _, _, _, rfl, s8.trans s9, tp8.trans (Tp.of s9), s9 _ _ hmd8, s9 _ _ hrb8, s9 _ _ hfd8, s9 _ _ hod8, L2.Paired.mapP hov8 (fun _ _ q => q.mono s9), hinv8, ⟨more, hmore⟩, fun p' hp' => ?_⟩
        rw [takec hpj] at hp'
        rcases List.mem_append.mp hp' with q | q
        · exact hclo8 p' q
        · rw [List.mem_singleton.mp q]; exact hin
      · rw [if_neg hin]
        have hov8l := Paired.length hov8
        have hle8 := hinv8.le
        refine iteT ⟨_, rfl, od, ov', rfl, .inl (SqL.of (s9 _ _ hod8)), rfl, _, rfl, ?_⟩
        refine ite2 (fun _ => ?_) (fun cne => ?_)
        · exact hE H9 (s8.trans s9)
        · have cne : ¬ ov'.length = 3000 := fun e => cne (decide_eq_true (by rw [e] <;> rfl))
          have s89 := s8.trans s9
          refine ⟨_, rfl, _, rfl, fd, _, rfl, DPut.t (k := kI (p.2 :: nxqs p.1 qs ms)) (s9 _ _ hfd8) hgk (by rw [mkT_len, List.length_map]; omega), ?_⟩
          rw [mkT_snoc _ _ hin]
          have hfd9 := s9 _ _ hfd8
          have tpf : Tp H9 (upd H9 fd (.dT (mkT (ord'.map jk ++ [p.2 :: nxqs p.1 qs ms])))) := (Tp.refl H9).put hfd9 (fun _ q => nomatch q)
          have sf : Same H (upd H9 fd (.dT (mkT (ord'.map jk ++ [p.2 :: nxqs p.1 qs ms])))) := same_put s89 hfd0
          have kf : ∀ x o, x ≠ fd → H9 x = some o → (upd H9 fd (.dT (mkT (ord'.map jk ++ [p.2 :: nxqs p.1 qs ms])))) x = some o := fun x o hx h => by rw [upd_ne hx]; exact h
          have hfd10 : (upd H9 fd (.dT (mkT (ord'.map jk ++ [p.2 :: nxqs p.1 qs ms])))) fd = some (.dT (mkT (ord'.map jk ++ [p.2 :: nxqs p.1 qs ms]))) := upd_same
          have hov10 := L2.Paired.mapP hov8 (fun _ _ (q : JoX [od, fd] H8 _ _) => JoX.put (o := .dT (mkT (ord'.map jk ++ [p.2 :: nxqs p.1 qs ms]))) hfd9 (fun _ z => nomatch z) (by simp) (q.mono s9))
          generalize upd H9 fd (.dT (mkT (ord'.map jk ++ [p.2 :: nxqs p.1 qs ms]))) = H10 at tpf sf kf hfd10 hov10
          have nrf : rb1 ≠ fd := fun e => hrbz (by rw [e]; simp)
          have nro1 : rb1 ≠ od := fun e => hrbz (by rw [e]; simp)
          have hod10 := kf _ _ nfo.symm (s9 _ _ hod8)
          have hmd10 := kf _ _ nmf (s9 _ _ hmd8)
          have hrb10 := kf _ _ nrf (s9 _ _ hrb8)
          have hrl := Paired.length hrs
          have hrl : rs.length = run.length := hrl
          -- (goal, run + [action])
          refine ⟨_, rfl, .inl ⟨rfl, _, SqL.of hod10⟩, _, rfl, _, rfl, _, rfl, (by show 1 ≤ sizeLine; omega), fun ab hab => ?_⟩
          have w1 : Same H10 (upd H10 ab (.lst [z])) := same_new hab
          refine ⟨rb1, ab, rs, [z], rfl, rfl, w1 _ _ hrb10, upd_same, by show rs.length + 1 ≤ sizeLine; omega, fun nb hnb => ?_⟩
          have w2 := w1.trans (same_new (o := .lst (rs ++ [z])) hnb)
          refine ⟨(by show 2 ≤ sizeLine; omega), fun tt htt => ?_⟩
          have w3 := w2.trans (same_new (o := .tup [.ref gb, .ref nb]) htt)
          have hnb3 : (upd (upd (upd H10 ab (.lst [z])) nb (.lst (rs ++ [z]))) tt (.tup [.ref gb, .ref nb])) nb = some (.lst (rs ++ [z])) := same_new htt _ _ upd_same
          have htt3 : (upd (upd (upd H10 ab (.lst [z])) nb (.lst (rs ++ [z]))) tt (.tup [.ref gb, .ref nb])) tt = some (.tup [.ref gb, .ref nb]) := upd_same
          have nno : nb ≠ od := fun e => by rw [e, w1 _ _ hod10] at hnb; cases hnb
          have nnf : nb ≠ fd := fun e => by rw [e, w1 _ _ hfd10] at hnb; cases hnb
          generalize upd (upd (upd H10 ab (.lst [z])) nb (.lst (rs ++ [z]))) tt (.tup [.ref gb, .ref nb]) = H11 at w3 hnb3 htt3
          have hod11 := w3 _ _ hod10
          have tp10 := tpf.trans (Tp.of w3)
          refine ⟨od, ov', _, rfl, rfl, hod11, by omega, ?_⟩
          have tpo : Tp H11 (upd H11 od (.lst (ov' ++ [.ref tt]))) := (Tp.refl H11).put hod11 (fun _ q => nomatch q)
          have hnew : JoX [od, fd] H11 (.ref tt) (p.2, nxqs p.1 qs ms, run ++ [p.1]) :=
            ⟨tt, gb, nb, rs ++ [z], rfl, htt3, tp10 _ _ hgb, by simp [nno, nnf], hnb3, Paired.snoc (L2.Paired.mapP hrs fun _ _ q => q.mono ((tp8.trans (Tp.of s9)).trans tp10)) (hz8.mono ((Tp.of s9).trans tp10))⟩
          have hjs := JInv.snoc hinv8 mok he' hstep (by omega)
          refine ⟨ord' ++ [(p.2, nxqs p.1 qs ms, run ++ [p.1])], ov' ++ [.ref tt], _, _, _, rfl, same_put (sf.trans w3) hod0, ((tp8.trans (Tp.of s9)).trans tp10).trans tpo, by rw [upd_ne nmo]; exact w3 _ _ hmd10, by rw [upd_ne nro1]; exact w3 _ _ hrb10, ?_, upd_same, ?_, hjs, ⟨more ++ [(p.2, nxqs p.1 qs ms, run ++ [p.1])], by rw [hmore, List.append_assoc]⟩, fun p' hp' => ?_⟩
          · rw [upd_ne nfo, w3 _ _ hfd10, List.map_append] <;> rfl
          · exact Paired.snoc (L2.Paired.mapP hov10 fun _ _ q => JoX.put hod11 (fun _ z => nomatch z) (by simp) (q.mono w3)) (JoX.put hod11 (fun _ z => nomatch z) (by simp) hnew)
          · rw [List.map_append]
            rw [takec hpj] at hp'
            rcases List.mem_append.mp hp' with q | q
            · exact List.mem_append_left _ (hclo8 p' q)
            · rw [List.mem_singleton.mp q]
              exact List.mem_append_right _ (List.mem_singleton.mpr rfl)
    · rintro σ H8 ⟨ord', ov', y8, y9, y10, rfl, s8, tp8, hmd8, hrb8, hfd8, hod8, hov8, hinv8, ⟨more, hmore⟩, hclo8⟩
      rw [Paired.length hxs, List.take_length] at hclo8
      have hll : ord.length ≤ ord'.length := by rw [hmore, List.length_append]; omega
      refine ⟨3001 - (at_ + 1), by omega, at_ + 1, ord', ov', _, _, _, _, _, rfl, by omega, rfl, s8, tp7.trans tp8, hmd8, hfd8, hod8, hov8, hinv8, fun i e' hi he' a t hat' => ?_⟩
      have hsub : ∀ x, x ∈ ord.map jk → x ∈ ord'.map jk := fun x hx => by rw [hmore, List.map_append]; exact List.mem_append_left _ hx
      by_cases hia : i < at_
      · have : ord[i]? = some e' := by
          rw [hmore, List.getElem?_append_left (by omega)] at he'
          exact he'
        exact hsub _ (hclo i e' hia this a t hat')
      · have : i = at_ := by omega
        subst this
        rw [hmore, List.getElem?_append_left hao, he] at he'
        cases he'
        exact hclo8 (a, t) (step_mem hat')
  · have c : ¬ ((at_ : Nat) : Int) < (ov.length : Int) := fun q => c (decide_eq_true q)
    refine ⟨_, rfl, hQ od H7 ov ord s7 hod0 hod7 (L2.Paired.mapP hov7 fun _ _ ⟨b, jb, rb, rs, h1, h2, h3, h4, h5, h6⟩ => ⟨b, jb, rb, rs, h1, h2, h3, fun z => h4 (by rw [List.mem_singleton.mp z]; simp), h5, h6⟩) ⟨hinv, fun e he a t hat' => ?_⟩⟩
    obtain ⟨i, hi⟩ := List.mem_iff_getElem?.mp he
    exact hclo i e (by have := (List.getElem?_eq_some_iff.mp hi).1; omega) hi a t hat'
end Pk
set_option Elab.async false
set_option linter.all false
set_option maxRecDepth 100000
set_option maxHeartbeats 4000000
/-! The defs, 11: seen_alike (it ends, and gives something). -/
namespace Pk
open PySem PySem.Spec PyProof.Rows L2
variable {P : Program} {w : World} {K : PySem.W.Frag} {mg : Str → Option Value} {base : Heap}
def grid (n L : Nat) : List (List Nat) := (List.range n).flatMap fun s => (List.range L).map fun c => [s, c]
theorem grid_len (n L : Nat) : (grid n L).length = n * L := by
  induction n with
  | zero => simp [grid]
  | succ n ih =>
    unfold grid at *
    rw [List.range_succ, List.flatMap_append, List.length_append, ih]
    simp [Nat.succ_mul]
theorem grid_mem {n L s c : Nat} (hs : s < n) (hc : c < L) : [s, c] ∈ grid n L := List.mem_flatMap.mpr ⟨s, List.mem_range.mpr hs, List.mem_map.mpr ⟨c, List.mem_range.mpr hc, rfl⟩⟩
/-- a state that waits: its place in the list bounds its run -/
def WtX (Z : List Addr) (H : Hp) (v : V) (e : Nat × Nat × Nat) : Prop := ∃ b rb rs, v = .ref b ∧ H b = some (.tup [.int (e.1 : Nat), .int (e.2.1 : Nat), .ref rb]) ∧ rb ∉ Z ∧ H rb = some (.lst rs) ∧ rs.length = e.2.2
theorem WtX.mono {Z : List Addr} {H H' : Hp} {v : V} {e : Nat × Nat × Nat} (t : Same H H') (h : WtX Z H v e) : WtX Z H' v e :=
  let ⟨b, rb, rs, h1, h2, h3, h4, h5⟩ := h; ⟨b, rb, rs, h1, t _ _ h2, h3, t _ _ h4, h5⟩
theorem WtX.put {Z : List Addr} {x : Addr} {H : Hp} {v : V} {e : Nat × Nat × Nat} {o u : HO} (hx : H x = some u) (hu : ∀ xs, u ≠ .tup xs) (hz : x ∈ Z) (h : WtX Z H v e) : WtX Z (upd H x o) v e := by
  obtain ⟨b, rb, rs, h1, h2, h3, h4, h5⟩ := h
  exact ⟨b, rb, rs, h1, ((Tp.refl H).put hx hu) _ _ h2, h3, by rw [upd_ne (fun e => h3 (by rw [e]; exact hz))]; exact h4, h5⟩
def wk (e : Nat × Nat × Nat) : List Nat := [e.1, e.2.1]
/-- those that wait, all of them -/
structure WInv (n L : Nat) (wl : List (Nat × Nat × Nat)) : Prop where
  nd : (wl.map wk).Nodup
  lt : ∀ e ∈ wl, e.1 < n ∧ e.2.1 ≤ L
  run : ∀ (i : Nat) e, wl[i]? = some e → e.2.2 ≤ i
theorem WInv.len {n L : Nat} {wl : List (Nat × Nat × Nat)} (h : WInv n L wl) : wl.length ≤ n * (L + 1) := by
  have := nodup_len (m := grid n (L + 1)) h.nd fun x hx => by
    obtain ⟨e, he, rfl⟩ := List.mem_map.mp hx
    have := h.lt e he
    exact grid_mem this.1 (by omega)
  rw [List.length_map, grid_len] at this
  exact this
theorem WInv.snoc {n L : Nat} {wl : List (Nat × Nat × Nat)} (h : WInv n L wl) {i : Nat} {e0 : Nat × Nat × Nat} (h0 : wl[i]? = some e0) {g a : Nat} (hn : [g, a] ∉ wl.map wk) (hg : g < n) (ha : a ≤ L) : WInv n L (wl ++ [(g, a, e0.2.2 + 1)]) := by
  refine ⟨?_, fun e he => ?_, fun j e he => ?_⟩
  · rw [List.map_append]
    exact nodup_snoc h.nd hn
  · rcases List.mem_append.mp he with q | q
    · exact h.lt e q
    · rw [List.mem_singleton.mp q]; exact ⟨hg, ha⟩
  · by_cases hj : j < wl.length
    · rw [List.getElem?_append_left hj] at he
      exact h.run j e he
    · have hj2 : j = wl.length := by
        have := (List.getElem?_eq_some_iff.mp he).1
        rw [List.length_append, List.length_singleton] at this
        omega
      subst hj2
      have : e = (g, a, e0.2.2 + 1) := by simpa using he.symm
      subst this
      have h1 := h.run i e0 h0
      have h2 := (List.getElem?_eq_some_iff.mp h0).1
      show e0.2.2 + 1 ≤ wl.length
      omega
theorem if_rest {b : Bool} {A : Prop} {Kont : Hp → Prop} {H : Hp} (k : ∀ H8, Same H H8 → Kont H8) (a : (∀ H8, Same H H8 → Kont H8) → A) : if b = true then A else Kont H := by
  cases b with
  | true => exact iteT (a k)
  | false => exact iteF (k H (Same.refl H))
def SaInv (T : Tab) (H H8 : Hp) (v wv : V) (p : Str) (lb wd fd rb1 : Addr) (rs : List V) (at_ s cn L : Nat) (wl : List (Nat × Nat × Nat)) : L2.St → Hp → Prop := fun σ H' => ∃ (wl' : List (Nat × Nat × Nat)) (wvs' : List V) (x10 x11 x12 : Option V),
  σ = [some v, some (.str p), some (.ref lb), some wv, some (.ref wd), some (.ref fd), some (.int ((at_ : Int) + 1)), some (.int (s : Nat)), some (.int (cn : Nat)), some (.ref rb1), x10, x11, x12] ∧ Same H H' ∧ Tp H8 H' ∧ H' rb1 = some (.lst rs) ∧
  H' fd = some (.dT (mkT (wl'.map wk))) ∧ H' wd = some (.lst wvs') ∧ Paired (WtX [wd, fd] H') wvs' wl' ∧ WInv T.rows.length L wl' ∧ ∃ more, wl' = wl ++ more
def spSeen : Sp := fun vs H Q _ => ∃ (v : V) (p : Str) (lb : Addr) (wv : V) (T : Tab) (xs : List V) (sight : List Act), vs = [v, .str p, .ref lb, wv] ∧ TabV H v T ∧ Sml T ∧ H lb = some (.lst xs) ∧ xs.length ≤ 5000 ∧ Paired (ActV H) xs sight ∧
  (wv = .non ∨ ∃ a, ActV H wv a) ∧ ∀ v' H', Same H H' → Q v' H'
theorem sc_seen_alike : FnScope ["table", "party", "sight", "wanted", "waiting", "found", "at", "state", "count", "run", "action", "goal", "ahead"] ["table", "party", "sight", "wanted"] (defScope s_seen_alike) := ⟨rfl, rfl, rfl, by decide +kernel, rfl, by decide +kernel, by decide +kernel⟩
theorem o_seen_alike (T : Txt K mg) : Ok P w K mg base CX0 "seen_alike" 2 ["table", "party", "sight", "wanted"] spSeen :=
  ok_def T.d_seen_alike T.g_seen_alike sc_seen_alike (fun _ _ _ _ _ _ us hl => match us, hl with | [_, _, _, _], _ => rfl) (fun vs H Q E h => by obtain ⟨_, _, _, _, _, _, _, rfl, _⟩ := h; rfl) fun cdv A outer s H vs Q E hr h => by
  obtain ⟨v, p, lb, wv, T', xs, sight, rfl, hT, hs, hlb, hxl, hxs, hwv, hQ⟩ := h
  refine ⟨_, (PSs.nox (pss_cons (ps_set (i := 4) sc_seen_alike.nd rfl (by first | exact Or.inl rfl | exact Or.inr rfl) (pe_lst (pa_cons (pe_tup (pa_cons pe_int (pa_cons pe_int (pa_cons (pe_lst pa_nil) pa_nil)))) pa_nil)))
      (pss_cons (ps_set (i := 5) sc_seen_alike.nd rfl (by first | exact Or.inl rfl | exact Or.inr rfl) (pe_disp1 (ru1 hr) (pe_tup (pa_cons pe_int (pa_cons pe_int pa_nil))) pe_bl))
      (pss_cons (ps_set (i := 6) sc_seen_alike.nd rfl (by first | exact Or.inl rfl | exact Or.inr rfl) pe_int)
      (pss_cons (ps_while PassesOwn.never (pt_cmpR op_lt (pv 6) (pe_callB (id := "len") (kc_len (K := K) rfl) (by rfl) T.n_len (by decide +kernel) (pa_cons (pv 4) pa_nil)) (nomark _)) (pss_cons (ps_asg (pe_ix (kx_list (K := K) rfl) (pv 4) (pv 6) (fun _ _ => rfl)) (kg_tup (K := K) (n := 3) rfl rfl (pgs_cons (pg_name (i := 7) sc_seen_alike.nd rfl (by first | exact Or.inl rfl | exact Or.inr rfl)) (pgs_cons (pg_name (i := 8) sc_seen_alike.nd rfl (by first | exact Or.inl rfl | exact Or.inr rfl)) (pgs_cons (pg_name (i := 9) sc_seen_alike.nd rfl (by first | exact Or.inl rfl | exact Or.inr rfl)) pgs_nil)))))
      (pss_cons (ps_aug (i := 6) sc_seen_alike.nd rfl (by first | exact Or.inl rfl | exact Or.inr rfl) pe_int ip_add)
      (pss_cons (ps_if (pt_cmpR op_eq (pv 8) (pe_callB (id := "len") (kc_len (K := K) rfl) (by rfl) T.n_len (by decide +kernel) (pa_cons (pv 2) pa_nil)) (nomark _)) (pss_cons (ps_if (PW.pt (pw_and (pt_cmpR op_isN (pv 3) pe_non (nomark _)) (pw_and1 (pt_val (pe_ix (kx_tup (K := K) rfl) (pe_ix (kx_tup (K := K) rfl) (pv 0) pe_int (fun _ _ => rfl)) (pv 7) (fun _ _ => rfl)))))) (pss_one (ps_ret (pv 9))) pss_nil)
      (pss_one (ps_if (PW.pt (pw_and (pt_cmpR op_notN (pv 3) pe_non (nomark _)) (pw_and1 (pt_cmpR op_notN (pe_cl (o_next_state T) (hr.mono (by decide)) (pa_cons (pv 0) (pa_cons (pv 7) (pa_cons (pv 3) pa_nil)))) pe_non (nomark _))))) (pss_one (ps_ret (pv 9))) pss_nil))) pss_nil)
      (pss_one (ps_for PassesOwn.never rfl (ki_tup (K := K) rfl (pe_ix (kx_tup (K := K) rfl) (pe_ix (kx_tup (K := K) rfl) (pv 0) pe_int (fun _ _ => rfl)) (pv 7) (fun _ _ => rfl))) (kg_tup (K := K) (n := 2) rfl rfl (pgs_cons (pg_name (i := 10) sc_seen_alike.nd rfl (by first | exact Or.inl rfl | exact Or.inr rfl)) (pgs_cons (pg_name (i := 11) sc_seen_alike.nd rfl (by first | exact Or.inl rfl | exact Or.inr rfl)) pgs_nil))) (pss_cons (ps_set (i := 12) sc_seen_alike.nd rfl (by first | exact Or.inl rfl | exact Or.inr rfl) (pv 8))
      (pss_cons (ps_if (pt_val (pe_cl (o_concerns T) (hr.mono (by decide)) (pa_cons (pv 10) (pa_cons (pv 1) pa_nil)))) (pss_cons (ps_if (PW.pt (pw_or (pt_cmpR op_eq (pv 8) (pe_callB (id := "len") (kc_len (K := K) rfl) (by rfl) T.n_len (by decide +kernel) (pa_cons (pv 2) pa_nil)) (nomark _)) (pw_or1 (pt_cmpR (ko_neD (K := K) rfl (ru64 hr)) (pe_ix (kx_list (K := K) rfl) (pv 2) (pv 8) (fun _ _ => rfl)) (pv 10) (nomark _))))) (pss_one ps_continue) pss_nil)
      (pss_one (ps_set (i := 12) sc_seen_alike.nd rfl (by first | exact Or.inl rfl | exact Or.inr rfl) (pe_op op_add (pv 8) pe_int)))) pss_nil)
      (pss_one (ps_if (pt_cmp (pc_dnotin (ru1 hr) (pe_tup (pa_cons (pv 11) (pa_cons (pv 12) pa_nil))) (pv 5))) (pss_cons (ps_dput (ru1 hr) (pv 5) (pe_tup (pa_cons (pv 11) (pa_cons (pv 12) pa_nil))) pe_bl rfl)
      (pss_one (ps_expr (pe_bm PySem.F.plainAttrs_list PySem.F.slot_list_append PySem.F.type_list_append mt_append (pv 4) (pa_cons (pe_tup (pa_cons (pv 11) (pa_cons (pv 12) (pa_cons (pe_op op_cat (pv 9) (pe_lst (pa_cons (pv 10) pa_nil))) pa_nil)))) pa_nil))))) pss_nil))))))))))
      (pss_one (ps_ret pe_non))))))), ?_⟩
  have big : (400000 : Nat) < sizeLine := by decide
  have hw := hs.wf
  have hn5 := hs.n
  have hsl : xs.length = sight.length := Paired.length hxs
  -- waiting, found
  refine ⟨Nat.zero_le _, fun rb hrb => ⟨(by show 3 ≤ sizeLine; omega), fun tb htb => ⟨(by show 1 ≤ sizeLine; omega), fun wd hwd => ?_⟩⟩⟩
  have u1 : Same H (upd H rb (.lst [])) := same_new hrb
  have u2 := u1.trans (same_new (o := .tup [.int 0, .int 0, .ref rb]) htb)
  have u3 := u2.trans (same_new (o := .lst [.ref tb]) hwd)
  have hwd0 : H wd = none := u2.free hwd
  have hrb2 : (upd (upd H rb (.lst [])) tb (.tup [.int 0, .int 0, .ref rb])) rb = some (.lst []) := same_new htb _ _ upd_same
  have nrw : rb ≠ wd := ne_of_none hrb2 hwd
  have hw0 : WtX [wd] (upd (upd (upd H rb (.lst [])) tb (.tup [.int 0, .int 0, .ref rb])) wd (.lst [.ref tb])) (.ref tb) (0, 0, 0) := ⟨tb, rb, [], rfl, same_new hwd _ _ upd_same, by simp [nrw], same_new hwd _ _ hrb2, rfl⟩
  have hwd3 : (upd (upd (upd H rb (.lst [])) tb (.tup [.int 0, .int 0, .ref rb])) wd (.lst [.ref tb])) wd = some (.lst [.ref tb]) := upd_same
  generalize upd (upd (upd H rb (.lst [])) tb (.tup [.int 0, .int 0, .ref rb])) wd (.lst [.ref tb]) = H3 at u3 hw0 hwd3
  intro fd hfd
  refine ⟨(by show 2 ≤ sizeLine; omega), fun kb hkb => ?_⟩
  have f1 : Same H3 (upd H3 fd (.dT [])) := same_new hfd
  have hfd4 : (upd (upd H3 fd (.dT [])) kb (.tup [.int 0, .int 0])) fd = some (.dT []) := same_new hkb _ _ upd_same
  refine ⟨hfd4, kI [0, 0], kb, rfl, upd_same, ?_⟩
  have f2 : Same H3 (upd (upd (upd H3 fd (.dT [])) kb (.tup [.int 0, .int 0])) fd (.dT [(kI [0, 0], V.bl true)])) := same_put (f1.trans (same_new hkb)) hfd
  have hfd5 : (upd (upd (upd H3 fd (.dT [])) kb (.tup [.int 0, .int 0])) fd (.dT [(kI [0, 0], V.bl true)])) fd = some (.dT (mkT [[0, 0]])) := upd_same
  have hfd0 : H fd = none := u3.free hfd
  have hwd5 := f2 _ _ hwd3
  have hw5 := hw0.mono f2
  have s5 := u3.trans f2
  generalize upd (upd (upd H3 fd (.dT [])) kb (.tup [.int 0, .int 0])) fd (.dT [(kI [0, 0], V.bl true)]) = H5 at f2 hfd5 hwd5 hw5 s5
  have nwf : wd ≠ fd := fun e => by rw [e, hfd5] at hwd5; cases hwd5
  have hw5' : WtX [wd, fd] H5 (.ref tb) (0, 0, 0) := by
    obtain ⟨b, rb', rs, h1, h2, h3, h4, h5⟩ := hw5
    refine ⟨b, rb', rs, h1, h2, fun z => ?_, h4, h5⟩
    rcases List.mem_cons.mp z with rfl | z
    · exact h3 (by simp)
    · rw [List.mem_singleton.mp z, hfd5] at h4
      cases h4
  refine ⟨fun m σ H' => ∃ (at_ : Nat) (wl : List (Nat × Nat × Nat)) (wvs : List V) (x7 x8 x9 x10 x11 x12 : Option V), m = 30001 - at_ ∧ at_ ≤ wl.length ∧ σ = [some v, some (.str p), some (.ref lb), some wv, some (.ref wd), some (.ref fd), some (.int (at_ : Nat)), x7, x8, x9, x10, x11, x12] ∧ Same H H' ∧
      H' fd = some (.dT (mkT (wl.map wk))) ∧ H' wd = some (.lst wvs) ∧ Paired (WtX [wd, fd] H') wvs wl ∧ WInv T'.rows.length sight.length wl,
    ⟨_, 0, [(0, 0, 0)], [.ref tb], _, _, _, _, _, _, rfl, Nat.zero_le _, rfl, s5, hfd5, hwd5, .cons hw5' .nil, ⟨by simp [wk], fun e he => ?_, fun i e he => ?_⟩⟩, ?_⟩
  · rw [List.mem_singleton.mp he]
    exact ⟨hw.pos, Nat.zero_le _⟩
  · cases i with
    | zero => cases he; exact Nat.le_refl _
    | succ i => cases he
  rintro m σ H7 ⟨at_, wl, wvs, x7, x8, x9, x10, x11, x12, rfl, hat, rfl, s7, hfd7, hwd7, hwv7, hinv⟩
  have hwl := Paired.length hwv7
  have hbd : wl.length ≤ 30000 := by
    have h1 := hinv.len
    have h2 : T'.rows.length * (sight.length + 1) ≤ 5 * (5000 + 1) := Nat.mul_le_mul hn5 (by omega)
    omega
  refine ⟨_, rfl, _, rfl, wd, wvs, rfl, .inl (SqL.of hwd7), _, _, rfl, rfl, _, rfl, ?_⟩
  refine ite2 (fun c => ?_) (fun c => ?_)
  · have c : ((at_ : Nat) : Int) < (wvs.length : Int) := of_decide_eq_true c
    have hao : at_ < wl.length := by omega
    obtain ⟨e, he⟩ : ∃ e, wl[at_]? = some e := ⟨_, List.getElem?_eq_getElem hao⟩
    obtain ⟨_, hv, b, rb1, rs, rfl, hb, hrbz, hrb1, hrl⟩ := pr_get hwv7 he
    have hel := hinv.lt _ (List.mem_of_getElem? he)
    have herun := hinv.run at_ _ he
    obtain ⟨s, cn, rl⟩ := e
    have hsl' : s < T'.rows.length := hel.1
    have hcl : cn ≤ sight.length := hel.2
    have hrl : rs.length = rl := hrl
    have herun : rl ≤ at_ := herun
    refine ⟨fun σ' H' => ∃ m', m' < 30001 - at_ ∧ ∃ (at_ : Nat) (wl : List (Nat × Nat × Nat)) (wvs : List V) (x7 x8 x9 x10 x11 x12 : Option V), m' = 30001 - at_ ∧ at_ ≤ wl.length ∧ σ' = [some v, some (.str p), some (.ref lb), some wv, some (.ref wd), some (.ref fd), some (.int (at_ : Nat)), x7, x8, x9, x10, x11, x12] ∧ Same H H' ∧
      H' fd = some (.dT (mkT (wl.map wk))) ∧ H' wd = some (.lst wvs) ∧ Paired (WtX [wd, fd] H') wvs wl ∧ WInv T'.rows.length sight.length wl, fun σ' H' h => h, ?_⟩
    refine ⟨_, rfl, _, rfl, wd, _, _, _, rfl, rfl, SqL.of hwd7, atI_nat hv, b, _, rfl, SqT.of hb, rfl, _, _, rfl, _, _, rfl, _, _, rfl, rfl, ?_⟩
    refine ⟨_, rfl, _, _, rfl, rfl, ?_⟩
    have hT7 := hT.mono (Tp.of s7)
    have hlb7 := s7 _ _ hlb
    have hwv7' : wv = .non ∨ ∃ a, ActV H7 wv a := hwv.imp id fun ⟨a, ha⟩ => ⟨a, ha.mono (Tp.of s7)⟩
    have hxs7 := L2.Paired.mapP hxs fun _ _ q => q.mono (Tp.of s7)
    refine ⟨_, rfl, _, rfl, lb, xs, rfl, .inl (SqL.of hlb7), rfl, _, rfl, ?_⟩
    refine if_rest (H := H7) (fun H8 s8 => ?_) (fun rest => ?_)
    · -- the row
      have s78 := s7.trans s8
      have hb8 := s8 _ _ hb
      obtain ⟨wb, ps, hwb, hps, gr⟩ := gv_row (K := K) (te := tVar 0) (ti := tVar 7) (σ := [some v, some (.str p), some (.ref lb), some wv, some (.ref wd), some (.ref fd), some (.int ((at_ : Int) + 1)), some (.int (s : Nat)), some (.int (cn : Nat)), some (.ref rb1), x10, x11, x12]) (hT.mono (Tp.of s78)) hsl' (gv_var rfl) (gv_var rfl)
      refine gr _ ⟨wb, rfl, ⟨_, SqT.of hwb⟩, ?_⟩
      refine for_tup (K := K) (a := wb) (xs := ps) (fun j => SaInv T' H H8 v wv p lb wd fd rb1 rs at_ s cn sight.length wl)
        ⟨wl, wvs, _, _, _, rfl, s78, Tp.refl _, s8 _ _ hrb1, s8 _ _ hfd7, s8 _ _ hwd7, L2.Paired.mapP hwv7 (fun _ _ q => q.mono s8), hinv, [], (List.append_nil _).symm⟩ (fun j σ H' _ ⟨_, _, _, _, _, _, _, h, _⟩ => SqT.of (h _ _ hwb)) ?_ ?_
      · rintro j x σ H9 hj ⟨wl', wvs', y10, y11, y12, rfl, s9, tp9, hrb9, hfd9, hwd9, hwv9, hinv9, more, hmore⟩
        obtain ⟨e, hej, c', z, rfl, hc', hz⟩ := pr_get' hps hj
        refine g_two (tp9 _ _ hc') ?_
        have hz9 := hz.mono tp9
        have hegl : e.2 < T'.rows.length := hw.goal _ (row_mem (List.mem_of_getElem? hej)) _ (List.mem_of_getElem? hej)
        have he' : wl'[at_]? = some (s, cn, rl) := by rw [hmore, List.getElem?_append_left hao]; exact he
        have h91 := hinv9.len
        have h92 : T'.rows.length * (sight.length + 1) ≤ 5 * (5000 + 1) := Nat.mul_le_mul hn5 (by omega)
        have hwl9 := Paired.length hwv9
        have stay : ∀ x y z, SaInv T' H H8 v wv p lb wd fd rb1 rs at_ s cn sight.length wl [some v, some (.str p), some (.ref lb), some wv, some (.ref wd), some (.ref fd), some (.int ((at_ : Int) + 1)), some (.int (s : Nat)), some (.int (cn : Nat)), some (.ref rb1), x, y, z] H9 := fun x y z => ⟨wl', wvs', _, _, _, rfl, s9, tp9, hrb9, hfd9, hwd9, hwv9, hinv9, more, hmore⟩
        -- what stands behind the test
        have last : ∀ (D : Ends) (ah : Nat), (∀ σ' H', SaInv T' H H8 v wv p lb wd fd rb1 rs at_ s cn sight.length wl σ' H' → D.nx σ' H') → ah ≤ sight.length → tIfS (tB (tDNotIn (tTup (tCons (tVar 11) (tCons (tVar 12) tNil))) (tVar 5))) (tSeq (sDPut (tVar 5) (tTup (tCons (tVar 11) (tCons (tVar 12) tNil))) (tC (.bl true))) (tDrop (tBM K "list" rAppend (tVar 4) (tCons (tTup (tCons (tVar 11) (tCons (tVar 12) (tCons (tOp rCat (tVar 9) (tLst (tCons (tVar 10) tNil))) tNil)))) tNil)))) tNext
            D [some v, some (.str p), some (.ref lb), some wv, some (.ref wd), some (.ref fd), some (.int ((at_ : Int) + 1)), some (.int (s : Nat)), some (.int (cn : Nat)), some (.ref rb1), some z, some (.int (e.2 : Nat)), some (.int (ah : Nat))] H9 := by
          intro D ah hD hah
          refine ⟨_, rfl, _, rfl, (by show 2 ≤ sizeLine; omega), fun kb1 hkb1 => ?_⟩
          have k1 : Same H9 (upd H9 kb1 (.tup [.int (e.2 : Nat), .int (ah : Nat)])) := same_new hkb1
          have hk1 : (upd H9 kb1 (.tup [.int (e.2 : Nat), .int (ah : Nat)])) kb1 = some (.tup ((kI [e.2, ah]).map kV)) := upd_same
          refine ⟨_, rfl, fd, _, rfl, DGet.t (k1 _ _ hfd9) hk1, _, rfl, ?_⟩
          rw [mkT_val]
          by_cases hin : [e.2, ah] ∈ wl'.map wk
          · rw [if_pos hin]
            exact iteF (hD _ _ ⟨wl', wvs', _, _, _, rfl, s9.trans k1, tp9.trans (Tp.of k1), k1 _ _ hrb9, k1 _ _ hfd9, k1 _ _ hwd9, L2.Paired.mapP hwv9 (fun _ _ q => q.mono k1), hinv9, more, hmore⟩)
          · rw [if_neg hin]
            refine iteT ⟨_, rfl, _, rfl, _, rfl, (by show 2 ≤ sizeLine; omega), fun kb2 hkb2 => ?_⟩
            have k2 := k1.trans (same_new (o := .tup [.int (e.2 : Nat), .int (ah : Nat)]) hkb2)
            have hk2 : (upd (upd H9 kb1 (.tup [.int (e.2 : Nat), .int (ah : Nat)])) kb2 (.tup [.int (e.2 : Nat), .int (ah : Nat)])) kb2 = some (.tup ((kI [e.2, ah]).map kV)) := upd_same
            generalize upd (upd H9 kb1 (.tup [.int (e.2 : Nat), .int (ah : Nat)])) kb2 (.tup [.int (e.2 : Nat), .int (ah : Nat)]) = H10 at k2 hk2
            have hfd10 := k2 _ _ hfd9
            refine ⟨fd, _, rfl, DPut.t (k := kI [e.2, ah]) hfd10 hk2 (by rw [mkT_len, List.length_map]; omega), ?_⟩
            rw [mkT_snoc _ _ hin]
            have tpf : Tp H10 (upd H10 fd (.dT (mkT (wl'.map wk ++ [[e.2, ah]])))) := (Tp.refl H10).put hfd10 (fun _ q => nomatch q)
            have sf : Same H (upd H10 fd (.dT (mkT (wl'.map wk ++ [[e.2, ah]])))) := same_put (s9.trans k2) hfd0
            have kf : ∀ x o, x ≠ fd → H10 x = some o → (upd H10 fd (.dT (mkT (wl'.map wk ++ [[e.2, ah]])))) x = some o := fun x o hx h => by rw [upd_ne hx]; exact h
            have hfd11 : (upd H10 fd (.dT (mkT (wl'.map wk ++ [[e.2, ah]])))) fd = some (.dT (mkT (wl'.map wk ++ [[e.2, ah]]))) := upd_same
            have hwv11 := L2.Paired.mapP hwv9 (fun _ _ (q : WtX [wd, fd] H9 _ _) => WtX.put (o := .dT (mkT (wl'.map wk ++ [[e.2, ah]]))) hfd10 (fun _ z => nomatch z) (by simp) (q.mono k2))
            generalize upd H10 fd (.dT (mkT (wl'.map wk ++ [[e.2, ah]]))) = H11 at tpf sf kf hfd11 hwv11
            have nrf : rb1 ≠ fd := fun e => hrbz (by rw [e]; simp)
            have nrw1 : rb1 ≠ wd := fun e => hrbz (by rw [e]; simp)
            have hwd11 := kf _ _ nwf (k2 _ _ hwd9)
            have hrb11 := kf _ _ nrf (k2 _ _ hrb9)
            refine ⟨_, rfl, .inl ⟨rfl, _, SqL.of hwd11⟩, _, rfl, _, rfl, _, rfl, _, rfl, (by show 1 ≤ sizeLine; omega), fun ab hab => ?_⟩
            have w1 : Same H11 (upd H11 ab (.lst [z])) := same_new hab
            refine ⟨rb1, ab, rs, [z], rfl, rfl, w1 _ _ hrb11, upd_same, by show rs.length + 1 ≤ sizeLine; omega, fun nb hnb => ⟨(by show 3 ≤ sizeLine; omega), fun tt htt => ?_⟩⟩
            have w2 := w1.trans (same_new (o := .lst (rs ++ [z])) hnb)
            have w3 := w2.trans (same_new (o := .tup [.int (e.2 : Nat), .int (ah : Nat), .ref nb]) htt)
            have hnb3 : (upd (upd (upd H11 ab (.lst [z])) nb (.lst (rs ++ [z]))) tt (.tup [.int (e.2 : Nat), .int (ah : Nat), .ref nb])) nb = some (.lst (rs ++ [z])) := same_new htt _ _ upd_same
            have htt3 : (upd (upd (upd H11 ab (.lst [z])) nb (.lst (rs ++ [z]))) tt (.tup [.int (e.2 : Nat), .int (ah : Nat), .ref nb])) tt = some (.tup [.int (e.2 : Nat), .int (ah : Nat), .ref nb]) := upd_same
            have nno : nb ≠ wd := fun e => by rw [e, w1 _ _ hwd11] at hnb; cases hnb
            have nnf : nb ≠ fd := fun e => by rw [e, w1 _ _ hfd11] at hnb; cases hnb
            generalize upd (upd (upd H11 ab (.lst [z])) nb (.lst (rs ++ [z]))) tt (.tup [.int (e.2 : Nat), .int (ah : Nat), .ref nb]) = H12 at w3 hnb3 htt3
            have hwd12 := w3 _ _ hwd11
            refine ⟨wd, wvs', _, rfl, rfl, hwd12, by omega, ?_⟩
            have hnew : WtX [wd, fd] H12 (.ref tt) (e.2, ah, rl + 1) := ⟨tt, nb, rs ++ [z], rfl, htt3, by simp [nno, nnf], hnb3, by rw [List.length_append, List.length_singleton, hrl]⟩
            have tpw : Tp H12 (upd H12 wd (.lst (wvs' ++ [.ref tt]))) := (Tp.refl H12).put hwd12 (fun _ q => nomatch q)
            have hws := WInv.snoc hinv9 he' hin hegl hah
            refine hD _ _ ⟨wl' ++ [(e.2, ah, rl + 1)], wvs' ++ [.ref tt], _, _, _, rfl, same_put (sf.trans w3) hwd0, (((tp9.trans (Tp.of k2)).trans tpf).trans (Tp.of w3)).trans tpw, by rw [upd_ne nrw1]; exact w3 _ _ hrb11, ?_, upd_same, ?_, hws, more ++ [(e.2, ah, rl + 1)], by rw [hmore, List.append_assoc]⟩
            · rw [upd_ne nwf.symm, w3 _ _ hfd11, List.map_append] <;> rfl
            · exact Paired.snoc (L2.Paired.mapP hwv11 fun _ _ q => WtX.put hwd12 (fun _ z => nomatch z) (by simp) (q.mono w3)) (WtX.put hwd12 (fun _ z => nomatch z) (by simp) hnew)
        refine ⟨_, rfl, _, rfl, _, rfl, z, e.1, p, rfl, hz9, _, rfl, ?_⟩
        refine ite2 (fun _ => ?_) (fun _ => ?_)
        · have hlb9 := s9 _ _ hlb
          have hxs9 := L2.Paired.mapP hxs fun _ _ q => q.mono (Tp.of s9)
          refine ⟨_, rfl, _, rfl, lb, xs, rfl, .inl (SqL.of hlb9), rfl, _, rfl, ?_⟩
          have ed : decide (V.int ((cn : Nat) : Int) = V.int (xs.length : Int)) = decide (cn = sight.length) := by
            rw [hsl]
            simp only [V.int.injEq]
            exact decide_eq_decide.mpr ⟨fun h => by omega, fun h => by omega⟩
          rw [ed]
          by_cases hcs : cn = sight.length
          · rw [decide_eq_true hcs]
            exact iteT (iteT (stay _ _ _))
          · rw [decide_eq_false hcs]
            obtain ⟨a2, ha2⟩ : ∃ a, sight[cn]? = some a := ⟨_, List.getElem?_eq_getElem (by omega)⟩
            obtain ⟨y2, hy2, hact2⟩ := pr_get hxs9 ha2
            refine iteF ⟨_, rfl, _, rfl, lb, _, _, _, rfl, rfl, SqL.of hlb9, atI_nat hy2, _, rfl, _, _, hact2.dp, hz9.dp, shA hact2.ok, shA hz9.ok, _, rfl, ?_⟩
            refine ite2 (fun _ => stay _ _ _) (fun _ => ?_)
            refine ⟨_, rfl, _, _, rfl, rfl, ?_⟩
            exact last _ (cn + 1) (fun σ' H' h => h) (by omega)
        · exact last _ cn (fun σ' H' h => h) (by omega)
      · rintro σ H9 ⟨wl', wvs', y10, y11, y12, rfl, s9, tp9, hrb9, hfd9, hwd9, hwv9, hinv9, more, hmore⟩
        exact ⟨30001 - (at_ + 1), by omega, at_ + 1, wl', wvs', _, _, _, _, _, _, rfl, by rw [hmore, List.length_append]; omega, rfl, s9, hfd9, hwd9, hwv9, hinv9⟩
    · -- the end of the sight
      rcases hwv7' with rfl | ⟨a0, ha0⟩
      · refine ⟨_, rfl, rfl, _, rfl, ?_⟩
        rw [show decide (V.non = V.non) = true from rfl]
        refine iteT ?_
        refine gv_end (K := K) hT7 (by rw [hw.lens]; exact hsl') (gv_var rfl) (gv_var rfl) _ ⟨_, rfl, ?_⟩
        refine ite2 (fun _ => ⟨_, rfl, hQ _ _ s7⟩) (fun _ => ?_)
        refine ⟨_, rfl, rfl, _, rfl, ?_⟩
        rw [show (!decide (V.non = V.non)) = false from rfl]
        exact iteF (iteF (rest _ (Same.refl _)))
      · have hne : ¬ wv = V.non := fun e => by
          obtain ⟨b', e', _⟩ := ha0
          rw [e'] at e
          cases e
        refine ⟨_, rfl, rfl, _, rfl, ?_⟩
        rw [decide_eq_false hne]
        refine iteF (iteF ⟨_, rfl, rfl, _, rfl, ?_⟩)
        rw [decide_eq_false hne]
        refine iteT ⟨_, rfl, _, rfl, _, rfl, v, s, wv, T', a0, rfl, hT7, hsl', ha0, rfl, _, rfl, ?_⟩
        refine ite2 (fun _ => ⟨_, rfl, hQ _ _ s7⟩) (fun _ => rest _ (Same.refl _))
  · have c : ¬ ((at_ : Nat) : Int) < (wvs.length : Int) := fun q => c (decide_eq_true q)
    exact hQ _ _ s7
end Pk
set_option Elab.async false
set_option linter.all false
set_option maxRecDepth 100000
set_option maxHeartbeats 4000000
/-! The defs, 12: stray_at, idle_at. -/
namespace Pk
open PySem PySem.Spec PyProof.Rows L2
variable {P : Program} {w : World} {K : PySem.W.Frag} {mg : Str → Option Value} {base : Heap}
def TakerHas (ms : Mch) (qs : List Nat) (a : Act) : Prop := ∃ (i : Nat) (m : Str × Tab) (q : Nat), ms[i]? = some m ∧ qs[i]? = some q ∧ a.2.1 = m.1 ∧ ∃ t, m.2.step q a = some t
structure Stray (T : Tab) (ms : Mch) (s : Nat) (qs : List Nat) (a : Act) : Prop where
  send : SendsAt ms qs a
  take : TakerHas ms qs a
  no : T.step s a = none
/-- an action of a machine has its parties among the machines -/
theorem lab_party {T : Tab} (hs : Sml T) {m : Str × Tab} (hm : m ∈ machs T) {q : Nat} {a : Act} {t : Nat} (h : (a, t) ∈ m.2.row q) : con a m.1 = true ∧ (∃ (i : Nat) (m' : Str × Tab), (machs T)[i]? = some m' ∧ m'.1 = a.2.1) ∧ ∃ (i : Nat) (m' : Str × Tab), (machs T)[i]? = some m' ∧ m'.1 = a.1 := by
  have ok := (machs_ok hs).m m hm
  obtain ⟨h1, r', hr', t', ht'⟩ := ok.lab _ (row_mem h) _ h
  have key : ∀ p, con a p = true → ∃ (i : Nat) (m' : Str × Tab), (machs T)[i]? = some m' ∧ m'.1 = p := fun p hp => by
    have : p ∈ (machs T).map (·.1) := by
      rw [machs_names]
      exact parties_mem.mpr ⟨r', hr', _, ht', hp⟩
    obtain ⟨m', hm', e⟩ := List.mem_map.mp this
    obtain ⟨i, hi⟩ := List.mem_iff_getElem?.mp hm'
    exact ⟨i, m', hi, e⟩
  exact ⟨h1, key _ (by unfold con; simp), key _ (by unfold con; simp)⟩
theorem nd_ix {ms : Mch} (nd : (ms.map (·.1)).Nodup) {i j : Nat} {m m' : Str × Tab} (hi : ms[i]? = some m) (hj : ms[j]? = some m') (e : m.1 = m'.1) : i = j := by
  obtain ⟨q1, q2⟩ := List.getElem?_eq_some_iff.mp hi
  obtain ⟨q3, q4⟩ := List.getElem?_eq_some_iff.mp hj
  rcases Nat.lt_trichotomy i j with h | h | h
  · have := List.pairwise_iff_getElem.mp nd i j (by rw [List.length_map]; exact q1) (by rw [List.length_map]; exact q3) h
    rw [List.getElem_map, List.getElem_map, q2, q4] at this
    exact absurd e this
  · exact h
  · have := List.pairwise_iff_getElem.mp nd j i (by rw [List.length_map]; exact q3) (by rw [List.length_map]; exact q1) h
    rw [List.getElem_map, List.getElem_map, q2, q4] at this
    exact absurd e.symm this
def spStray : Sp := fun vs H Q _ => ∃ (v : V) (md jb rb : Addr) (T : Tab) (kvs : List (Key × V)) (s : Nat) (qs : List Nat) (xs : List V) (run : List Act), vs = [v, .ref md, .ref jb, .ref rb] ∧ TabV H v T ∧ Sml T ∧ H md = some (.dK kvs) ∧ MsV H kvs (machs T) ∧ (machs T).length < 60 ∧
  H jb = some (.tup (nV (s :: qs))) ∧ H rb = some (.lst xs) ∧ xs.length ≤ 5000 ∧ Paired (ActV H) xs run ∧ Good T (machs T) run s qs ∧
  (∀ b H' u a x y, Same H H' → H' b = some (.tup [.str "stray", .ref rb, u, x, y]) → ActV H' u a → Stray T (machs T) s qs a → Q (.ref b) H') ∧
  ∀ H', Same H H' → (∀ a, ¬ Stray T (machs T) s qs a) → Q .non H'
theorem sc_stray_at : FnScope ["table", "machines", "joint", "run", "states", "action", "taker", "first", "second"] ["table", "machines", "joint", "run"] (defScope s_stray_at) := ⟨rfl, rfl, rfl, by decide +kernel, rfl, by decide +kernel, by decide +kernel⟩
theorem o_stray_at (T : Txt K mg) : Ok P w K mg base CX0 "stray_at" 3 ["table", "machines", "joint", "run"] spStray :=
  ok_def T.d_stray_at T.g_stray_at sc_stray_at (fun _ _ _ _ _ _ us hl => match us, hl with | [_, _, _, _], _ => rfl) (fun vs H Q E h => by obtain ⟨_, _, _, _, _, _, _, _, _, _, rfl, _⟩ := h; rfl) fun cdv A outer s H vs Q E hr h => by
  obtain ⟨v, md, jb, rb, T', kvs, s, qs, xs, run, rfl, hT, hs, hmd, hms, hlt, hjb, hrb, hxl, hxs, hg, hQ1, hQ2⟩ := h
  refine ⟨_, (PSs.nox (pss_cons (ps_set (i := 4) sc_stray_at.nd rfl (by first | exact Or.inl rfl | exact Or.inr rfl) (pe_cl (o_states_by_party T) (hr.mono (by decide)) (pa_cons (pv 1) (pa_cons (pv 2) pa_nil))))
      (pss_cons (ps_for PassesOwn.never rfl (ki_list (K := K) rfl (pe_cl (o_sends_at T) (hr.mono (by decide)) (pa_cons (pv 1) (pa_cons (pv 4) pa_nil)))) (pg_name (i := 5) sc_stray_at.nd rfl (by first | exact Or.inl rfl | exact Or.inr rfl)) (pss_cons (ps_set (i := 6) sc_stray_at.nd rfl (by first | exact Or.inl rfl | exact Or.inr rfl) (pe_ix (kx_tup (K := K) rfl) (pv 5) pe_int (fun _ _ => rfl)))
      (pss_one (ps_if (pt_cmpR op_notN (pe_cl (o_next_state T) (hr.mono (by decide)) (pa_cons (pe_dget (ru1 hr) (pv 1) (pv 6) (fun _ _ => rfl)) (pa_cons (pe_dget (ru1 hr) (pv 4) (pv 6) (fun _ _ => rfl)) (pa_cons (pv 5) pa_nil)))) pe_non (nomark _)) (pss_one (ps_if (pt_cmpR op_isN (pe_cl (o_next_state T) (hr.mono (by decide)) (pa_cons (pv 0) (pa_cons (pe_ix (kx_tup (K := K) rfl) (pv 2) pe_int (fun _ _ => rfl)) (pa_cons (pv 5) pa_nil)))) pe_non (nomark _)) (pss_cons (ps_set (i := 7) sc_stray_at.nd rfl (by first | exact Or.inl rfl | exact Or.inr rfl) (pe_cl (o_seen_alike T) (hr.mono (by decide)) (pa_cons (pv 0) (pa_cons (pe_ix (kx_tup (K := K) rfl) (pv 5) pe_int (fun _ _ => rfl)) (pa_cons (pe_cl (o_view T) (hr.mono (by decide)) (pa_cons (pv 3) (pa_cons (pe_ix (kx_tup (K := K) rfl) (pv 5) pe_int (fun _ _ => rfl)) pa_nil))) (pa_cons (pv 5) pa_nil))))))
      (pss_cons (ps_set (i := 8) sc_stray_at.nd rfl (by first | exact Or.inl rfl | exact Or.inr rfl) (pe_cl (o_seen_alike T) (hr.mono (by decide)) (pa_cons (pv 0) (pa_cons (pv 6) (pa_cons (pe_cl (o_view T) (hr.mono (by decide)) (pa_cons (pv 3) (pa_cons (pv 6) pa_nil))) (pa_cons (pv 5) pa_nil))))))
      (pss_one (ps_ret (pe_tup (pa_cons pe_str (pa_cons (pv 3) (pa_cons (pv 5) (pa_cons (pv 7) (pa_cons (pv 8) pa_nil)))))))))) pss_nil)) pss_nil))))
      (pss_one (ps_ret pe_non))))), ?_⟩
  have mok := machs_ok hs
  have hnd := machs_nodup T'
  have hqlt := Good.lt hg mok
  have hsl := Good.lts hg hs.wf
  have hql : qs.length = (machs T').length := Paired.length hqlt
  have hrl : ∀ m ∈ machs T', ∀ r ∈ m.2.rows, r.length ≤ 5000 := fun m hm => by
    obtain ⟨p, _, rfl⟩ := List.mem_map.mp hm
    exact mach_rows hs p
  refine ⟨_, rfl, _, rfl, md, jb, machs T', kvs, s, qs, rfl, hmd, hms, hnd, hjb, hql, hlt, fun sd H1 s1 hsd0 hsd => ?_⟩
  refine ⟨_, rfl, _, rfl, md, sd, machs T', kvs, qs, rfl, s1 _ _ hmd, hms.mono (Tp.of s1), hnd, hsd, hqlt, hlt, hrl, fun b H2 ys as s2 hb0 hb hys hmem hal => ?_⟩
  have s12 := s1.trans s2
  refine ⟨b, rfl, ⟨_, SqL.of hb⟩, for_list (K := K) (a := b) (xs := ys) (fun i σ H' => (∃ x5 x6 x7 x8, σ = [some v, some (.ref md), some (.ref jb), some (.ref rb), some (.ref sd), x5, x6, x7, x8]) ∧ Same H2 H' ∧ ∀ a ∈ as.take i, ¬ Stray T' (machs T') s qs a)
    ⟨⟨_, _, _, _, rfl⟩, Same.refl _, fun a ha => nomatch ha⟩ (fun i σ H' _ h => SqL.of (h.2.1 _ _ hb)) ?_ ?_⟩
  · rintro i u σ H3 hi ⟨⟨y5, y6, y7, y8, rfl⟩, s3, hno⟩
    obtain ⟨a, ha, hu⟩ := pr_get' hys hi
    have s03 := s12.trans s3
    have tp3 := Tp.of s03
    have hu3 := hu.mono (Tp.of s3)
    have ham := List.mem_of_getElem? ha
    have hsend := (hmem a).mp ham
    obtain ⟨i1, m1, q1, hm1, hq1, e1, t1, ht1⟩ := hsend
    obtain ⟨hc1, ⟨i2, m2, hm2, e2⟩, _⟩ := lab_party hs (List.mem_of_getElem? hm1) ht1
    obtain ⟨q2, hq2, hq2l⟩ := pr_get hqlt hm2
    have hms3 := hms.mono tp3
    obtain ⟨mv, hv1, hv2⟩ := ms_get hms3 hnd m2 (List.mem_of_getElem? hm2)
    have hsd3 := (s2.trans s3) _ _ hsd
    have hmd3 := s03 _ _ hmd
    refine gv_act1 hu3 (gv_var rfl) _ ?_
    rw [← e2]
    refine ⟨_, rfl, _, rfl, md, _, rfl, .inl ⟨kvs, kS m2.1, .inl hmd3, rfl, hv1.symm⟩, _, rfl, _, rfl, sd, _, rfl, .inl ⟨stK (machs T') qs, kS m2.1, .inl hsd3, rfl, (stK_val hnd hm2 hq2).symm⟩, _, rfl, mv, q2, u, m2.2, a, rfl, hv2, hq2l, hu3, rfl, _, rfl, ?_⟩
    have step1 : ∀ a', a' ∈ as.take (i + 1) → (a' = a → ¬ Stray T' (machs T') s qs a') → ¬ Stray T' (machs T') s qs a' := fun a' h1 h2 => by
      rw [takec ha] at h1
      rcases List.mem_append.mp h1 with h1 | h1
      · exact hno a' h1
      · exact h2 (List.mem_singleton.mp h1)
    cases hst : m2.2.step q2 a with
    | none =>
      refine iteF ⟨⟨_, _, _, _, rfl⟩, s3, fun a' h1 => step1 a' h1 fun e hs' => ?_⟩
      subst e
      obtain ⟨i3, m3, q3, hm3, hq3, e3, t3, ht3⟩ := hs'.take
      have := nd_ix hnd hm2 hm3 (e2.trans e3)
      subst this
      rw [hm2] at hm3
      rw [hq2] at hq3
      cases hm3
      cases hq3
      rw [hst] at ht3
      cases ht3
    | some t2 =>
      refine iteT ?_
      refine ⟨_, rfl, _, rfl, jb, _, _, _, rfl, rfl, SqT.of (tp3 _ _ hjb), atI_nat (j := 0) rfl, _, rfl, v, s, u, T', a, rfl, hT.mono tp3, hsl, hu3, rfl, _, rfl, ?_⟩
      cases hts : T'.step s a with
      | some t4 =>
        refine iteF ⟨⟨_, _, _, _, rfl⟩, s3, fun a' h1 => step1 a' h1 fun e hs' => ?_⟩
        subst e
        have := hs'.no
        rw [hts] at this
        cases this
      | none =>
        have hstray : Stray T' (machs T') s qs a := ⟨⟨i1, m1, q1, hm1, hq1, e1, t1, ht1⟩, ⟨i2, m2, q2, hm2, hq2, e2.symm, t2, hst⟩, hts⟩
        refine iteT ?_
        -- first
        have hrb3 := s03 _ _ hrb
        refine ⟨_, rfl, gv_act0 hu3 (gv_var rfl) _ ⟨_, rfl, gv_act0 hu3 (gv_var rfl) _ ⟨rb, a.1, xs, run, rfl, hrb3, hxl, L2.Paired.mapP hxs (fun _ _ q => q.mono tp3), fun lb H4 zs s4 hl0 hlb hzs => ?_⟩⟩⟩
        have hu4 := hu3.mono (Tp.of s4)
        have zl : zs.length ≤ 5000 := by
          have h1 := Paired.length hzs
          have h2 := List.length_filter_le (fun a' => con a' a.1) run
          have h3 := Paired.length hxs
          unfold seenBy at h1
          omega
        refine ⟨_, rfl, v, a.1, lb, u, T', zs, _, rfl, hT.mono (tp3.trans (Tp.of s4)), hs, hlb, zl, hzs, .inr ⟨a, hu4⟩, fun f1 H5 s5 => ?_⟩
        have s05 := (s03.trans s4).trans s5
        have hu5 := hu4.mono (Tp.of s5)
        have tp5 := Tp.of s05
        have hrb5 := s05 _ _ hrb
        refine ⟨_, rfl, _, rfl, _, rfl, _, rfl, rb, m2.1, xs, run, rfl, hrb5, hxl, L2.Paired.mapP hxs (fun _ _ q => q.mono tp5), fun lb2 H6 zs2 s6 hl0' hlb2 hzs2 => ?_⟩
        have hu6 := hu5.mono (Tp.of s6)
        have zl2 : zs2.length ≤ 5000 := by
          have h1 := Paired.length hzs2
          have h2 := List.length_filter_le (fun a' => con a' m2.1) run
          have h3 := Paired.length hxs
          unfold seenBy at h1
          omega
        refine ⟨_, rfl, v, m2.1, lb2, u, T', zs2, _, rfl, hT.mono (tp5.trans (Tp.of s6)), hs, hlb2, zl2, hzs2, .inr ⟨a, hu6⟩, fun f2 H7 s7 => ?_⟩
        have s07 := (s05.trans s6).trans s7
        have hu7 := hu6.mono (Tp.of s7)
        refine ⟨_, rfl, _, rfl, _, rfl, _, rfl, (by show 5 ≤ sizeLine; decide), fun tb htb => ?_⟩
        exact hQ1 tb _ u a f1 f2 (s07.trans (same_new htb)) upd_same (hu7.mono (Tp.new htb)) hstray
  · rintro σ H3 ⟨_, s3, hno⟩
    rw [Paired.length hys, List.take_length] at hno
    exact hQ2 H3 (s12.trans s3) fun a hs' => hno a ((hmem a).mpr hs'.send) hs'

theorem stc_it {J : It} {n : Nat} {G : Hp → Prop} {Y : Nat → Hp → V → Hp → Prop} (wk : Walk J n G Y) {g : TG} {tt : TT} {te : TE} {vs : List Nat} {σ : L2.St} {H1 : Hp} {D : Addr} {Qd : Hp → Prop} (Pv : Nat → Hp → Prop) (h0 : Pv 0 (upd H1 D (StO P w D []))) (hG : ∀ i H, i ≤ n → Pv i H → G H)
    (hs : ∀ i x H H', i < n → Pv i H → Y i H x H' → StTurn P w g tt te vs D σ x H' (Pv (i + 1))) (hd : ∀ H, Pv n H → Qd H) :
    ∃ W : Nat → Nat → Hp → Prop, (∃ m, W 0 m (upd H1 D (StO P w D []))) ∧ ∀ i m H, W i m H → (J.stop i H ∧ Qd H) ∨ (J.go i H ∧ ∃ Nx : Hp → Prop, (∀ H', Nx H' → ∃ m', m' < m ∧ W (i + 1) m' H') ∧ ∀ x H', J.yld i H x H' → StTurn P w g tt te vs D σ x H' Nx) := by
  refine ⟨fun i m H => m = n - i ∧ i ≤ n ∧ Pv i H, ⟨n, by simp, Nat.zero_le _, h0⟩, ?_⟩
  rintro i m H ⟨rfl, hi, p⟩
  have q := hG i H hi p
  by_cases hlt : i < n
  · exact .inr ⟨wk.goes i H hlt q, Pv (i + 1), fun H' p' => ⟨n - (i + 1), by omega, rfl, hlt, p'⟩, fun x H' y => hs i x H H' hlt p (wk.yields i H x H' hlt q y)⟩
  · have e : i = n := by omega
    subst e
    exact .inl ⟨wk.stops H q, hd H p⟩
structure Idle (T : Tab) (ms : Mch) (s : Nat) (qs : List Nat) : Prop where
  e : T.ends.getD s false = false
  rest : ∀ a t, (a, t) ∈ T.row s → ∃ (i : Nat) (m : Str × Tab) (q : Nat), ms[i]? = some m ∧ qs[i]? = some q ∧ a.1 = m.1 ∧ m.2.ends.getD q false = true
def spIdle : Sp := fun vs H Q _ => ∃ (v : V) (md jb rb : Addr) (T : Tab) (kvs : List (Key × V)) (s : Nat) (qs : List Nat) (xs : List V) (run : List Act), vs = [v, .ref md, .ref jb, .ref rb] ∧ TabV H v T ∧ Sml T ∧ H md = some (.dK kvs) ∧ MsV H kvs (machs T) ∧ (machs T).length < 60 ∧
  H jb = some (.tup (nV (s :: qs))) ∧ H rb = some (.lst xs) ∧ xs.length ≤ 5000 ∧ Paired (ActV H) xs run ∧ Good T (machs T) run s qs ∧
  (∀ b H' x, Same H H' → H' b = some (.tup [.str "idle", .ref rb, x]) → Idle T (machs T) s qs → Q (.ref b) H') ∧
  ∀ H', Same H H' → Q .non H'
theorem sc_idle_at : FnScope ["table", "machines", "joint", "run", "states", "senders", "action", "_", "party", "others"] ["table", "machines", "joint", "run"] (defScope s_idle_at) := ⟨rfl, rfl, rfl, by decide +kernel, rfl, by decide +kernel, by decide +kernel⟩
theorem o_idle_at (T : Txt K mg) : Ok P w K mg base CX0 "idle_at" 3 ["table", "machines", "joint", "run"] spIdle :=
  ok_def T.d_idle_at T.g_idle_at sc_idle_at (fun _ _ _ _ _ _ us hl => match us, hl with | [_, _, _, _], _ => rfl) (fun vs H Q E h => by obtain ⟨_, _, _, _, _, _, _, _, _, _, rfl, _⟩ := h; rfl) fun cdv A outer s H vs Q E hr h => by
  obtain ⟨v, md, jb, rb, T', kvs, s, qs, xs, run, rfl, hT, hs, hmd, hms, hlt, hjb, hrb, hxl, hxs, hg, hQ1, hQ2⟩ := h
  refine ⟨_, (PSs.nox (pss_cons (ps_if (pt_val (pe_ix (kx_tup (K := K) rfl) (pe_ix (kx_tup (K := K) rfl) (pv 0) pe_int (fun _ _ => rfl)) (pe_ix (kx_tup (K := K) rfl) (pv 2) pe_int (fun _ _ => rfl)) (fun _ _ => rfl))) (pss_one (ps_ret pe_non)) pss_nil)
      (pss_cons (ps_set (i := 4) sc_idle_at.nd rfl (by first | exact Or.inl rfl | exact Or.inr rfl) (pe_cl (o_states_by_party T) (hr.mono (by decide)) (pa_cons (pv 1) (pa_cons (pv 2) pa_nil))))
      (pss_cons (ps_set (i := 5) sc_idle_at.nd rfl (by first | exact Or.inl rfl | exact Or.inr rfl) (pe_callB (id := "sorted") (cr_sortSt rfl (ru64 hr)) (by rfl) T.n_sorted (by decide +kernel) (pa_cons (pe_stC (own := [("action", 6), ("_", 7)]) (tt := tYes) rfl sc_idle_at.nd (ki_tup (K := K) rfl (pe_ix (kx_tup (K := K) rfl) (pe_ix (kx_tup (K := K) rfl) (pv 0) pe_int (fun _ _ => rfl)) (pe_ix (kx_tup (K := K) rfl) (pv 2) pe_int (fun _ _ => rfl)) (fun _ _ => rfl))) (blkOk_by (N := ["table", "machines", "joint", "run", "states", "senders", "action", "_", "party", "others"]) (sc := defScope s_idle_at) (by decide +kernel)) (fun _ _ _ _ _ => (kg_tup (K := K) (n := 2) rfl rfl (pgs_cons (pg_name (i := 6) sc_idle_at.nd rfl (by first | exact Or.inl rfl | exact Or.inr rfl)) (pgs_cons (pg_name (i := 7) sc_idle_at.nd rfl (by first | exact Or.inl rfl | exact Or.inr rfl)) pgs_nil)))) (fun _ _ _ _ _ => pts_nil) (fun _ _ _ _ _ => (pe_ix (kx_tup (K := K) rfl) (pv 6) pe_int (fun _ _ => rfl)))) pa_nil)))
      (pss_cons (ps_for PassesOwn.never rfl (ki_list (K := K) rfl (pv 5)) (pg_name (i := 8) sc_idle_at.nd rfl (by first | exact Or.inl rfl | exact Or.inr rfl)) (pss_one (ps_if (pt_not (pt_val (pe_ix (kx_tup (K := K) rfl) (pe_ix (kx_tup (K := K) rfl) (pe_dget (ru1 hr) (pv 1) (pv 8) (fun _ _ => rfl)) pe_int (fun _ _ => rfl)) (pe_dget (ru1 hr) (pv 4) (pv 8) (fun _ _ => rfl)) (fun _ _ => rfl)))) (pss_one (ps_ret pe_non)) pss_nil)))
      (pss_cons (ps_setLc (i := 9) (own := [("party", 8)]) (tt := tYes) rfl sc_idle_at.nd rfl rfl (sw_true rfl rfl rfl (by decide +kernel)) (ki_list (K := K) rfl (pv 5)) (blkOk_by (N := ["table", "machines", "joint", "run", "states", "senders", "action", "_", "party", "others"]) (sc := defScope s_idle_at) (by decide +kernel)) (fun _ _ _ _ _ => (pg_name (i := 8) sc_idle_at.nd rfl (by first | exact Or.inl rfl | exact Or.inr rfl))) (fun _ _ _ _ _ => pts_nil) (fun _ _ _ _ _ => (pe_tup (pa_cons (pv 8) (pa_cons (pe_cl (o_seen_alike T) (hr.mono (by decide)) (pa_cons (pv 0) (pa_cons (pv 8) (pa_cons (pe_cl (o_view T) (hr.mono (by decide)) (pa_cons (pv 3) (pa_cons (pv 8) pa_nil))) (pa_cons pe_non pa_nil))))) pa_nil)))))
      (pss_one (ps_ret (pe_tup (pa_cons pe_str (pa_cons (pv 3) (pa_cons (pv 9) pa_nil)))))))))))), ?_⟩
  have big : (400000 : Nat) < sizeLine := by decide
  have mok := machs_ok hs
  have hnd := machs_nodup T'
  have hqlt := Good.lt hg mok
  have hsl := Good.lts hg hs.wf
  have hql : qs.length = (machs T').length := Paired.length hqlt
  refine gv_end (K := K) hT (by rw [hs.wf.lens]; exact hsl) (gv_var rfl) (gv_ixT (i := 0) (gv_var rfl) gv_int hjb rfl) _ ⟨_, rfl, ?_⟩
  cases hend : T'.ends.getD s false with
  | true => exact iteT (hQ2 H (Same.refl H))
  | false =>
  refine iteF ?_
  refine ⟨_, rfl, _, rfl, md, jb, machs T', kvs, s, qs, rfl, hmd, hms, hnd, hjb, hql, hlt, fun sd H1 s1 hsd0 hsd => ?_⟩
  obtain ⟨wb, ps, hwb, hps, gr⟩ := gv_row (K := K) (te := tVar 0) (ti := tOp (rIxT K) (tVar 2) (tC (.int 0))) (σ := [some v, some (.ref md), some (.ref jb), some (.ref rb), some (.ref sd), none, none, none, none, none]) (hT.mono (Tp.of s1)) hsl (gv_var rfl) (gv_ixT (i := 0) (gv_var rfl) gv_int (Tp.of s1 _ _ hjb) rfl)
  refine gr _ ⟨wb, rfl, ⟨_, SqT.of hwb⟩, fun D hD => ?_⟩
  have nst : ∀ l xs, StO P w D l ≠ .tup xs := fun l xs z => by unfold StO at z; cases z
  refine stc_it (walk_tup (K := K) (a := wb) (xs := ps)) (fun i H' => Same H1 H' ∧ ∃ l, H' D = some (StO P w D l) ∧ l.length ≤ i ∧ ∀ x, x ∈ l ↔ ∃ e ∈ (T'.row s).take i, e.1.1 = x) ⟨same_new hD, [], upd_same, Nat.le_refl _, fun x => by simp⟩ (fun i H' _ h => SqT.of (h.1 _ _ hwb)) ?_ ?_
  · rintro i x H2' H2 hi ⟨s2, l, hD2, hll, hmem⟩ ⟨rfl, hx⟩
    obtain ⟨e, he, c, z, rfl, hc, hz⟩ := pr_get' hps hx
    unfold StTurn
    refine g_two (s2 _ _ hc) ⟨rfl, ?_⟩
    have hrow5 : (T'.row s).length ≤ 50 := by
      have : e ∈ T'.row s := List.mem_of_getElem? he
      exact hs.r _ (row_mem this)
    have hi5 : i < (T'.row s).length := (List.getElem?_eq_some_iff.mp he).1
    have sb : scanBound = 4096 := rfl
    refine gv_act0 (hz.mono (Tp.of s2)) (gv_var rfl) _ ⟨e.1.1, l, rfl, hD2, by omega, same_put s2 hD, _, upd_same, ?_, fun x => ?_⟩
    · split
      · omega
      · rw [List.length_cons]; omega
    · rw [takec he]
      have : x ∈ (if e.1.1 ∈ l then l else e.1.1 :: l) ↔ x ∈ l ∨ x = e.1.1 := by
        split
        · rename_i h
          constructor
          · exact .inl
          · rintro (h1 | rfl)
            · exact h1
            · exact h
        · rw [List.mem_cons]
          exact Or.comm
      rw [this, hmem x]
      constructor
      · rintro (⟨e', h1, h2⟩ | rfl)
        · exact ⟨e', List.mem_append_left _ h1, h2⟩
        · exact ⟨e, List.mem_append_right _ (List.mem_singleton.mpr rfl), rfl⟩
      · rintro ⟨e', h1, h2⟩
        rcases List.mem_append.mp h1 with h1 | h1
        · exact .inl ⟨e', h1, h2⟩
        · rw [List.mem_singleton.mp h1] at h2
          exact .inr h2.symm
  rintro H2 ⟨s2, l, hD2, hll, hmem⟩
  rw [Paired.length hps, List.take_length] at hmem
  rw [Paired.length hps] at hll
  have hrow5 : (T'.row s).length ≤ 50 := by
    cases hr : T'.row s with
    | nil => exact Nat.zero_le _
    | cons e r =>
      have : e ∈ T'.row s := by rw [hr]; exact List.mem_cons_self
      rw [← hr]
      exact hs.r _ (row_mem this)
  have sb : scanBound = 4096 := rfl
  refine ⟨D, l, rfl, hD2, by omega, fun sl zs hsl0 hzs hzl => ?_⟩
  have s02 := s1.trans s2
  have s3 : Same H2 (upd H2 sl (.lst (zs.map V.str))) := same_new hsl0
  have hsl3 : (upd H2 sl (.lst (zs.map V.str))) sl = some (.lst (zs.map V.str)) := upd_same
  generalize upd H2 sl (.lst (zs.map V.str)) = H3 at s3 hsl3
  have s03 := s02.trans s3
  have hmz : ∀ x, x ∈ zs ↔ ∃ e ∈ T'.row s, e.1.1 = x := fun x => by rw [hzs x]; exact hmem x
  -- each sender's machine
  have sender : ∀ x ∈ zs, ∃ (i : Nat) (m : Str × Tab) (q : Nat), (machs T')[i]? = some m ∧ qs[i]? = some q ∧ x = m.1 ∧ q < m.2.rows.length := fun x hx => by
    obtain ⟨e, he, rfl⟩ := (hmz x).mp hx
    have : e.1.1 ∈ (machs T').map (·.1) := by
      rw [machs_names]
      exact parties_mem.mpr ⟨_, row_mem he, e, he, by unfold con; simp⟩
    obtain ⟨m, hm, e2⟩ := List.mem_map.mp this
    obtain ⟨i, hi⟩ := List.mem_iff_getElem?.mp hm
    obtain ⟨q, hq, hql'⟩ := pr_get hqlt hi
    exact ⟨i, m, q, hi, hq, e2.symm, hql'⟩
  refine ⟨_, rfl, sl, rfl, ⟨_, SqL.of hsl3⟩, for_list (K := K) (a := sl) (xs := zs.map V.str) (fun i σ H' => (∃ x8 x9, σ = [some v, some (.ref md), some (.ref jb), some (.ref rb), some (.ref sd), some (.ref sl), none, none, x8, x9]) ∧ H' = H3 ∧ ∀ x ∈ zs.take i, ∃ (i : Nat) (m : Str × Tab) (q : Nat), (machs T')[i]? = some m ∧ qs[i]? = some q ∧ x = m.1 ∧ m.2.ends.getD q false = true)
    ⟨⟨_, _, rfl⟩, rfl, fun x hx => nomatch hx⟩ (fun i σ H' _ h => by rw [h.2.1]; exact SqL.of hsl3) ?_ ?_⟩
  · rintro i x σ H4 hi ⟨⟨y8, y9, rfl⟩, rfl, hall⟩
    rw [List.getElem?_map] at hi
    cases hz : zs[i]? with
    | none => rw [hz] at hi; cases hi
    | some x0 =>
    rw [hz] at hi
    cases hi
    obtain ⟨i1, m1, q1, hm1, hq1, rfl, hq1l⟩ := sender x0 (List.mem_of_getElem? hz)
    have tp3 := Tp.of s03
    have hms3 := hms.mono tp3
    obtain ⟨mv, hv1, hv2⟩ := ms_get hms3 hnd m1 (List.mem_of_getElem? hm1)
    have hsd3 := (s2.trans s3) _ _ hsd
    have hmd3 := s03 _ _ hmd
    have mwf := (mok.m m1 (List.mem_of_getElem? hm1)).wf
    refine gv_end (K := K) hv2 (by rw [mwf.lens]; exact hq1l) (fun Q q => ⟨_, rfl, _, rfl, md, _, rfl, .inl ⟨kvs, kS m1.1, .inl hmd3, rfl, hv1.symm⟩, q⟩) (fun Q q => ⟨_, rfl, _, rfl, sd, _, rfl, .inl ⟨stK (machs T') qs, kS m1.1, .inl hsd3, rfl, (stK_val hnd hm1 hq1).symm⟩, q⟩) _ ⟨_, rfl, ?_⟩
    cases he : m1.2.ends.getD q1 false with
    | false => exact iteT (hQ2 _ s03)
    | true =>
      refine iteF ⟨⟨_, _, rfl⟩, rfl, fun x hx => ?_⟩
      rw [takec hz] at hx
      rcases List.mem_append.mp hx with hx | hx
      · exact hall x hx
      · rw [List.mem_singleton.mp hx]
        exact ⟨i1, m1, q1, hm1, hq1, rfl, he⟩
  · rintro σ H4 ⟨⟨y8, y9, rfl⟩, rfl, hall⟩
    rw [List.length_map, List.take_length] at hall
    have hidle : Idle T' (machs T') s qs := ⟨hend, fun a t hat => hall a.1 ((hmz a.1).mpr ⟨(a, t), hat, rfl⟩)⟩
    refine ⟨_, rfl, sl, rfl, ⟨_, SqL.of hsl3⟩, fun od hod => ?_⟩
    refine lc_list (K := K) (a := sl) (xs := zs.map V.str) (fun i H' => Same H4 H' ∧ ∃ ov, H' od = some (.lst ov) ∧ ov.length ≤ i) ⟨same_new hod, [], upd_same, Nat.le_refl _⟩ (fun i H' _ h => SqL.of (h.1 _ _ hsl3)) ?_ ?_
    · rintro i x H5 hi ⟨s5, ov, hov, hovl⟩
      rw [List.getElem?_map] at hi
      cases hz : zs[i]? with
      | none => rw [hz] at hi; cases hi
      | some x0 =>
      rw [hz] at hi
      cases hi
      have hil : i < zs.length := (List.getElem?_eq_some_iff.mp hz).1
      have s05 := s03.trans s5
      have tp5 := Tp.of s05
      refine ⟨rfl, ?_⟩
      refine ⟨_, rfl, _, rfl, _, rfl, _, rfl, _, rfl, rb, x0, xs, run, rfl, s05 _ _ hrb, hxl, L2.Paired.mapP hxs (fun _ _ q => q.mono tp5), fun lb H6 ys s6 hl0 hlb hys => ?_⟩
      have yl : ys.length ≤ 5000 := by
        have h1 := Paired.length hys
        have h2 := List.length_filter_le (fun a' => con a' x0) run
        have h3 := Paired.length hxs
        unfold seenBy at h1
        omega
      refine ⟨v, x0, lb, .non, T', ys, _, rfl, hT.mono (tp5.trans (Tp.of s6)), hs, hlb, yl, hys, .inl rfl, fun f1 H7 s7 => ⟨(by show 2 ≤ sizeLine; omega), fun tb htb => ?_⟩⟩
      have s57 := (s6.trans s7).trans (same_new (o := .tup [.str x0, f1]) htb)
      exact ⟨ov, s57 _ _ hov, by omega, same_put (s5.trans s57) hod, ov ++ [.ref tb], upd_same, by rw [List.length_append, List.length_singleton]; omega⟩
    · rintro H5 ⟨s5, ov, hov, hovl⟩
      refine ⟨_, rfl, _, rfl, (by show 3 ≤ sizeLine; omega), fun tb htb => ?_⟩
      exact hQ1 tb _ _ ((s03.trans s5).trans (same_new htb)) upd_same hidle
end Pk
set_option Elab.async false
set_option linter.all false
set_option maxRecDepth 100000
set_option maxHeartbeats 4000000
/-! The defs, 13: check. -/
namespace Pk
open PySem PySem.Spec PyProof.Rows L2
variable {P : Program} {w : World} {K : PySem.W.Frag} {mg : Str → Option Value} {base : Heap}
/-- what check may give -/
structure CkQ (K : PySem.W.Frag) (T : Tab) (H : Hp) (Q : VK) : Prop where
  stray : ∀ b H' rb u a x y s qs xs run, Same H H' → H' b = some (.tup [.str "stray", .ref rb, u, x, y]) → H' rb = some (.lst xs) → Paired (ActV H') xs run → run.length ≤ 3000 → ActV H' u a → Good T (machs T) run s qs → Stray T (machs T) s qs a → Q (.ref b) H'
  idle : ∀ b H' rb x s qs xs run, Same H H' → H' b = some (.tup [.str "idle", .ref rb, x]) → H' rb = some (.lst xs) → Paired (ActV H') xs run → run.length ≤ 3000 → Good T (machs T) run s qs → Idle T (machs T) s qs → Q (.ref b) H'
  fine : ∀ b H' ord, Same H H' → H' b = some (.tup [.str "fine"]) → JOk T (machs T) ord → (∀ e ∈ ord, ∀ a, ¬ Stray T (machs T) e.1 e.2.1 a) → Q (.ref b) H'
def spCheck (K : PySem.W.Frag) : Sp := fun vs H Q E => ∃ (v : V) (T : Tab), vs = [v] ∧ TabV H v T ∧ Sml T ∧ (parties T).length < 60 ∧ CkQ K T H Q ∧ ∀ H', Same H H' → E (.ref (He.ga K "TooLarge")) none H'
theorem sc_check : FnScope ["table", "machines", "joint", "run", "fault"] ["table"] (defScope s_check) := ⟨rfl, rfl, rfl, by decide +kernel, rfl, by decide +kernel, by decide +kernel⟩
theorem o_check (T : Txt K mg) : Ok P w K mg base (L2.CX P w) "check" 8 ["table"] (spCheck K) :=
  ok_def T.d_check T.g_check sc_check (fun _ _ _ _ _ _ us hl => match us, hl with | [_], _ => rfl) (fun vs H Q E h => by obtain ⟨_, _, rfl, _⟩ := h; rfl) fun cdv A outer s H vs Q E hr h => by
  obtain ⟨v, T', rfl, hT, hs, hp, hQ, hE⟩ := h
  refine ⟨_, (pss_cons (ps_set (i := 1) sc_check.nd rfl (by first | exact Or.inl rfl | exact Or.inr rfl) (pe_cl (o_machines_of T) (hr.mono (by decide)) (pa_cons (pv 0) pa_nil)))
      (pss_cons (ps_for (passes_of rfl) rfl (ki_list (K := K) rfl (pe_clX (o_joint_states T) (passes_call (takes_of rfl rfl rfl rfl) (fun _ _ _ _ h => h)) (hr.mono (by decide)) (pa_cons (pv 0) pa_nil))) (kg_tup (K := K) (n := 2) rfl rfl (pgs_cons (pg_name (i := 2) sc_check.nd rfl (by first | exact Or.inl rfl | exact Or.inr rfl)) (pgs_cons (pg_name (i := 3) sc_check.nd rfl (by first | exact Or.inl rfl | exact Or.inr rfl)) pgs_nil))) (pss_cons (ps_set (i := 4) sc_check.nd rfl (by first | exact Or.inl rfl | exact Or.inr rfl) (pe_cl (o_stray_at T) (hr.mono (by decide)) (pa_cons (pv 0) (pa_cons (pv 1) (pa_cons (pv 2) (pa_cons (pv 3) pa_nil))))))
      (pss_cons (ps_if (pt_cmpR op_isN (pv 4) pe_non (nomark _)) (pss_one (ps_set (i := 4) sc_check.nd rfl (by first | exact Or.inl rfl | exact Or.inr rfl) (pe_cl (o_idle_at T) (hr.mono (by decide)) (pa_cons (pv 0) (pa_cons (pv 1) (pa_cons (pv 2) (pa_cons (pv 3) pa_nil))))))) pss_nil)
      (pss_one (ps_if (pt_cmpR op_notN (pv 4) pe_non (nomark _)) (pss_one (ps_ret (pv 4))) pss_nil)))))
      (pss_one (ps_ret (pe_tup (pa_cons pe_str pa_nil)))))), ?_⟩
  have hml : (machs T').length < 60 := by unfold machs; rw [List.length_map]; exact hp
  refine ⟨_, rfl, v, T', rfl, hT, hs, hp, fun md H1 kvs s1 hmd0 hmd hms => ?_⟩
  refine ⟨_, rfl, v, T', rfl, hT.mono (Tp.of s1), hs, hp, fun b H2 ov ord s2 hb0 hb hov hjo => ?_, fun H' s' => hE H' (s1.trans s')⟩
  have s02 := s1.trans s2
  refine ⟨b, rfl, ⟨_, SqL.of hb⟩, for_list (K := K) (a := b) (xs := ov) (fun i σ H' => (∃ x2 x3 x4, σ = [some v, some (.ref md), x2, x3, x4]) ∧ Same H2 H' ∧ ∀ e ∈ ord.take i, ∀ a, ¬ Stray T' (machs T') e.1 e.2.1 a)
    ⟨⟨_, _, _, rfl⟩, Same.refl _, fun e he => nomatch he⟩ (fun i σ H' _ h => SqL.of (h.2.1 _ _ hb)) ?_ ?_⟩
  · rintro i x σ H3 hi ⟨⟨y2, y3, y4, rfl⟩, s3, hno⟩
    obtain ⟨e, he, tb, jb, rb, rs, rfl, htb, hjb, _, hrb, hrs⟩ := pr_get' hov hi
    obtain ⟨s, qs, run⟩ := e
    have hgood := hjo.inv.good _ (List.mem_of_getElem? he)
    have hrun := hjo.inv.run _ _ he
    have hil := (List.getElem?_eq_some_iff.mp he).1
    have hle := hjo.inv.le
    have hrun : run.length ≤ i := hrun
    have hrl : rs.length = run.length := Paired.length hrs
    have s03 := s02.trans s3
    have tp3 := Tp.of s3
    refine g_two (s3 _ _ htb) ?_
    have hrs3 := L2.Paired.mapP hrs fun _ _ q => q.mono tp3
    have hrb3 := s3 _ _ hrb
    have hjb3 := s3 _ _ hjb
    have hmd3 := (s2.trans s3) _ _ hmd
    have hms3 := hms.mono (Tp.of (s2.trans s3))
    refine ⟨_, rfl, _, rfl, _, rfl, _, rfl, v, md, jb, rb, T', kvs, s, qs, rs, run, rfl, hT.mono (Tp.of s03), hs, hmd3, hms3, hml, hjb3, hrb3, by omega, hrs3, hgood, fun fb H4 u a x y s4 hfb hu hst => ?_, fun H4 s4 hns => ?_⟩
    · -- stray
      refine ⟨_, rfl, rfl, _, rfl, iteF ?_⟩
      refine ⟨_, rfl, rfl, _, rfl, iteT ⟨_, rfl, ?_⟩⟩
      exact hQ.stray fb H4 rb u a x y s qs rs run (s03.trans s4) hfb (s4 _ _ hrb3) (L2.Paired.mapP hrs3 fun _ _ q => q.mono (Tp.of s4)) (by omega) hu hgood hst
    · refine ⟨_, rfl, rfl, _, rfl, iteT ?_⟩
      have s04 := s03.trans s4
      refine ⟨_, rfl, _, rfl, _, rfl, _, rfl, v, md, jb, rb, T', kvs, s, qs, rs, run, rfl, hT.mono (Tp.of s04), hs, s4 _ _ hmd3, hms3.mono (Tp.of s4), hml, s4 _ _ hjb3, s4 _ _ hrb3, by omega, L2.Paired.mapP hrs3 (fun _ _ q => q.mono (Tp.of s4)), hgood, fun fb H5 x s5 hfb hid => ?_, fun H5 s5 => ?_⟩
      · refine ⟨_, rfl, rfl, _, rfl, iteT ⟨_, rfl, ?_⟩⟩
        exact hQ.idle fb H5 rb x s qs rs run (s04.trans s5) hfb ((s4.trans s5) _ _ hrb3) (L2.Paired.mapP hrs3 fun _ _ q => q.mono (Tp.of (s4.trans s5))) (by omega) hgood hid
      · refine ⟨_, rfl, rfl, _, rfl, iteF ⟨⟨_, _, _, rfl⟩, (s3.trans s4).trans s5, fun e' he' => ?_⟩⟩
        rw [takec he] at he'
        rcases List.mem_append.mp he' with q | q
        · exact hno e' q
        · rw [List.mem_singleton.mp q]; exact hns
  · rintro σ H3 ⟨_, s3, hno⟩
    rw [Paired.length hov, List.take_length] at hno
    refine ⟨(by show 1 ≤ sizeLine; decide), fun tb htb => ?_⟩
    exact hQ.fine tb _ ord ((s02.trans s3).trans (same_new htb)) upd_same hjo hno
end Pk
set_option Elab.async false
set_option linter.all false
set_option maxRecDepth 100000
set_option maxHeartbeats 4000000
/-! The defs, 14: sum_of, record. -/
namespace Pk
open PySem PySem.Spec PyProof.Rows L2
variable {P : Program} {w : World} {K : PySem.W.Frag} {mg : Str → Option Value} {base : Heap}
theorem len_app (a b : Str) : (a ++ b).length = a.length + b.length := by
  show (a.cps ++ b.cps).size = _
  rw [Array.size_append] <;> rfl
theorem len_of (s : String) : (Str.ofString s).length = s.length := PySem.ofString_length s
def spSum : Sp := fun vs H Q _ => ∃ (z : Str), vs = [.str z] ∧ ∀ n : Int, 0 ≤ n → n < 9973 → Q (.int n) H
theorem sc_sum_of : FnScope ["text", "total", "char"] ["text"] (defScope s_sum_of) := ⟨rfl, rfl, rfl, by decide +kernel, rfl, by decide +kernel, by decide +kernel⟩
theorem o_sum_of (T : Txt K mg) : Ok P w K mg base CX0 "sum_of" 1 ["text"] spSum :=
  ok_def T.d_sum_of T.g_sum_of sc_sum_of (fun _ _ _ _ _ _ us hl => match us, hl with | [_], _ => rfl) (fun vs H Q E h => by obtain ⟨_, rfl, _⟩ := h; rfl) fun cdv A outer s H vs Q E hr h => by
  obtain ⟨z, rfl, hQ⟩ := h
  obtain ⟨t1, gS⟩ := T.i_START
  obtain ⟨t2, gF⟩ := T.i_FACTOR
  obtain ⟨t3, gM⟩ := T.i_MODULUS
  refine ⟨_, (PSs.nox (pss_cons (ps_set (i := 1) sc_sum_of.nd rfl (by first | exact Or.inl rfl | exact Or.inr rfl) (pe_glob (v := .int 7) rfl gS ⟨_, rfl⟩))
      (pss_cons (ps_for PassesOwn.never rfl (pi_str (pv 0)) (pg_name (i := 2) sc_sum_of.nd rfl (by first | exact Or.inl rfl | exact Or.inr rfl)) (pss_one (ps_set (i := 1) sc_sum_of.nd rfl (by first | exact Or.inl rfl | exact Or.inr rfl) (pe_op op_mod (pe_op op_add (pe_op op_mul (pe_glob (v := .int 31) rfl gF ⟨_, rfl⟩) (pv 1)) (pe_callB (id := "ord") call_ord (by rfl) T.n_ord (by decide +kernel) (pa_cons (pv 2) pa_nil))) (pe_glob (v := .int 9973) rfl gM ⟨_, rfl⟩)))))
      (pss_one (ps_ret (pv 1)))))), ?_⟩
  refine ⟨_, rfl, z, rfl, for_it (walk_str (z := z)) (fun i σ H' => H' = H ∧ ∃ (n : Int) (x : Option V), 0 ≤ n ∧ n < 9973 ∧ σ = [some (.str z), some (.int n), x]) ⟨rfl, 7, none, by decide, by decide, rfl⟩ (fun _ _ _ _ _ => trivial) ?_ ?_⟩
  · rintro i x σ H1 H2 hi ⟨rfl, n, y, h0, h1, rfl⟩ ⟨rfl, c, hc, rfl⟩
    refine ⟨_, rfl, _, _, rfl, rfl, .inl ⟨by decide, by decide⟩, _, rfl, _, rfl, rfl, _, _, rfl, rfl, _, _, rfl, rfl, (by show (0 : Int) < 9973; decide), ?_⟩
    exact ⟨rfl, _, _, Int.emod_nonneg _ (by decide), Int.emod_lt_of_pos _ (by decide), rfl⟩
  · rintro σ H1 ⟨rfl, n, y, h0, h1, rfl⟩
    exact ⟨_, rfl, hQ n h0 h1⟩
def spRecord : Sp := fun vs H Q _ => ∃ (k o l : Str) (n : Int), vs = [.str k, .str o, .str l, .int n] ∧ k.length ≤ 50 ∧ o.length ≤ 50 ∧ l.length ≤ 50 ∧ 0 ≤ n ∧ n < 100000 ∧ ∀ z : Str, z.length ≤ 200 → Q (.str z) H
theorem log_small {n : Int} (h0 : 0 ≤ n) (h1 : n < 100000) : n.natAbs.log2 < 1920 := by
  have : n.natAbs < 100000 := by omega
  have h2 : n.natAbs.log2 ≤ n.natAbs := by
    by_cases h : n.natAbs = 0
    · rw [h]; decide
    · have := (Nat.log2_lt h (k := 17)).mpr (by omega)
      by_cases h3 : 17 ≤ n.natAbs
      · omega
      · have := (Nat.log2_lt h (k := n.natAbs)).mpr Nat.lt_two_pow_self
        omega
  by_cases h : n.natAbs = 0
  · rw [h]; decide
  · have := (Nat.log2_lt h (k := 17)).mpr (by omega)
    omega
theorem txt_small {n : Int} (h0 : 0 ≤ n) (h1 : n < 100000) : (Str.ofString (toString n)).length ≤ 6 := by
  rw [len_of]
  exact int_text_length_le10 (k := 5) (by decide) (by omega)
theorem sc_record : FnScope ["kind", "other", "label", "number", "text"] ["kind", "other", "label", "number"] (defScope s_record) := ⟨rfl, rfl, rfl, by decide +kernel, rfl, by decide +kernel, by decide +kernel⟩
theorem o_record (T : Txt K mg) : Ok P w K mg base CX0 "record" 2 ["kind", "other", "label", "number"] spRecord :=
  ok_def T.d_record T.g_record sc_record (fun _ _ _ _ _ _ us hl => match us, hl with | [_, _, _, _], _ => rfl) (fun vs H Q E h => by obtain ⟨_, _, _, _, rfl, _⟩ := h; rfl) fun cdv A outer s H vs Q E hr h => by
  obtain ⟨k, o, l, n, rfl, hk, ho, hl, h0, h1, hQ⟩ := h
  refine ⟨_, (PSs.nox (pss_cons (ps_set (i := 4) sc_record.nd rfl (by first | exact Or.inl rfl | exact Or.inr rfl) (pe_op op_add_str (pe_op op_add_str (pe_op op_add_str (pe_op op_add_str (pe_op op_add_str (pe_op op_add_str (pe_op op_add_str (pv 0) pe_str) (pv 1)) pe_str) (pv 2)) pe_str) (pe_callTy (T := "str") call_str_int (by rfl) T.n_str (by decide +kernel) (pa_cons (pv 3) pa_nil))) pe_str))
      (pss_one (ps_ret (pe_op op_add_str (pe_op op_add_str (pv 4) (pe_callTy (T := "str") call_str_int (by rfl) T.n_str (by decide +kernel) (pa_cons (pe_cl (o_sum_of T) (hr.mono (by decide)) (pa_cons (pv 4) pa_nil)) pa_nil))) pe_str))))), ?_⟩
  have big : (400000 : Nat) < sizeLine := by decide
  have e1 : (Str.ofString " ").length = 1 := by decide +kernel
  have e2 : (Str.ofString "\n").length = 1 := by decide +kernel
  have hn := txt_small h0 h1
  have step : ∀ {a b : Str} {N : Nat}, a.length + b.length ≤ N → N ≤ 400000 → a.length + b.length ≤ sizeLine := fun h1 h2 => by omega
  refine ⟨_, rfl, _, _, rfl, rfl, by omega, _, rfl, _, _, rfl, rfl, by rw [len_app]; omega, _, _, rfl, rfl, by rw [len_app, len_app]; omega, _, rfl, _, _, rfl, rfl, by rw [len_app, len_app, len_app]; omega,
    _, _, rfl, rfl, by rw [len_app, len_app, len_app, len_app]; omega, _, rfl, n, rfl, log_small h0 h1, _, _, rfl, rfl, by rw [len_app, len_app, len_app, len_app, len_app]; omega, _, _, rfl, rfl, by rw [len_app, len_app, len_app, len_app, len_app, len_app]; omega, ?_⟩
  have hz : (k ++ Str.ofString " " ++ o ++ Str.ofString " " ++ l ++ Str.ofString " " ++ Str.ofString (toString n) ++ Str.ofString " ").length ≤ 170 := by
    rw [len_app, len_app, len_app, len_app, len_app, len_app, len_app]
    omega
  generalize k ++ Str.ofString " " ++ o ++ Str.ofString " " ++ l ++ Str.ofString " " ++ Str.ofString (toString n) ++ Str.ofString " " = z at hz
  refine ⟨_, rfl, _, rfl, z, rfl, fun m h2 h3 => ?_⟩
  have hm := txt_small h2 (show m < 100000 by omega)
  refine ⟨m, rfl, log_small h2 (by omega), _, _, rfl, rfl, by omega, _, _, rfl, rfl, by rw [len_app]; omega, hQ _ (by rw [len_app, len_app]; omega)⟩
end Pk
set_option Elab.async false
set_option linter.all false
set_option maxRecDepth 100000
set_option maxHeartbeats 4000000
/-! Parties in the heap. -/
namespace Pk
open PySem PySem.Spec PyProof.Rows L2
/-- a party's fields, in the order in which they are made -/
def paF (nm m q pd sd w wd od j : V) : List (Str × V) := [("_name", nm), ("_machine", m), ("_state", q), ("_posted", pd), ("_settled", sd), ("_waiting", w), ("_withdrawing", wd), ("_offers", od), ("_journal", j)]
section
variable (nm m q pd sd w wd od j x : V)
theorem pa_made : putF "_journal" j (putF "_offers" od (putF "_withdrawing" wd (putF "_waiting" w (putF "_settled" sd (putF "_posted" pd (putF "_state" q (putF "_machine" m (putF "_name" nm [])))))))) = paF nm m q pd sd w wd od j := by kernel_rfl
theorem paF_name : (paF nm m q pd sd w wd od j).lookup ("_name" : Str) = some nm := by kernel_rfl
theorem paF_machine : (paF nm m q pd sd w wd od j).lookup ("_machine" : Str) = some m := by kernel_rfl
theorem paF_state : (paF nm m q pd sd w wd od j).lookup ("_state" : Str) = some q := by kernel_rfl
theorem paF_posted : (paF nm m q pd sd w wd od j).lookup ("_posted" : Str) = some pd := by kernel_rfl
theorem paF_settled : (paF nm m q pd sd w wd od j).lookup ("_settled" : Str) = some sd := by kernel_rfl
theorem paF_waiting : (paF nm m q pd sd w wd od j).lookup ("_waiting" : Str) = some w := by kernel_rfl
theorem paF_withdrawing : (paF nm m q pd sd w wd od j).lookup ("_withdrawing" : Str) = some wd := by kernel_rfl
theorem paF_offers : (paF nm m q pd sd w wd od j).lookup ("_offers" : Str) = some od := by kernel_rfl
theorem paF_journal : (paF nm m q pd sd w wd od j).lookup ("_journal" : Str) = some j := by kernel_rfl
theorem paP_state : putF "_state" x (paF nm m q pd sd w wd od j) = paF nm m x pd sd w wd od j := by kernel_rfl
theorem paP_waiting : putF "_waiting" x (paF nm m q pd sd w wd od j) = paF nm m q pd sd x wd od j := by kernel_rfl
theorem paP_withdrawing : putF "_withdrawing" x (paF nm m q pd sd w wd od j) = paF nm m q pd sd w x od j := by kernel_rfl
theorem paP_journal : putF "_journal" x (paF nm m q pd sd w wd od j) = paF nm m q pd sd w wd od x := by kernel_rfl
theorem paM_offers : (paF nm m q pd sd w wd od j).lookup ("offers" : Str) = none := by kernel_rfl
theorem paM_rests : (paF nm m q pd sd w wd od j).lookup ("rests" : Str) = none := by kernel_rfl
theorem paM_has : (paF nm m q pd sd w wd od j).lookup ("has" : Str) = none := by kernel_rfl
theorem paM_can : (paF nm m q pd sd w wd od j).lookup ("can" : Str) = none := by kernel_rfl
theorem paM_settled : (paF nm m q pd sd w wd od j).lookup ("settled" : Str) = none := by kernel_rfl
theorem paM_carry_out : (paF nm m q pd sd w wd od j).lookup ("carry_out" : Str) = none := by kernel_rfl
theorem paM_entry_of_act : (paF nm m q pd sd w wd od j).lookup ("entry_of_act" : Str) = none := by kernel_rfl
theorem paM_entry_of_message : (paF nm m q pd sd w wd od j).lookup ("entry_of_message" : Str) = none := by kernel_rfl
theorem paM_post : (paF nm m q pd sd w wd od j).lookup ("post" : Str) = none := by kernel_rfl
theorem paM_take : (paF nm m q pd sd w wd od j).lookup ("take" : Str) = none := by kernel_rfl
theorem paM_withdraw : (paF nm m q pd sd w wd od j).lookup ("withdraw" : Str) = none := by kernel_rfl
theorem paM_again : (paF nm m q pd sd w wd od j).lookup ("again" : Str) = none := by kernel_rfl
theorem paM_hear : (paF nm m q pd sd w wd od j).lookup ("hear" : Str) = none := by kernel_rfl
theorem paF_len : (paF nm m q pd sd w wd od j).length < 1000 := by show 9 < 1000; decide
end
end Pk
set_option Elab.async false
set_option linter.all false
set_option maxRecDepth 100000
set_option maxHeartbeats 4000000
/-! The defs, 15: a party: __init__, offers, rests, has, settled. -/
namespace Pk
open PySem PySem.Spec PyProof.Rows L2
variable {P : Program} {w : World} {K : PySem.W.Frag} {mg : Str → Option Value} {base : Heap}
/-- all but Z stays -/
def Out (Z : List Addr) (H H' : Hp) : Prop := ∀ x o, x ∉ Z → H x = some o → H' x = some o
theorem Out.refl (Z : List Addr) (H : Hp) : Out Z H H := fun _ _ _ h => h
theorem Out.trans {Z : List Addr} {H H1 H2 : Hp} (a : Out Z H H1) (b : Out Z H1 H2) : Out Z H H2 := fun x o hx h => b x o hx (a x o hx h)
theorem Out.of {Z : List Addr} {H H' : Hp} (s : Same H H') : Out Z H H' := fun x o _ h => s x o h
theorem Out.put {Z : List Addr} {H H1 : Hp} {x : Addr} {o : HO} (a : Out Z H H1) (hx : x ∈ Z) : Out Z H (upd H1 x o) := fun y u hy h => by
  rw [upd_ne (fun e => hy (by rw [e]; exact hx))]
  exact a y u hy h
theorem Out.more {Z Z' : List Addr} {H H' : Hp} (a : Out Z H H') (h : ∀ x ∈ Z, x ∈ Z') : Out Z' H H' := fun x o hx hh => a x o (fun m => hx (h x m)) hh
structure Pa where
  q : Nat
  post : Str → Nat
  sett : Str → Nat × Bool
  w : Option (Str × Nat × Str)
  off : List (Str × Nat × Str)
  wd : Bool
structure Pf where
  a : Addr
  dx : Addr
  pd : Addr
  sd : Addr
  od : Addr
def Pf.z (f : Pf) : List Addr := [f.a, f.pd, f.sd, f.od]
def WaV (H : Hp) (v : V) : Option (Str × Nat × Str) → Prop
  | none => v = .non
  | some (o, n, l) => ∃ b, v = .ref b ∧ H b = some (.tup [.str o, .int (n : Nat), .str l])
def SeV (H : Hp) (v : Option V) (s : Nat × Bool) : Prop := match v with
  | none => s = (0, false)
  | some v => ∃ b, v = .ref b ∧ H b = some (.tup [.int (s.1 : Nat), .bl s.2])
def OfV (H : Hp) (kv : Key × V) (o : Str × Nat × Str) : Prop := kv.1 = kS o.1 ∧ ∃ b, kv.2 = .ref b ∧ H b = some (.tup [.int (o.2.1 : Nat), .str o.2.2])
theorem WaV.mono {H H' : Hp} {v : V} {o : Option (Str × Nat × Str)} (t : Tp H H') (h : WaV H v o) : WaV H' v o := by
  cases o with
  | none => exact h
  | some x => obtain ⟨b, e, q⟩ := h; exact ⟨b, e, t _ _ q⟩
theorem SeV.mono {H H' : Hp} {v : Option V} {s : Nat × Bool} (t : Tp H H') (h : SeV H v s) : SeV H' v s := by
  cases v with
  | none => exact h
  | some x => obtain ⟨b, e, q⟩ := h; exact ⟨b, e, t _ _ q⟩
theorem OfV.mono {H H' : Hp} {kv : Key × V} {o : Str × Nat × Str} (t : Tp H H') (h : OfV H kv o) : OfV H' kv o := let ⟨e, b, q, r⟩ := h; ⟨e, b, q, t _ _ r⟩
/-- a party as it stands -/
structure PaR (K : PySem.W.Frag) (H : Hp) (f : Pf) (nm : Str) (M : Tab) (p : Pa) (n : Nat) (mv wv : V) (j : Str) (pk sk ok : List (Key × V)) : Prop where
  ob : H f.a = some (.ins (He.ga K "Party") f.dx (paF (.str nm) mv (.int (p.q : Nat)) (.ref f.pd) (.ref f.sd) wv (.bl p.wd) (.ref f.od) (.str j)))
  mv : TabV H mv M
  wv : WaV H wv p.w
  j : j.length ≤ 200 * n
  pd : H f.pd = some (.dK pk)
  pl : pk.length ≤ n
  po : ∀ k, (valV pk (kS k)).getD (.int 0) = .int (p.post k : Nat)
  pn : ∀ k, p.post k ≤ n
  sd : H f.sd = some (.dK sk)
  sl : sk.length ≤ n
  se : ∀ k, SeV H (valV sk (kS k)) (p.sett k)
  od : H f.od = some (.dK ok)
  of_ : Paired (OfV H) ok p.off
  z : f.z.Nodup
def PaAt (K : PySem.W.Frag) (H : Hp) (f : Pf) (nm : Str) (M : Tab) (p : Pa) (n : Nat) : Prop := ∃ mv wv j pk sk ok, PaR K H f nm M p n mv wv j pk sk ok
theorem PaR.tp {H H' : Hp} {f : Pf} {nm : Str} {M : Tab} {p : Pa} {n : Nat} {mv wv : V} {j : Str} {pk sk ok : List (Key × V)} (h : PaR K H f nm M p n mv wv j pk sk ok) (o : Out f.z H H') : Tp H H' := fun b xs hb => by
  refine o b _ (fun m => ?_) hb
  simp only [Pf.z, List.mem_cons, List.not_mem_nil, or_false] at m
  rcases m with rfl | rfl | rfl | rfl
  · rw [h.ob] at hb; cases hb
  · rw [h.pd] at hb; cases hb
  · rw [h.sd] at hb; cases hb
  · rw [h.od] at hb; cases hb
theorem PaAt.tp {H H' : Hp} {f : Pf} {nm : Str} {M : Tab} {p : Pa} {n : Nat} (h : PaAt K H f nm M p n) (o : Out f.z H H') : Tp H H' := let ⟨_, _, _, _, _, _, r⟩ := h; r.tp o
/-- untouched -/
theorem PaR.keep {Z : List Addr} {H H' : Hp} {f : Pf} {nm : Str} {M : Tab} {p : Pa} {n n' : Nat} {mv wv : V} {j : Str} {pk sk ok : List (Key × V)} (h : PaR K H f nm M p n mv wv j pk sk ok) (o : Out Z H H') (tp : Tp H H') (hz : ∀ x ∈ f.z, x ∉ Z) (hn : n ≤ n') : PaR K H' f nm M p n' mv wv j pk sk ok :=
  ⟨o _ _ (hz _ (by simp [Pf.z])) h.ob, h.mv.mono tp, h.wv.mono tp, by have := h.j; omega, o _ _ (hz _ (by simp [Pf.z])) h.pd, Nat.le_trans h.pl hn, h.po, fun k => Nat.le_trans (h.pn k) hn, o _ _ (hz _ (by simp [Pf.z])) h.sd, Nat.le_trans h.sl hn, fun k => (h.se k).mono tp, o _ _ (hz _ (by simp [Pf.z])) h.od, L2.Paired.mapP h.of_ fun _ _ q => q.mono tp, h.z⟩
theorem PaAt.keep {Z : List Addr} {H H' : Hp} {f : Pf} {nm : Str} {M : Tab} {p : Pa} {n n' : Nat} (h : PaAt K H f nm M p n) (o : Out Z H H') (tp : Tp H H') (hz : ∀ x ∈ f.z, x ∉ Z) (hn : n ≤ n') : PaAt K H' f nm M p n' :=
  let ⟨_, _, _, _, _, _, r⟩ := h; ⟨_, _, _, _, _, _, r.keep o tp hz hn⟩
theorem PaR.same {H H' : Hp} {f : Pf} {nm : Str} {M : Tab} {p : Pa} {n : Nat} {mv wv : V} {j : Str} {pk sk ok : List (Key × V)} (h : PaR K H f nm M p n mv wv j pk sk ok) (s : Same H H') : PaR K H' f nm M p n mv wv j pk sk ok :=
  h.keep (Z := []) (Out.of s) (Tp.of s) (fun _ _ => by simp) (Nat.le_refl _)
theorem PaAt.same {H H' : Hp} {f : Pf} {nm : Str} {M : Tab} {p : Pa} {n : Nat} (h : PaAt K H f nm M p n) (s : Same H H') : PaAt K H' f nm M p n :=
  h.keep (Z := []) (Out.of s) (Tp.of s) (fun _ _ => by simp) (Nat.le_refl _)
/-- a field -/
theorem gv_fld {te : TE} {σ : L2.St} {H : Hp} {a dx C : Addr} {fs : List (Str × V)} {fl : Str} {v : V} (h1 : Gv te σ H (.ref a)) (ha : H a = some (.ins C dx fs)) (c : Cls K C) (n : NoAttr K C fl) (l : fs.lookup fl = some v) : Gv (tFld K te fl) σ H v := fun Q q => h1 _ ⟨a, C, dx, fs, v, rfl, ha, c, n, l, q⟩
def pa0 : Pa := ⟨0, fun _ => 0, fun _ => (0, false), none, [], false⟩
structure OkI (P : Program) (w : World) (K : PySem.W.Frag) (mg : Str → Option Value) (base : Heap) (CX : CXT) (C : Addr) (k : Nat) (ps : List Str) (sp : Sp) : Prop where
  out : ∃ f fd, FnOk P w K mg base CX k f fd ps sp ∧ Mk K C f ∧ Binds K fd ps []
theorem oki_def {x qual : Str} {st : Stmt} {f C : Addr} {k : Nat} {N ps : List Str} {sp : Sp} {CX : CXT} (m : Mk K C f) (d : ∃ fd, FnP K x qual st f fd) (S : FnScope N ps (defScope st))
    (b : ∀ (kV doc pm : Value) (an : Option Addr) (cdv ct : Value) (us : List Value), us.length = ps.length → bindArgs (PySem.W.fnOf x qual (defArgs st) (defBody st) (defScope st) .none kV doc pm an cdv ct) ⟨us, []⟩ = pure (ps.zip us))
    (len : ∀ vs H Q E, sp vs H Q E → vs.length = ps.length)
    (hbody : ∀ (cdv : Value) (A : Around) (outer : List Env) (s : Shared) (H : Hp) (vs : List V) (Q : VK) (E : XK), Room k (A.deeper (envOfC qual (defScope st) s.heap.objs.size f cdv)) → sp vs H Q E →
      ∃ t, PSs (cxOf CX P w K mg base N qual (defScope st) f cdv A outer s H E) (defBody st) t ∧ t { nx := fun _ H' => Q .non H', rt := Q } (start N vs) H) : OkI P w K mg base CX C (k + 1) ps sp := by
  obtain ⟨fd, F⟩ := d
  exact ⟨f, fd, F.ok S len hbody, m, FunD.bindsN F b⟩
theorem pe_mk {X : Cx} {x : Str} {C : Addr} {k : Nat} {ps : List Str} {sp : Sp} {p pos : Pos} {e : Expr} {es : List Expr} {t : TA} (O : OkI X.prog X.w X.K X.mg X.base CX0 C k ps sp) (hm : X.mg x = some (.ref C)) (hr : Room (k + 1) X.A) (ha : PA X (e :: es) t) (hg : Gl X x := by rfl) (hdb : (x == ("__debug__" : Str)) = false := by decide)
    (he : starEach (e :: es) X.env = (false, eval e X.env) :: starEach es X.env := by rfl) (hpl : (backTo pos (starEach es X.env)).any (·.1) = false := by rfl) : PE X (.Call (.Name x p) (e :: es) [] pos) (tMake C sp [] E0 t) := by
  obtain ⟨f, fd, G, M, hb⟩ := O.out
  exact pe_make M G hr hg hm hb .nil pass0 ha hdb he hpl
def spInit (K : PySem.W.Frag) : Sp := fun vs H Q _ => ∃ (a dx : Addr) (nm : Str) (mv : V) (M : Tab), vs = [.ref a, .str nm, mv] ∧ H a = some (.ins (He.ga K "Party") dx []) ∧ TabV H mv M ∧ ∀ H' pd sd od, (∀ x o, x ≠ a → H x = some o → H' x = some o) → H pd = none → H sd = none → H od = none → PaAt K H' ⟨a, dx, pd, sd, od⟩ nm M pa0 0 → Q .non H'
theorem putF_le (f : Str) (v : V) (fs : List (Str × V)) : (putF f v fs).length ≤ fs.length + 1 := by
  induction fs with
  | nil => exact Nat.le_refl _
  | cons x fs ih =>
    obtain ⟨g, u⟩ := x
    show (if g = f then (g, v) :: fs else (g, u) :: putF f v fs).length ≤ _
    split
    · simp
    · rw [List.length_cons, List.length_cons]; omega
theorem sc_Party_init : FnScope ["self", "name", "machine"] ["self", "name", "machine"] (defScope s_Party_init) := ⟨rfl, rfl, rfl, by decide +kernel, rfl, by decide +kernel, by decide +kernel⟩
theorem o_Party_init (T : Txt K mg) : OkI P w K mg base CX0 (He.ga K "Party") 1 ["self", "name", "machine"] (spInit K) :=
  oki_def T.m_Party T.d_Party_init sc_Party_init (fun _ _ _ _ _ _ us hl => match us, hl with | [_, _, _], _ => rfl) (fun vs H Q E h => by obtain ⟨_, _, _, _, _, rfl, _⟩ := h; rfl) fun cdv A outer s H vs Q E hr h => by
  obtain ⟨a, dx, nm, mv, M, rfl, ha, hM, hQ⟩ := h
  refine ⟨_, (PSs.nox (pss_cons (ps_fld (pv 0) (pv 1) rfl)
      (pss_cons (ps_fld (pv 0) (pv 2) rfl)
      (pss_cons (ps_fld (pv 0) pe_int rfl)
      (pss_cons (ps_fld (pv 0) pe_dnewK rfl)
      (pss_cons (ps_fld (pv 0) pe_dnewK rfl)
      (pss_cons (ps_fld (pv 0) pe_non rfl)
      (pss_cons (ps_fld (pv 0) pe_bl rfl)
      (pss_cons (ps_fld (pv 0) pe_dnewK rfl)
      (pss_one (ps_fld (pv 0) pe_str rfl))))))))))), ?_⟩
  have le : ∀ {f : Str} {v : V} {fs : List (Str × V)} {n : Nat}, fs.length ≤ n → (putF f v fs).length ≤ n + 1 := fun h => Nat.le_trans (putF_le _ _ _) (Nat.succ_le_succ h)
  have l0 : ([] : List (Str × V)).length ≤ 0 := Nat.le_refl _
  refine ⟨_, rfl, _, rfl, a, _, dx, _, rfl, ha, T.c_Party, T.a_Party__name, (by show 0 < 1000; omega), ?_⟩
  refine ⟨_, rfl, _, rfl, a, _, dx, _, rfl, upd_same, T.c_Party, T.a_Party__machine, (by have := le (f := "_name") (v := .str nm) l0; omega), ?_⟩
  rw [upd_upd]
  refine ⟨_, rfl, a, _, dx, _, rfl, upd_same, T.c_Party, T.a_Party__state, (by have := le (f := "_machine") (v := mv) (le (f := "_name") (v := .str nm) l0); omega), ?_⟩
  rw [upd_upd]
  intro pd hpd
  have npa : pd ≠ a := fun e => by rw [e, upd_same] at hpd; cases hpd
  have hpd0 : H pd = none := by rw [upd_ne npa] at hpd; exact hpd
  refine ⟨_, rfl, a, _, dx, _, rfl, by rw [upd_ne npa.symm, upd_same], T.c_Party, T.a_Party__posted, (by have := le (f := "_state") (v := .int 0) (le (f := "_machine") (v := mv) (le (f := "_name") (v := .str nm) l0)); omega), ?_⟩
  intro sd hsd
  have nsa : sd ≠ a := fun e => by rw [e, upd_same] at hsd; cases hsd
  have nsp : sd ≠ pd := fun e => by rw [e, upd_ne npa, upd_same] at hsd; cases hsd
  have hsd0 : H sd = none := by rw [upd_ne nsa, upd_ne nsp, upd_ne nsa] at hsd; exact hsd
  refine ⟨_, rfl, a, _, dx, _, rfl, by rw [upd_ne nsa.symm, upd_same], T.c_Party, T.a_Party__settled, (by have := le (f := "_posted") (v := .ref pd) (le (f := "_state") (v := .int 0) (le (f := "_machine") (v := mv) (le (f := "_name") (v := .str nm) l0))); omega), ?_⟩
  refine ⟨_, rfl, a, _, dx, _, rfl, upd_same, T.c_Party, T.a_Party__waiting, (by have := le (f := "_settled") (v := .ref sd) (le (f := "_posted") (v := .ref pd) (le (f := "_state") (v := .int 0) (le (f := "_machine") (v := mv) (le (f := "_name") (v := .str nm) l0)))); omega), ?_⟩
  rw [upd_upd]
  refine ⟨_, rfl, a, _, dx, _, rfl, upd_same, T.c_Party, T.a_Party__withdrawing, (by have := le (f := "_waiting") (v := .non) (le (f := "_settled") (v := .ref sd) (le (f := "_posted") (v := .ref pd) (le (f := "_state") (v := .int 0) (le (f := "_machine") (v := mv) (le (f := "_name") (v := .str nm) l0))))); omega), ?_⟩
  rw [upd_upd]
  intro od hod
  have noa : od ≠ a := fun e => by rw [e, upd_same] at hod; cases hod
  have nos : od ≠ sd := fun e => by rw [e, upd_ne nsa, upd_same] at hod; cases hod
  have nop : od ≠ pd := fun e => by rw [e, upd_ne npa, upd_ne nsp.symm, upd_ne npa, upd_same] at hod; cases hod
  have hod0 : H od = none := by rw [upd_ne noa, upd_ne nos, upd_ne noa, upd_ne nop, upd_ne noa] at hod; exact hod
  have big : (putF "_withdrawing" (.bl false) (putF "_waiting" .non (putF "_settled" (.ref sd) (putF "_posted" (.ref pd) (putF "_state" (.int 0) (putF "_machine" mv (putF "_name" (.str nm) []))))))).length ≤ 7 := le (le (le (le (le (le (le l0))))))
  refine ⟨_, rfl, a, _, dx, _, rfl, by rw [upd_ne noa.symm, upd_same], T.c_Party, T.a_Party__offers, (by omega), ?_⟩
  refine ⟨_, rfl, a, _, dx, _, rfl, upd_same, T.c_Party, T.a_Party__journal, (by have := le (f := "_offers") (v := .ref od) big; omega), ?_⟩
  rw [upd_upd, pa_made]
  have hpdF : ∀ x o, x ≠ a → H x = some o → x ≠ pd ∧ x ≠ sd ∧ x ≠ od := fun x o hx h => ⟨ne_of_none h hpd0, ne_of_none h hsd0, ne_of_none h hod0⟩
  have keep : ∀ x o, x ≠ a → H x = some o → (upd (upd (upd (upd (upd (upd H a (.ins (He.ga K "Party") dx (putF "_state" (.int 0) (putF "_machine" mv (putF "_name" (.str nm) []))))) pd (.dK [])) a (.ins (He.ga K "Party") dx (putF "_posted" (.ref pd) (putF "_state" (.int 0) (putF "_machine" mv (putF "_name" (.str nm) [])))))) sd (.dK [])) a (.ins (He.ga K "Party") dx (putF "_withdrawing" (.bl false) (putF "_waiting" .non (putF "_settled" (.ref sd) (putF "_posted" (.ref pd) (putF "_state" (.int 0) (putF "_machine" mv (putF "_name" (.str nm) []))))))))) od (.dK [])) x = some o := fun x o hx h => by
    obtain ⟨h1, h2, h3⟩ := hpdF x o hx h
    rw [upd_ne h3, upd_ne hx, upd_ne h2, upd_ne hx, upd_ne h1, upd_ne hx]
    exact h
  refine hQ _ pd sd od (fun x o hx h => by rw [upd_ne hx]; exact keep x o hx h) hpd0 hsd0 hod0 ⟨mv, .non, Str.ofString "", [], [], [], ?_⟩
  refine ⟨upd_same, ?_, rfl, by decide +kernel, ?_, Nat.le_refl _, fun k => rfl, fun k => Nat.le_refl _, ?_, Nat.le_refl _, fun k => rfl, ?_, .nil, ?_⟩
  · refine hM.mono fun b xs hb => ?_
    have hba : b ≠ a := fun e => by rw [e, ha] at hb; cases hb
    rw [upd_ne hba]
    exact keep b _ hba hb
  · show (upd _ a _) pd = _
    rw [upd_ne npa, upd_ne nop.symm, upd_ne npa, upd_ne nsp.symm, upd_ne npa, upd_same]
  · show (upd _ a _) sd = _
    rw [upd_ne nsa, upd_ne nos.symm, upd_ne nsa, upd_same]
  · show (upd _ a _) od = _
    rw [upd_ne noa, upd_same]
  · simp [Pf.z, npa.symm, nsa.symm, noa.symm, nsp.symm, nop.symm, nos.symm]
def ofK (l : List (Str × Nat × Str)) : List (Key × V) := l.map fun o => (kS o.1, V.str o.2.2)
def spOffers (K : PySem.W.Frag) : Sp := fun vs H Q _ => ∃ (f : Pf) (nm : Str) (M : Tab) (p : Pa) (n : Nat), vs = [.ref f.a] ∧ PaAt K H f nm M p n ∧ p.off.length ≤ 1 ∧ ∀ d H', Same H H' → H d = none → H' d = some (.dK (ofK p.off)) → Q (.ref d) H'
theorem sc_Party_offers : FnScope ["self", "sender"] ["self"] (defScope s_Party_offers) := ⟨rfl, rfl, rfl, by decide +kernel, rfl, by decide +kernel, by decide +kernel⟩
theorem o_Party_offers (T : Txt K mg) : OkM P w K mg base CX0 (He.ga K "Party") "offers" 1 ["self"] (spOffers K) :=
  okm_def T.c_Party T.d_Party_offers T.m_Party_offers sc_Party_offers (fun _ _ _ _ _ _ us hl => match us, hl with | [_], _ => rfl) (fun vs H Q E h => by obtain ⟨_, _, _, _, _, rfl, _⟩ := h; rfl) fun cdv A outer s H vs Q E hr h => by
  obtain ⟨f, nm, M, p, n, rfl, ⟨mv, wv, j, pk, sk, ok, R⟩, hoff, hQ⟩ := h
  refine ⟨_, (PSs.nox (pss_one (ps_ret (pe_lock (pe_dcG (u0 := .dK []) (.inl rfl) (ru0 hr) (own := [("sender", 1)]) (tt := tYes) rfl sc_Party_offers.nd (pi_keys (ke_fld (K := K) rfl (pv 0) rfl)) (blkOk_by (N := ["self", "sender"]) (sc := defScope s_Party_offers) (by decide +kernel)) (fun _ _ _ _ _ => (pg_name (i := 1) sc_Party_offers.nd rfl (by first | exact Or.inl rfl | exact Or.inr rfl))) (fun _ _ _ _ _ => pts_nil) (fun _ _ _ _ _ => (pv 1)) (fun _ _ _ _ _ => (pe_ix (kx_tup (K := K) rfl) (pe_dget (ru1 hr) (ke_fld (K := K) rfl (pv 0) rfl) (pv 1) (fun _ _ => rfl)) pe_int (fun _ _ => rfl)))))))), ?_⟩
  have big : (400000 : Nat) < sizeLine := by decide
  refine ⟨f.od, _, R.od, trivial, fun oo => ?_⟩
  have sx : SameX f.od H (upd H f.od (.frz oo (.dK ok))) := SameX.lock
  have hfz : (upd H f.od (.frz oo (.dK ok))) f.od = some (.frz oo (.dK ok)) := upd_same
  generalize upd H f.od (.frz oo (.dK ok)) = H2 at sx hfz
  have nao : f.a ≠ f.od := fun e => by have h1 := R.ob; have h2 := R.od; rw [e, h2] at h1; cases h1
  have hokl := Paired.length R.of_
  refine ⟨_, rfl, f.a, _, _, _, _, rfl, sx _ _ nao R.ob, T.c_Party, T.a_Party__offers, paF_offers .., ?_⟩
  refine ⟨f.od, oo, rfl, .inl ⟨ok, hfz, fun D hD => ?_⟩⟩
  have hf := sx.fresh hfz hD
  refine dcg_it (walk_keys (d := f.od) (o := oo) (kvs := ok)) (fun i H' => SameX f.od H H' ∧ H' f.od = some (.frz oo (.dK ok)) ∧ H' D = some (.dK (ofK (p.off.take i)))) ⟨sx.put hf.1, by rw [upd_ne hf.2.symm]; exact hfz, upd_same⟩ (fun i H' _ h => h.2.1) ?_ ?_
  · rintro i x H3' H3 hi ⟨s3, hfz3, hD3⟩ ⟨rfl, k, v, hk, rfl⟩
    have hi0 : i = 0 := by omega
    subst hi0
    obtain ⟨o, ho, e1, b, e2, hb⟩ := pr_get' R.of_ hk
    have e1 : k = kS o.1 := e1
    have e2 : v = .ref b := e2
    subst e1 e2
    have hok : ok = [(kS o.1, .ref b)] := by
      cases ok with
      | nil => cases hk
      | cons x ok =>
        cases hk
        have : ok = [] := List.length_eq_zero_iff.mp (by rw [List.length_cons] at hokl; omega)
        rw [this]
    have hpo : p.off = [o] := by
      cases hpo : p.off with
      | nil => rw [hpo] at ho; cases ho
      | cons x l =>
        rw [hpo] at ho
        cases ho
        have : l = [] := List.length_eq_zero_iff.mp (by rw [hpo, List.length_cons] at hoff; omega)
        rw [this]
    have hv : valV ok (kS o.1) = some (.ref b) := by rw [hok]; exact valV_pos rfl
    have tp3 := s3.tp R.od
    unfold DcTurn
    refine ⟨rfl, ⟨_, rfl, ?_⟩⟩
    refine ⟨_, rfl, f.a, _, _, _, _, rfl, s3 _ _ nao R.ob, T.c_Party, T.a_Party__offers, paF_offers .., ?_⟩
    refine ⟨_, rfl, f.od, .ref b, rfl, .inl ⟨ok, kS o.1, .inr ⟨oo, hfz3⟩, rfl, hv.symm⟩, b, _, _, _, rfl, rfl, SqT.of (tp3 _ _ hb), atI_nat (j := 1) rfl, _, DPut.k (k := kS o.1) hD3 (by show 0 < sizeLine; omega), s3.put hf.1, by rw [upd_ne hf.2.symm]; exact hfz3, ?_⟩
    rw [upd_same, hpo] <;> rfl
  · rintro H3 ⟨s3, hfz3, hD3⟩
    rw [hokl, List.take_length] at hD3
    exact ⟨hfz3, hQ D _ (s3.un R.od) hf.1 (by rw [upd_ne hf.2]; exact hD3)⟩
def spRests (K : PySem.W.Frag) : Sp := fun vs H Q _ => ∃ (f : Pf) (nm : Str) (M : Tab) (p : Pa) (n : Nat), vs = [.ref f.a] ∧ PaAt K H f nm M p n ∧ p.w = none ∧ p.q < M.ends.length ∧ Q (.bl (M.ends.getD p.q false)) H
theorem sc_Party_rests : FnScope ["self"] ["self"] (defScope s_Party_rests) := ⟨rfl, rfl, rfl, by decide +kernel, rfl, by decide +kernel, by decide +kernel⟩
theorem o_Party_rests (T : Txt K mg) : OkM P w K mg base CX0 (He.ga K "Party") "rests" 1 ["self"] (spRests K) :=
  okm_def T.c_Party T.d_Party_rests T.m_Party_rests sc_Party_rests (fun _ _ _ _ _ _ us hl => match us, hl with | [_], _ => rfl) (fun vs H Q E h => by obtain ⟨_, _, _, _, _, rfl, _⟩ := h; rfl) fun cdv A outer s H vs Q E hr h => by
  obtain ⟨f, nm, M, p, n, rfl, ⟨mv, wv, j, pk, sk, ok, R⟩, hw, hq, hQ⟩ := h
  refine ⟨_, (PSs.nox (pss_one (ps_ret (pe_and (pe_cmpR op_isN (ke_fld (K := K) rfl (pv 0) rfl) pe_non (nomark _)) (pe_one (pe_ix (kx_tup (K := K) rfl) (pe_ix (kx_tup (K := K) rfl) (ke_fld (K := K) rfl (pv 0) rfl) pe_int (fun _ _ => rfl)) (ke_fld (K := K) rfl (pv 0) rfl) (fun _ _ => rfl))))))), ?_⟩
  have hwv := R.wv
  rw [hw] at hwv
  refine ⟨_, rfl, f.a, _, _, _, _, rfl, R.ob, T.c_Party, T.a_Party__waiting, paF_waiting .., ?_⟩
  refine ⟨rfl, _, rfl, ?_⟩
  rw [show wv = V.non from hwv]
  refine iteT ?_
  exact gv_end (K := K) R.mv hq (fun Q q => ⟨_, rfl, f.a, _, _, _, _, rfl, R.ob, T.c_Party, T.a_Party__machine, paF_machine .., q⟩) (fun Q q => ⟨_, rfl, f.a, _, _, _, _, rfl, R.ob, T.c_Party, T.a_Party__state, paF_state .., q⟩) _ hQ
def spHas (K : PySem.W.Frag) : Sp := fun vs H Q _ => ∃ (f : Pf) (nm : Str) (M : Tab) (p : Pa) (n : Nat) (a : Act), vs = [.ref f.a, .str a.1, .str a.2.1, .str a.2.2] ∧ PaAt K H f nm M p n ∧ p.w = none ∧ p.q < M.rows.length ∧ okA a = true ∧ ∀ H', Same H H' → Q (.bl (M.step p.q a).isSome) H'
theorem sc_Party_has : FnScope ["self", "sender", "taker", "label"] ["self", "sender", "taker", "label"] (defScope s_Party_has) := ⟨rfl, rfl, rfl, by decide +kernel, rfl, by decide +kernel, by decide +kernel⟩
theorem o_Party_has (T : Txt K mg) : OkM P w K mg base CX0 (He.ga K "Party") "has" 2 ["self", "sender", "taker", "label"] (spHas K) :=
  okm_def T.c_Party T.d_Party_has T.m_Party_has sc_Party_has (fun _ _ _ _ _ _ us hl => match us, hl with | [_, _, _, _], _ => rfl) (fun vs H Q E h => by obtain ⟨_, _, _, _, _, _, rfl, _⟩ := h; rfl) fun cdv A outer s H vs Q E hr h => by
  obtain ⟨f, nm, M, p, n, a, rfl, ⟨mv, wv, j, pk, sk, ok, R⟩, hw, hq, hok, hQ⟩ := h
  refine ⟨_, (PSs.nox (pss_one (ps_ret (pe_and (pe_cmpR op_isN (ke_fld (K := K) rfl (pv 0) rfl) pe_non (nomark _)) (pe_one (pe_cmpR op_notN (pe_cl (o_next_state T) (hr.mono (by decide)) (pa_cons (ke_fld (K := K) rfl (pv 0) rfl) (pa_cons (ke_fld (K := K) rfl (pv 0) rfl) (pa_cons (pe_tup (pa_cons (pv 1) (pa_cons (pv 2) (pa_cons (pv 3) pa_nil)))) pa_nil)))) pe_non (nomark _))))))), ?_⟩
  have hwv := R.wv
  rw [hw] at hwv
  refine ⟨_, rfl, f.a, _, _, _, _, rfl, R.ob, T.c_Party, T.a_Party__waiting, paF_waiting .., ?_⟩
  refine ⟨rfl, _, rfl, ?_⟩
  rw [show wv = V.non from hwv]
  refine iteT ?_
  refine ⟨_, rfl, f.a, _, _, _, _, rfl, R.ob, T.c_Party, T.a_Party__machine, paF_machine .., ?_⟩
  refine ⟨_, rfl, f.a, _, _, _, _, rfl, R.ob, T.c_Party, T.a_Party__state, paF_state .., ?_⟩
  refine ⟨_, rfl, _, rfl, _, rfl, (by show 3 ≤ sizeLine; decide), fun tb htb => ?_⟩
  refine ⟨mv, p.q, .ref tb, M, a, rfl, R.mv.mono (Tp.new htb), hq, ⟨tb, rfl, upd_same, hok⟩, rfl, ?_⟩
  have e : (!decide (optI (M.step p.q a) = V.non)) = (M.step p.q a).isSome := by cases M.step p.q a <;> rfl
  rw [e]
  exact hQ _ (same_new htb)
def spSettled (K : PySem.W.Frag) : Sp := fun vs H Q _ => ∃ (f : Pf) (nm : Str) (M : Tab) (p : Pa) (n : Nat) (o : Str), vs = [.ref f.a, .str o] ∧ PaAt K H f nm M p n ∧ ∀ b H', Same H H' → H' b = some (.tup [.int ((p.sett o).1 : Nat), .bl (p.sett o).2]) → Q (.ref b) H'
theorem sc_Party_settled : FnScope ["self", "other"] ["self", "other"] (defScope s_Party_settled) := ⟨rfl, rfl, rfl, by decide +kernel, rfl, by decide +kernel, by decide +kernel⟩
theorem o_Party_settled (T : Txt K mg) : OkM P w K mg base CX0 (He.ga K "Party") "settled" 1 ["self", "other"] (spSettled K) :=
  okm_def T.c_Party T.d_Party_settled T.m_Party_settled sc_Party_settled (fun _ _ _ _ _ _ us hl => match us, hl with | [_, _], _ => rfl) (fun vs H Q E h => by obtain ⟨_, _, _, _, _, _, rfl, _⟩ := h; rfl) fun cdv A outer s H vs Q E hr h => by
  obtain ⟨f, nm, M, p, n, o, rfl, ⟨mv, wv, j, pk, sk, ok, R⟩, hQ⟩ := h
  refine ⟨_, (PSs.nox (pss_one (ps_ret (pe_dget2 (ru1 hr) (ke_fld (K := K) rfl (pv 0) rfl) (pv 1) (pe_tup (pa_cons pe_int (pa_cons pe_bl pa_nil))) ⟨rfl, rfl, rfl, rfl⟩)))), ?_⟩
  refine ⟨_, rfl, f.a, _, _, _, _, rfl, R.ob, T.c_Party, T.a_Party__settled, paF_settled .., ?_⟩
  refine ⟨f.sd, rfl, .inl ⟨sk, .inl R.sd⟩, _, rfl, (by show 2 ≤ sizeLine; decide), fun tb htb => ?_⟩
  have s1 : Same H (upd H tb (.tup [.int 0, .bl false])) := same_new htb
  refine ⟨valV sk (kS o), DGet.k (k := kS o) (s1 _ _ R.sd), ?_⟩
  have hse := R.se o
  cases hv : valV sk (kS o) with
  | none =>
    rw [hv] at hse
    have hse : p.sett o = (0, false) := hse
    refine hQ tb _ s1 ?_
    rw [hse]
    exact upd_same
  | some v =>
    rw [hv] at hse
    obtain ⟨b, rfl, hb⟩ := hse
    exact hQ b _ s1 (s1 _ _ hb)
end Pk
set_option Elab.async false
set_option linter.all false
set_option maxRecDepth 100000
set_option maxHeartbeats 4000000
/-! The defs, 16: a party: can, entry_of_act, entry_of_message, carry_out. -/
namespace Pk
open PySem PySem.Spec PyProof.Rows L2
variable {P : Program} {w : World} {K : PySem.W.Frag} {mg : Str → Option Value} {base : Heap}
inductive CanE where
  | post (t l : Str)
  | take (s : Str)
def CanE.vs : CanE → List V
  | .post t l => [.str "post", .str t, .str l]
  | .take s => [.str "take", .str s]
def CanE.d : CanE → PyData
  | .post t l => .tuple [.str "post", .str t, .str l]
  | .take s => .tuple [.str "take", .str s]
def CanE.ok : CanE → Bool
  | .post t l => PyData.strOk t && PyData.strOk l
  | .take s => PyData.strOk s
def CanV (H : Hp) (v : V) (e : CanE) : Prop := ∃ b, v = .ref b ∧ H b = some (.tup e.vs)
theorem CanV.mono {H H' : Hp} {v : V} {e : CanE} (t : Tp H H') (h : CanV H v e) : CanV H' v e := let ⟨b, q, r⟩ := h; ⟨b, q, t _ _ r⟩
theorem CanV.dp {H : Hp} {v : V} {e : CanE} (h : CanV H v e) : Dp K H v e.d := by
  obtain ⟨b, rfl, hb⟩ := h
  cases e with
  | post t l => exact .tup (SqT.of hb) (.cons (.str _) (.cons (.str _) (.cons (.str _) .nil)))
  | take s => exact .tup (SqT.of hb) (.cons (.str _) (.cons (.str _) .nil))
/-- what a party can do at a state -/
structure CanOk (nm : Str) (M : Tab) (p : Pa) (es : List CanE) : Prop where
  post : ∀ t l, CanE.post t l ∈ es ↔ ∃ g, ((nm, t, l), g) ∈ M.row p.q
  take : ∀ s, CanE.take s ∈ es ↔ s ≠ nm ∧ ∃ n l t g, (s, n, l) ∈ p.off ∧ ((s, t, l), g) ∈ M.row p.q
  ok : ∀ e ∈ es, e.ok = true
  len : es.length ≤ 5000
def spCan (K : PySem.W.Frag) : Sp := fun vs H Q _ => ∃ (f : Pf) (nm : Str) (M : Tab) (p : Pa) (n : Nat), vs = [.ref f.a] ∧ PaAt K H f nm M p n ∧ p.w = none ∧ p.q < M.rows.length ∧ p.off.length ≤ 1 ∧ (M.row p.q).length ≤ 5000 ∧
  ∀ b H' ys es, Same H H' → H b = none → H' b = some (.lst ys) → Paired (CanV H') ys es → CanOk nm M p es → Q (.ref b) H'
theorem off_get {H : Hp} {ok : List (Key × V)} {off : List (Str × Nat × Str)} (h : Paired (OfV H) ok off) (hl : off.length ≤ 1) (s : Str) :
    ((∀ n l, (s, n, l) ∉ off) ∧ valV ok (kS s) = none) ∨ ∃ n l b, off = [(s, n, l)] ∧ valV ok (kS s) = some (.ref b) ∧ H b = some (.tup [.int (n : Nat), .str l]) ∧ ok = [(kS s, .ref b)] := by
  cases h with
  | nil => exact .inl ⟨fun n l => by simp, rfl⟩
  | @cons kv o ok off r t =>
    have : off = [] := List.length_eq_zero_iff.mp (by rw [List.length_cons] at hl; omega)
    subst this
    cases t
    obtain ⟨k, v⟩ := kv
    obtain ⟨s', n, l⟩ := o
    obtain ⟨e1, b, e2, hb⟩ := r
    have e1 : k = kS s' := e1
    have e2 : v = .ref b := e2
    subst e1 e2
    by_cases c : s' = s
    · subst c
      exact .inr ⟨n, l, b, rfl, valV_pos rfl, hb, rfl⟩
    · refine .inl ⟨fun n' l' hm => ?_, ?_⟩
      · rw [List.mem_singleton] at hm
        cases hm
        exact c rfl
      · rw [valV_neg (p := (kS s', V.ref b)) (fun e => c (kS_inj _ _ e))]
        rfl
theorem sc_Party_can : FnScope ["self", "acts", "action", "_"] ["self"] (defScope s_Party_can) := ⟨rfl, rfl, rfl, by decide +kernel, rfl, by decide +kernel, by decide +kernel⟩
theorem o_Party_can (T : Txt K mg) : OkM P w K mg base CX0 (He.ga K "Party") "can" 1 ["self"] (spCan K) :=
  okm_def T.c_Party T.d_Party_can T.m_Party_can sc_Party_can (fun _ _ _ _ _ _ us hl => match us, hl with | [_], _ => rfl) (fun vs H Q E h => by obtain ⟨_, _, _, _, _, rfl, _⟩ := h; rfl) fun cdv A outer s H vs Q E hr h => by
  obtain ⟨f, nm, M, p, n, rfl, ⟨mv, wv, j, pk, sk, ok, R⟩, hw, hq, hoff, hrl, hQ⟩ := h
  refine ⟨_, (PSs.nox (pss_cons (ps_set (i := 1) sc_Party_can.nd rfl (by first | exact Or.inl rfl | exact Or.inr rfl) (pe_lst pa_nil))
      (pss_cons (ps_if (pt_cmpR op_isN (ke_fld (K := K) rfl (pv 0) rfl) pe_non (nomark _)) (pss_one (ps_for PassesOwn.never rfl (ki_tup (K := K) rfl (pe_ix (kx_tup (K := K) rfl) (pe_ix (kx_tup (K := K) rfl) (ke_fld (K := K) rfl (pv 0) rfl) pe_int (fun _ _ => rfl)) (ke_fld (K := K) rfl (pv 0) rfl) (fun _ _ => rfl))) (kg_tup (K := K) (n := 2) rfl rfl (pgs_cons (pg_name (i := 2) sc_Party_can.nd rfl (by first | exact Or.inl rfl | exact Or.inr rfl)) (pgs_cons (pg_name (i := 3) sc_Party_can.nd rfl (by first | exact Or.inl rfl | exact Or.inr rfl)) pgs_nil))) (pss_one (ps_if (pt_cmpR op_eq (pe_ix (kx_tup (K := K) rfl) (pv 2) pe_int (fun _ _ => rfl)) (ke_fld (K := K) rfl (pv 0) rfl) (nomark _)) (pss_one (ps_expr (pe_bm PySem.F.plainAttrs_list PySem.F.slot_list_append PySem.F.type_list_append mt_append (pv 1) (pa_cons (pe_tup (pa_cons pe_str (pa_cons (pe_ix (kx_tup (K := K) rfl) (pv 2) pe_int (fun _ _ => rfl)) (pa_cons (pe_ix (kx_tup (K := K) rfl) (pv 2) pe_int (fun _ _ => rfl)) pa_nil)))) pa_nil)))) (pss_one (ps_if (PW.pt (pw_and (pt_cmp (pc_din (ru1 hr) (pe_ix (kx_tup (K := K) rfl) (pv 2) pe_int (fun _ _ => rfl)) (ke_fld (K := K) rfl (pv 0) rfl))) (pw_and1 (pt_cmpR op_eq (pe_ix (kx_tup (K := K) rfl) (pe_dget (ru1 hr) (ke_fld (K := K) rfl (pv 0) rfl) (pe_ix (kx_tup (K := K) rfl) (pv 2) pe_int (fun _ _ => rfl)) (fun _ _ => rfl)) pe_int (fun _ _ => rfl)) (pe_ix (kx_tup (K := K) rfl) (pv 2) pe_int (fun _ _ => rfl)) (nomark _))))) (pss_one (ps_expr (pe_bm PySem.F.plainAttrs_list PySem.F.slot_list_append PySem.F.type_list_append mt_append (pv 1) (pa_cons (pe_tup (pa_cons pe_str (pa_cons (pe_ix (kx_tup (K := K) rfl) (pv 2) pe_int (fun _ _ => rfl)) pa_nil))) pa_nil)))) pss_nil)))))) pss_nil)
      (pss_one (ps_ret (pe_callB (id := "sorted") (kc_sortR (K := K) rfl (ru64 hr)) (by rfl) T.n_sorted (by decide +kernel) (pa_cons (pv 1) pa_nil))))))), ?_⟩
  have big : (400000 : Nat) < sizeLine := by decide
  have hwv := R.wv
  rw [hw] at hwv
  refine ⟨Nat.zero_le _, fun ab hab => ?_⟩
  have s1 : Same H (upd H ab (.lst [])) := same_new hab
  have hab1 : (upd H ab (.lst [])) ab = some (.lst []) := upd_same
  have R1 := R.same s1
  generalize upd H ab (.lst []) = H1 at s1 hab1 R1
  refine ⟨_, rfl, f.a, _, _, _, _, rfl, R1.ob, T.c_Party, T.a_Party__waiting, paF_waiting .., ?_⟩
  refine ⟨rfl, _, rfl, ?_⟩
  rw [show wv = V.non from hwv]
  refine iteT ?_
  obtain ⟨b, xs, hb, hx, g⟩ := gv_row (K := K) (te := tFld K (tVar 0) "_machine") (ti := tFld K (tVar 0) "_state") (σ := [some (.ref f.a), some (.ref ab), none, none]) R1.mv hq (fun Q q => ⟨_, rfl, f.a, _, _, _, _, rfl, R1.ob, T.c_Party, T.a_Party__machine, paF_machine .., q⟩) (fun Q q => ⟨_, rfl, f.a, _, _, _, _, rfl, R1.ob, T.c_Party, T.a_Party__state, paF_state .., q⟩)
  refine g _ ⟨b, rfl, ⟨_, SqT.of hb⟩, for_tup (K := K) (a := b) (xs := xs) (fun i σ H' => ∃ x2 x3 ys es, σ = [some (.ref f.a), some (.ref ab), x2, x3] ∧ Same H H' ∧ Tp H1 H' ∧ H' ab = some (.lst ys) ∧ Paired (CanV H') ys es ∧
      (∀ t l, CanE.post t l ∈ es ↔ ∃ g, ((nm, t, l), g) ∈ (M.row p.q).take i) ∧ (∀ s, CanE.take s ∈ es ↔ s ≠ nm ∧ ∃ n l t g, (s, n, l) ∈ p.off ∧ ((s, t, l), g) ∈ (M.row p.q).take i) ∧ (∀ e ∈ es, e.ok = true) ∧ es.length ≤ i)
    ⟨_, _, [], [], rfl, s1, Tp.refl _, hab1, .nil, fun t l => by simp, fun s => by simp, (fun e he => nomatch he), Nat.le_refl _⟩ (fun i σ H' _ ⟨_, _, _, _, _, _, h, _⟩ => SqT.of (h _ _ hb)) ?_ ?_⟩
  · rintro i x σ H2 hi ⟨y2, y3, ys, es, rfl, s2, tp2, hab2, hys, hpost, htake, hoks, hlen⟩
    obtain ⟨e, he, c, z, rfl, hc, hz⟩ := pr_get' hx hi
    refine g_two (tp2 _ _ hc) ?_
    have hz2 := hz.mono tp2
    have R2 := R.same s2
    have hyl := Paired.length hys
    have hil : i < (M.row p.q).length := (List.getElem?_eq_some_iff.mp he).1
    obtain ⟨⟨a0, a1, a2⟩, g'⟩ := e
    have hz2 : ActV H2 z (a0, a1, a2) := hz2
    have hok3 := hz2.ok
    unfold okA at hok3
    simp only [Bool.and_eq_true] at hok3
    refine gv_act0 hz2 (gv_var rfl) _ ?_
    refine ⟨_, rfl, f.a, _, _, _, _, rfl, R2.ob, T.c_Party, T.a_Party__name, paF_name .., rfl, _, rfl, ?_⟩
    have ed : decide (V.str ((a0, a1, a2) : Act).1 = V.str nm) = decide (a0 = nm) := by simp
    rw [ed]
    have tk : (M.row p.q).take (i + 1) = (M.row p.q).take i ++ [((a0, a1, a2), g')] := takec he
    -- one more
    have fin : ∀ (en : CanE) (H3 : Hp) (tt : Addr), Same H2 H3 → H3 tt = some (.tup en.vs) → en.ok = true → (∀ t l, en = CanE.post t l ↔ (nm, t, l) = (a0, a1, a2)) → (∀ s, en = CanE.take s ↔ s ≠ nm ∧ s = a0 ∧ ∃ n, (s, n, a2) ∈ p.off) →
        ∃ x2 x3 ys' es', [some (.ref f.a), some (.ref ab), some z, some (.int (g' : Nat))] = [some (.ref f.a), some (.ref ab), x2, x3] ∧ Same H (upd H3 ab (.lst (ys ++ [.ref tt]))) ∧ Tp H1 (upd H3 ab (.lst (ys ++ [.ref tt]))) ∧ (upd H3 ab (.lst (ys ++ [.ref tt]))) ab = some (.lst ys') ∧ Paired (CanV (upd H3 ab (.lst (ys ++ [.ref tt])))) ys' es' ∧
          (∀ t l, CanE.post t l ∈ es' ↔ ∃ g, ((nm, t, l), g) ∈ (M.row p.q).take (i + 1)) ∧ (∀ s, CanE.take s ∈ es' ↔ s ≠ nm ∧ ∃ n l t g, (s, n, l) ∈ p.off ∧ ((s, t, l), g) ∈ (M.row p.q).take (i + 1)) ∧ (∀ e ∈ es', e.ok = true) ∧ es'.length ≤ i + 1 := by
      intro en H3 tt s3 htt hen h1 h2
      have hab3 := s3 _ _ hab2
      have tpz : Tp H3 (upd H3 ab (.lst (ys ++ [.ref tt]))) := (Tp.refl H3).put hab3 (fun _ z => nomatch z)
      refine ⟨_, _, ys ++ [.ref tt], es ++ [en], rfl, same_put (s2.trans s3) hab, (tp2.trans (Tp.of s3)).trans tpz, upd_same, Paired.snoc (L2.Paired.mapP hys fun _ _ q => q.mono ((Tp.of s3).trans tpz)) ⟨tt, rfl, tpz _ _ htt⟩, fun t l => ?_, fun s => ?_, fun e he => ?_, by rw [List.length_append, List.length_singleton]; omega⟩
      · rw [List.mem_append, List.mem_singleton, hpost t l, tk, eq_comm (a := CanE.post t l), h1 t l]
        constructor
        · rintro (⟨g, h⟩ | h)
          · exact ⟨g, List.mem_append_left _ h⟩
          · exact ⟨g', List.mem_append_right _ (List.mem_singleton.mpr (by rw [h]))⟩
        · rintro ⟨g, h⟩
          rcases List.mem_append.mp h with h | h
          · exact .inl ⟨g, h⟩
          · right
            have := List.mem_singleton.mp h
            exact congrArg Prod.fst this
      · rw [List.mem_append, List.mem_singleton, htake s, tk, eq_comm (a := CanE.take s), h2 s]
        constructor
        · rintro (⟨hne, n, l, t, g, h3, h4⟩ | ⟨hne, rfl, n, h3⟩)
          · exact ⟨hne, n, l, t, g, h3, List.mem_append_left _ h4⟩
          · exact ⟨hne, n, a2, a1, g', h3, List.mem_append_right _ (List.mem_singleton.mpr rfl)⟩
        · rintro ⟨hne, n, l, t, g, h3, h4⟩
          rcases List.mem_append.mp h4 with h4 | h4
          · exact .inl ⟨hne, n, l, t, g, h3, h4⟩
          · right
            have := List.mem_singleton.mp h4
            cases this
            exact ⟨hne, rfl, n, h3⟩
      · rcases List.mem_append.mp he with q | q
        · exact hoks e q
        · rw [List.mem_singleton.mp q]; exact hen
    have none_ : (∀ t l, (nm, t, l) ≠ (a0, a1, a2)) → (∀ s, s ≠ nm → s = a0 → ∀ n, (s, n, a2) ∉ p.off) →
        ∃ x2 x3 ys' es', [some (.ref f.a), some (.ref ab), some z, some (.int (g' : Nat))] = [some (.ref f.a), some (.ref ab), x2, x3] ∧ Same H H2 ∧ Tp H1 H2 ∧ H2 ab = some (.lst ys') ∧ Paired (CanV H2) ys' es' ∧
          (∀ t l, CanE.post t l ∈ es' ↔ ∃ g, ((nm, t, l), g) ∈ (M.row p.q).take (i + 1)) ∧ (∀ s, CanE.take s ∈ es' ↔ s ≠ nm ∧ ∃ n l t g, (s, n, l) ∈ p.off ∧ ((s, t, l), g) ∈ (M.row p.q).take (i + 1)) ∧ (∀ e ∈ es', e.ok = true) ∧ es'.length ≤ i + 1 := by
      intro h1 h2
      refine ⟨_, _, ys, es, rfl, s2, tp2, hab2, hys, fun t l => ?_, fun s => ?_, hoks, by omega⟩
      · rw [hpost t l, tk]
        constructor
        · rintro ⟨g, h⟩
          exact ⟨g, List.mem_append_left _ h⟩
        · rintro ⟨g, h⟩
          rcases List.mem_append.mp h with h | h
          · exact ⟨g, h⟩
          · exact absurd (congrArg Prod.fst (List.mem_singleton.mp h)) (h1 t l)
      · rw [htake s, tk]
        constructor
        · rintro ⟨hne, n, l, t, g, h3, h4⟩
          exact ⟨hne, n, l, t, g, h3, List.mem_append_left _ h4⟩
        · rintro ⟨hne, n, l, t, g, h3, h4⟩
          rcases List.mem_append.mp h4 with h4 | h4
          · exact ⟨hne, n, l, t, g, h3, h4⟩
          · have := List.mem_singleton.mp h4
            cases this
            exact absurd h3 (h2 _ hne rfl n)
    by_cases c1 : a0 = nm
    · rw [decide_eq_true c1]
      refine iteT ⟨_, rfl, .inl ⟨rfl, _, SqL.of hab2⟩, ?_⟩
      refine gv_act1 hz2 (gv_var rfl) _ (gv_act2 hz2 (gv_var rfl) _ ⟨(by show 3 ≤ sizeLine; omega), fun tt htt => ?_⟩)
      have s3 : Same H2 (upd H2 tt (.tup [.str "post", .str a1, .str a2])) := same_new htt
      refine ⟨ab, ys, _, rfl, rfl, s3 _ _ hab2, by omega, ?_⟩
      refine fin (.post a1 a2) _ tt s3 upd_same (by show (PyData.strOk a1 && PyData.strOk a2) = true; rw [hok3.1.2, hok3.2]; rfl) (fun t l => ?_) (fun s => ?_)
      · subst c1
        constructor
        · intro h; cases h; rfl
        · intro h; cases h; rfl
      · constructor
        · intro h; cases h
        · rintro ⟨h3, rfl, _⟩; exact absurd c1 h3
    · rw [decide_eq_false c1]
      refine iteF ?_
      have hne1 : ∀ t l, (nm, t, l) ≠ (a0, a1, a2) := fun t l h => c1 (congrArg Prod.fst h).symm
      refine gv_act0 hz2 (gv_var rfl) _ ?_
      refine ⟨_, rfl, f.a, _, _, _, _, rfl, R2.ob, T.c_Party, T.a_Party__offers, paF_offers .., f.od, _, rfl, DGet.k (k := kS a0) R2.od, _, rfl, ?_⟩
      rcases off_get R2.of_ hoff a0 with ⟨hno, hv⟩ | ⟨n1, l1, ob, hof, hv, hob, _⟩
      · rw [hv]
        exact iteF (iteF (none_ hne1 fun s _ hs n => by rw [hs]; exact hno n a2))
      · rw [hv]
        refine iteT ⟨_, rfl, f.a, _, _, _, _, rfl, R2.ob, T.c_Party, T.a_Party__offers, paF_offers .., ?_⟩
        refine gv_act0 hz2 (gv_var rfl) _ ⟨f.od, .ref ob, rfl, by have := DGet.k (k := kS a0) R2.od; rw [hv] at this; exact this, ob, _, _, _, rfl, rfl, SqT.of hob, atI_nat (j := 1) rfl, ?_⟩
        refine gv_act2 hz2 (gv_var rfl) _ ⟨rfl, _, rfl, ?_⟩
        have ed2 : decide (V.str l1 = V.str ((a0, a1, a2) : Act).2.2) = decide (l1 = a2) := by simp
        rw [ed2]
        by_cases c2 : l1 = a2
        · rw [decide_eq_true c2]
          refine iteT ⟨_, rfl, .inl ⟨rfl, _, SqL.of hab2⟩, ?_⟩
          refine gv_act0 hz2 (gv_var rfl) _ ⟨(by show 2 ≤ sizeLine; omega), fun tt htt => ?_⟩
          have s3 : Same H2 (upd H2 tt (.tup [.str "take", .str a0])) := same_new htt
          refine ⟨ab, ys, _, rfl, rfl, s3 _ _ hab2, by omega, ?_⟩
          refine fin (.take a0) _ tt s3 upd_same hok3.1.1 (fun t l => ?_) (fun s => ?_)
          · constructor
            · intro h; cases h
            · intro h; exact absurd h (hne1 t l)
          · constructor
            · intro h
              cases h
              exact ⟨c1, rfl, n1, by rw [hof, c2]; exact List.mem_singleton.mpr rfl⟩
            · rintro ⟨_, rfl, _⟩; rfl
        · rw [decide_eq_false c2]
          refine iteF (none_ hne1 fun s _ hs n hm => ?_)
          rw [hof, List.mem_singleton] at hm
          cases hm
          exact c2 rfl
  · rintro σ H2 ⟨y2, y3, ys, es, rfl, s2, tp2, hab2, hys, hpost, htake, hoks, hlen⟩
    rw [Paired.length hx, List.take_length] at hpost htake
    rw [Paired.length hx] at hlen
    refine ⟨_, rfl, CanE, CanV H2, CanE.d, es, ab, ys, rfl, SqL.of hab2, hys, fun x b h => h.dp, fun d hd d' hd' => ?_, .inl fun d hd => ?_, fun e he => ?_, fun q zs hq' hzs => ?_⟩
    · obtain ⟨a, _, rfl⟩ := List.mem_map.mp hd
      obtain ⟨b, _, rfl⟩ := List.mem_map.mp hd'
      cases a <;> cases b <;> rfl
    · obtain ⟨a, _, rfl⟩ := List.mem_map.mp hd
      cases a <;> exact ⟨_, _, rfl⟩
    · cases e <;> simp [CanE.d, PyData.depth, PyData.depthAll]
    · have pe : (es.mergeSort (PySem.W.dataLe false CanE.d)).Perm es := List.mergeSort_perm ..
      refine hQ q _ zs _ (s2.trans (same_new hq')) (s2.free hq') upd_same (L2.Paired.mapP hzs fun _ _ z => z.mono (Tp.new hq')) ⟨fun t l => ?_, fun s => ?_, fun e he => hoks e (pe.mem_iff.mp he), by rw [pe.length_eq]; omega⟩
      · rw [pe.mem_iff]; exact hpost t l
      · rw [pe.mem_iff]; exact htake s
end Pk
set_option Elab.async false
set_option linter.all false
set_option maxRecDepth 100000
set_option maxHeartbeats 4000000
/-! The defs, 17: a party: carry_out, entry_of_act, entry_of_message. -/
namespace Pk
open PySem PySem.Spec PyProof.Rows L2
variable {P : Program} {w : World} {K : PySem.W.Frag} {mg : Str → Option Value} {base : Heap}
def updF {β : Type} (g : Str → β) (o : Str) (v : β) : Str → β := fun k => if k = o then v else g k
/-- what a record does -/
inductive Co (nm : Str) (M : Tab) (p : Pa) : Str → Str → Str → Nat → Pa → Prop where
  | p (o l : Str) (n : Nat) : Co nm M p "p" o l n { p with post := updF p.post o n, w := some (o, n, l), wd := false }
  | k (o l : Str) (n q' : Nat) : M.step p.q (nm, o, l) = some q' → okA (nm, o, l) = true → Co nm M p "k" o l n { p with w := none, q := q' }
  | g (o l : Str) (n : Nat) : Co nm M p "g" o l n { p with w := none }
  | t (o l : Str) (n q' : Nat) : p.off = [(o, n, l)] → M.step p.q (o, nm, l) = some q' → okA (o, nm, l) = true → Co nm M p "t" o l n { p with sett := updF p.sett o (n, true), off := [], q := q' }
  | r (o l : Str) (n n' : Nat) (l' : Str) : p.off = [(o, n', l')] → n' ≤ n → Co nm M p "r" o l n { p with sett := updF p.sett o (n, false), off := [] }
def spCarry (K : PySem.W.Frag) : Sp := fun vs H Q _ => ∃ (f : Pf) (eb : Addr) (nm : Str) (M : Tab) (p p' : Pa) (N : Nat) (kd o l : Str) (n : Nat), vs = [.ref f.a, .ref eb] ∧ H eb = some (.tup [.str kd, .str o, .str l, .int (n : Nat)]) ∧ PaAt K H f nm M p N ∧ Co nm M p kd o l n p' ∧
  o.length ≤ 50 ∧ l.length ≤ 50 ∧ n ≤ N + 1 ∧ N ≤ 50000 ∧ p.q < M.rows.length ∧ ∀ H', Out f.z H H' → PaAt K H' f nm M p' (N + 1) → Q .non H'
theorem nz {f : Pf} (h : f.z.Nodup) : f.a ≠ f.pd ∧ f.a ≠ f.sd ∧ f.a ≠ f.od ∧ f.pd ≠ f.sd ∧ f.pd ≠ f.od ∧ f.sd ≠ f.od := by
  simp [Pf.z] at h
  exact ⟨h.1.1, h.1.2.1, h.1.2.2, h.2.1.1, h.2.1.2, h.2.2⟩
theorem eqS (a b : Str) : decide (V.str a = V.str b) = decide (a = b) := by simp
theorem sc_Party_carry_out : FnScope ["self", "entry", "kind", "other", "label", "number"] ["self", "entry"] (defScope s_Party_carry_out) := ⟨rfl, rfl, rfl, by decide +kernel, rfl, by decide +kernel, by decide +kernel⟩
theorem o_Party_carry_out (T : Txt K mg) : OkM P w K mg base CX0 (He.ga K "Party") "carry_out" 3 ["self", "entry"] (spCarry K) :=
  okm_def T.c_Party T.d_Party_carry_out T.m_Party_carry_out sc_Party_carry_out (fun _ _ _ _ _ _ us hl => match us, hl with | [_, _], _ => rfl) (fun vs H Q E h => by obtain ⟨_, _, _, _, _, _, _, _, _, _, _, rfl, _⟩ := h; rfl) fun cdv A outer s H vs Q E hr h => by
  obtain ⟨f, eb, nm, M, p, p', N, kd, o, l, n, rfl, heb, ⟨mv, wv, j, pk, sk, ok, R⟩, hco, hol, hll, hnN, hN, hq, hQ⟩ := h
  refine ⟨_, (PSs.nox (pss_cons (ps_asg (pv 1) (kg_tup (K := K) (n := 4) rfl rfl (pgs_cons (pg_name (i := 2) sc_Party_carry_out.nd rfl (by first | exact Or.inl rfl | exact Or.inr rfl)) (pgs_cons (pg_name (i := 3) sc_Party_carry_out.nd rfl (by first | exact Or.inl rfl | exact Or.inr rfl)) (pgs_cons (pg_name (i := 4) sc_Party_carry_out.nd rfl (by first | exact Or.inl rfl | exact Or.inr rfl)) (pgs_cons (pg_name (i := 5) sc_Party_carry_out.nd rfl (by first | exact Or.inl rfl | exact Or.inr rfl)) pgs_nil))))))
      (pss_cons (ps_if (pt_cmpR op_eq (pv 2) pe_str (nomark _)) (pss_cons (ps_dput (ru1 hr) (ke_fld (K := K) rfl (pv 0) rfl) (pv 3) (pv 5) rfl)
      (pss_cons (ps_fld (pv 0) (pe_tup (pa_cons (pv 3) (pa_cons (pv 5) (pa_cons (pv 4) pa_nil)))) rfl)
      (pss_one (ps_fld (pv 0) pe_bl rfl)))) (pss_one (ps_if (PW.pt (pw_or (pt_cmpR op_eq (pv 2) pe_str (nomark _)) (pw_or1 (pt_cmpR op_eq (pv 2) pe_str (nomark _))))) (pss_cons (ps_fld (pv 0) pe_non rfl)
      (pss_one (ps_if (pt_cmpR op_eq (pv 2) pe_str (nomark _)) (pss_one (ps_fld (pv 0) (pe_cl (o_next_state T) (hr.mono (by decide)) (pa_cons (ke_fld (K := K) rfl (pv 0) rfl) (pa_cons (ke_fld (K := K) rfl (pv 0) rfl) (pa_cons (pe_tup (pa_cons (ke_fld (K := K) rfl (pv 0) rfl) (pa_cons (pv 3) (pa_cons (pv 4) pa_nil)))) pa_nil)))) rfl)) pss_nil))) (pss_cons (ps_dput (ru1 hr) (ke_fld (K := K) rfl (pv 0) rfl) (pv 3) (pe_tup (pa_cons (pv 5) (pa_cons (pe_cmpR op_eq (pv 2) pe_str (nomark _)) pa_nil))) rfl)
      (pss_cons (ps_if (PW.pt (pw_and (pt_cmp (pc_din (ru1 hr) (pv 3) (ke_fld (K := K) rfl (pv 0) rfl))) (pw_and1 (pt_cmpR op_le (pe_ix (kx_tup (K := K) rfl) (pe_dget (ru1 hr) (ke_fld (K := K) rfl (pv 0) rfl) (pv 3) (fun _ _ => rfl)) pe_int (fun _ _ => rfl)) (pv 5) (nomark _))))) (pss_one (ps_expr (pe_dpop1 (ke_fld (K := K) rfl (pv 0) rfl) (pv 3) ⟨rfl, rfl, rfl, rfl⟩))) pss_nil)
      (pss_one (ps_if (pt_cmpR op_eq (pv 2) pe_str (nomark _)) (pss_one (ps_fld (pv 0) (pe_cl (o_next_state T) (hr.mono (by decide)) (pa_cons (ke_fld (K := K) rfl (pv 0) rfl) (pa_cons (ke_fld (K := K) rfl (pv 0) rfl) (pa_cons (pe_tup (pa_cons (pv 3) (pa_cons (ke_fld (K := K) rfl (pv 0) rfl) (pa_cons (pv 4) pa_nil)))) pa_nil)))) rfl)) pss_nil)))))))
      (pss_one (ps_fld (pv 0) (pe_op op_add_str (ke_fld (K := K) rfl (pv 0) rfl) (pe_cl (o_record T) (hr.mono (by decide)) (pa_cons (pv 2) (pa_cons (pv 3) (pa_cons (pv 4) (pa_cons (pv 5) pa_nil)))))) rfl))))), ?_⟩
  have big : (16000000 : Nat) < sizeLine := by decide
  obtain ⟨z1, z2, z3, z4, z5, z6⟩ := nz R.z
  have ma : f.a ∈ f.z := by simp [Pf.z]
  have mp : f.pd ∈ f.z := by simp [Pf.z]
  have ms : f.sd ∈ f.z := by simp [Pf.z]
  have mo : f.od ∈ f.z := by simp [Pf.z]
  have hjl := R.j
  refine ⟨_, rfl, eb, _, rfl, SqT.of heb, rfl, _, _, rfl, _, _, rfl, _, _, rfl, _, _, rfl, rfl, ?_⟩
  -- the journal
  have tail : ∀ (σ' : L2.St) (H1 : Hp) (D : Ends) (mv' wv' : V) (pk' sk' ok' : List (Key × V)), σ' = [some (.ref f.a), some (.ref eb), some (.str kd), some (.str o), some (.str l), some (.int (n : Nat))] → kd.length ≤ 50 → PaR K H1 f nm M p' (N + 1) mv' wv' j pk' sk' ok' → Out f.z H H1 → (∀ σ H', D.nx σ H' = Q .non H') →
      sFld K (tVar 0) (tOp (fun x y H Q => ∃ i j, x = .str i ∧ y = .str j ∧ i.length + j.length ≤ sizeLine ∧ Q (.str (i ++ j)) H) (tFld K (tVar 0) "_journal") (tCall spRecord [] E0 (tCons (tVar 2) (tCons (tVar 3) (tCons (tVar 4) (tCons (tVar 5) tNil)))))) "_journal" D σ' H1 := by
    intro σ' H1 D mv' wv' pk' sk' ok' hσ hkd R1 o1 hD
    subst hσ
    refine ⟨_, rfl, f.a, _, _, _, _, rfl, R1.ob, T.c_Party, T.a_Party__journal, paF_journal .., ?_⟩
    refine ⟨_, rfl, _, rfl, _, rfl, _, rfl, kd, o, l, (n : Int), rfl, hkd, hol, hll, by omega, by omega, fun z hz => ?_⟩
    refine ⟨j, z, rfl, rfl, by omega, _, rfl, f.a, _, _, _, rfl, R1.ob, T.c_Party, T.a_Party__journal, paF_len .., ?_⟩
    rw [hD, paP_journal]
    refine hQ _ (o1.put ma) ⟨mv', wv', j ++ z, pk', sk', ok', ?_⟩
    have tp : Tp H1 (upd H1 f.a (.ins (He.ga K "Party") f.dx (paF (.str nm) mv' (.int (p'.q : Nat)) (.ref f.pd) (.ref f.sd) wv' (.bl p'.wd) (.ref f.od) (.str (j ++ z))))) := (Tp.refl H1).put R1.ob (fun _ z => nomatch z)
    exact ⟨upd_same, R1.mv.mono tp, R1.wv.mono tp, by rw [len_app]; omega, by rw [upd_ne z1.symm]; exact R1.pd, R1.pl, R1.po, R1.pn, by rw [upd_ne z2.symm]; exact R1.sd, R1.sl, fun k => (R1.se k).mono tp, by rw [upd_ne z3.symm]; exact R1.od, L2.Paired.mapP R1.of_ fun _ _ q => q.mono tp, R1.z⟩
  have k1 : (Str.ofString "p").length ≤ 50 := by decide +kernel
  have k2 : (Str.ofString "k").length ≤ 50 := by decide +kernel
  have k3 : (Str.ofString "g").length ≤ 50 := by decide +kernel
  have k4 : (Str.ofString "t").length ≤ 50 := by decide +kernel
  have k5 : (Str.ofString "r").length ≤ 50 := by decide +kernel
  have e_pp : decide (V.str "p" = V.str "p") = true := by decide +kernel
  have e_kp : decide (V.str "k" = V.str "p") = false := by decide +kernel
  have e_gp : decide (V.str "g" = V.str "p") = false := by decide +kernel
  have e_tp : decide (V.str "t" = V.str "p") = false := by decide +kernel
  have e_rp : decide (V.str "r" = V.str "p") = false := by decide +kernel
  have e_kk : decide (V.str "k" = V.str "k") = true := by decide +kernel
  have e_gk : decide (V.str "g" = V.str "k") = false := by decide +kernel
  have e_gg : decide (V.str "g" = V.str "g") = true := by decide +kernel
  have e_tk : decide (V.str "t" = V.str "k") = false := by decide +kernel
  have e_tg : decide (V.str "t" = V.str "g") = false := by decide +kernel
  have e_rk : decide (V.str "r" = V.str "k") = false := by decide +kernel
  have e_rg : decide (V.str "r" = V.str "g") = false := by decide +kernel
  have e_tt : decide (V.str "t" = V.str "t") = true := by decide +kernel
  have e_rt : decide (V.str "r" = V.str "t") = false := by decide +kernel
  -- settled: what k and r do alike
  have offp : ∀ {n' : Nat} {l' : Str}, p.off = [(o, n', l')] → ∃ ob, ok = [(kS o, .ref ob)] ∧ valV ok (kS o) = some (.ref ob) ∧ H ob = some (.tup [.int (n' : Nat), .str l']) := fun {n' l'} h => by
    rcases off_get R.of_ (by rw [h]; exact Nat.le_refl _) o with ⟨hno, _⟩ | ⟨n1, l1, ob, hof, hv, hob, hok⟩
    · exact absurd (by rw [h]; exact List.mem_singleton.mpr rfl) (hno n' l')
    · rw [h] at hof
      cases hof
      exact ⟨ob, hok, hv, hob⟩
  cases hco with
  | p =>
    refine ⟨_, rfl, rfl, _, rfl, ?_⟩
    rw [e_pp]
    refine iteT ?_
    refine ⟨_, rfl, _, rfl, f.a, _, _, _, _, rfl, R.ob, T.c_Party, T.a_Party__posted, paF_posted .., _, rfl, f.pd, _, rfl, DPut.k (k := kS o) R.pd (by have := R.pl; omega), ?_⟩
    have o1 : Out f.z H (upd H f.pd (.dK (putK pk (kS o) (.int (n : Nat))))) := (Out.refl _ _).put mp
    have tp1 := R.tp o1
    have R1 : PaR K (upd H f.pd (.dK (putK pk (kS o) (.int (n : Nat))))) f nm M { p with post := updF p.post o n } (N + 1) mv wv j (putK pk (kS o) (.int (n : Nat))) sk ok :=
      ⟨by rw [upd_ne z1]; exact R.ob, R.mv.mono tp1, R.wv.mono tp1, by omega, upd_same, by have := length_putK pk (kS o) (V.int (n : Nat)); have := R.pl; omega, fun k => by
        rw [valV_put]
        show _ = V.int ((if k = o then n else p.post k : Nat) : Int)
        by_cases e : k = o
        · rw [if_pos (by rw [e]), if_pos e] <;> rfl
        · rw [if_neg (fun q => e (kS_inj _ _ q)), if_neg e]
          exact R.po k, fun k => by
        show (if k = o then n else p.post k) ≤ N + 1
        split
        · exact hnN
        · have := R.pn k; omega, by rw [upd_ne z4.symm]; exact R.sd, by have := R.sl; omega, fun k => (R.se k).mono tp1, by rw [upd_ne z5.symm]; exact R.od, L2.Paired.mapP R.of_ fun _ _ q => q.mono tp1, R.z⟩
    generalize upd H f.pd (.dK (putK pk (kS o) (.int (n : Nat)))) = H1 at o1 R1
    refine ⟨_, rfl, _, rfl, _, rfl, (by show 3 ≤ sizeLine; omega), fun tb htb => ?_⟩
    have s2 : Same H1 (upd H1 tb (.tup [.str o, .int (n : Nat), .str l])) := same_new htb
    have R2 := R1.same s2
    have htb2 : (upd H1 tb (.tup [.str o, .int (n : Nat), .str l])) tb = some (.tup [.str o, .int (n : Nat), .str l]) := upd_same
    have o2 := o1.trans (Out.of s2)
    generalize upd H1 tb (.tup [.str o, .int (n : Nat), .str l]) = H2 at s2 R2 htb2 o2
    refine ⟨_, rfl, f.a, _, _, _, rfl, R2.ob, T.c_Party, T.a_Party__waiting, paF_len .., ?_⟩
    rw [paP_waiting]
    refine ⟨_, rfl, f.a, _, _, _, rfl, upd_same, T.c_Party, T.a_Party__withdrawing, paF_len .., ?_⟩
    rw [upd_upd, paP_withdrawing]
    have tp3 : Tp H2 (upd H2 f.a (.ins (He.ga K "Party") f.dx (paF (.str nm) mv (.int (p.q : Nat)) (.ref f.pd) (.ref f.sd) (.ref tb) (.bl false) (.ref f.od) (.str j)))) := (Tp.refl H2).put R2.ob (fun _ z => nomatch z)
    exact tail _ _ _ mv (.ref tb) _ sk ok rfl k1 ⟨upd_same, R2.mv.mono tp3, ⟨tb, rfl, tp3 _ _ htb2⟩, R2.j, by rw [upd_ne z1.symm]; exact R2.pd, R2.pl, R2.po, R2.pn, by rw [upd_ne z2.symm]; exact R2.sd, R2.sl, fun k => (R2.se k).mono tp3, by rw [upd_ne z3.symm]; exact R2.od, L2.Paired.mapP R2.of_ fun _ _ q => q.mono tp3, R2.z⟩ (o2.put ma) (fun _ _ => rfl)
  | k o l n q' hst hok =>
    refine ⟨_, rfl, rfl, _, rfl, ?_⟩
    rw [e_kp]
    refine iteF ⟨_, rfl, rfl, _, rfl, ?_⟩
    rw [e_kk]
    refine iteT (iteT ?_)
    refine ⟨_, rfl, f.a, _, _, _, rfl, R.ob, T.c_Party, T.a_Party__waiting, paF_len .., ?_⟩
    rw [paP_waiting]
    refine ⟨_, rfl, rfl, _, rfl, ?_⟩
    rw [e_kk]
    have tp1 : Tp H (upd H f.a (.ins (He.ga K "Party") f.dx (paF (.str nm) mv (.int (p.q : Nat)) (.ref f.pd) (.ref f.sd) .non (.bl p.wd) (.ref f.od) (.str j)))) := (Tp.refl H).put R.ob (fun _ z => nomatch z)
    have o1 : Out f.z H (upd H f.a (.ins (He.ga K "Party") f.dx (paF (.str nm) mv (.int (p.q : Nat)) (.ref f.pd) (.ref f.sd) .non (.bl p.wd) (.ref f.od) (.str j)))) := (Out.refl _ _).put ma
    have R1 : PaR K (upd H f.a (.ins (He.ga K "Party") f.dx (paF (.str nm) mv (.int (p.q : Nat)) (.ref f.pd) (.ref f.sd) .non (.bl p.wd) (.ref f.od) (.str j)))) f nm M { p with w := none } N mv .non j pk sk ok :=
      ⟨upd_same, R.mv.mono tp1, rfl, R.j, by rw [upd_ne z1.symm]; exact R.pd, R.pl, R.po, R.pn, by rw [upd_ne z2.symm]; exact R.sd, R.sl, fun k => (R.se k).mono tp1, by rw [upd_ne z3.symm]; exact R.od, L2.Paired.mapP R.of_ fun _ _ q => q.mono tp1, R.z⟩
    generalize upd H f.a (.ins (He.ga K "Party") f.dx (paF (.str nm) mv (.int (p.q : Nat)) (.ref f.pd) (.ref f.sd) .non (.bl p.wd) (.ref f.od) (.str j))) = H1 at tp1 o1 R1
    refine iteT ?_
    refine ⟨_, rfl, f.a, _, _, _, _, rfl, R1.ob, T.c_Party, T.a_Party__machine, paF_machine .., _, rfl, f.a, _, _, _, _, rfl, R1.ob, T.c_Party, T.a_Party__state, paF_state .., _, rfl, f.a, _, _, _, _, rfl, R1.ob, T.c_Party, T.a_Party__name, paF_name .., _, rfl, _, rfl, (by show 3 ≤ sizeLine; omega), fun tb htb => ?_⟩
    have s2 : Same H1 (upd H1 tb (.tup [.str nm, .str o, .str l])) := same_new htb
    have R2 := R1.same s2
    refine ⟨mv, p.q, .ref tb, M, (nm, o, l), rfl, R2.mv, hq, ⟨tb, rfl, upd_same, hok⟩, ?_⟩
    have o2 := o1.trans (Out.of s2)
    generalize upd H1 tb (.tup [.str nm, .str o, .str l]) = H2 at s2 R2 o2
    rw [hst]
    refine ⟨_, rfl, f.a, _, _, _, rfl, R2.ob, T.c_Party, T.a_Party__state, paF_len .., ?_⟩
    rw [paP_state]
    have tp3 : Tp H2 (upd H2 f.a (.ins (He.ga K "Party") f.dx (paF (.str nm) mv (.int (q' : Nat)) (.ref f.pd) (.ref f.sd) .non (.bl p.wd) (.ref f.od) (.str j)))) := (Tp.refl H2).put R2.ob (fun _ z => nomatch z)
    exact tail _ _ _ mv .non pk sk ok rfl k2 ⟨upd_same, R2.mv.mono tp3, rfl, by omega, by rw [upd_ne z1.symm]; exact R2.pd, by have := R2.pl; omega, R2.po, fun k => by have := R2.pn k; exact Nat.le_succ_of_le this, by rw [upd_ne z2.symm]; exact R2.sd, by have := R2.sl; omega, fun k => (R2.se k).mono tp3, by rw [upd_ne z3.symm]; exact R2.od, L2.Paired.mapP R2.of_ fun _ _ q => q.mono tp3, R2.z⟩ (o2.put ma) (fun _ _ => rfl)
  | g =>
    refine ⟨_, rfl, rfl, _, rfl, ?_⟩
    rw [e_gp]
    refine iteF ⟨_, rfl, rfl, _, rfl, ?_⟩
    rw [e_gk]
    refine iteF ⟨_, rfl, rfl, _, rfl, ?_⟩
    rw [e_gg]
    refine iteT ?_
    refine ⟨_, rfl, f.a, _, _, _, rfl, R.ob, T.c_Party, T.a_Party__waiting, paF_len .., ?_⟩
    rw [paP_waiting]
    refine ⟨_, rfl, rfl, _, rfl, ?_⟩
    rw [e_gk]
    have tp1 : Tp H (upd H f.a (.ins (He.ga K "Party") f.dx (paF (.str nm) mv (.int (p.q : Nat)) (.ref f.pd) (.ref f.sd) .non (.bl p.wd) (.ref f.od) (.str j)))) := (Tp.refl H).put R.ob (fun _ z => nomatch z)
    refine iteF ?_
    exact tail _ _ _ mv .non pk sk ok rfl k3 ⟨upd_same, R.mv.mono tp1, rfl, by omega, by rw [upd_ne z1.symm]; exact R.pd, by have := R.pl; omega, R.po, fun k => by have := R.pn k; exact Nat.le_succ_of_le this, by rw [upd_ne z2.symm]; exact R.sd, by have := R.sl; omega, fun k => (R.se k).mono tp1, by rw [upd_ne z3.symm]; exact R.od, L2.Paired.mapP R.of_ fun _ _ q => q.mono tp1, R.z⟩ ((Out.refl _ _).put ma) (fun _ _ => rfl)
  | t o l n q' hoff hst hokA =>
    refine ⟨_, rfl, rfl, _, rfl, ?_⟩
    rw [e_tp]
    refine iteF ⟨_, rfl, rfl, _, rfl, ?_⟩
    rw [e_tk]
    refine iteF ⟨_, rfl, rfl, _, rfl, ?_⟩
    rw [e_tg]
    refine iteF ?_
    -- settled
    refine ⟨_, rfl, _, rfl, rfl, (by show 2 ≤ sizeLine; omega), fun tb htb => ?_⟩
    rw [e_tt]
    have s1 : Same H (upd H tb (.tup [.int (n : Nat), .bl true])) := same_new htb
    have R1 := R.same s1
    have htb1 : (upd H tb (.tup [.int (n : Nat), .bl true])) tb = some (.tup [.int (n : Nat), .bl true]) := upd_same
    generalize upd H tb (.tup [.int (n : Nat), .bl true]) = H1 at s1 R1 htb1
    obtain ⟨ob, hok, hvo, hob⟩ := offp hoff
    have hob1 := s1 _ _ hob
    refine ⟨_, rfl, f.a, _, _, _, _, rfl, R1.ob, T.c_Party, T.a_Party__settled, paF_settled .., _, rfl, f.sd, _, rfl, DPut.k (k := kS o) R1.sd (by have := R1.sl; omega), ?_⟩
    have tp2 : Tp H1 (upd H1 f.sd (.dK (putK sk (kS o) (.ref tb)))) := (Tp.refl H1).put R1.sd (fun _ z => nomatch z)
    have R2 : PaR K (upd H1 f.sd (.dK (putK sk (kS o) (.ref tb)))) f nm M { p with sett := updF p.sett o (n, true) } (N + 1) mv wv j pk (putK sk (kS o) (.ref tb)) ok :=
      ⟨by rw [upd_ne z2]; exact R1.ob, R1.mv.mono tp2, R1.wv.mono tp2, by omega, by rw [upd_ne z4]; exact R1.pd, by have := R1.pl; omega, R1.po, fun k => by have := R1.pn k; exact Nat.le_succ_of_le this, upd_same, by have := length_putK sk (kS o) (V.ref tb); have := R1.sl; omega, fun k => by
        rw [valV_put]
        show SeV _ _ (if k = o then (n, true) else p.sett k)
        by_cases e : k = o
        · rw [if_pos (by rw [e]), if_pos e]
          exact ⟨tb, rfl, tp2 _ _ htb1⟩
        · rw [if_neg (fun q => e (kS_inj _ _ q)), if_neg e]
          exact (R1.se k).mono tp2, by rw [upd_ne z6.symm]; exact R1.od, L2.Paired.mapP R1.of_ fun _ _ q => q.mono tp2, R1.z⟩
    have o2 : Out f.z H (upd H1 f.sd (.dK (putK sk (kS o) (.ref tb)))) := (Out.of s1).put ms
    have hob2 := tp2 _ _ hob1
    generalize upd H1 f.sd (.dK (putK sk (kS o) (.ref tb))) = H2 at tp2 R2 o2 hob2
    -- the offer goes
    refine ⟨_, rfl, _, rfl, f.a, _, _, _, _, rfl, R2.ob, T.c_Party, T.a_Party__offers, paF_offers .., f.od, _, rfl, DGet.k (k := kS o) R2.od, _, rfl, ?_⟩
    rw [hvo]
    refine iteT ⟨_, rfl, f.a, _, _, _, _, rfl, R2.ob, T.c_Party, T.a_Party__offers, paF_offers .., _, rfl, f.od, .ref ob, rfl, by have := DGet.k (k := kS o) R2.od; rw [hvo] at this; exact this, ob, _, _, _, rfl, rfl, SqT.of hob2, atI_nat (j := 0) rfl, ?_⟩
    refine ⟨_, rfl, _, _, rfl, rfl, _, rfl, ?_⟩
    rw [decide_eq_true (Int.le_refl _)]
    refine iteT ?_
    refine ⟨_, rfl, f.a, _, _, _, _, rfl, R2.ob, T.c_Party, T.a_Party__offers, paF_offers .., f.od, rfl, .inl ⟨ok, .inl R2.od⟩, _, rfl, ok, kS o, .ref ob, R2.od, rfl, hvo, ?_⟩
    have hdrop : dropK ok (kS o) = [] := by rw [hok]; unfold dropK; rw [List.filter_cons, if_neg (by simp)] <;> rfl
    rw [hdrop]
    have tp3 : Tp H2 (upd H2 f.od (.dK [])) := (Tp.refl H2).put R2.od (fun _ z => nomatch z)
    have R3 : PaR K (upd H2 f.od (.dK [])) f nm M { p with sett := updF p.sett o (n, true), off := [] } (N + 1) mv wv j pk (putK sk (kS o) (.ref tb)) [] :=
      ⟨by rw [upd_ne z3]; exact R2.ob, R2.mv.mono tp3, R2.wv.mono tp3, R2.j, by rw [upd_ne z5]; exact R2.pd, R2.pl, R2.po, R2.pn, by rw [upd_ne z6]; exact R2.sd, R2.sl, fun k => (R2.se k).mono tp3, upd_same, .nil, R2.z⟩
    have o3 := o2.put (o := .dK []) mo
    generalize upd H2 f.od (.dK []) = H3 at tp3 R3 o3
    refine ⟨_, rfl, rfl, _, rfl, ?_⟩
    rw [e_tt]
    refine iteT ?_
    refine ⟨_, rfl, f.a, _, _, _, _, rfl, R3.ob, T.c_Party, T.a_Party__machine, paF_machine .., _, rfl, f.a, _, _, _, _, rfl, R3.ob, T.c_Party, T.a_Party__state, paF_state .., _, rfl, _, rfl, f.a, _, _, _, _, rfl, R3.ob, T.c_Party, T.a_Party__name, paF_name .., _, rfl, (by show 3 ≤ sizeLine; omega), fun t2 ht2 => ?_⟩
    have s4 : Same H3 (upd H3 t2 (.tup [.str o, .str nm, .str l])) := same_new ht2
    have R4 := R3.same s4
    refine ⟨mv, p.q, .ref t2, M, (o, nm, l), rfl, R4.mv, hq, ⟨t2, rfl, upd_same, hokA⟩, ?_⟩
    have o4 := o3.trans (Out.of s4)
    generalize upd H3 t2 (.tup [.str o, .str nm, .str l]) = H4 at s4 R4 o4
    rw [hst]
    refine ⟨_, rfl, f.a, _, _, _, rfl, R4.ob, T.c_Party, T.a_Party__state, paF_len .., ?_⟩
    rw [paP_state]
    have tp5 : Tp H4 (upd H4 f.a (.ins (He.ga K "Party") f.dx (paF (.str nm) mv (.int (q' : Nat)) (.ref f.pd) (.ref f.sd) wv (.bl p.wd) (.ref f.od) (.str j)))) := (Tp.refl H4).put R4.ob (fun _ z => nomatch z)
    exact tail _ _ _ mv wv pk _ [] rfl k4 ⟨upd_same, R4.mv.mono tp5, R4.wv.mono tp5, R4.j, by rw [upd_ne z1.symm]; exact R4.pd, R4.pl, R4.po, R4.pn, by rw [upd_ne z2.symm]; exact R4.sd, R4.sl, fun k => (R4.se k).mono tp5, by rw [upd_ne z3.symm]; exact R4.od, L2.Paired.mapP R4.of_ fun _ _ q => q.mono tp5, R4.z⟩ (o4.put ma) (fun _ _ => rfl)
  | r o l n n' l' hoff hle =>
    refine ⟨_, rfl, rfl, _, rfl, ?_⟩
    rw [e_rp]
    refine iteF ⟨_, rfl, rfl, _, rfl, ?_⟩
    rw [e_rk]
    refine iteF ⟨_, rfl, rfl, _, rfl, ?_⟩
    rw [e_rg]
    refine iteF ?_
    refine ⟨_, rfl, _, rfl, rfl, (by show 2 ≤ sizeLine; omega), fun tb htb => ?_⟩
    rw [e_rt]
    have s1 : Same H (upd H tb (.tup [.int (n : Nat), .bl false])) := same_new htb
    have R1 := R.same s1
    have htb1 : (upd H tb (.tup [.int (n : Nat), .bl false])) tb = some (.tup [.int (n : Nat), .bl false]) := upd_same
    generalize upd H tb (.tup [.int (n : Nat), .bl false]) = H1 at s1 R1 htb1
    obtain ⟨ob, hok, hvo, hob⟩ := offp hoff
    have hob1 := s1 _ _ hob
    refine ⟨_, rfl, f.a, _, _, _, _, rfl, R1.ob, T.c_Party, T.a_Party__settled, paF_settled .., _, rfl, f.sd, _, rfl, DPut.k (k := kS o) R1.sd (by have := R1.sl; omega), ?_⟩
    have tp2 : Tp H1 (upd H1 f.sd (.dK (putK sk (kS o) (.ref tb)))) := (Tp.refl H1).put R1.sd (fun _ z => nomatch z)
    have R2 : PaR K (upd H1 f.sd (.dK (putK sk (kS o) (.ref tb)))) f nm M { p with sett := updF p.sett o (n, false) } (N + 1) mv wv j pk (putK sk (kS o) (.ref tb)) ok :=
      ⟨by rw [upd_ne z2]; exact R1.ob, R1.mv.mono tp2, R1.wv.mono tp2, by omega, by rw [upd_ne z4]; exact R1.pd, by have := R1.pl; omega, R1.po, fun k => by have := R1.pn k; exact Nat.le_succ_of_le this, upd_same, by have := length_putK sk (kS o) (V.ref tb); have := R1.sl; omega, fun k => by
        rw [valV_put]
        show SeV _ _ (if k = o then (n, false) else p.sett k)
        by_cases e : k = o
        · rw [if_pos (by rw [e]), if_pos e]
          exact ⟨tb, rfl, tp2 _ _ htb1⟩
        · rw [if_neg (fun q => e (kS_inj _ _ q)), if_neg e]
          exact (R1.se k).mono tp2, by rw [upd_ne z6.symm]; exact R1.od, L2.Paired.mapP R1.of_ fun _ _ q => q.mono tp2, R1.z⟩
    have o2 : Out f.z H (upd H1 f.sd (.dK (putK sk (kS o) (.ref tb)))) := (Out.of s1).put ms
    have hob2 := tp2 _ _ hob1
    generalize upd H1 f.sd (.dK (putK sk (kS o) (.ref tb))) = H2 at tp2 R2 o2 hob2
    refine ⟨_, rfl, _, rfl, f.a, _, _, _, _, rfl, R2.ob, T.c_Party, T.a_Party__offers, paF_offers .., f.od, _, rfl, DGet.k (k := kS o) R2.od, _, rfl, ?_⟩
    rw [hvo]
    refine iteT ⟨_, rfl, f.a, _, _, _, _, rfl, R2.ob, T.c_Party, T.a_Party__offers, paF_offers .., _, rfl, f.od, .ref ob, rfl, by have := DGet.k (k := kS o) R2.od; rw [hvo] at this; exact this, ob, _, _, _, rfl, rfl, SqT.of hob2, atI_nat (j := 0) rfl, ?_⟩
    refine ⟨_, rfl, _, _, rfl, rfl, _, rfl, ?_⟩
    rw [decide_eq_true (show ((n' : Nat) : Int) ≤ (n : Nat) by omega)]
    refine iteT ?_
    refine ⟨_, rfl, f.a, _, _, _, _, rfl, R2.ob, T.c_Party, T.a_Party__offers, paF_offers .., f.od, rfl, .inl ⟨ok, .inl R2.od⟩, _, rfl, ok, kS o, .ref ob, R2.od, rfl, hvo, ?_⟩
    have hdrop : dropK ok (kS o) = [] := by rw [hok]; unfold dropK; rw [List.filter_cons, if_neg (by simp)] <;> rfl
    rw [hdrop]
    have tp3 : Tp H2 (upd H2 f.od (.dK [])) := (Tp.refl H2).put R2.od (fun _ z => nomatch z)
    have R3 : PaR K (upd H2 f.od (.dK [])) f nm M { p with sett := updF p.sett o (n, false), off := [] } (N + 1) mv wv j pk (putK sk (kS o) (.ref tb)) [] :=
      ⟨by rw [upd_ne z3]; exact R2.ob, R2.mv.mono tp3, R2.wv.mono tp3, R2.j, by rw [upd_ne z5]; exact R2.pd, R2.pl, R2.po, R2.pn, by rw [upd_ne z6]; exact R2.sd, R2.sl, fun k => (R2.se k).mono tp3, upd_same, .nil, R2.z⟩
    have o3 := o2.put (o := .dK []) mo
    generalize upd H2 f.od (.dK []) = H3 at tp3 R3 o3
    refine ⟨_, rfl, rfl, _, rfl, ?_⟩
    rw [e_rt]
    refine iteF ?_
    exact tail _ _ _ mv wv pk _ [] rfl k5 R3 o3 (fun _ _ => rfl)
end Pk
set_option Elab.async false
set_option linter.all false
set_option maxRecDepth 100000
set_option maxHeartbeats 4000000
/-! The defs, 18: a party: entry_of_act, entry_of_message, post, take, again, withdraw, hear. -/
namespace Pk
open PySem PySem.Spec PyProof.Rows L2
variable {P : Program} {w : World} {K : PySem.W.Frag} {mg : Str → Option Value} {base : Heap}
def spAct (K : PySem.W.Frag) : Sp := fun vs H Q _ => ∃ (f : Pf) (ab : Addr) (nm : Str) (M : Tab) (p : Pa) (N : Nat), vs = [.ref f.a, .ref ab] ∧ PaAt K H f nm M p N ∧ p.w = none ∧ p.q < M.rows.length ∧
  ((∃ t l, H ab = some (.tup [.str "post", .str t, .str l]) ∧ (M.step p.q (nm, t, l)).isSome = true ∧ okA (nm, t, l) = true ∧ ∀ b H', Same H H' → H' b = some (.tup [.str "p", .str t, .str l, .int ((p.post t + 1 : Nat) : Int)]) → Q (.ref b) H') ∨
   (∃ s n l, H ab = some (.tup [.str "take", .str s]) ∧ p.off = [(s, n, l)] ∧ (M.step p.q (s, nm, l)).isSome = true ∧ okA (s, nm, l) = true ∧ ∀ b H', Same H H' → H' b = some (.tup [.str "t", .str s, .str l, .int (n : Nat)]) → Q (.ref b) H'))
theorem sc_Party_entry_of_act : FnScope ["self", "act", "number", "label"] ["self", "act"] (defScope s_Party_entry_of_act) := ⟨rfl, rfl, rfl, by decide +kernel, rfl, by decide +kernel, by decide +kernel⟩
theorem o_Party_entry_of_act (T : Txt K mg) : OkM P w K mg base CX0 (He.ga K "Party") "entry_of_act" 3 ["self", "act"] (spAct K) :=
  okm_def T.c_Party T.d_Party_entry_of_act T.m_Party_entry_of_act sc_Party_entry_of_act (fun _ _ _ _ _ _ us hl => match us, hl with | [_, _], _ => rfl) (fun vs H Q E h => by obtain ⟨_, _, _, _, _, _, rfl, _⟩ := h; rfl) fun cdv A outer s H vs Q E hr h => by
  obtain ⟨f, ab, nm, M, p, N, rfl, hPa, hw, hq, hor⟩ := h
  obtain ⟨mv, wv, j, pk, sk, ok, R⟩ := id hPa
  refine ⟨_, (PSs.nox (pss_cons (ps_if (PW.pt (pw_and (pt_cmpR op_eq (pe_ix (kx_tup (K := K) rfl) (pv 1) pe_int (fun _ _ => rfl)) pe_str (nomark _)) (pw_and1 (pt_val (pe_mt (o_Party_has T) (hr.mono (by decide)) (pv 0) (pa_cons (ke_fld (K := K) rfl (pv 0) rfl) (pa_cons (pe_ix (kx_tup (K := K) rfl) (pv 1) pe_int (fun _ _ => rfl)) (pa_cons (pe_ix (kx_tup (K := K) rfl) (pv 1) pe_int (fun _ _ => rfl)) pa_nil)))))))) (pss_one (ps_ret (pe_tup (pa_cons pe_str (pa_cons (pe_ix (kx_tup (K := K) rfl) (pv 1) pe_int (fun _ _ => rfl)) (pa_cons (pe_ix (kx_tup (K := K) rfl) (pv 1) pe_int (fun _ _ => rfl)) (pa_cons (pe_op op_add (pe_dget2 (ru1 hr) (ke_fld (K := K) rfl (pv 0) rfl) (pe_ix (kx_tup (K := K) rfl) (pv 1) pe_int (fun _ _ => rfl)) pe_int ⟨rfl, rfl, rfl, rfl⟩) pe_int) pa_nil))))))) pss_nil)
      (pss_cons (ps_if (PW.pt (pw_and (pt_cmpR op_eq (pe_ix (kx_tup (K := K) rfl) (pv 1) pe_int (fun _ _ => rfl)) pe_str (nomark _)) (pw_and1 (pt_cmp (pc_din (ru1 hr) (pe_ix (kx_tup (K := K) rfl) (pv 1) pe_int (fun _ _ => rfl)) (ke_fld (K := K) rfl (pv 0) rfl)))))) (pss_cons (ps_asg (pe_dget (ru1 hr) (ke_fld (K := K) rfl (pv 0) rfl) (pe_ix (kx_tup (K := K) rfl) (pv 1) pe_int (fun _ _ => rfl)) (fun _ _ => rfl)) (kg_tup (K := K) (n := 2) rfl rfl (pgs_cons (pg_name (i := 2) sc_Party_entry_of_act.nd rfl (by first | exact Or.inl rfl | exact Or.inr rfl)) (pgs_cons (pg_name (i := 3) sc_Party_entry_of_act.nd rfl (by first | exact Or.inl rfl | exact Or.inr rfl)) pgs_nil))))
      (pss_one (ps_if (pt_val (pe_mt (o_Party_has T) (hr.mono (by decide)) (pv 0) (pa_cons (pe_ix (kx_tup (K := K) rfl) (pv 1) pe_int (fun _ _ => rfl)) (pa_cons (ke_fld (K := K) rfl (pv 0) rfl) (pa_cons (pv 3) pa_nil))))) (pss_one (ps_ret (pe_tup (pa_cons pe_str (pa_cons (pe_ix (kx_tup (K := K) rfl) (pv 1) pe_int (fun _ _ => rfl)) (pa_cons (pv 3) (pa_cons (pv 2) pa_nil))))))) pss_nil))) pss_nil)
      (pss_one ps_never)))), ?_⟩
  have big : (400000 : Nat) < sizeLine := by decide
  rcases hor with ⟨t, l, hab, hst, hokA, hQ⟩ | ⟨s0, n, l, hab, hoff, hst, hokA, hQ⟩
  · refine ⟨_, rfl, ab, _, _, _, rfl, rfl, SqT.of hab, atI_nat (j := 0) rfl, rfl, _, rfl, ?_⟩
    rw [show decide (V.str "post" = V.str "post") = true by decide +kernel]
    refine iteT ⟨_, rfl, f.a, _, _, rfl, R.ob, paM_has .., _, rfl, f.a, _, _, _, _, rfl, R.ob, T.c_Party, T.a_Party__name, paF_name .., _, rfl, ab, _, _, _, rfl, rfl, SqT.of hab, atI_nat (j := 1) rfl, _, rfl, ab, _, _, _, rfl, rfl, SqT.of hab, atI_nat (j := 2) rfl, ?_⟩
    refine ⟨f, nm, M, p, N, (nm, t, l), rfl, hPa, hw, hq, hokA, fun H1 s1 => ⟨_, rfl, ?_⟩⟩
    rw [hst]
    have R1 := R.same s1
    have hab1 := s1 _ _ hab
    refine iteT ?_
    refine ⟨_, rfl, ab, _, _, _, rfl, rfl, SqT.of hab1, atI_nat (j := 1) rfl, _, rfl, ab, _, _, _, rfl, rfl, SqT.of hab1, atI_nat (j := 2) rfl, _, rfl, f.a, _, _, _, _, rfl, R1.ob, T.c_Party, T.a_Party__posted, paF_posted .., f.pd, rfl, .inl ⟨pk, .inl R1.pd⟩, _, rfl, ab, _, _, _, rfl, rfl, SqT.of hab1, atI_nat (j := 1) rfl, valV pk (kS t), DGet.k (k := kS t) R1.pd, ?_⟩
    rw [R1.po t]
    refine ⟨_, _, rfl, rfl, (by show 4 ≤ sizeLine; omega), fun tb htb => ?_⟩
    exact hQ tb _ (s1.trans (same_new htb)) upd_same
  · refine ⟨_, rfl, ab, _, _, _, rfl, rfl, SqT.of hab, atI_nat (j := 0) rfl, rfl, _, rfl, ?_⟩
    rw [show decide (V.str "take" = V.str "post") = false by decide +kernel]
    refine iteF (iteF ?_)
    refine ⟨_, rfl, ab, _, _, _, rfl, rfl, SqT.of hab, atI_nat (j := 0) rfl, rfl, _, rfl, ?_⟩
    rw [show decide (V.str "take" = V.str "take") = true by decide +kernel]
    rcases off_get R.of_ (by rw [hoff]; exact Nat.le_refl _) s0 with ⟨hno, _⟩ | ⟨n1, l1, ob, hof, hv, hob, hok⟩
    · exact absurd (by rw [hoff]; exact List.mem_singleton.mpr rfl) (hno n l)
    rw [hoff] at hof
    cases hof
    refine iteT ⟨_, rfl, ab, _, _, _, rfl, rfl, SqT.of hab, atI_nat (j := 1) rfl, _, rfl, f.a, _, _, _, _, rfl, R.ob, T.c_Party, T.a_Party__offers, paF_offers .., f.od, _, rfl, DGet.k (k := kS s0) R.od, _, rfl, ?_⟩
    rw [hv]
    refine iteT ?_
    refine ⟨_, rfl, f.a, _, _, _, _, rfl, R.ob, T.c_Party, T.a_Party__offers, paF_offers .., _, rfl, ab, _, _, _, rfl, rfl, SqT.of hab, atI_nat (j := 1) rfl, f.od, .ref ob, rfl, by have := DGet.k (k := kS s0) R.od; rw [hv] at this; exact this, ?_⟩
    refine g_two hob ?_
    refine ⟨_, rfl, f.a, _, _, rfl, R.ob, paM_has .., _, rfl, ab, _, _, _, rfl, rfl, SqT.of hab, atI_nat (j := 1) rfl, _, rfl, f.a, _, _, _, _, rfl, R.ob, T.c_Party, T.a_Party__name, paF_name .., _, rfl, ?_⟩
    refine ⟨f, nm, M, p, N, (s0, nm, l), rfl, hPa, hw, hq, hokA, fun H1 s1 => ⟨_, rfl, ?_⟩⟩
    rw [hst]
    refine iteT ⟨_, rfl, ab, _, _, _, rfl, rfl, SqT.of (s1 _ _ hab), atI_nat (j := 1) rfl, _, rfl, _, rfl, (by show 4 ≤ sizeLine; omega), fun tb htb => ?_⟩
    exact hQ tb _ (s1.trans (same_new htb)) upd_same

inductive Msg where
  | letter (s t : Str) (n : Nat) (l : Str)
  | taken (s t : Str) (n : Nat)
  | gone (s t : Str) (n : Nat)
  | back (s t : Str) (n : Nat)
def Msg.kind : Msg → Str
  | .letter .. => "letter"
  | .taken .. => "taken"
  | .gone .. => "gone"
  | .back .. => "back"
def Msg.s : Msg → Str
  | .letter s .. => s
  | .taken s .. => s
  | .gone s .. => s
  | .back s .. => s
def Msg.t : Msg → Str
  | .letter _ t .. => t
  | .taken _ t _ => t
  | .gone _ t _ => t
  | .back _ t _ => t
def Msg.n : Msg → Nat
  | .letter _ _ n _ => n
  | .taken _ _ n => n
  | .gone _ _ n => n
  | .back _ _ n => n
def Msg.vs : Msg → List V
  | .letter s t n l => [.str "letter", .str s, .str t, .int (n : Nat), .str l]
  | .taken s t n => [.str "taken", .str s, .str t, .int (n : Nat)]
  | .gone s t n => [.str "gone", .str s, .str t, .int (n : Nat)]
  | .back s t n => [.str "back", .str s, .str t, .int (n : Nat)]
def MsgV (H : Hp) (v : V) (m : Msg) : Prop := ∃ b, v = .ref b ∧ H b = some (.tup m.vs)
theorem MsgV.mono {H H' : Hp} {v : V} {m : Msg} (t : Tp H H') (h : MsgV H v m) : MsgV H' v m := let ⟨b, e, q⟩ := h; ⟨b, e, t _ _ q⟩
/-- message[:4] -/
theorem msg_cut {te : TE} {σ : L2.St} {H : Hp} {Q : VK} {b : Addr} {m : Msg} (hb : H b = some (.tup m.vs)) (h1 : ∀ Q' : VK, Q' (.ref b) H → te σ H Q') (q : ∀ c H', Same H H' → H' c = some (.tup [.str m.kind, .str m.s, .str m.t, .int (m.n : Nat)]) → Q (.ref c) H') :
    tSl (rSlA K) te tNoPart (tPart (tC (.int 4))) σ H Q := by
  refine h1 _ ⟨_, rfl, b, _, rfl, SqT.of hb, fun hw => ?_, fun hw p hp => ?_⟩
  · cases m with
    | letter s t n l => exact absurd hw.2 (by show ¬ (min 4 5 = 5); decide)
    | taken s t n => exact q b H (Same.refl H) hb
    | gone s t n => exact q b H (Same.refl H) hb
    | back s t n => exact q b H (Same.refl H) hb
  · cases m with
    | letter s t n l => exact q p _ (same_new hp) upd_same
    | taken s t n => exact absurd ⟨rfl, rfl⟩ hw
    | gone s t n => exact absurd ⟨rfl, rfl⟩ hw
    | back s t n => exact absurd ⟨rfl, rfl⟩ hw
/-- what hearing a message does -/
inductive Hear (nm : Str) (M : Tab) (p : Pa) : Msg → Pa → List Msg → Prop where
  | letter (s : Str) (n : Nat) (l : Str) : s ≠ nm → p.off = [] → (p.sett s).1 < n → Hear nm M p (.letter s nm n l) { p with off := [(s, n, l)] } []
  | taken (t : Str) (n : Nat) (l : Str) (q' : Nat) : t ≠ nm → p.w = some (t, n, l) → M.step p.q (nm, t, l) = some q' → okA (nm, t, l) = true → l.length ≤ 50 → Hear nm M p (.taken nm t n) { p with w := none, q := q' } []
  | gone (t : Str) (n : Nat) (l : Str) : t ≠ nm → p.w = some (t, n, l) → PyData.strOk t = true → l.length ≤ 50 → Hear nm M p (.gone nm t n) { p with w := none } []
  | back (s : Str) (n : Nat) (l : Str) : s ≠ nm → p.off = [(s, n, l)] → (p.sett s).1 < n → Hear nm M p (.back s nm n) { p with sett := updF p.sett s (n, false), off := [] } [.gone s nm n]
/-- the record that hearing writes -/
inductive Ent (nm : Str) (p : Pa) : Msg → Option (Str × Str × Str × Nat) → Prop where
  | letter (s : Str) (n : Nat) (l : Str) : s ≠ nm → Ent nm p (.letter s nm n l) none
  | taken (t : Str) (n : Nat) (l : Str) : p.w = some (t, n, l) → PyData.strOk t = true → Ent nm p (.taken nm t n) (some ("k", t, l, n))
  | gone (t : Str) (n : Nat) (l : Str) : p.w = some (t, n, l) → PyData.strOk t = true → Ent nm p (.gone nm t n) (some ("g", t, l, n))
  | back (s : Str) (n : Nat) : s ≠ nm → (p.sett s).1 < n → Ent nm p (.back s nm n) (some ("r", s, ".", n))
def spEnt (K : PySem.W.Frag) : Sp := fun vs H Q _ => ∃ (f : Pf) (mb : Addr) (nm : Str) (M : Tab) (p : Pa) (N : Nat) (m : Msg) (e : Option (Str × Str × Str × Nat)), vs = [.ref f.a, .ref mb] ∧ PaAt K H f nm M p N ∧ H mb = some (.tup m.vs) ∧ Ent nm p m e ∧
  (match e with
    | none => ∀ H', Same H H' → Q .non H'
    | some (k, o, l, n) => ∀ b H', Same H H' → H' b = some (.tup [.str k, .str o, .str l, .int (n : Nat)]) → Q (.ref b) H')
theorem sh2 {t : Str} {n : Nat} (h : PyData.strOk t = true) : SeqAt.shaped (.tuple [.str t, .int (n : Nat)]) = true := by
  simp [SeqAt.shaped, PyData.canLay0, PyData.canLayAll0, PyData.depth, PyData.depthAll, h]
theorem sc_Party_entry_of_message : FnScope ["self", "message", "kind", "sender", "taker", "number"] ["self", "message"] (defScope s_Party_entry_of_message) := ⟨rfl, rfl, rfl, by decide +kernel, rfl, by decide +kernel, by decide +kernel⟩
theorem o_Party_entry_of_message (T : Txt K mg) : OkM P w K mg base CX0 (He.ga K "Party") "entry_of_message" 2 ["self", "message"] (spEnt K) :=
  okm_def T.c_Party T.d_Party_entry_of_message T.m_Party_entry_of_message sc_Party_entry_of_message (fun _ _ _ _ _ _ us hl => match us, hl with | [_, _], _ => rfl) (fun vs H Q E h => by obtain ⟨_, _, _, _, _, _, _, _, rfl, _⟩ := h; rfl) fun cdv A outer s H vs Q E hr h => by
  obtain ⟨f, mb, nm, M, p, N, m, e, rfl, hPa, hmb, hent, hQ⟩ := h
  refine ⟨_, (PSs.nox (pss_cons (ps_asg (pe_slice sl_tupA (pv 1) po_none (po_some pe_int)) (kg_tup (K := K) (n := 4) rfl rfl (pgs_cons (pg_name (i := 2) sc_Party_entry_of_message.nd rfl (by first | exact Or.inl rfl | exact Or.inr rfl)) (pgs_cons (pg_name (i := 3) sc_Party_entry_of_message.nd rfl (by first | exact Or.inl rfl | exact Or.inr rfl)) (pgs_cons (pg_name (i := 4) sc_Party_entry_of_message.nd rfl (by first | exact Or.inl rfl | exact Or.inr rfl)) (pgs_cons (pg_name (i := 5) sc_Party_entry_of_message.nd rfl (by first | exact Or.inl rfl | exact Or.inr rfl)) pgs_nil))))))
      (pss_cons (ps_if (PW.pt (pw_and (pt_cmpR op_eq (pv 2) pe_str (nomark _)) (pw_and (pt_cmpR op_eq (pv 4) (ke_fld (K := K) rfl (pv 0) rfl) (nomark _)) (pw_and1 (pt_cmpR op_gt (pv 5) (pe_ix (kx_tup (K := K) rfl) (pe_mt (o_Party_settled T) (hr.mono (by decide)) (pv 0) (pa_cons (pv 3) pa_nil)) pe_int (fun _ _ => rfl)) (nomark _)))))) (pss_one (ps_ret (pe_tup (pa_cons pe_str (pa_cons (pv 3) (pa_cons pe_str (pa_cons (pv 5) pa_nil))))))) pss_nil)
      (pss_cons (ps_if (PW.pt (pw_and (pt_cmpR op_eq (pv 3) (ke_fld (K := K) rfl (pv 0) rfl) (nomark _)) (pw_and (pt_cmpR op_notN (ke_fld (K := K) rfl (pv 0) rfl) pe_non (nomark _)) (pw_and1 (pt_cmpR (ko_eqD (K := K) rfl (ru64 hr)) (pe_slice sl_tupA (ke_fld (K := K) rfl (pv 0) rfl) po_none (po_some pe_int)) (pe_tup (pa_cons (pv 4) (pa_cons (pv 5) pa_nil))) (nomark _)))))) (pss_cons (ps_if (pt_cmpR op_eq (pv 2) pe_str (nomark _)) (pss_one (ps_ret (pe_tup (pa_cons pe_str (pa_cons (pv 4) (pa_cons (pe_ix (kx_tup (K := K) rfl) (ke_fld (K := K) rfl (pv 0) rfl) pe_int (fun _ _ => rfl)) (pa_cons (pv 5) pa_nil))))))) pss_nil)
      (pss_one (ps_if (pt_cmpR op_eq (pv 2) pe_str (nomark _)) (pss_one (ps_ret (pe_tup (pa_cons pe_str (pa_cons (pv 4) (pa_cons (pe_ix (kx_tup (K := K) rfl) (ke_fld (K := K) rfl (pv 0) rfl) pe_int (fun _ _ => rfl)) (pa_cons (pv 5) pa_nil))))))) pss_nil))) pss_nil)
      (pss_one (ps_ret pe_non)))))), ?_⟩
  have big : (400000 : Nat) < sizeLine := by decide
  refine msg_cut hmb (fun Q q => ⟨_, rfl, q⟩) fun c H1 s1 hc => ?_
  have hPa1 := hPa.same s1
  obtain ⟨mv, wv, j, pk, sk, ok, R⟩ := id hPa1
  refine ⟨c, _, rfl, SqT.of hc, rfl, _, _, rfl, _, _, rfl, _, _, rfl, _, _, rfl, rfl, ?_⟩
  -- the sender's side
  have side : ∀ (t : Str) (n : Nat) (l : Str) (kd : Str) (D : Ends), p.w = some (t, n, l) → PyData.strOk t = true → True := fun _ _ _ _ _ _ _ => trivial
  cases hent with
  | letter s n l hne =>
    refine ⟨_, rfl, rfl, _, rfl, ?_⟩
    rw [show decide (V.str (Msg.letter s nm n l).kind = V.str "back") = false by show decide (V.str "letter" = V.str "back") = false; decide +kernel]
    refine iteF (iteF ?_)
    refine ⟨_, rfl, _, rfl, f.a, _, _, _, _, rfl, R.ob, T.c_Party, T.a_Party__name, paF_name .., rfl, _, rfl, ?_⟩
    rw [show decide (V.str (Msg.letter s nm n l).s = V.str nm) = decide (s = nm) from eqS s nm, decide_eq_false hne]
    exact iteF (iteF (hQ H1 s1))
  | back s n hne hlt =>
    refine ⟨_, rfl, rfl, _, rfl, ?_⟩
    rw [show decide (V.str (Msg.back s nm n).kind = V.str "back") = true by show decide (V.str "back" = V.str "back") = true; decide +kernel]
    refine iteT ?_
    refine ⟨_, rfl, _, rfl, f.a, _, _, _, _, rfl, R.ob, T.c_Party, T.a_Party__name, paF_name .., rfl, _, rfl, ?_⟩
    rw [show decide (V.str (Msg.back s nm n).t = V.str nm) = true from by rw [show (Msg.back s nm n).t = nm from rfl, eqS, decide_eq_true rfl]]
    refine iteT ?_
    refine ⟨_, rfl, _, rfl, f.a, _, _, rfl, R.ob, paM_settled .., _, rfl, f, nm, M, p, N, s, rfl, hPa1, fun b2 H2 s2 hb2 => ?_⟩
    refine ⟨b2, _, _, _, rfl, rfl, SqT.of hb2, atI_nat (j := 0) rfl, _, _, rfl, rfl, _, rfl, ?_⟩
    rw [decide_eq_true (show (((p.sett s).1 : Nat) : Int) < ((Msg.back s nm n).n : Nat) by show (((p.sett s).1 : Nat) : Int) < (n : Nat); omega)]
    refine iteT ⟨_, rfl, _, rfl, (by show 4 ≤ sizeLine; omega), fun tb htb => ?_⟩
    exact hQ tb _ ((s1.trans s2).trans (same_new htb)) upd_same
  | taken t n l hw hok =>
    have hwv := R.wv
    rw [hw] at hwv
    obtain ⟨wb, rfl, hwb⟩ := hwv
    refine ⟨_, rfl, rfl, _, rfl, ?_⟩
    rw [show decide (V.str (Msg.taken nm t n).kind = V.str "back") = false by show decide (V.str "taken" = V.str "back") = false; decide +kernel]
    refine iteF (iteF ?_)
    refine ⟨_, rfl, _, rfl, f.a, _, _, _, _, rfl, R.ob, T.c_Party, T.a_Party__name, paF_name .., rfl, _, rfl, ?_⟩
    rw [show decide (V.str (Msg.taken nm t n).s = V.str nm) = true from by rw [show (Msg.taken nm t n).s = nm from rfl, eqS, decide_eq_true rfl]]
    refine iteT ⟨_, rfl, f.a, _, _, _, _, rfl, R.ob, T.c_Party, T.a_Party__waiting, paF_waiting .., rfl, _, rfl, iteT ?_⟩
    refine ⟨_, rfl, f.a, _, _, _, _, rfl, R.ob, T.c_Party, T.a_Party__waiting, paF_waiting .., _, rfl, wb, _, rfl, SqT.of hwb, fun hwh => absurd hwh.2 (by show ¬ (min 2 3 = 3); decide), fun _ t1 ht1 => ?_⟩
    have s2 : Same H1 (upd H1 t1 (.tup (cutV [.str t, .int (n : Nat), .str l] none (some 2)))) := same_new ht1
    have ht12 : (upd H1 t1 (.tup (cutV [.str t, .int (n : Nat), .str l] none (some 2)))) t1 = some (.tup [.str t, .int (n : Nat)]) := upd_same
    generalize upd H1 t1 (.tup (cutV [.str t, .int (n : Nat), .str l] none (some 2))) = H2 at s2 ht12
    refine ⟨_, rfl, _, rfl, (by show 2 ≤ sizeLine; omega), fun t2 ht2 => ?_⟩
    have s3 : Same H2 (upd H2 t2 (.tup [.str (Msg.taken nm t n).t, .int ((Msg.taken nm t n).n : Nat)])) := same_new ht2
    have ht23 : (upd H2 t2 (.tup [.str (Msg.taken nm t n).t, .int ((Msg.taken nm t n).n : Nat)])) t2 = some (.tup [.str t, .int (n : Nat)]) := upd_same
    have ht13 := s3 _ _ ht12
    generalize upd H2 t2 (.tup [.str (Msg.taken nm t n).t, .int ((Msg.taken nm t n).n : Nat)]) = H3 at s3 ht23 ht13
    refine ⟨.tuple [.str t, .int (n : Nat)], .tuple [.str t, .int (n : Nat)], .tup (SqT.of ht13) (.cons (.str _) (.cons (.int _) .nil)), .tup (SqT.of ht23) (.cons (.str _) (.cons (.int _) .nil)), sh2 hok, sh2 hok, _, rfl, ?_⟩
    rw [show PyData.eqv (.tuple [.str t, .int (n : Nat)]) (.tuple [.str t, .int (n : Nat)]) = true by simp [PyData.eqv, PyData.eqvAll]]
    refine iteT ?_
    have R3 := R.same (s2.trans s3)
    refine ⟨_, rfl, rfl, _, rfl, ?_⟩
    rw [show decide (V.str (Msg.taken nm t n).kind = V.str "taken") = true by show decide (V.str "taken" = V.str "taken") = true; decide +kernel]
    refine iteT ⟨_, rfl, _, rfl, f.a, _, _, _, _, rfl, R3.ob, T.c_Party, T.a_Party__waiting, paF_waiting .., wb, _, _, _, rfl, rfl, SqT.of ((s2.trans s3) _ _ hwb), atI_nat (j := 2) rfl, _, rfl, (by show 4 ≤ sizeLine; omega), fun tb htb => ?_⟩
    exact hQ tb _ (((s1.trans s2).trans s3).trans (same_new htb)) upd_same
  | gone t n l hw hok =>
    have hwv := R.wv
    rw [hw] at hwv
    obtain ⟨wb, rfl, hwb⟩ := hwv
    refine ⟨_, rfl, rfl, _, rfl, ?_⟩
    rw [show decide (V.str (Msg.gone nm t n).kind = V.str "back") = false by show decide (V.str "gone" = V.str "back") = false; decide +kernel]
    refine iteF (iteF ?_)
    refine ⟨_, rfl, _, rfl, f.a, _, _, _, _, rfl, R.ob, T.c_Party, T.a_Party__name, paF_name .., rfl, _, rfl, ?_⟩
    rw [show decide (V.str (Msg.gone nm t n).s = V.str nm) = true from by rw [show (Msg.gone nm t n).s = nm from rfl, eqS, decide_eq_true rfl]]
    refine iteT ⟨_, rfl, f.a, _, _, _, _, rfl, R.ob, T.c_Party, T.a_Party__waiting, paF_waiting .., rfl, _, rfl, iteT ?_⟩
    refine ⟨_, rfl, f.a, _, _, _, _, rfl, R.ob, T.c_Party, T.a_Party__waiting, paF_waiting .., _, rfl, wb, _, rfl, SqT.of hwb, fun hwh => absurd hwh.2 (by show ¬ (min 2 3 = 3); decide), fun _ t1 ht1 => ?_⟩
    have s2 : Same H1 (upd H1 t1 (.tup (cutV [.str t, .int (n : Nat), .str l] none (some 2)))) := same_new ht1
    have ht12 : (upd H1 t1 (.tup (cutV [.str t, .int (n : Nat), .str l] none (some 2)))) t1 = some (.tup [.str t, .int (n : Nat)]) := upd_same
    generalize upd H1 t1 (.tup (cutV [.str t, .int (n : Nat), .str l] none (some 2))) = H2 at s2 ht12
    refine ⟨_, rfl, _, rfl, (by show 2 ≤ sizeLine; omega), fun t2 ht2 => ?_⟩
    have s3 : Same H2 (upd H2 t2 (.tup [.str (Msg.gone nm t n).t, .int ((Msg.gone nm t n).n : Nat)])) := same_new ht2
    have ht23 : (upd H2 t2 (.tup [.str (Msg.gone nm t n).t, .int ((Msg.gone nm t n).n : Nat)])) t2 = some (.tup [.str t, .int (n : Nat)]) := upd_same
    have ht13 := s3 _ _ ht12
    generalize upd H2 t2 (.tup [.str (Msg.gone nm t n).t, .int ((Msg.gone nm t n).n : Nat)]) = H3 at s3 ht23 ht13
    refine ⟨.tuple [.str t, .int (n : Nat)], .tuple [.str t, .int (n : Nat)], .tup (SqT.of ht13) (.cons (.str _) (.cons (.int _) .nil)), .tup (SqT.of ht23) (.cons (.str _) (.cons (.int _) .nil)), sh2 hok, sh2 hok, _, rfl, ?_⟩
    rw [show PyData.eqv (.tuple [.str t, .int (n : Nat)]) (.tuple [.str t, .int (n : Nat)]) = true by simp [PyData.eqv, PyData.eqvAll]]
    refine iteT ?_
    have R3 := R.same (s2.trans s3)
    refine ⟨_, rfl, rfl, _, rfl, ?_⟩
    rw [show decide (V.str (Msg.gone nm t n).kind = V.str "taken") = false by show decide (V.str "gone" = V.str "taken") = false; decide +kernel]
    refine iteF ⟨_, rfl, rfl, _, rfl, ?_⟩
    rw [show decide (V.str (Msg.gone nm t n).kind = V.str "gone") = true by show decide (V.str "gone" = V.str "gone") = true; decide +kernel]
    refine iteT ⟨_, rfl, _, rfl, f.a, _, _, _, _, rfl, R3.ob, T.c_Party, T.a_Party__waiting, paF_waiting .., wb, _, _, _, rfl, rfl, SqT.of ((s2.trans s3) _ _ hwb), atI_nat (j := 2) rfl, _, rfl, (by show 4 ≤ sizeLine; omega), fun tb htb => ?_⟩
    exact hQ tb _ (((s1.trans s2).trans s3).trans (same_new htb)) upd_same
end Pk
set_option Elab.async false
set_option linter.all false
set_option maxRecDepth 100000
set_option maxHeartbeats 4000000
/-! The defs, 19: a party: post, take, again, withdraw, hear. -/
namespace Pk
open PySem PySem.Spec PyProof.Rows L2
variable {P : Program} {w : World} {K : PySem.W.Frag} {mg : Str → Option Value} {base : Heap}
def spPost (K : PySem.W.Frag) : Sp := fun vs H Q _ => ∃ (f : Pf) (nm : Str) (M : Tab) (p : Pa) (N : Nat) (t l : Str), vs = [.ref f.a, .str t, .str l] ∧ PaAt K H f nm M p N ∧ p.w = none ∧ p.q < M.rows.length ∧ (M.step p.q (nm, t, l)).isSome = true ∧ okA (nm, t, l) = true ∧
  t.length ≤ 50 ∧ l.length ≤ 50 ∧ N ≤ 50000 ∧ ∀ b H', Out f.z H H' → PaAt K H' f nm M { p with post := updF p.post t (p.post t + 1), w := some (t, p.post t + 1, l), wd := false } (N + 1) → H' b = some (.tup (Msg.letter nm t (p.post t + 1) l).vs) → Q (.ref b) H'
theorem sc_Party_post : FnScope ["self", "taker", "label", "entry"] ["self", "taker", "label"] (defScope s_Party_post) := ⟨rfl, rfl, rfl, by decide +kernel, rfl, by decide +kernel, by decide +kernel⟩
theorem o_Party_post (T : Txt K mg) : OkM P w K mg base CX0 (He.ga K "Party") "post" 4 ["self", "taker", "label"] (spPost K) :=
  okm_def T.c_Party T.d_Party_post T.m_Party_post sc_Party_post (fun _ _ _ _ _ _ us hl => match us, hl with | [_, _, _], _ => rfl) (fun vs H Q E h => by obtain ⟨_, _, _, _, _, _, _, rfl, _⟩ := h; rfl) fun cdv A outer s H vs Q E hr h => by
  obtain ⟨f, nm, M, p, N, t, l, rfl, hPa, hw, hq, hst, hok, htl, hll, hN, hQ⟩ := h
  obtain ⟨mv, wv, j, pk, sk, ok, R⟩ := id hPa
  refine ⟨_, (PSs.nox (pss_cons (ps_set (i := 3) sc_Party_post.nd rfl (by first | exact Or.inl rfl | exact Or.inr rfl) (pe_mt (o_Party_entry_of_act T) (hr.mono (by decide)) (pv 0) (pa_cons (pe_tup (pa_cons pe_str (pa_cons (pv 1) (pa_cons (pv 2) pa_nil)))) pa_nil)))
      (pss_cons (ps_expr (pe_mt (o_Party_carry_out T) (hr.mono (by decide)) (pv 0) (pa_cons (pv 3) pa_nil)))
      (pss_one (ps_ret (pe_tup (pa_cons pe_str (pa_cons (ke_fld (K := K) rfl (pv 0) rfl) (pa_cons (pv 1) (pa_cons (pe_ix (kx_tup (K := K) rfl) (pv 3) pe_int (fun _ _ => rfl)) (pa_cons (pv 2) pa_nil))))))))))), ?_⟩
  refine ⟨_, rfl, f.a, _, _, rfl, R.ob, paM_entry_of_act .., _, rfl, _, rfl, (by show 3 ≤ sizeLine; decide), fun ab hab => ?_⟩
  have s1 : Same H (upd H ab (.tup [.str "post", .str t, .str l])) := same_new hab
  refine ⟨f, ab, nm, M, p, N, rfl, hPa.same s1, hw, hq, .inl ⟨t, l, upd_same, hst, hok, fun eb H2 s2 heb => ?_⟩⟩
  have s12 := s1.trans s2
  have hPa2 := hPa.same s12
  obtain ⟨mv2, wv2, j2, pk2, sk2, ok2, R2⟩ := id hPa2
  refine ⟨_, rfl, f.a, _, _, rfl, R2.ob, paM_carry_out .., _, rfl, f, eb, nm, M, p, _, N, "p", t, l, p.post t + 1, rfl, heb, hPa2, .p t l _, htl, hll, by have := R2.pn t; omega, hN, hq, fun H3 o3 hPa3 => ?_⟩
  obtain ⟨mv3, wv3, j3, pk3, sk3, ok3, R3⟩ := id hPa3
  have heb3 := hPa2.tp o3 _ _ heb
  refine ⟨_, rfl, f.a, _, _, _, _, rfl, R3.ob, T.c_Party, T.a_Party__name, paF_name .., _, rfl, _, rfl, eb, _, _, _, rfl, rfl, SqT.of heb3, atI_nat (j := 3) rfl, _, rfl, (by show 5 ≤ sizeLine; decide), fun tb htb => ?_⟩
  exact hQ tb _ (((Out.of s12).trans o3).trans (Out.of (same_new htb))) (hPa3.same (same_new htb)) upd_same
def spTake (K : PySem.W.Frag) : Sp := fun vs H Q _ => ∃ (f : Pf) (nm : Str) (M : Tab) (p : Pa) (N : Nat) (s l : Str) (n q' : Nat), vs = [.ref f.a, .str s] ∧ PaAt K H f nm M p N ∧ p.w = none ∧ p.q < M.rows.length ∧ p.off = [(s, n, l)] ∧ M.step p.q (s, nm, l) = some q' ∧ okA (s, nm, l) = true ∧
  s.length ≤ 50 ∧ l.length ≤ 50 ∧ n ≤ N + 1 ∧ N ≤ 50000 ∧ ∀ b H', Out f.z H H' → PaAt K H' f nm M { p with sett := updF p.sett s (n, true), off := [], q := q' } (N + 1) → H' b = some (.tup (Msg.taken s nm n).vs) → Q (.ref b) H'
theorem sc_Party_take : FnScope ["self", "sender", "entry"] ["self", "sender"] (defScope s_Party_take) := ⟨rfl, rfl, rfl, by decide +kernel, rfl, by decide +kernel, by decide +kernel⟩
theorem o_Party_take (T : Txt K mg) : OkM P w K mg base CX0 (He.ga K "Party") "take" 4 ["self", "sender"] (spTake K) :=
  okm_def T.c_Party T.d_Party_take T.m_Party_take sc_Party_take (fun _ _ _ _ _ _ us hl => match us, hl with | [_, _], _ => rfl) (fun vs H Q E h => by obtain ⟨_, _, _, _, _, _, _, _, _, rfl, _⟩ := h; rfl) fun cdv A outer s H vs Q E hr h => by
  obtain ⟨f, nm, M, p, N, s0, l, n, q', rfl, hPa, hw, hq, hoff, hst, hok, hsl, hll, hnN, hN, hQ⟩ := h
  obtain ⟨mv, wv, j, pk, sk, ok, R⟩ := id hPa
  refine ⟨_, (PSs.nox (pss_cons (ps_set (i := 2) sc_Party_take.nd rfl (by first | exact Or.inl rfl | exact Or.inr rfl) (pe_mt (o_Party_entry_of_act T) (hr.mono (by decide)) (pv 0) (pa_cons (pe_tup (pa_cons pe_str (pa_cons (pv 1) pa_nil))) pa_nil)))
      (pss_cons (ps_expr (pe_mt (o_Party_carry_out T) (hr.mono (by decide)) (pv 0) (pa_cons (pv 2) pa_nil)))
      (pss_one (ps_ret (pe_tup (pa_cons pe_str (pa_cons (pv 1) (pa_cons (ke_fld (K := K) rfl (pv 0) rfl) (pa_cons (pe_ix (kx_tup (K := K) rfl) (pv 2) pe_int (fun _ _ => rfl)) pa_nil)))))))))), ?_⟩
  refine ⟨_, rfl, f.a, _, _, rfl, R.ob, paM_entry_of_act .., _, rfl, (by show 2 ≤ sizeLine; decide), fun ab hab => ?_⟩
  have s1 : Same H (upd H ab (.tup [.str "take", .str s0])) := same_new hab
  refine ⟨f, ab, nm, M, p, N, rfl, hPa.same s1, hw, hq, .inr ⟨s0, n, l, upd_same, hoff, by rw [hst]; rfl, hok, fun eb H2 s2 heb => ?_⟩⟩
  have s12 := s1.trans s2
  have hPa2 := hPa.same s12
  obtain ⟨mv2, wv2, j2, pk2, sk2, ok2, R2⟩ := id hPa2
  refine ⟨_, rfl, f.a, _, _, rfl, R2.ob, paM_carry_out .., _, rfl, f, eb, nm, M, p, _, N, "t", s0, l, n, rfl, heb, hPa2, .t s0 l n q' hoff hst hok, hsl, hll, hnN, hN, hq, fun H3 o3 hPa3 => ?_⟩
  obtain ⟨mv3, wv3, j3, pk3, sk3, ok3, R3⟩ := id hPa3
  have heb3 := hPa2.tp o3 _ _ heb
  refine ⟨_, rfl, _, rfl, f.a, _, _, _, _, rfl, R3.ob, T.c_Party, T.a_Party__name, paF_name .., _, rfl, eb, _, _, _, rfl, rfl, SqT.of heb3, atI_nat (j := 3) rfl, (by show 4 ≤ sizeLine; decide), fun tb htb => ?_⟩
  exact hQ tb _ (((Out.of s12).trans o3).trans (Out.of (same_new htb))) (hPa3.same (same_new htb)) upd_same
def spAgain (K : PySem.W.Frag) : Sp := fun vs H Q _ => ∃ (f : Pf) (nm : Str) (M : Tab) (p : Pa) (N : Nat) (t l : Str) (n : Nat), vs = [.ref f.a] ∧ PaAt K H f nm M p N ∧ p.w = some (t, n, l) ∧ p.wd = true ∧ ∀ b H', Same H H' → H' b = some (.tup (Msg.back nm t n).vs) → Q (.ref b) H'
theorem sc_Party_again : FnScope ["self", "taker", "number", "label"] ["self"] (defScope s_Party_again) := ⟨rfl, rfl, rfl, by decide +kernel, rfl, by decide +kernel, by decide +kernel⟩
theorem o_Party_again (T : Txt K mg) : OkM P w K mg base CX0 (He.ga K "Party") "again" 1 ["self"] (spAgain K) :=
  okm_def T.c_Party T.d_Party_again T.m_Party_again sc_Party_again (fun _ _ _ _ _ _ us hl => match us, hl with | [_], _ => rfl) (fun vs H Q E h => by obtain ⟨_, _, _, _, _, _, _, _, rfl, _⟩ := h; rfl) fun cdv A outer s H vs Q E hr h => by
  obtain ⟨f, nm, M, p, N, t, l, n, rfl, ⟨mv, wv, j, pk, sk, ok, R⟩, hw, hwd, hQ⟩ := h
  refine ⟨_, (PSs.nox (pss_cons (ps_if (pt_cmpR op_isN (ke_fld (K := K) rfl (pv 0) rfl) pe_non (nomark _)) (pss_one ps_never) pss_nil)
      (pss_cons (ps_asg (ke_fld (K := K) rfl (pv 0) rfl) (kg_tup (K := K) (n := 3) rfl rfl (pgs_cons (pg_name (i := 1) sc_Party_again.nd rfl (by first | exact Or.inl rfl | exact Or.inr rfl)) (pgs_cons (pg_name (i := 2) sc_Party_again.nd rfl (by first | exact Or.inl rfl | exact Or.inr rfl)) (pgs_cons (pg_name (i := 3) sc_Party_again.nd rfl (by first | exact Or.inl rfl | exact Or.inr rfl)) pgs_nil)))))
      (pss_cons (ps_if (pt_val (ke_fld (K := K) rfl (pv 0) rfl)) (pss_one (ps_ret (pe_tup (pa_cons pe_str (pa_cons (ke_fld (K := K) rfl (pv 0) rfl) (pa_cons (pv 1) (pa_cons (pv 2) pa_nil))))))) pss_nil)
      (pss_one (ps_ret (pe_tup (pa_cons pe_str (pa_cons (ke_fld (K := K) rfl (pv 0) rfl) (pa_cons (pv 1) (pa_cons (pv 2) (pa_cons (pv 3) pa_nil)))))))))))), ?_⟩
  have hwv := R.wv
  rw [hw] at hwv
  obtain ⟨wb, rfl, hwb⟩ := hwv
  refine ⟨_, rfl, f.a, _, _, _, _, rfl, R.ob, T.c_Party, T.a_Party__waiting, paF_waiting .., rfl, _, rfl, iteF ?_⟩
  refine ⟨_, rfl, f.a, _, _, _, _, rfl, R.ob, T.c_Party, T.a_Party__waiting, paF_waiting .., wb, _, rfl, SqT.of hwb, rfl, _, _, rfl, _, _, rfl, _, _, rfl, rfl, ?_⟩
  refine ⟨_, rfl, f.a, _, _, _, _, rfl, R.ob, T.c_Party, T.a_Party__withdrawing, paF_withdrawing .., _, rfl, ?_⟩
  rw [hwd]
  refine iteT ⟨_, rfl, f.a, _, _, _, _, rfl, R.ob, T.c_Party, T.a_Party__name, paF_name .., _, rfl, _, rfl, (by show 4 ≤ sizeLine; decide), fun tb htb => ?_⟩
  exact hQ tb _ (same_new htb) upd_same
def spWithdraw (K : PySem.W.Frag) : Sp := fun vs H Q _ => ∃ (f : Pf) (nm : Str) (M : Tab) (p : Pa) (N : Nat) (t l : Str) (n : Nat), vs = [.ref f.a] ∧ PaAt K H f nm M p N ∧ p.w = some (t, n, l) ∧ ∀ b H', Out f.z H H' → PaAt K H' f nm M { p with wd := true } N → H' b = some (.tup (Msg.back nm t n).vs) → Q (.ref b) H'
theorem sc_Party_withdraw : FnScope ["self"] ["self"] (defScope s_Party_withdraw) := ⟨rfl, rfl, rfl, by decide +kernel, rfl, by decide +kernel, by decide +kernel⟩
theorem o_Party_withdraw (T : Txt K mg) : OkM P w K mg base CX0 (He.ga K "Party") "withdraw" 2 ["self"] (spWithdraw K) :=
  okm_def T.c_Party T.d_Party_withdraw T.m_Party_withdraw sc_Party_withdraw (fun _ _ _ _ _ _ us hl => match us, hl with | [_], _ => rfl) (fun vs H Q E h => by obtain ⟨_, _, _, _, _, _, _, _, rfl, _⟩ := h; rfl) fun cdv A outer s H vs Q E hr h => by
  obtain ⟨f, nm, M, p, N, t, l, n, rfl, ⟨mv, wv, j, pk, sk, ok, R⟩, hw, hQ⟩ := h
  refine ⟨_, (PSs.nox (pss_cons (ps_if (pt_cmpR op_isN (ke_fld (K := K) rfl (pv 0) rfl) pe_non (nomark _)) (pss_one ps_never) pss_nil)
      (pss_cons (ps_fld (pv 0) pe_bl rfl)
      (pss_one (ps_ret (pe_mt0 (o_Party_again T) (hr.mono (by decide)) (pv 0))))))), ?_⟩
  obtain ⟨z1, z2, z3, z4, z5, z6⟩ := nz R.z
  have hwv := R.wv
  rw [hw] at hwv
  obtain ⟨wb, rfl, hwb⟩ := hwv
  refine ⟨_, rfl, f.a, _, _, _, _, rfl, R.ob, T.c_Party, T.a_Party__waiting, paF_waiting .., rfl, _, rfl, iteF ?_⟩
  refine ⟨_, rfl, f.a, _, _, _, rfl, R.ob, T.c_Party, T.a_Party__withdrawing, paF_len .., ?_⟩
  rw [paP_withdrawing]
  have tp : Tp H (upd H f.a (.ins (He.ga K "Party") f.dx (paF (.str nm) mv (.int (p.q : Nat)) (.ref f.pd) (.ref f.sd) (.ref wb) (.bl true) (.ref f.od) (.str j)))) := (Tp.refl H).put R.ob (fun _ z => nomatch z)
  have o1 : Out f.z H (upd H f.a (.ins (He.ga K "Party") f.dx (paF (.str nm) mv (.int (p.q : Nat)) (.ref f.pd) (.ref f.sd) (.ref wb) (.bl true) (.ref f.od) (.str j)))) := (Out.refl _ _).put (by simp [Pf.z])
  have R1 : PaR K (upd H f.a (.ins (He.ga K "Party") f.dx (paF (.str nm) mv (.int (p.q : Nat)) (.ref f.pd) (.ref f.sd) (.ref wb) (.bl true) (.ref f.od) (.str j)))) f nm M { p with wd := true } N mv (.ref wb) j pk sk ok :=
    ⟨upd_same, R.mv.mono tp, by show WaV _ _ p.w; rw [hw]; exact ⟨wb, rfl, tp _ _ hwb⟩, R.j, by rw [upd_ne z1.symm]; exact R.pd, R.pl, R.po, R.pn, by rw [upd_ne z2.symm]; exact R.sd, R.sl, fun k => (R.se k).mono tp, by rw [upd_ne z3.symm]; exact R.od, L2.Paired.mapP R.of_ fun _ _ q => q.mono tp, R.z⟩
  have hPa1 : PaAt K _ f nm M { p with wd := true } N := ⟨_, _, _, _, _, _, R1⟩
  refine ⟨_, rfl, f.a, _, _, rfl, R1.ob, paM_again .., f, nm, M, _, N, t, l, n, rfl, hPa1, hw, rfl, fun b H2 s2 hb => ?_⟩
  exact hQ b H2 (o1.trans (Out.of s2)) (hPa1.same s2) hb
def spHear (K : PySem.W.Frag) : Sp := fun vs H Q _ => ∃ (f : Pf) (mb : Addr) (nm : Str) (M : Tab) (p p' : Pa) (N : Nat) (m : Msg) (ans : List Msg), vs = [.ref f.a, .ref mb] ∧ PaAt K H f nm M p N ∧ H mb = some (.tup m.vs) ∧ Hear nm M p m p' ans ∧ p.q < M.rows.length ∧
  m.s.length ≤ 50 ∧ m.t.length ≤ 50 ∧ m.n ≤ N + 1 ∧ N ≤ 50000 ∧ ∀ b H' ys, Out f.z H H' → PaAt K H' f nm M p' (N + 1) → H b = none → H' b = some (.lst ys) → Paired (MsgV H') ys ans → Q (.ref b) H'
theorem in_lb1 : inV (V.str "letter") [V.str "letter", V.str "back"] = true := by decide +kernel
theorem in_lb2 : inV (V.str "back") [V.str "letter", V.str "back"] = true := by decide +kernel
theorem sc_Party_hear : FnScope ["self", "message", "entry", "kind", "sender", "taker", "number", "newest", "was_taken"] ["self", "message"] (defScope s_Party_hear) := ⟨rfl, rfl, rfl, by decide +kernel, rfl, by decide +kernel, by decide +kernel⟩
theorem o_Party_hear (T : Txt K mg) : OkM P w K mg base CX0 (He.ga K "Party") "hear" 4 ["self", "message"] (spHear K) :=
  okm_def T.c_Party T.d_Party_hear T.m_Party_hear sc_Party_hear (fun _ _ _ _ _ _ us hl => match us, hl with | [_, _], _ => rfl) (fun vs H Q E h => by obtain ⟨_, _, _, _, _, _, _, _, _, rfl, _⟩ := h; rfl) fun cdv A outer s H vs Q E hr h => by
  obtain ⟨f, mb, nm, M, p, p', N, m, ans, rfl, hPa, hmb, hhe, hq, hsl, htl, hnN, hN, hQ⟩ := h
  obtain ⟨mv, wv, j, pk, sk, ok, R⟩ := id hPa
  refine ⟨_, (PSs.nox (pss_cons (ps_set (i := 2) sc_Party_hear.nd rfl (by first | exact Or.inl rfl | exact Or.inr rfl) (pe_mt (o_Party_entry_of_message T) (hr.mono (by decide)) (pv 0) (pa_cons (pv 1) pa_nil)))
      (pss_cons (ps_if (pt_cmpR op_notN (pv 2) pe_non (nomark _)) (pss_one (ps_expr (pe_mt (o_Party_carry_out T) (hr.mono (by decide)) (pv 0) (pa_cons (pv 2) pa_nil)))) pss_nil)
      (pss_cons (ps_asg (pe_slice sl_tupA (pv 1) po_none (po_some pe_int)) (kg_tup (K := K) (n := 4) rfl rfl (pgs_cons (pg_name (i := 3) sc_Party_hear.nd rfl (by first | exact Or.inl rfl | exact Or.inr rfl)) (pgs_cons (pg_name (i := 4) sc_Party_hear.nd rfl (by first | exact Or.inl rfl | exact Or.inr rfl)) (pgs_cons (pg_name (i := 5) sc_Party_hear.nd rfl (by first | exact Or.inl rfl | exact Or.inr rfl)) (pgs_cons (pg_name (i := 6) sc_Party_hear.nd rfl (by first | exact Or.inl rfl | exact Or.inr rfl)) pgs_nil))))))
      (pss_cons (ps_if (PW.pt (pw_or (pt_cmpR op_ne (pv 5) (ke_fld (K := K) rfl (pv 0) rfl) (nomark _)) (pw_or1 (pt_cmpR op_notIn_seq (pv 3) (pe_tup (pa_cons pe_str (pa_cons pe_str pa_nil))) rfl)))) (pss_one (ps_ret (pe_lst pa_nil))) pss_nil)
      (pss_cons (ps_asg (pe_mt (o_Party_settled T) (hr.mono (by decide)) (pv 0) (pa_cons (pv 4) pa_nil)) (kg_tup (K := K) (n := 2) rfl rfl (pgs_cons (pg_name (i := 7) sc_Party_hear.nd rfl (by first | exact Or.inl rfl | exact Or.inr rfl)) (pgs_cons (pg_name (i := 8) sc_Party_hear.nd rfl (by first | exact Or.inl rfl | exact Or.inr rfl)) pgs_nil))))
      (pss_cons (ps_if (pt_cmpR op_eq (pv 6) (pv 7) (nomark _)) (pss_one (ps_ret (pe_lst (pa_cons (pe_tup (pa_cons (pe_ifExp (pt_val (pv 8)) pe_str pe_str) (pa_cons (pv 4) (pa_cons (pv 5) (pa_cons (pv 6) pa_nil))))) pa_nil)))) pss_nil)
      (pss_cons (ps_if (PW.pt (pw_and (pt_cmpR op_eq (pv 3) pe_str (nomark _)) (pw_and1 (pt_cmpR op_gt (pv 6) (pv 7) (nomark _))))) (pss_one (ps_if (PW.pt (pw_or (pt_cmp (pc_dnotin (ru1 hr) (pv 4) (ke_fld (K := K) rfl (pv 0) rfl))) (pw_or1 (pt_cmpR op_lt (pe_ix (kx_tup (K := K) rfl) (pe_dget (ru1 hr) (ke_fld (K := K) rfl (pv 0) rfl) (pv 4) (fun _ _ => rfl)) pe_int (fun _ _ => rfl)) (pv 6) (nomark _))))) (pss_one (ps_dput (ru1 hr) (ke_fld (K := K) rfl (pv 0) rfl) (pv 4) (pe_tup (pa_cons (pv 6) (pa_cons (pe_ix (kx_tup (K := K) rfl) (pv 1) pe_int (fun _ _ => rfl)) pa_nil))) rfl)) pss_nil)) pss_nil)
      (pss_one (ps_ret (pe_lst pa_nil))))))))))), ?_⟩
  have big : (400000 : Nat) < sizeLine := by decide
  have mo : f.od ∈ f.z := by simp [Pf.z]
  -- at the sender: nothing more to say
  have sender : ∀ (H3 : Hp) (p3 : Pa), Out f.z H H3 → PaAt K H3 f nm M p3 (N + 1) → p3 = p' → ans = [] → m.s = nm → m.t ≠ nm → ∀ (σ : L2.St) (D : Ends) (e : V) (x3 x4 x5 x6 x7 x8 : Option V), D.rt = Q → σ = [some (.ref f.a), some (.ref mb), some e, x3, x4, x5, x6, x7, x8] → True := fun _ _ _ _ _ _ _ _ _ _ _ _ _ _ _ _ _ _ _ => trivial
  cases hhe with
  | letter s n l hne hoff hlt =>
    refine ⟨_, rfl, f.a, _, _, rfl, R.ob, paM_entry_of_message .., _, rfl, f, mb, nm, M, p, N, _, none, rfl, hPa, hmb, .letter s n l hne, fun H1 s1 => ?_⟩
    refine ⟨_, rfl, rfl, _, rfl, iteF ?_⟩
    have hPa1 := hPa.same s1
    have hmb1 := s1 _ _ hmb
    refine msg_cut (K := K) (te := tVar 1) (σ := [some (.ref f.a), some (.ref mb), some .non, none, none, none, none, none, none]) hmb1 (fun Q q => ⟨_, rfl, q⟩) fun c H2 s2 hc => ?_
    have s12 := s1.trans s2
    have hPa2 := hPa.same s12
    obtain ⟨mv2, wv2, j2, pk2, sk2, ok2, R2⟩ := id hPa2
    refine ⟨c, _, rfl, SqT.of hc, rfl, _, _, rfl, _, _, rfl, _, _, rfl, _, _, rfl, rfl, ?_⟩
    refine ⟨_, rfl, _, rfl, f.a, _, _, _, _, rfl, R2.ob, T.c_Party, T.a_Party__name, paF_name .., rfl, _, rfl, ?_⟩
    rw [show (!decide (V.str (Msg.letter s nm n l).t = V.str nm)) = false from by rw [show (Msg.letter s nm n l).t = nm from rfl, eqS, decide_eq_true rfl]; rfl]
    refine iteF ⟨_, rfl, (by show 2 ≤ sizeLine; omega), fun tb htb => ⟨tb, _, rfl, .inr (SqT.of upd_same), rfl, rfl, _, rfl, ?_⟩⟩
    rw [show (if true = true then !inV (V.str (Msg.letter s nm n l).kind) [V.str "letter", V.str "back"] else inV (V.str (Msg.letter s nm n l).kind) [V.str "letter", V.str "back"]) = false from by rw [if_pos rfl, show (Msg.letter s nm n l).kind = Str.ofString "letter" from rfl, in_lb1] <;> rfl]
    have s3 : Same H2 (upd H2 tb (.tup [.str "letter", .str "back"])) := same_new htb
    generalize upd H2 tb (.tup [.str "letter", .str "back"]) = H3 at s3
    refine iteF ?_
    have s13 := s12.trans s3
    have hPa3 := hPa.same s13
    obtain ⟨mv3, wv3, j3, pk3, sk3, ok3, R3⟩ := id hPa3
    refine ⟨_, rfl, f.a, _, _, rfl, R3.ob, paM_settled .., _, rfl, f, nm, M, p, N, s, rfl, hPa3, fun b4 H4 s4 hb4 => ?_⟩
    refine g_two hb4 ?_
    have s14 := s13.trans s4
    have hPa4 := hPa.same s14
    obtain ⟨mv4, wv4, j4, pk4, sk4, ok4, R4⟩ := id hPa4
    have ok4n : ok4 = [] := by
      have := R4.of_
      rw [hoff] at this
      cases this
      rfl
    refine ⟨_, rfl, _, rfl, rfl, _, rfl, ?_⟩
    rw [show decide (V.int ((Msg.letter s nm n l).n : Nat) = V.int ((p.sett s).1 : Nat)) = false from decide_eq_false fun e => by
      have : (((Msg.letter s nm n l).n : Nat) : Int) = ((p.sett s).1 : Nat) := by injection e
      have : ((n : Nat) : Int) = ((p.sett s).1 : Nat) := this
      omega]
    refine iteF ⟨_, rfl, rfl, _, rfl, ?_⟩
    rw [show decide (V.str (Msg.letter s nm n l).kind = V.str "letter") = true from by rw [show (Msg.letter s nm n l).kind = Str.ofString "letter" from rfl]; decide +kernel]
    refine iteT ⟨_, rfl, _, rfl, _, _, rfl, rfl, _, rfl, ?_⟩
    rw [decide_eq_true (show (((p.sett s).1 : Nat) : Int) < ((Msg.letter s nm n l).n : Nat) by show (((p.sett s).1 : Nat) : Int) < (n : Nat); omega)]
    refine iteT ?_
    refine ⟨_, rfl, _, rfl, f.a, _, _, _, _, rfl, R4.ob, T.c_Party, T.a_Party__offers, paF_offers .., f.od, _, rfl, DGet.k (k := kS s) R4.od, _, rfl, ?_⟩
    rw [ok4n]
    refine iteT (iteT ?_)
    have hmb4 := s14 _ _ hmb
    refine ⟨_, rfl, _, rfl, mb, _, _, _, rfl, rfl, SqT.of hmb4, atI_nat (j := 4) rfl, (by show 2 ≤ sizeLine; omega), fun t5 ht5 => ?_⟩
    have s5 : Same H4 (upd H4 t5 (.tup [.int ((Msg.letter s nm n l).n : Nat), .str l])) := same_new ht5
    have ht55 : (upd H4 t5 (.tup [.int ((Msg.letter s nm n l).n : Nat), .str l])) t5 = some (.tup [.int (n : Nat), .str l]) := upd_same
    have R5 := R4.same s5
    generalize upd H4 t5 (.tup [.int ((Msg.letter s nm n l).n : Nat), .str l]) = H5 at s5 ht55 R5
    have hod5 := R5.od
    refine ⟨_, rfl, f.a, _, _, _, _, rfl, R5.ob, T.c_Party, T.a_Party__offers, paF_offers .., _, rfl, f.od, _, rfl, DPut.k (k := kS s) hod5 (by rw [ok4n]; show 0 < sizeLine; omega), ?_⟩
    rw [ok4n]
    obtain ⟨z1, z2, z3, z4, z5, z6⟩ := nz R.z
    have tp6 : Tp H5 (upd H5 f.od (.dK (putK [] (kS s) (.ref t5)))) := (Tp.refl H5).put hod5 (fun _ z => nomatch z)
    have R6 : PaR K (upd H5 f.od (.dK (putK [] (kS s) (.ref t5)))) f nm M { p with off := [(s, n, l)] } (N + 1) mv4 wv4 j4 pk4 sk4 [(kS s, .ref t5)] :=
      ⟨by rw [upd_ne z3]; exact R5.ob, R5.mv.mono tp6, R5.wv.mono tp6, by have := R5.j; omega, by rw [upd_ne z5]; exact R5.pd, by have := R5.pl; omega, R5.po, fun k => by have := R5.pn k; exact Nat.le_succ_of_le this, by rw [upd_ne z6]; exact R5.sd, by have := R5.sl; omega, fun k => (R5.se k).mono tp6, upd_same, .cons ⟨rfl, t5, rfl, tp6 _ _ ht55⟩ .nil, R5.z⟩
    have o6 : Out f.z H (upd H5 f.od (.dK (putK [] (kS s) (.ref t5)))) := (Out.of (s14.trans s5)).put mo
    refine ⟨Nat.zero_le _, fun lb hlb => ?_⟩
    have s7 := same_new (o := .lst []) hlb
    have hlb0 : H lb = none := by
      have : lb ≠ f.od := fun e => by rw [e, upd_same] at hlb; cases hlb
      rw [upd_ne this] at hlb
      exact (s14.trans s5).free hlb
    exact hQ lb _ [] (o6.trans (Out.of s7)) ((show PaAt K _ f nm M { p with off := [(s, n, l)] } (N + 1) from ⟨_, _, _, _, _, _, R6⟩).same s7) hlb0 upd_same .nil
  | taken t n l q' hne hw hst hok hll =>
    refine ⟨_, rfl, f.a, _, _, rfl, R.ob, paM_entry_of_message .., _, rfl, f, mb, nm, M, p, N, _, some ("k", t, l, n), rfl, hPa, hmb, .taken t n l hw (by unfold okA at hok; simp only [Bool.and_eq_true] at hok; exact hok.1.2), fun eb H1 s1 heb => ?_⟩
    refine ⟨_, rfl, rfl, _, rfl, iteT ?_⟩
    have hPa1 := hPa.same s1
    obtain ⟨mv1, wv1, j1, pk1, sk1, ok1, R1⟩ := id hPa1
    refine ⟨_, rfl, f.a, _, _, rfl, R1.ob, paM_carry_out .., _, rfl, f, eb, nm, M, p, _, N, "k", t, l, n, rfl, heb, hPa1, .k t l n q' hst hok, htl, hll, hnN, hN, hq, fun H2 o2 hPa2 => ?_⟩
    have hmb2 := hPa1.tp o2 _ _ (s1 _ _ hmb)
    refine msg_cut (K := K) (te := tVar 1) (σ := [some (.ref f.a), some (.ref mb), some (.ref eb), none, none, none, none, none, none]) hmb2 (fun Q q => ⟨_, rfl, q⟩) fun c H3 s3 hc => ?_
    have hPa3 := hPa2.same s3
    obtain ⟨mv3, wv3, j3, pk3, sk3, ok3, R3⟩ := id hPa3
    refine ⟨c, _, rfl, SqT.of hc, rfl, _, _, rfl, _, _, rfl, _, _, rfl, _, _, rfl, rfl, ?_⟩
    refine ⟨_, rfl, _, rfl, f.a, _, _, _, _, rfl, R3.ob, T.c_Party, T.a_Party__name, paF_name .., rfl, _, rfl, ?_⟩
    rw [show (!decide (V.str (Msg.taken nm t n).t = V.str nm)) = true from by rw [show (Msg.taken nm t n).t = t from rfl, eqS, decide_eq_false hne]; rfl]
    refine iteT (iteT ⟨Nat.zero_le _, fun lb hlb => ?_⟩)
    have o3 := ((Out.of s1).trans o2).trans (Out.of s3)
    have s4 := same_new (o := .lst []) hlb
    have hlb0 : H lb = none := by
      cases hz : H lb with
      | none => rfl
      | some o =>
        by_cases hm : lb ∈ f.z
        · exfalso
          simp only [Pf.z, List.mem_cons, List.not_mem_nil, or_false] at hm
          rcases hm with rfl | rfl | rfl | rfl
          · rw [R3.ob] at hlb; cases hlb
          · rw [R3.pd] at hlb; cases hlb
          · rw [R3.sd] at hlb; cases hlb
          · rw [R3.od] at hlb; cases hlb
        · rw [o3 lb o hm hz] at hlb
          cases hlb
    exact hQ lb _ [] (o3.trans (Out.of s4)) (hPa3.same s4) hlb0 upd_same .nil
  | gone t n l hne hw hok hll =>
    refine ⟨_, rfl, f.a, _, _, rfl, R.ob, paM_entry_of_message .., _, rfl, f, mb, nm, M, p, N, _, some ("g", t, l, n), rfl, hPa, hmb, .gone t n l hw hok, fun eb H1 s1 heb => ?_⟩
    refine ⟨_, rfl, rfl, _, rfl, iteT ?_⟩
    have hPa1 := hPa.same s1
    obtain ⟨mv1, wv1, j1, pk1, sk1, ok1, R1⟩ := id hPa1
    refine ⟨_, rfl, f.a, _, _, rfl, R1.ob, paM_carry_out .., _, rfl, f, eb, nm, M, p, _, N, "g", t, l, n, rfl, heb, hPa1, .g t l n, htl, hll, hnN, hN, hq, fun H2 o2 hPa2 => ?_⟩
    have hmb2 := hPa1.tp o2 _ _ (s1 _ _ hmb)
    refine msg_cut (K := K) (te := tVar 1) (σ := [some (.ref f.a), some (.ref mb), some (.ref eb), none, none, none, none, none, none]) hmb2 (fun Q q => ⟨_, rfl, q⟩) fun c H3 s3 hc => ?_
    have hPa3 := hPa2.same s3
    obtain ⟨mv3, wv3, j3, pk3, sk3, ok3, R3⟩ := id hPa3
    refine ⟨c, _, rfl, SqT.of hc, rfl, _, _, rfl, _, _, rfl, _, _, rfl, _, _, rfl, rfl, ?_⟩
    refine ⟨_, rfl, _, rfl, f.a, _, _, _, _, rfl, R3.ob, T.c_Party, T.a_Party__name, paF_name .., rfl, _, rfl, ?_⟩
    rw [show (!decide (V.str (Msg.gone nm t n).t = V.str nm)) = true from by rw [show (Msg.gone nm t n).t = t from rfl, eqS, decide_eq_false hne]; rfl]
    refine iteT (iteT ⟨Nat.zero_le _, fun lb hlb => ?_⟩)
    have o3 := ((Out.of s1).trans o2).trans (Out.of s3)
    have s4 := same_new (o := .lst []) hlb
    have hlb0 : H lb = none := by
      cases hz : H lb with
      | none => rfl
      | some o =>
        by_cases hm : lb ∈ f.z
        · exfalso
          simp only [Pf.z, List.mem_cons, List.not_mem_nil, or_false] at hm
          rcases hm with rfl | rfl | rfl | rfl
          · rw [R3.ob] at hlb; cases hlb
          · rw [R3.pd] at hlb; cases hlb
          · rw [R3.sd] at hlb; cases hlb
          · rw [R3.od] at hlb; cases hlb
        · rw [o3 lb o hm hz] at hlb
          cases hlb
    exact hQ lb _ [] (o3.trans (Out.of s4)) (hPa3.same s4) hlb0 upd_same .nil
  | back s n l hne hoff hlt =>
    refine ⟨_, rfl, f.a, _, _, rfl, R.ob, paM_entry_of_message .., _, rfl, f, mb, nm, M, p, N, _, some ("r", s, ".", n), rfl, hPa, hmb, .back s n hne hlt, fun eb H1 s1 heb => ?_⟩
    refine ⟨_, rfl, rfl, _, rfl, iteT ?_⟩
    have hPa1 := hPa.same s1
    obtain ⟨mv1, wv1, j1, pk1, sk1, ok1, R1⟩ := id hPa1
    refine ⟨_, rfl, f.a, _, _, rfl, R1.ob, paM_carry_out .., _, rfl, f, eb, nm, M, p, _, N, "r", s, ".", n, rfl, heb, hPa1, .r s "." n n l hoff (Nat.le_refl _), hsl, by decide +kernel, hnN, hN, hq, fun H2 o2 hPa2 => ?_⟩
    have hmb2 := hPa1.tp o2 _ _ (s1 _ _ hmb)
    refine msg_cut (K := K) (te := tVar 1) (σ := [some (.ref f.a), some (.ref mb), some (.ref eb), none, none, none, none, none, none]) hmb2 (fun Q q => ⟨_, rfl, q⟩) fun c H3 s3 hc => ?_
    have hPa3 := hPa2.same s3
    obtain ⟨mv3, wv3, j3, pk3, sk3, ok3, R3⟩ := id hPa3
    refine ⟨c, _, rfl, SqT.of hc, rfl, _, _, rfl, _, _, rfl, _, _, rfl, _, _, rfl, rfl, ?_⟩
    refine ⟨_, rfl, _, rfl, f.a, _, _, _, _, rfl, R3.ob, T.c_Party, T.a_Party__name, paF_name .., rfl, _, rfl, ?_⟩
    rw [show (!decide (V.str (Msg.back s nm n).t = V.str nm)) = false from by rw [show (Msg.back s nm n).t = nm from rfl, eqS, decide_eq_true rfl]; rfl]
    refine iteF ⟨_, rfl, (by show 2 ≤ sizeLine; omega), fun tb htb => ⟨tb, _, rfl, .inr (SqT.of upd_same), rfl, rfl, _, rfl, ?_⟩⟩
    rw [show (if true = true then !inV (V.str (Msg.back s nm n).kind) [V.str "letter", V.str "back"] else inV (V.str (Msg.back s nm n).kind) [V.str "letter", V.str "back"]) = false from by rw [if_pos rfl, show (Msg.back s nm n).kind = Str.ofString "back" from rfl, in_lb2] <;> rfl]
    have s4 : Same H3 (upd H3 tb (.tup [.str "letter", .str "back"])) := same_new htb
    generalize upd H3 tb (.tup [.str "letter", .str "back"]) = H4 at s4
    refine iteF ?_
    have hPa4 := hPa3.same s4
    obtain ⟨mv4, wv4, j4, pk4, sk4, ok4, R4⟩ := id hPa4
    refine ⟨_, rfl, f.a, _, _, rfl, R4.ob, paM_settled .., _, rfl, f, nm, M, _, N + 1, s, rfl, hPa4, fun b5 H5 s5 hb5 => ?_⟩
    have hb5' : H5 b5 = some (.tup [.int (n : Nat), .bl false]) := by
      rw [hb5]
      show some (HO.tup [V.int ((updF p.sett s (n, false) s).1 : Nat), V.bl (updF p.sett s (n, false) s).2]) = _
      unfold updF
      rw [if_pos rfl]
    refine g_two hb5' ?_
    refine ⟨_, rfl, _, rfl, rfl, _, rfl, ?_⟩
    rw [show decide (V.int ((Msg.back s nm n).n : Nat) = V.int (n : Nat)) = true from decide_eq_true rfl]
    refine iteT ?_
    refine ⟨_, rfl, _, rfl, iteF ⟨_, rfl, _, rfl, _, rfl, (by show 4 ≤ sizeLine; omega), fun gb hgb => ⟨(by show 1 ≤ sizeLine; omega), fun lb hlb => ?_⟩⟩⟩
    have o5 := (((Out.of s1).trans o2).trans (Out.of s3)).trans (Out.of (s4.trans s5))
    have hPa5 := hPa4.same s5
    obtain ⟨mv5, wv5, j5, pk5, sk5, ok5, R5⟩ := id hPa5
    have s6 : Same H5 (upd (upd H5 gb (.tup [.str "gone", .str (Msg.back s nm n).s, .str (Msg.back s nm n).t, .int ((Msg.back s nm n).n : Nat)])) lb (.lst [.ref gb])) := (same_new hgb).trans (same_new hlb)
    have hlb5 : H5 lb = none := (same_new (o := .tup [.str "gone", .str (Msg.back s nm n).s, .str (Msg.back s nm n).t, .int ((Msg.back s nm n).n : Nat)]) hgb).free hlb
    have hlb0 : H lb = none := by
      cases hz : H lb with
      | none => rfl
      | some o =>
        by_cases hm : lb ∈ f.z
        · exfalso
          simp only [Pf.z, List.mem_cons, List.not_mem_nil, or_false] at hm
          rcases hm with rfl | rfl | rfl | rfl
          · rw [R5.ob] at hlb5; cases hlb5
          · rw [R5.pd] at hlb5; cases hlb5
          · rw [R5.sd] at hlb5; cases hlb5
          · rw [R5.od] at hlb5; cases hlb5
        · rw [o5 lb o hm hz] at hlb5
          cases hlb5
    exact hQ lb _ [.ref gb] (o5.trans (Out.of s6)) (hPa5.same s6) hlb0 upd_same (.cons ⟨gb, rfl, same_new hlb _ _ upd_same⟩ .nil)
end Pk
set_option Elab.async false
set_option linter.all false
set_option maxRecDepth 100000
set_option maxHeartbeats 4000000
/-! The defs, 20: a play: what it is; the small methods. -/
namespace Pk
open PySem PySem.Spec PyProof.Rows L2
variable {P : Program} {w : World} {K : PySem.W.Frag} {mg : Str → Option Value} {base : Heap}
def plF (m p n t : V) : List (Str × V) := [("_machines", m), ("_parties", p), ("_net", n), ("_taken", t)]
section
variable (m p n t : V)
theorem pl_made : putF "_taken" t (putF "_net" n (putF "_parties" p (putF "_machines" m []))) = plF m p n t := by kernel_rfl
theorem plF_parties : (plF m p n t).lookup ("_parties" : Str) = some p := by kernel_rfl
theorem plF_net : (plF m p n t).lookup ("_net" : Str) = some n := by kernel_rfl
theorem plF_taken : (plF m p n t).lookup ("_taken" : Str) = some t := by kernel_rfl
theorem plM_party_of : (plF m p n t).lookup ("party_of" : Str) = none := by kernel_rfl
theorem plM_can : (plF m p n t).lookup ("can" : Str) = none := by kernel_rfl
theorem plM_rests : (plF m p n t).lookup ("rests" : Str) = none := by kernel_rfl
theorem plM_names : (plF m p n t).lookup ("names" : Str) = none := by kernel_rfl
theorem plM_taken : (plF m p n t).lookup ("taken" : Str) = none := by kernel_rfl
theorem plM_check_place : (plF m p n t).lookup ("check_place" : Str) = none := by kernel_rfl
theorem plM_check_room : (plF m p n t).lookup ("check_room" : Str) = none := by kernel_rfl
theorem plM_do : (plF m p n t).lookup ("do" : Str) = none := by kernel_rfl
theorem plM_act : (plF m p n t).lookup ("act" : Str) = none := by kernel_rfl
theorem plM_empty_net : (plF m p n t).lookup ("empty_net" : Str) = none := by kernel_rfl
theorem plM_offer : (plF m p n t).lookup ("offer" : Str) = none := by kernel_rfl
end
structure Lf where
  a : Addr
  dx : Addr
  pd : Addr
  nb : Addr
  tb : Addr
  fs : Str → Pf
def Lf.c (L : Lf) : List Addr := [L.a, L.pd, L.nb, L.tb]
def Lf.z (L : Lf) (ms : Mch) : List Addr := L.c ++ ms.flatMap fun m => (L.fs m.1).z
structure Pst where
  st : Str → Pa
  net : List Msg
  tk : List Act
def plK (L : Lf) (ms : Mch) : List (Key × V) := ms.map fun m => (kS m.1, .ref (L.fs m.1).a)
/-- a play as it stands -/
structure PlR (K : PySem.W.Frag) (H : Hp) (L : Lf) (ms : Mch) (S : Pst) (n : Nat) (mv : V) (nv tv : List V) : Prop where
  ob : H L.a = some (.ins (He.ga K "Play") L.dx (plF mv (.ref L.pd) (.ref L.nb) (.ref L.tb)))
  pd : H L.pd = some (.dK (plK L ms))
  nb : H L.nb = some (.lst nv)
  nv : Paired (MsgV H) nv S.net
  tb : H L.tb = some (.lst tv)
  tv : Paired (ActV H) tv S.tk
  tl : S.tk.length ≤ n
  pa : ∀ m ∈ ms, PaAt K H (L.fs m.1) m.1 m.2 (S.st m.1) n
  nd : (ms.map (·.1)).Nodup
  zc : ∀ m ∈ ms, ∀ x ∈ (L.fs m.1).z, x ∉ L.c
  zz : ∀ m ∈ ms, ∀ m' ∈ ms, m.1 ≠ m'.1 → ∀ x ∈ (L.fs m.1).z, x ∉ (L.fs m'.1).z
  zn : L.c.Nodup
def PlAt (K : PySem.W.Frag) (H : Hp) (L : Lf) (ms : Mch) (S : Pst) (n : Nat) : Prop := ∃ mv nv tv, PlR K H L ms S n mv nv tv
theorem PaAt.notup {H : Hp} {f : Pf} {nm : Str} {M : Tab} {p : Pa} {n : Nat} (h : PaAt K H f nm M p n) {x : Addr} (hx : x ∈ f.z) {xs : List V} : H x ≠ some (.tup xs) := by
  obtain ⟨mv, wv, j, pk, sk, ok, R⟩ := h
  simp only [Pf.z, List.mem_cons, List.not_mem_nil, or_false] at hx
  intro e
  rcases hx with rfl | rfl | rfl | rfl
  · rw [R.ob] at e; cases e
  · rw [R.pd] at e; cases e
  · rw [R.sd] at e; cases e
  · rw [R.od] at e; cases e
theorem PaAt.some_ {H : Hp} {f : Pf} {nm : Str} {M : Tab} {p : Pa} {n : Nat} (h : PaAt K H f nm M p n) {x : Addr} (hx : x ∈ f.z) : H x ≠ none := by
  obtain ⟨mv, wv, j, pk, sk, ok, R⟩ := h
  simp only [Pf.z, List.mem_cons, List.not_mem_nil, or_false] at hx
  intro e
  rcases hx with rfl | rfl | rfl | rfl
  · rw [R.ob] at e; cases e
  · rw [R.pd] at e; cases e
  · rw [R.sd] at e; cases e
  · rw [R.od] at e; cases e
theorem mem_ms {ms : Mch} (nd : (ms.map (·.1)).Nodup) {m m' : Str × Tab} (h : m ∈ ms) (h' : m' ∈ ms) (e : m.1 = m'.1) : m = m' := by
  obtain ⟨i, hi⟩ := List.mem_iff_getElem?.mp h
  obtain ⟨j, hj⟩ := List.mem_iff_getElem?.mp h'
  have := nd_ix nd hi hj e
  subst this
  rw [hi] at hj
  exact Option.some.inj hj
theorem PlR.tp {H H' : Hp} {L : Lf} {ms : Mch} {S : Pst} {n : Nat} {mv : V} {nv tv : List V} (h : PlR K H L ms S n mv nv tv) (o : Out (L.z ms) H H') : Tp H H' := fun b xs hb => by
  refine o b _ (fun m => ?_) hb
  rcases List.mem_append.mp m with m | m
  · simp only [Lf.c, List.mem_cons, List.not_mem_nil, or_false] at m
    rcases m with rfl | rfl | rfl | rfl
    · rw [h.ob] at hb; cases hb
    · rw [h.pd] at hb; cases hb
    · rw [h.nb] at hb; cases hb
    · rw [h.tb] at hb; cases hb
  · obtain ⟨m', hm', hx⟩ := List.mem_flatMap.mp m
    exact (h.pa m' hm').notup hx hb
theorem Lf.mc {L : Lf} {ms : Mch} {x : Addr} (h : x ∈ L.c) : x ∈ L.z ms := List.mem_append_left _ h
theorem Lf.mp {L : Lf} {ms : Mch} {m : Str × Tab} (hm : m ∈ ms) {x : Addr} (h : x ∈ (L.fs m.1).z) : x ∈ L.z ms := List.mem_append_right _ (List.mem_flatMap.mpr ⟨m, hm, h⟩)
theorem PlR.same {H H' : Hp} {L : Lf} {ms : Mch} {S : Pst} {n n' : Nat} {mv : V} {nv tv : List V} (h : PlR K H L ms S n mv nv tv) (s : Same H H') (hn : n ≤ n') : PlR K H' L ms S n' mv nv tv :=
  have tp := Tp.of s
  ⟨s _ _ h.ob, s _ _ h.pd, s _ _ h.nb, L2.Paired.mapP h.nv fun _ _ q => q.mono tp, s _ _ h.tb, L2.Paired.mapP h.tv fun _ _ q => q.mono tp, Nat.le_trans h.tl hn, fun m hm => (h.pa m hm).keep (Z := []) (Out.of s) tp (fun _ _ => by simp) hn, h.nd, h.zc, h.zz, h.zn⟩
theorem PlAt.same {H H' : Hp} {L : Lf} {ms : Mch} {S : Pst} {n n' : Nat} (h : PlAt K H L ms S n) (s : Same H H') (hn : n ≤ n') : PlAt K H' L ms S n' := let ⟨_, _, _, r⟩ := h; ⟨_, _, _, r.same s hn⟩
/-- one party went on -/
theorem PlR.party {H H' : Hp} {L : Lf} {ms : Mch} {S : Pst} {n n' : Nat} {mv : V} {nv tv : List V} (h : PlR K H L ms S n mv nv tv) {m : Str × Tab} (hm : m ∈ ms) {p' : Pa} (o : Out (L.fs m.1).z H H') (hp : PaAt K H' (L.fs m.1) m.1 m.2 p' n') (hn : n ≤ n') :
    PlR K H' L ms { S with st := updF S.st m.1 p' } n' mv nv tv := by
  have tp := (h.pa m hm).tp o
  have cz : ∀ x ∈ L.c, x ∉ (L.fs m.1).z := fun x hx hz => h.zc m hm x hz hx
  refine ⟨o _ _ (cz _ (by simp [Lf.c])) h.ob, o _ _ (cz _ (by simp [Lf.c])) h.pd, o _ _ (cz _ (by simp [Lf.c])) h.nb, L2.Paired.mapP h.nv fun _ _ q => q.mono tp, o _ _ (cz _ (by simp [Lf.c])) h.tb, L2.Paired.mapP h.tv fun _ _ q => q.mono tp, Nat.le_trans h.tl hn, fun m' hm' => ?_, h.nd, h.zc, h.zz, h.zn⟩
  show PaAt K H' _ _ _ (if m'.1 = m.1 then p' else S.st m'.1) n'
  by_cases e : m'.1 = m.1
  · rw [if_pos e]
    have := mem_ms h.nd hm' hm e
    rw [this]
    exact hp
  · rw [if_neg e]
    exact (h.pa m' hm').keep o tp (fun x hx => h.zz m' hm' m hm e x hx) hn
theorem lnz {L : Lf} (h : L.c.Nodup) : L.a ≠ L.pd ∧ L.a ≠ L.nb ∧ L.a ≠ L.tb ∧ L.pd ≠ L.nb ∧ L.pd ≠ L.tb ∧ L.nb ≠ L.tb := by
  simp [Lf.c] at h
  exact ⟨h.1.1, h.1.2.1, h.1.2.2, h.2.1.1, h.2.1.2, h.2.2⟩
/-- the net -/
theorem PlR.net {H : Hp} {L : Lf} {ms : Mch} {S : Pst} {n : Nat} {mv : V} {nv tv : List V} (h : PlR K H L ms S n mv nv tv) {nv' : List V} {net' : List Msg} (hn : Paired (MsgV H) nv' net') : PlR K (upd H L.nb (.lst nv')) L ms { S with net := net' } n mv nv' tv := by
  obtain ⟨z1, z2, z3, z4, z5, z6⟩ := lnz h.zn
  have tp : Tp H (upd H L.nb (.lst nv')) := (Tp.refl H).put h.nb (fun _ z => nomatch z)
  have o : Out [L.nb] H (upd H L.nb (.lst nv')) := (Out.refl _ _).put (List.mem_singleton.mpr rfl)
  exact ⟨by rw [upd_ne z2]; exact h.ob, by rw [upd_ne z4]; exact h.pd, upd_same, L2.Paired.mapP hn fun _ _ q => q.mono tp, by rw [upd_ne z6.symm]; exact h.tb, L2.Paired.mapP h.tv fun _ _ q => q.mono tp, h.tl, fun m hm => (h.pa m hm).keep o tp (fun x hx hz => h.zc m hm x hx (by rw [List.mem_singleton.mp hz]; simp [Lf.c])) (Nat.le_refl _), h.nd, h.zc, h.zz, h.zn⟩
/-- what was taken -/
theorem PlR.take {H : Hp} {L : Lf} {ms : Mch} {S : Pst} {n : Nat} {mv : V} {nv tv : List V} (h : PlR K H L ms S n mv nv tv) {tv' : List V} {tk' : List Act} (hn : Paired (ActV H) tv' tk') (hl : tk'.length ≤ n) : PlR K (upd H L.tb (.lst tv')) L ms { S with tk := tk' } n mv nv tv' := by
  obtain ⟨z1, z2, z3, z4, z5, z6⟩ := lnz h.zn
  have tp : Tp H (upd H L.tb (.lst tv')) := (Tp.refl H).put h.tb (fun _ z => nomatch z)
  have o : Out [L.tb] H (upd H L.tb (.lst tv')) := (Out.refl _ _).put (List.mem_singleton.mpr rfl)
  exact ⟨by rw [upd_ne z3]; exact h.ob, by rw [upd_ne z5]; exact h.pd, by rw [upd_ne z6]; exact h.nb, L2.Paired.mapP h.nv fun _ _ q => q.mono tp, upd_same, L2.Paired.mapP hn fun _ _ q => q.mono tp, hl, fun m hm => (h.pa m hm).keep o tp (fun x hx hz => h.zc m hm x hx (by rw [List.mem_singleton.mp hz]; simp [Lf.c])) (Nat.le_refl _), h.nd, h.zc, h.zz, h.zn⟩
theorem plK_val (L : Lf) : ∀ {ms : Mch}, (ms.map (·.1)).Nodup → ∀ m ∈ ms, valV (plK L ms) (kS m.1) = some (.ref (L.fs m.1).a)
  | [], _, m, h => nomatch h
  | x :: ms, nd, m, h => by
    show valV ((kS x.1, V.ref (L.fs x.1).a) :: plK L ms) (kS m.1) = _
    by_cases e : x.1 = m.1
    · rw [e]
      exact valV_pos rfl
    · rw [valV_neg (p := (kS x.1, V.ref (L.fs x.1).a)) (fun q => e (kS_inj _ _ q))]
      rcases List.mem_cons.mp h with rfl | h
      · exact absurd rfl e
      · exact plK_val L (List.nodup_cons.mp nd).2 m h
def Msg.dst : Msg → Str
  | .letter _ t .. => t
  | .taken s .. => s
  | .gone s .. => s
  | .back _ t .. => t
def spAddr : Sp := fun vs H Q _ => ∃ (b : Addr) (m : Msg), vs = [.ref b] ∧ H b = some (.tup m.vs) ∧ Q (.str m.dst) H
theorem sc_addressee : FnScope ["message"] ["message"] (defScope s_addressee) := ⟨rfl, rfl, rfl, by decide +kernel, rfl, by decide +kernel, by decide +kernel⟩
theorem o_addressee (T : Txt K mg) : Ok P w K mg base CX0 "addressee" 1 ["message"] spAddr :=
  ok_def T.d_addressee T.g_addressee sc_addressee (fun _ _ _ _ _ _ us hl => match us, hl with | [_], _ => rfl) (fun vs H Q E h => by obtain ⟨_, _, rfl, _⟩ := h; rfl) fun cdv A outer s H vs Q E hr h => by
  obtain ⟨b, m, rfl, hb, hQ⟩ := h
  refine ⟨_, (PSs.nox (pss_cons (ps_if (PW.pt (pw_or (pt_cmpR op_eq (pe_ix (kx_tup (K := K) rfl) (pv 0) pe_int (fun _ _ => rfl)) pe_str (nomark _)) (pw_or1 (pt_cmpR op_eq (pe_ix (kx_tup (K := K) rfl) (pv 0) pe_int (fun _ _ => rfl)) pe_str (nomark _))))) (pss_one (ps_ret (pe_ix (kx_tup (K := K) rfl) (pv 0) pe_int (fun _ _ => rfl)))) pss_nil)
      (pss_one (ps_ret (pe_ix (kx_tup (K := K) rfl) (pv 0) pe_int (fun _ _ => rfl)))))), ?_⟩
  have k1 : decide (V.str "letter" = V.str "letter") = true := by decide +kernel
  have k2 : decide (V.str "taken" = V.str "letter") = false := by decide +kernel
  have k3 : decide (V.str "taken" = V.str "back") = false := by decide +kernel
  have k4 : decide (V.str "gone" = V.str "letter") = false := by decide +kernel
  have k5 : decide (V.str "gone" = V.str "back") = false := by decide +kernel
  have k6 : decide (V.str "back" = V.str "letter") = false := by decide +kernel
  have k7 : decide (V.str "back" = V.str "back") = true := by decide +kernel
  cases m with
  | letter s t n l =>
    refine ⟨_, rfl, b, _, _, _, rfl, rfl, SqT.of hb, atI_nat (j := 0) rfl, rfl, _, rfl, ?_⟩
    rw [k1]
    exact iteT (iteT ⟨_, rfl, b, _, _, _, rfl, rfl, SqT.of hb, atI_nat (j := 2) rfl, hQ⟩)
  | taken s t n =>
    refine ⟨_, rfl, b, _, _, _, rfl, rfl, SqT.of hb, atI_nat (j := 0) rfl, rfl, _, rfl, ?_⟩
    rw [k2]
    refine iteF ⟨_, rfl, b, _, _, _, rfl, rfl, SqT.of hb, atI_nat (j := 0) rfl, rfl, _, rfl, ?_⟩
    rw [k3]
    exact iteF ⟨_, rfl, b, _, _, _, rfl, rfl, SqT.of hb, atI_nat (j := 1) rfl, hQ⟩
  | gone s t n =>
    refine ⟨_, rfl, b, _, _, _, rfl, rfl, SqT.of hb, atI_nat (j := 0) rfl, rfl, _, rfl, ?_⟩
    rw [k4]
    refine iteF ⟨_, rfl, b, _, _, _, rfl, rfl, SqT.of hb, atI_nat (j := 0) rfl, rfl, _, rfl, ?_⟩
    rw [k5]
    exact iteF ⟨_, rfl, b, _, _, _, rfl, rfl, SqT.of hb, atI_nat (j := 1) rfl, hQ⟩
  | back s t n =>
    refine ⟨_, rfl, b, _, _, _, rfl, rfl, SqT.of hb, atI_nat (j := 0) rfl, rfl, _, rfl, ?_⟩
    rw [k6]
    refine iteF ⟨_, rfl, b, _, _, _, rfl, rfl, SqT.of hb, atI_nat (j := 0) rfl, rfl, _, rfl, ?_⟩
    rw [k7]
    exact iteT ⟨_, rfl, b, _, _, _, rfl, rfl, SqT.of hb, atI_nat (j := 2) rfl, hQ⟩
def spPof (K : PySem.W.Frag) : Sp := fun vs H Q _ => ∃ (L : Lf) (ms : Mch) (S : Pst) (n : Nat) (m : Str × Tab), vs = [.ref L.a, .str m.1] ∧ PlAt K H L ms S n ∧ m ∈ ms ∧ Q (.ref (L.fs m.1).a) H
theorem sc_Play_party_of : FnScope ["self", "name"] ["self", "name"] (defScope s_Play_party_of) := ⟨rfl, rfl, rfl, by decide +kernel, rfl, by decide +kernel, by decide +kernel⟩
theorem o_Play_party_of (T : Txt K mg) : OkM P w K mg base CX0 (He.ga K "Play") "party_of" 1 ["self", "name"] (spPof K) :=
  okm_def T.c_Play T.d_Play_party_of T.m_Play_party_of sc_Play_party_of (fun _ _ _ _ _ _ us hl => match us, hl with | [_, _], _ => rfl) (fun vs H Q E h => by obtain ⟨_, _, _, _, _, rfl, _⟩ := h; rfl) fun cdv A outer s H vs Q E hr h => by
  obtain ⟨L, ms, S, n, m, rfl, ⟨mv, nv, tv, R⟩, hm, hQ⟩ := h
  refine ⟨_, (PSs.nox (pss_cons (ps_if (pt_cmp (pc_dnotin (ru1 hr) (pv 1) (ke_fld (K := K) rfl (pv 0) rfl))) (pss_one ps_never) pss_nil)
      (pss_one (ps_ret (pe_dget (ru1 hr) (ke_fld (K := K) rfl (pv 0) rfl) (pv 1) (fun _ _ => rfl)))))), ?_⟩
  have hv := plK_val L R.nd m hm
  refine ⟨_, rfl, _, rfl, L.a, _, _, _, _, rfl, R.ob, T.c_Play, T.a_Play__parties, plF_parties .., L.pd, _, rfl, DGet.k (k := kS m.1) R.pd, _, rfl, ?_⟩
  rw [hv]
  refine iteF ⟨_, rfl, L.a, _, _, _, _, rfl, R.ob, T.c_Play, T.a_Play__parties, plF_parties .., _, rfl, L.pd, .ref (L.fs m.1).a, rfl, by have := DGet.k (k := kS m.1) R.pd; rw [hv] at this; exact this, hQ⟩
def spPcan (K : PySem.W.Frag) : Sp := fun vs H Q _ => ∃ (L : Lf) (ms : Mch) (S : Pst) (n : Nat) (m : Str × Tab), vs = [.ref L.a, .str m.1] ∧ PlAt K H L ms S n ∧ m ∈ ms ∧ (S.st m.1).w = none ∧ (S.st m.1).q < m.2.rows.length ∧ (S.st m.1).off.length ≤ 1 ∧ (m.2.row (S.st m.1).q).length ≤ 5000 ∧
  ∀ b H' ys es, Same H H' → H b = none → H' b = some (.lst ys) → Paired (CanV H') ys es → CanOk m.1 m.2 (S.st m.1) es → Q (.ref b) H'
theorem sc_Play_can : FnScope ["self", "name"] ["self", "name"] (defScope s_Play_can) := ⟨rfl, rfl, rfl, by decide +kernel, rfl, by decide +kernel, by decide +kernel⟩
theorem o_Play_can (T : Txt K mg) : OkM P w K mg base CX0 (He.ga K "Play") "can" 2 ["self", "name"] (spPcan K) :=
  okm_def T.c_Play T.d_Play_can T.m_Play_can sc_Play_can (fun _ _ _ _ _ _ us hl => match us, hl with | [_, _], _ => rfl) (fun vs H Q E h => by obtain ⟨_, _, _, _, _, rfl, _⟩ := h; rfl) fun cdv A outer s H vs Q E hr h => by
  obtain ⟨L, ms, S, n, m, rfl, hP, hm, h1, h2, h3, h4, hQ⟩ := h
  refine ⟨_, (PSs.nox (pss_one (ps_ret (pe_mt0 (o_Party_can T) (hr.mono (by decide)) (pe_mt (o_Play_party_of T) (hr.mono (by decide)) (pv 0) (pa_cons (pv 1) pa_nil)))))), ?_⟩
  obtain ⟨mv, nv, tv, R⟩ := id hP
  refine ⟨_, rfl, L.a, _, _, rfl, R.ob, plM_party_of .., _, rfl, L, ms, S, n, m, rfl, hP, hm, ?_⟩
  have hPa := R.pa m hm
  obtain ⟨mv', wv, j, pk, sk, ok, R'⟩ := id hPa
  exact ⟨(L.fs m.1).a, _, _, rfl, R'.ob, paM_can .., L.fs m.1, m.1, m.2, _, n, rfl, hPa, h1, h2, h3, h4, hQ⟩
def spPrests (K : PySem.W.Frag) : Sp := fun vs H Q _ => ∃ (L : Lf) (ms : Mch) (S : Pst) (n : Nat) (m : Str × Tab), vs = [.ref L.a, .str m.1] ∧ PlAt K H L ms S n ∧ m ∈ ms ∧ (S.st m.1).w = none ∧ (S.st m.1).q < m.2.ends.length ∧ Q (.bl (m.2.ends.getD (S.st m.1).q false)) H
theorem sc_Play_rests : FnScope ["self", "name"] ["self", "name"] (defScope s_Play_rests) := ⟨rfl, rfl, rfl, by decide +kernel, rfl, by decide +kernel, by decide +kernel⟩
theorem o_Play_rests (T : Txt K mg) : OkM P w K mg base CX0 (He.ga K "Play") "rests" 2 ["self", "name"] (spPrests K) :=
  okm_def T.c_Play T.d_Play_rests T.m_Play_rests sc_Play_rests (fun _ _ _ _ _ _ us hl => match us, hl with | [_, _], _ => rfl) (fun vs H Q E h => by obtain ⟨_, _, _, _, _, rfl, _⟩ := h; rfl) fun cdv A outer s H vs Q E hr h => by
  obtain ⟨L, ms, S, n, m, rfl, hP, hm, h1, h2, hQ⟩ := h
  refine ⟨_, (PSs.nox (pss_one (ps_ret (pe_mt0 (o_Party_rests T) (hr.mono (by decide)) (pe_mt (o_Play_party_of T) (hr.mono (by decide)) (pv 0) (pa_cons (pv 1) pa_nil)))))), ?_⟩
  obtain ⟨mv, nv, tv, R⟩ := id hP
  refine ⟨_, rfl, L.a, _, _, rfl, R.ob, plM_party_of .., _, rfl, L, ms, S, n, m, rfl, hP, hm, ?_⟩
  have hPa := R.pa m hm
  obtain ⟨mv', wv, j, pk, sk, ok, R'⟩ := id hPa
  exact ⟨(L.fs m.1).a, _, _, rfl, R'.ob, paM_rests .., L.fs m.1, m.1, m.2, _, n, rfl, hPa, h1, h2, hQ⟩
def spPnames (K : PySem.W.Frag) : Sp := fun vs H Q _ => ∃ (L : Lf) (ms : Mch) (S : Pst) (n : Nat), vs = [.ref L.a] ∧ PlAt K H L ms S n ∧ ∀ b H', Same H H' → H b = none → H' b = some (.lst (ms.map fun m => V.str m.1)) → Q (.ref b) H'
theorem sc_Play_names : FnScope ["self"] ["self"] (defScope s_Play_names) := ⟨rfl, rfl, rfl, by decide +kernel, rfl, by decide +kernel, by decide +kernel⟩
theorem o_Play_names (T : Txt K mg) : OkM P w K mg base CX0 (He.ga K "Play") "names" 1 ["self"] (spPnames K) :=
  okm_def T.c_Play T.d_Play_names T.m_Play_names sc_Play_names (fun _ _ _ _ _ _ us hl => match us, hl with | [_], _ => rfl) (fun vs H Q E h => by obtain ⟨_, _, _, _, rfl, _⟩ := h; rfl) fun cdv A outer s H vs Q E hr h => by
  obtain ⟨L, ms, S, n, rfl, ⟨mv, nv, tv, R⟩, hQ⟩ := h
  refine ⟨_, (PSs.nox (pss_one (ps_ret (pe_callTy (T := "list") (call_listD rfl) (by rfl) T.n_list (by decide +kernel) (pa_cons (ke_fld (K := K) rfl (pv 0) rfl) pa_nil))))), ?_⟩
  refine ⟨_, rfl, L.a, _, _, _, _, rfl, R.ob, T.c_Play, T.a_Play__parties, plF_parties .., L.pd, _, rfl, .inl R.pd, fun p hp => ?_⟩
  refine hQ p _ (same_new hp) hp ?_
  rw [upd_same]
  unfold plK
  rw [List.map_map] <;> rfl
def spPtaken (K : PySem.W.Frag) : Sp := fun vs H Q _ => ∃ (L : Lf) (ms : Mch) (S : Pst) (n : Nat), vs = [.ref L.a] ∧ PlAt K H L ms S n ∧ ∀ b H' ys, Same H H' → H b = none → H' b = some (.lst ys) → Paired (ActV H') ys S.tk → Q (.ref b) H'
theorem sc_Play_taken : FnScope ["self"] ["self"] (defScope s_Play_taken) := ⟨rfl, rfl, rfl, by decide +kernel, rfl, by decide +kernel, by decide +kernel⟩
theorem o_Play_taken (T : Txt K mg) : OkM P w K mg base CX0 (He.ga K "Play") "taken" 1 ["self"] (spPtaken K) :=
  okm_def T.c_Play T.d_Play_taken T.m_Play_taken sc_Play_taken (fun _ _ _ _ _ _ us hl => match us, hl with | [_], _ => rfl) (fun vs H Q E h => by obtain ⟨_, _, _, _, rfl, _⟩ := h; rfl) fun cdv A outer s H vs Q E hr h => by
  obtain ⟨L, ms, S, n, rfl, ⟨mv, nv, tv, R⟩, hQ⟩ := h
  refine ⟨_, (PSs.nox (pss_one (ps_ret (pe_callTy (T := "list") (kc_list (K := K) rfl) (by rfl) T.n_list (by decide +kernel) (pa_cons (ke_fld (K := K) rfl (pv 0) rfl) pa_nil))))), ?_⟩
  refine ⟨_, rfl, L.a, _, _, _, _, rfl, R.ob, T.c_Play, T.a_Play__taken, plF_taken .., L.tb, tv, rfl, .inl (SqL.of R.tb), fun p hp => ?_⟩
  exact hQ p _ tv (same_new hp) hp upd_same (L2.Paired.mapP R.tv fun _ _ q => q.mono (Tp.new hp))
def spPlace (K : PySem.W.Frag) : Sp := fun vs H Q _ => ∃ (L : Lf) (ms : Mch) (S : Pst) (n : Nat), vs = [.ref L.a, .int 0] ∧ PlAt K H L ms S n ∧ S.net ≠ [] ∧ Q .non H
theorem sc_Play_check_place : FnScope ["self", "place"] ["self", "place"] (defScope s_Play_check_place) := ⟨rfl, rfl, rfl, by decide +kernel, rfl, by decide +kernel, by decide +kernel⟩
theorem o_Play_check_place (T : Txt K mg) : OkM P w K mg base CX0 (He.ga K "Play") "check_place" 1 ["self", "place"] (spPlace K) :=
  okm_def T.c_Play T.d_Play_check_place T.m_Play_check_place sc_Play_check_place (fun _ _ _ _ _ _ us hl => match us, hl with | [_, _], _ => rfl) (fun vs H Q E h => by obtain ⟨_, _, _, _, rfl, _⟩ := h; rfl) fun cdv A outer s H vs Q E hr h => by
  obtain ⟨L, ms, S, n, rfl, ⟨mv, nv, tv, R⟩, hne, hQ⟩ := h
  refine ⟨_, (PSs.nox (pss_one (ps_if (pt_not (pt_chain op_le op_lt pe_int (pv 1) (pe_callB (id := "len") (kc_len (K := K) rfl) (by rfl) T.n_len (by decide +kernel) (pa_cons (ke_fld (K := K) rfl (pv 0) rfl) pa_nil)))) (pss_one ps_never) pss_nil))), ?_⟩
  have hl : 0 < nv.length := by
    rw [Paired.length R.nv]
    exact List.length_pos_iff.mpr hne
  refine ⟨_, rfl, _, _, rfl, rfl, ?_⟩
  refine ⟨true, rfl, iteT ⟨_, rfl, L.a, _, _, _, _, rfl, R.ob, T.c_Play, T.a_Play__net, plF_net .., L.nb, nv, rfl, .inl (SqL.of R.nb), ?_⟩⟩
  refine ⟨_, _, rfl, rfl, _, rfl, ?_⟩
  rw [decide_eq_true (show (0 : Int) < ((nv.length : Nat) : Int) by omega)]
  exact iteF hQ
def spRoom (K : PySem.W.Frag) : Sp := fun vs H Q _ => ∃ (L : Lf) (ms : Mch) (S : Pst) (n : Nat), vs = [.ref L.a] ∧ PlAt K H L ms S n ∧ S.net.length < 200 ∧ Q .non H
theorem sc_Play_check_room : FnScope ["self"] ["self"] (defScope s_Play_check_room) := ⟨rfl, rfl, rfl, by decide +kernel, rfl, by decide +kernel, by decide +kernel⟩
theorem o_Play_check_room (T : Txt K mg) : OkM P w K mg base CX0 (He.ga K "Play") "check_room" 1 ["self"] (spRoom K) :=
  okm_def T.c_Play T.d_Play_check_room T.m_Play_check_room sc_Play_check_room (fun _ _ _ _ _ _ us hl => match us, hl with | [_], _ => rfl) (fun vs H Q E h => by obtain ⟨_, _, _, _, rfl, _⟩ := h; rfl) fun cdv A outer s H vs Q E hr h => by
  obtain ⟨L, ms, S, n, rfl, ⟨mv, nv, tv, R⟩, hne, hQ⟩ := h
  obtain ⟨t3, gM⟩ := T.i_MOST_MESSAGES
  refine ⟨_, (PSs.nox (pss_one (ps_if (pt_cmpR op_ge (pe_callB (id := "len") (kc_len (K := K) rfl) (by rfl) T.n_len (by decide +kernel) (pa_cons (ke_fld (K := K) rfl (pv 0) rfl) pa_nil)) (pe_glob (v := .int 200) rfl gM ⟨_, rfl⟩) (nomark _)) (pss_one ps_never) pss_nil))), ?_⟩
  have hl : nv.length < 200 := by
    rw [Paired.length R.nv]
    exact hne
  refine ⟨_, rfl, L.a, _, _, _, _, rfl, R.ob, T.c_Play, T.a_Play__net, plF_net .., L.nb, nv, rfl, .inl (SqL.of R.nb), _, _, rfl, rfl, _, rfl, ?_⟩
  rw [decide_eq_false (show ¬ ((200 : Int) ≤ (nv.length : Nat)) by omega)]
  exact iteF hQ
end Pk
set_option Elab.async false
set_option linter.all false
set_option maxRecDepth 100000
set_option maxHeartbeats 4000000
/-! The defs, 21: a play: act, do, empty_net. -/
namespace Pk
open PySem PySem.Spec PyProof.Rows L2
variable {P : Program} {w : World} {K : PySem.W.Frag} {mg : Str → Option Value} {base : Heap}
/-- what a party does -/
inductive Ac (ms : Mch) (n : Nat) (S : Pst) : List V → Pst → Prop where
  | post (m : Str × Tab) (t l : Str) : m ∈ ms → (S.st m.1).w = none → (S.st m.1).q < m.2.rows.length → (S.st m.1).off.length ≤ 1 → (m.2.step (S.st m.1).q (m.1, t, l)).isSome = true → okA (m.1, t, l) = true → t.length ≤ 50 → l.length ≤ 50 →
      Ac ms n S [.str "post", .str m.1, .str t, .str l] ⟨updF S.st m.1 { S.st m.1 with post := updF (S.st m.1).post t ((S.st m.1).post t + 1), w := some (t, (S.st m.1).post t + 1, l), wd := false }, S.net ++ [.letter m.1 t ((S.st m.1).post t + 1) l], S.tk⟩
  | take (m : Str × Tab) (s l : Str) (k q' : Nat) : m ∈ ms → (S.st m.1).w = none → (S.st m.1).q < m.2.rows.length → (S.st m.1).off = [(s, k, l)] → m.2.step (S.st m.1).q (s, m.1, l) = some q' → okA (s, m.1, l) = true → s.length ≤ 50 → l.length ≤ 50 → k ≤ n + 1 →
      Ac ms n S [.str "take", .str m.1, .str s] ⟨updF S.st m.1 { S.st m.1 with sett := updF (S.st m.1).sett s (k, true), off := [], q := q' }, S.net ++ [.taken s m.1 k], S.tk ++ [(s, m.1, l)]⟩
  | withdraw (m : Str × Tab) (t l : Str) (k : Nat) : m ∈ ms → (S.st m.1).w = some (t, k, l) → (S.st m.1).off.length ≤ 1 →
      Ac ms n S [.str "withdraw", .str m.1] ⟨updF S.st m.1 { S.st m.1 with wd := true }, S.net ++ [.back m.1 t k], S.tk⟩
def spPact (K : PySem.W.Frag) : Sp := fun vs H Q _ => ∃ (L : Lf) (ms : Mch) (S S' : Pst) (n : Nat) (mb : Addr) (xs : List V), vs = [.ref L.a, .ref mb] ∧ H mb = some (.tup xs) ∧ PlAt K H L ms S n ∧ Ac ms n S xs S' ∧ S.net.length < 200 ∧ n ≤ 50000 ∧
  ∀ H', Out (L.z ms) H H' → PlAt K H' L ms S' (n + 1) → Q .non H'
theorem sc_Play_act : FnScope ["self", "move", "party", "offers", "message"] ["self", "move"] (defScope s_Play_act) := ⟨rfl, rfl, rfl, by decide +kernel, rfl, by decide +kernel, by decide +kernel⟩
theorem o_Play_act (T : Txt K mg) : OkM P w K mg base CX0 (He.ga K "Play") "act" 5 ["self", "move"] (spPact K) :=
  okm_def T.c_Play T.d_Play_act T.m_Play_act sc_Play_act (fun _ _ _ _ _ _ us hl => match us, hl with | [_, _], _ => rfl) (fun vs H Q E h => by obtain ⟨_, _, _, _, _, _, _, rfl, _⟩ := h; rfl) fun cdv A outer s H vs Q E hr h => by
  obtain ⟨L, ms, S, S', n, mb, xs, rfl, hmb, hP, hac, hroom, hN, hQ⟩ := h
  refine ⟨_, (PSs.nox (pss_cons (ps_set (i := 2) sc_Play_act.nd rfl (by first | exact Or.inl rfl | exact Or.inr rfl) (pe_mt (o_Play_party_of T) (hr.mono (by decide)) (pv 0) (pa_cons (pe_ix (kx_tup (K := K) rfl) (pv 1) pe_int (fun _ _ => rfl)) pa_nil)))
      (pss_cons (ps_expr (pe_mt0 (o_Play_check_room T) (hr.mono (by decide)) (pv 0)))
      (pss_cons (ps_set (i := 3) sc_Play_act.nd rfl (by first | exact Or.inl rfl | exact Or.inr rfl) (pe_mt0 (o_Party_offers T) (hr.mono (by decide)) (pv 2)))
      (pss_cons (ps_if (pt_cmpR op_eq (pe_ix (kx_tup (K := K) rfl) (pv 1) pe_int (fun _ _ => rfl)) pe_str (nomark _)) (pss_one (ps_set (i := 4) sc_Play_act.nd rfl (by first | exact Or.inl rfl | exact Or.inr rfl) (pe_mt (o_Party_post T) (hr.mono (by decide)) (pv 2) (pa_cons (pe_ix (kx_tup (K := K) rfl) (pv 1) pe_int (fun _ _ => rfl)) (pa_cons (pe_ix (kx_tup (K := K) rfl) (pv 1) pe_int (fun _ _ => rfl)) pa_nil))))) (pss_one (ps_if (pt_cmpR op_eq (pe_ix (kx_tup (K := K) rfl) (pv 1) pe_int (fun _ _ => rfl)) pe_str (nomark _)) (pss_cons (ps_set (i := 4) sc_Play_act.nd rfl (by first | exact Or.inl rfl | exact Or.inr rfl) (pe_mt (o_Party_take T) (hr.mono (by decide)) (pv 2) (pa_cons (pe_ix (kx_tup (K := K) rfl) (pv 1) pe_int (fun _ _ => rfl)) pa_nil)))
      (pss_one (ps_expr (pe_bm PySem.F.plainAttrs_list PySem.F.slot_list_append PySem.F.type_list_append mt_append (ke_fld (K := K) rfl (pv 0) rfl) (pa_cons (pe_tup (pa_cons (pe_ix (kx_tup (K := K) rfl) (pv 1) pe_int (fun _ _ => rfl)) (pa_cons (pe_ix (kx_tup (K := K) rfl) (pv 1) pe_int (fun _ _ => rfl)) (pa_cons (pe_dget (ru1 hr) (pv 3) (pe_ix (kx_tup (K := K) rfl) (pv 1) pe_int (fun _ _ => rfl)) (fun _ _ => rfl)) pa_nil)))) pa_nil))))) (pss_one (ps_if (pt_cmpR op_eq (pe_ix (kx_tup (K := K) rfl) (pv 1) pe_int (fun _ _ => rfl)) pe_str (nomark _)) (pss_one (ps_set (i := 4) sc_Play_act.nd rfl (by first | exact Or.inl rfl | exact Or.inr rfl) (pe_mt0 (o_Party_withdraw T) (hr.mono (by decide)) (pv 2)))) (pss_one (ps_if (pt_cmpR op_eq (pe_ix (kx_tup (K := K) rfl) (pv 1) pe_int (fun _ _ => rfl)) pe_str (nomark _)) (pss_one (ps_set (i := 4) sc_Play_act.nd rfl (by first | exact Or.inl rfl | exact Or.inr rfl) (pe_mt0 (o_Party_again T) (hr.mono (by decide)) (pv 2)))) (pss_one ps_never))))))))
      (pss_one (ps_expr (pe_bm PySem.F.plainAttrs_list PySem.F.slot_list_append PySem.F.type_list_append mt_append (ke_fld (K := K) rfl (pv 0) rfl) (pa_cons (pv 4) pa_nil))))))))), ?_⟩
  have big : (400000 : Nat) < sizeLine := by decide
  have e_pp : decide (V.str "post" = V.str "post") = true := by decide +kernel
  have e_tp : decide (V.str "take" = V.str "post") = false := by decide +kernel
  have e_wp : decide (V.str "withdraw" = V.str "post") = false := by decide +kernel
  have e_tt : decide (V.str "take" = V.str "take") = true := by decide +kernel
  have e_wt : decide (V.str "withdraw" = V.str "take") = false := by decide +kernel
  have e_ww : decide (V.str "withdraw" = V.str "withdraw") = true := by decide +kernel
  obtain ⟨mv, nv, tv, R⟩ := id hP
  have hnl := Paired.length R.nv
  have htl0 := Paired.length R.tv
  cases hac with
  | post m t l hm hw hq hoff hst hok htl hll =>
    have hPa := R.pa m hm
    obtain ⟨mv', wv, j, pk, sk, ok, R'⟩ := id hPa
    refine ⟨_, rfl, L.a, _, _, rfl, R.ob, plM_party_of .., _, rfl, mb, _, _, _, rfl, rfl, SqT.of hmb, atI_nat (j := 1) rfl, L, ms, S, n, m, rfl, hP, hm, ?_⟩
    refine ⟨_, rfl, L.a, _, _, rfl, R.ob, plM_check_room .., L, ms, S, n, rfl, hP, hroom, ?_⟩
    refine ⟨_, rfl, (L.fs m.1).a, _, _, rfl, R'.ob, paM_offers .., L.fs m.1, m.1, m.2, _, n, rfl, hPa, hoff, fun d H1 s1 hd0 hd => ?_⟩
    have hmb1 := s1 _ _ hmb
    refine ⟨_, rfl, mb, _, _, _, rfl, rfl, SqT.of hmb1, atI_nat (j := 0) rfl, rfl, _, rfl, ?_⟩
    rw [e_pp]
    have R1 := R.same s1 (Nat.le_refl n)
    have hPa1 := R1.pa m hm
    obtain ⟨mv1, wv1, j1, pk1, sk1, ok1, R1'⟩ := id hPa1
    refine iteT ⟨_, rfl, (L.fs m.1).a, _, _, rfl, R1'.ob, paM_post .., _, rfl, mb, _, _, _, rfl, rfl, SqT.of hmb1, atI_nat (j := 2) rfl, _, rfl, mb, _, _, _, rfl, rfl, SqT.of hmb1, atI_nat (j := 3) rfl, L.fs m.1, m.1, m.2, _, n, t, l, rfl, hPa1, hw, hq, hst, hok, htl, hll, hN, fun b H2 o2 hPa2 hb => ?_⟩
    have R2 := R1.party hm o2 hPa2 (Nat.le_succ n)
    refine ⟨_, rfl, L.a, _, _, _, _, rfl, R2.ob, T.c_Play, T.a_Play__net, plF_net .., .inl ⟨rfl, _, SqL.of R2.nb⟩, _, rfl, L.nb, nv, _, rfl, rfl, R2.nb, by omega, ?_⟩
    exact hQ _ (((Out.of s1).trans (o2.more fun x hx => Lf.mp hm hx)).put (Lf.mc (by simp [Lf.c]))) ⟨_, _, _, R2.net (Paired.snoc R2.nv ⟨b, rfl, hb⟩)⟩
  | take m s0 l k q' hm hw hq hoff hst hok hsl hll hk =>
    have hPa := R.pa m hm
    obtain ⟨mv', wv, j, pk, sk, ok, R'⟩ := id hPa
    refine ⟨_, rfl, L.a, _, _, rfl, R.ob, plM_party_of .., _, rfl, mb, _, _, _, rfl, rfl, SqT.of hmb, atI_nat (j := 1) rfl, L, ms, S, n, m, rfl, hP, hm, ?_⟩
    refine ⟨_, rfl, L.a, _, _, rfl, R.ob, plM_check_room .., L, ms, S, n, rfl, hP, hroom, ?_⟩
    refine ⟨_, rfl, (L.fs m.1).a, _, _, rfl, R'.ob, paM_offers .., L.fs m.1, m.1, m.2, _, n, rfl, hPa, (by rw [hoff]; exact Nat.le_refl _), fun d H1 s1 hd0 hd => ?_⟩
    rw [hoff] at hd
    have hmb1 := s1 _ _ hmb
    refine ⟨_, rfl, mb, _, _, _, rfl, rfl, SqT.of hmb1, atI_nat (j := 0) rfl, rfl, _, rfl, ?_⟩
    rw [e_tp]
    refine iteF ⟨_, rfl, mb, _, _, _, rfl, rfl, SqT.of hmb1, atI_nat (j := 0) rfl, rfl, _, rfl, ?_⟩
    rw [e_tt]
    have R1 := R.same s1 (Nat.le_refl n)
    have hPa1 := R1.pa m hm
    obtain ⟨mv1, wv1, j1, pk1, sk1, ok1, R1'⟩ := id hPa1
    have hdz : d ∉ (L.fs m.1).z := fun hz => hPa.some_ hz hd0
    refine iteT ⟨_, rfl, (L.fs m.1).a, _, _, rfl, R1'.ob, paM_take .., _, rfl, mb, _, _, _, rfl, rfl, SqT.of hmb1, atI_nat (j := 2) rfl, L.fs m.1, m.1, m.2, _, n, s0, l, k, q', rfl, hPa1, hw, hq, hoff, hst, hok, hsl, hll, hk, hN, fun b H2 o2 hPa2 hb => ?_⟩
    have R2 := R1.party hm o2 hPa2 (Nat.le_succ n)
    have hmb2 := hPa1.tp o2 _ _ hmb1
    have hd2 := o2 _ _ hdz hd
    refine ⟨_, rfl, L.a, _, _, _, _, rfl, R2.ob, T.c_Play, T.a_Play__taken, plF_taken .., .inl ⟨rfl, _, SqL.of R2.tb⟩, ?_⟩
    refine ⟨_, rfl, mb, _, _, _, rfl, rfl, SqT.of hmb2, atI_nat (j := 2) rfl, _, rfl, mb, _, _, _, rfl, rfl, SqT.of hmb2, atI_nat (j := 1) rfl, _, rfl, _, rfl, mb, _, _, _, rfl, rfl, SqT.of hmb2, atI_nat (j := 2) rfl, d, .str l, rfl, by have := DGet.k (k := kS s0) hd2; rw [show valV (ofK [(s0, k, l)]) (kS s0) = some (V.str l) from valV_pos rfl] at this; exact this, (by show 3 ≤ sizeLine; omega), fun ub hub => ?_⟩
    have s3 : Same H2 (upd H2 ub (.tup [.str s0, .str m.1, .str l])) := same_new hub
    have R3 := R2.same s3 (Nat.le_refl _)
    have hub3 : (upd H2 ub (.tup [.str s0, .str m.1, .str l])) ub = some (.tup [.str s0, .str m.1, .str l]) := upd_same
    have hb3 := s3 _ _ hb
    generalize upd H2 ub (.tup [.str s0, .str m.1, .str l]) = H3 at s3 R3 hub3 hb3
    have htl := R.tl
    refine ⟨L.tb, tv, _, rfl, rfl, R3.tb, by omega, ?_⟩
    have R4 := R3.take (Paired.snoc R3.tv (⟨ub, rfl, hub3, hok⟩ : ActV H3 (.ref ub) (s0, m.1, l))) (by rw [List.length_append, List.length_singleton]; exact Nat.succ_le_succ htl)
    have hb4 : (upd H3 L.tb (.lst (tv ++ [.ref ub]))) b = some (.tup (Msg.taken s0 m.1 k).vs) := by
      rw [upd_ne (fun e => by rw [e, R3.tb] at hb3; cases hb3)]
      exact hb3
    refine ⟨_, rfl, L.a, _, _, _, _, rfl, R4.ob, T.c_Play, T.a_Play__net, plF_net .., .inl ⟨rfl, _, SqL.of R4.nb⟩, _, rfl, L.nb, nv, _, rfl, rfl, R4.nb, by omega, ?_⟩
    exact hQ _ (((((Out.of s1).trans (o2.more fun x hx => Lf.mp hm hx)).trans (Out.of s3)).put (Lf.mc (by simp [Lf.c]))).put (Lf.mc (by simp [Lf.c]))) ⟨_, _, _, R4.net (Paired.snoc R4.nv ⟨b, rfl, hb4⟩)⟩
  | withdraw m t l k hm hw hoff =>
    have hPa := R.pa m hm
    obtain ⟨mv', wv, j, pk, sk, ok, R'⟩ := id hPa
    refine ⟨_, rfl, L.a, _, _, rfl, R.ob, plM_party_of .., _, rfl, mb, _, _, _, rfl, rfl, SqT.of hmb, atI_nat (j := 1) rfl, L, ms, S, n, m, rfl, hP, hm, ?_⟩
    refine ⟨_, rfl, L.a, _, _, rfl, R.ob, plM_check_room .., L, ms, S, n, rfl, hP, hroom, ?_⟩
    refine ⟨_, rfl, (L.fs m.1).a, _, _, rfl, R'.ob, paM_offers .., L.fs m.1, m.1, m.2, _, n, rfl, hPa, hoff, fun d H1 s1 hd0 hd => ?_⟩
    have hmb1 := s1 _ _ hmb
    refine ⟨_, rfl, mb, _, _, _, rfl, rfl, SqT.of hmb1, atI_nat (j := 0) rfl, rfl, _, rfl, ?_⟩
    rw [e_wp]
    refine iteF ⟨_, rfl, mb, _, _, _, rfl, rfl, SqT.of hmb1, atI_nat (j := 0) rfl, rfl, _, rfl, ?_⟩
    rw [e_wt]
    refine iteF ⟨_, rfl, mb, _, _, _, rfl, rfl, SqT.of hmb1, atI_nat (j := 0) rfl, rfl, _, rfl, ?_⟩
    rw [e_ww]
    have R1 := R.same s1 (Nat.le_refl n)
    have hPa1 := R1.pa m hm
    obtain ⟨mv1, wv1, j1, pk1, sk1, ok1, R1'⟩ := id hPa1
    refine iteT ⟨_, rfl, (L.fs m.1).a, _, _, rfl, R1'.ob, paM_withdraw .., L.fs m.1, m.1, m.2, _, n, t, l, k, rfl, hPa1, hw, fun b H2 o2 hPa2 hb => ?_⟩
    have R2 := (R1.party hm o2 hPa2 (Nat.le_refl n)).same (Same.refl _) (Nat.le_succ n)
    refine ⟨_, rfl, L.a, _, _, _, _, rfl, R2.ob, T.c_Play, T.a_Play__net, plF_net .., .inl ⟨rfl, _, SqL.of R2.nb⟩, _, rfl, L.nb, nv, _, rfl, rfl, R2.nb, by omega, ?_⟩
    exact hQ _ (((Out.of s1).trans (o2.more fun x hx => Lf.mp hm hx)).put (Lf.mc (by simp [Lf.c]))) ⟨_, _, _, R2.net (Paired.snoc R2.nv ⟨b, rfl, hb⟩)⟩
/-- a move -/
inductive Mv (ms : Mch) (n : Nat) (S : Pst) : List V → Pst → Prop where
  | carry (x : Msg) (rest ans : List Msg) (m : Str × Tab) (p' : Pa) : S.net = x :: rest → m ∈ ms → x.dst = m.1 → Hear m.1 m.2 (S.st m.1) x p' ans → (S.st m.1).q < m.2.rows.length → x.s.length ≤ 50 → x.t.length ≤ 50 → x.n ≤ n + 1 → ans.length ≤ 1 →
      Mv ms n S [.str "carry", .int 0] ⟨updF S.st m.1 p', rest ++ ans, S.tk⟩
  | act {xs : List V} {S' : Pst} : Ac ms n S xs S' → Mv ms n S xs S'
def spPdo (K : PySem.W.Frag) : Sp := fun vs H Q _ => ∃ (L : Lf) (ms : Mch) (S S' : Pst) (n : Nat) (mb : Addr) (xs : List V), vs = [.ref L.a, .ref mb] ∧ H mb = some (.tup xs) ∧ PlAt K H L ms S n ∧ Mv ms n S xs S' ∧ S.net.length < 200 ∧ n ≤ 50000 ∧
  ∀ H', Out (L.z ms) H H' → PlAt K H' L ms S' (n + 1) → Q .non H'
theorem sc_Play_do : FnScope ["self", "move", "kind", "message"] ["self", "move"] (defScope s_Play_do) := ⟨rfl, rfl, rfl, by decide +kernel, rfl, by decide +kernel, by decide +kernel⟩
theorem o_Play_do (T : Txt K mg) : OkM P w K mg base CX0 (He.ga K "Play") "do" 6 ["self", "move"] (spPdo K) :=
  okm_def T.c_Play T.d_Play_do T.m_Play_do sc_Play_do (fun _ _ _ _ _ _ us hl => match us, hl with | [_, _], _ => rfl) (fun vs H Q E h => by obtain ⟨_, _, _, _, _, _, _, rfl, _⟩ := h; rfl) fun cdv A outer s H vs Q E hr h => by
  obtain ⟨L, ms, S, S', n, mb, xs, rfl, hmb, hP, hmv, hroom, hN, hQ⟩ := h
  refine ⟨_, (PSs.nox (pss_cons (ps_set (i := 2) sc_Play_do.nd rfl (by first | exact Or.inl rfl | exact Or.inr rfl) (pe_ix (kx_tup (K := K) rfl) (pv 1) pe_int (fun _ _ => rfl)))
      (pss_one (ps_if (pt_cmpR op_eq (pv 2) pe_str (nomark _)) (pss_one ps_never) (pss_one (ps_if (pt_cmpR op_eq (pv 2) pe_str (nomark _)) (pss_cons (ps_expr (pe_mt (o_Play_check_place T) (hr.mono (by decide)) (pv 0) (pa_cons (pe_ix (kx_tup (K := K) rfl) (pv 1) pe_int (fun _ _ => rfl)) pa_nil)))
      (pss_cons (ps_set (i := 3) sc_Play_do.nd rfl (by first | exact Or.inl rfl | exact Or.inr rfl) (pe_bm PySem.F.plainAttrs_list PySem.F.slot_list_pop PySem.F.type_list_pop mt_popAt (ke_fld (K := K) rfl (pv 0) rfl) (pa_cons (pe_ix (kx_tup (K := K) rfl) (pv 1) pe_int (fun _ _ => rfl)) pa_nil)))
      (pss_one (ps_expr (pe_bm PySem.F.plainAttrs_list PySem.F.slot_list_extend PySem.F.type_list_extend mt_extend (ke_fld (K := K) rfl (pv 0) rfl) (pa_cons (pe_mt (o_Party_hear T) (hr.mono (by decide)) (pe_mt (o_Play_party_of T) (hr.mono (by decide)) (pv 0) (pa_cons (pe_cl (o_addressee T) (hr.mono (by decide)) (pa_cons (pv 3) pa_nil)) pa_nil)) (pa_cons (pv 3) pa_nil)) pa_nil)))))) (pss_one (ps_if (pt_cmpR op_eq (pv 2) pe_str (nomark _)) (pss_cons (ps_expr (pe_mt (o_Play_check_place T) (hr.mono (by decide)) (pv 0) (pa_cons (pe_ix (kx_tup (K := K) rfl) (pv 1) pe_int (fun _ _ => rfl)) pa_nil)))
      (pss_one (ps_expr (pe_bm PySem.F.plainAttrs_list PySem.F.slot_list_pop PySem.F.type_list_pop mt_popAt (ke_fld (K := K) rfl (pv 0) rfl) (pa_cons (pe_ix (kx_tup (K := K) rfl) (pv 1) pe_int (fun _ _ => rfl)) pa_nil))))) (pss_one (ps_if (pt_cmpR op_eq (pv 2) pe_str (nomark _)) (pss_cons (ps_expr (pe_mt (o_Play_check_place T) (hr.mono (by decide)) (pv 0) (pa_cons (pe_ix (kx_tup (K := K) rfl) (pv 1) pe_int (fun _ _ => rfl)) pa_nil)))
      (pss_cons ps_never
      (pss_one ps_never))) (pss_one (ps_if (pt_cmpR op_eq (pv 2) pe_str (nomark _)) (pss_one ps_never) (pss_one (ps_expr (pe_mt (o_Play_act T) (hr.mono (by decide)) (pv 0) (pa_cons (pv 1) pa_nil)))))))))))))))), ?_⟩
  have big : (400000 : Nat) < sizeLine := by decide
  obtain ⟨mv, nv, tv, R⟩ := id hP
  have hnl := Paired.length R.nv
  cases hmv with
  | act hac =>
    have hk : ∃ (kd : Str) (ys : List V), xs = .str kd :: ys ∧ decide (V.str kd = V.str "torn") = false ∧ decide (V.str kd = V.str "carry") = false ∧ decide (V.str kd = V.str "lose") = false ∧ decide (V.str kd = V.str "copy") = false ∧ decide (V.str kd = V.str "crash") = false := by
      cases hac with
      | post => exact ⟨_, _, rfl, by decide +kernel, by decide +kernel, by decide +kernel, by decide +kernel, by decide +kernel⟩
      | take => exact ⟨_, _, rfl, by decide +kernel, by decide +kernel, by decide +kernel, by decide +kernel, by decide +kernel⟩
      | withdraw => exact ⟨_, _, rfl, by decide +kernel, by decide +kernel, by decide +kernel, by decide +kernel, by decide +kernel⟩
    obtain ⟨kd, ys, rfl, e1, e2, e3, e4, e5⟩ := hk
    refine ⟨_, rfl, mb, _, _, _, rfl, rfl, SqT.of hmb, atI_nat (j := 0) rfl, ?_⟩
    refine ⟨_, rfl, rfl, _, rfl, ?_⟩
    rw [e1]
    refine iteF ⟨_, rfl, rfl, _, rfl, ?_⟩
    rw [e2]
    refine iteF ⟨_, rfl, rfl, _, rfl, ?_⟩
    rw [e3]
    refine iteF ⟨_, rfl, rfl, _, rfl, ?_⟩
    rw [e4]
    refine iteF ⟨_, rfl, rfl, _, rfl, ?_⟩
    rw [e5]
    refine iteF ⟨_, rfl, L.a, _, _, rfl, R.ob, plM_act .., _, rfl, L, ms, S, S', n, mb, _, rfl, hmb, hP, hac, hroom, hN, hQ⟩
  | carry x rest ans m p' hnet hm hdst hhe hq hsl htl hxn hal =>
    refine ⟨_, rfl, mb, _, _, _, rfl, rfl, SqT.of hmb, atI_nat (j := 0) rfl, ?_⟩
    refine ⟨_, rfl, rfl, _, rfl, ?_⟩
    rw [show decide (V.str "carry" = V.str "torn") = false by decide +kernel]
    refine iteF ⟨_, rfl, rfl, _, rfl, ?_⟩
    rw [show decide (V.str "carry" = V.str "carry") = true by decide +kernel]
    refine iteT ⟨_, rfl, L.a, _, _, rfl, R.ob, plM_check_place .., _, rfl, mb, _, _, _, rfl, rfl, SqT.of hmb, atI_nat (j := 1) rfl, L, ms, S, n, rfl, hP, by rw [hnet]; exact List.cons_ne_nil _ _, ?_⟩
    obtain ⟨y, nv', rfl, hy, hnv'⟩ : ∃ y nv', nv = y :: nv' ∧ MsgV H y x ∧ Paired (MsgV H) nv' rest := by
      have := R.nv
      rw [hnet] at this
      cases this with
      | cons h t => exact ⟨_, _, rfl, h, t⟩
    refine ⟨_, rfl, L.a, _, _, _, _, rfl, R.ob, T.c_Play, T.a_Play__net, plF_net .., .inl ⟨rfl, _, SqL.of R.nb⟩, _, rfl, mb, _, _, _, rfl, rfl, SqT.of hmb, atI_nat (j := 1) rfl, L.nb, _, 0, 0, y, rfl, rfl, R.nb, by decide, by decide, ?_, rfl, ?_⟩
    · exact seqIndex_of (Int.le_refl _) (by rw [List.length_cons]; omega)
    have R1 := R.net hnv'
    have tp1 : Tp H (upd H L.nb (.lst nv')) := (Tp.refl H).put R.nb (fun _ z => nomatch z)
    obtain ⟨b, rfl, hb⟩ := hy
    have hb1 := tp1 _ _ hb
    have o1 : Out (L.z ms) H (upd H L.nb (.lst nv')) := (Out.refl _ _).put (Lf.mc (by simp [Lf.c]))
    show gName 3 _ _ (upd H L.nb (.lst nv')) _
    generalize upd H L.nb (.lst nv') = H1 at R1 tp1 hb1 o1
    have hPa1 := R1.pa m hm
    obtain ⟨mv1, wv1, j1, pk1, sk1, ok1, R1'⟩ := id hPa1
    refine ⟨_, rfl, L.a, _, _, _, _, rfl, R1.ob, T.c_Play, T.a_Play__net, plF_net .., .inl ⟨rfl, _, SqL.of R1.nb⟩, _, rfl, L.a, _, _, rfl, R1.ob, plM_party_of .., _, rfl, b, x, rfl, hb1, L, ms, _, n, m, by rw [hdst] <;> rfl, ⟨_, _, _, R1⟩, hm, ?_⟩
    refine ⟨(L.fs m.1).a, _, _, rfl, R1'.ob, paM_hear .., _, rfl, L.fs m.1, b, m.1, m.2, _, p', n, x, ans, rfl, hPa1, hb1, hhe, hq, hsl, htl, hxn, hN, fun lb H2 ys o2 hPa2 hlb0 hlb hys => ?_⟩
    have R2 := R1.party hm o2 hPa2 (Nat.le_succ n)
    have hyl := Paired.length hys
    have hnl2 := Paired.length hnv'
    refine ⟨L.nb, lb, nv', ys, rfl, rfl, R2.nb, hlb, by rw [hnet, List.length_cons] at hroom; omega, ?_⟩
    refine hQ _ ((o1.trans (o2.more fun x hx => Lf.mp hm hx)).put (Lf.mc (by simp [Lf.c]))) ⟨_, _, _, R2.net (pr_app R2.nv hys)⟩
end Pk
set_option Elab.async false
set_option linter.all false
set_option maxRecDepth 100000
set_option maxHeartbeats 4000000
/-! The defs, 22: a play: empty_net, offer. -/
namespace Pk
open PySem PySem.Spec PyProof.Rows L2
variable {P : Program} {w : World} {K : PySem.W.Frag} {mg : Str → Option Value} {base : Heap}
inductive Em (ms : Mch) : Nat → Pst → Nat → Pst → Prop where
  | nil (n : Nat) (S : Pst) : S.net = [] → Em ms n S 0 S
  | cons {n k : Nat} {S S1 S' : Pst} : Mv ms n S [.str "carry", .int 0] S1 → S.net ≠ [] → S.net.length < 200 → Em ms (n + 1) S1 k S' → Em ms n S (k + 1) S'
theorem Mv.net {ms : Mch} {n : Nat} {S S1 : Pst} (h : Mv ms n S [.str "carry", .int 0] S1) : S.net ≠ [] := by
  cases h with
  | carry x rest ans m p' h => rw [h]; exact List.cons_ne_nil _ _
  | act h => cases h
def spEmpty (K : PySem.W.Frag) : Sp := fun vs H Q _ => ∃ (L : Lf) (ms : Mch) (S S' : Pst) (n k : Nat), vs = [.ref L.a] ∧ PlAt K H L ms S n ∧ Em ms n S k S' ∧ n + k ≤ 50000 ∧
  ∀ H', Out (L.z ms) H H' → PlAt K H' L ms S' (n + k) → Q .non H'
theorem sc_Play_empty_net : FnScope ["self"] ["self"] (defScope s_Play_empty_net) := ⟨rfl, rfl, rfl, by decide +kernel, rfl, by decide +kernel, by decide +kernel⟩
theorem o_Play_empty_net (T : Txt K mg) : OkM P w K mg base CX0 (He.ga K "Play") "empty_net" 7 ["self"] (spEmpty K) :=
  okm_def T.c_Play T.d_Play_empty_net T.m_Play_empty_net sc_Play_empty_net (fun _ _ _ _ _ _ us hl => match us, hl with | [_], _ => rfl) (fun vs H Q E h => by obtain ⟨_, _, _, _, _, _, rfl, _⟩ := h; rfl) fun cdv A outer s H vs Q E hr h => by
  obtain ⟨L, ms, S, S', n, k, rfl, hP, hem, hN, hQ⟩ := h
  refine ⟨_, (PSs.nox (pss_one (ps_while PassesOwn.never (pt_truth (ke_fld (K := K) rfl (pv 0) rfl) (by intro _; rfl)) (pss_one (ps_expr (pe_mt (o_Play_do T) (hr.mono (by decide)) (pv 0) (pa_cons (pe_tup (pa_cons pe_str (pa_cons pe_int pa_nil))) pa_nil))))))), ?_⟩
  refine ⟨fun i σ H' => ∃ S1 n1, n1 + i = n + k ∧ σ = [some (.ref L.a)] ∧ Out (L.z ms) H H' ∧ PlAt K H' L ms S1 n1 ∧ Em ms n1 S1 i S', ⟨k, S, n, rfl, rfl, Out.refl _ _, hP, hem⟩, ?_⟩
  rintro i σ H1 ⟨S1, n1, hn, rfl, o1, hP1, hem1⟩
  obtain ⟨mv, nv, tv, R⟩ := id hP1
  have hnl := Paired.length R.nv
  refine ⟨_, rfl, L.a, _, _, _, _, rfl, R.ob, T.c_Play, T.a_Play__net, plF_net .., !nv.isEmpty, .inl ⟨_, SqL.of R.nb, rfl⟩, ?_⟩
  cases hem1 with
  | nil _ _ hnet =>
    rw [hnet] at hnl
    have : nv = [] := List.length_eq_zero_iff.mp hnl
    rw [this]
    refine iteF ?_
    have : n1 = n + k := by omega
    subst this
    exact hQ _ o1 hP1
  | @cons _ k' _ S2 _ hmv hne hlt hem2 =>
    have : nv ≠ [] := fun e => hne (List.length_eq_zero_iff.mp (by rw [← hnl, e] <;> rfl))
    rw [show (!nv.isEmpty) = true by cases nv with | nil => exact absurd rfl this | cons => rfl]
    refine iteT ⟨fun σ' H' => ∃ m', m' < k' + 1 ∧ ∃ S1 n1, n1 + m' = n + k ∧ σ' = [some (.ref L.a)] ∧ Out (L.z ms) H H' ∧ PlAt K H' L ms S1 n1 ∧ Em ms n1 S1 m' S', fun σ' H' h => h, ?_⟩
    refine ⟨_, rfl, L.a, _, _, rfl, R.ob, plM_do .., (by show 2 ≤ sizeLine; decide), fun ub hub => ?_⟩
    have s2 : Same H1 (upd H1 ub (.tup [.str "carry", .int 0])) := same_new hub
    refine ⟨L, ms, S1, S2, n1, ub, _, rfl, upd_same, hP1.same s2 (Nat.le_refl _), hmv, hlt, by omega, fun H2 o2 hP2 => ?_⟩
    exact ⟨k', by omega, S2, n1 + 1, by omega, rfl, (o1.trans (Out.of s2)).trans o2, hP2, hem2⟩
/-- at rest -/
structure Rest (ms : Mch) (S : Pst) : Prop where
  net : S.net = []
  w : ∀ m ∈ ms, (S.st m.1).w = none
  off : ∀ m ∈ ms, (S.st m.1).off = []
  q : ∀ m ∈ ms, (S.st m.1).q < m.2.rows.length
  ps : ∀ m ∈ ms, ∀ m' ∈ ms, (S.st m.1).post m'.1 = ((S.st m'.1).sett m.1).1
theorem updF_same {β : Type} {g : Str → β} {o : Str} {v : β} : updF g o v o = v := if_pos rfl
theorem updF_ne {β : Type} {g : Str → β} {o x : Str} {v : β} (h : x ≠ o) : updF g o v x = g x := if_neg h
theorem shAll {α : Type} {f : α → PyData} : ∀ {l : List α}, (∀ a ∈ l, (f a).canLay0 = true ∧ (f a).depth ≤ 10) → PyData.canLayAll0 (l.map f) = true ∧ PyData.depthAll (l.map f) ≤ 10
  | [], _ => ⟨by simp [PyData.canLayAll0], by simp [PyData.depthAll]⟩
  | a :: l, h => by
    have h1 := h a List.mem_cons_self
    have h2 := shAll (l := l) fun x hx => h x (List.mem_cons_of_mem _ hx)
    refine ⟨by simp only [List.map_cons, PyData.canLayAll0, h1.1, h2.1]; rfl, ?_⟩
    simp only [List.map_cons, PyData.depthAll]
    exact Nat.max_le.mpr ⟨h1.2, h2.2⟩
theorem shList {α : Type} {f : α → PyData} {l : List α} (h : ∀ a ∈ l, (f a).canLay0 = true ∧ (f a).depth ≤ 10) : SeqAt.shaped (.list (l.map f)) = true := by
  have := shAll h
  unfold SeqAt.shaped
  rw [Bool.and_eq_true_iff]
  refine ⟨by simp only [PyData.canLay0]; exact this.1, decide_eq_true ?_⟩
  simp only [PyData.depth]
  omega
theorem CanE.sh {e : CanE} (h : e.ok = true) : e.d.canLay0 = true ∧ e.d.depth ≤ 10 := by
  have k1 : PyData.strOk "post" = true := by decide +kernel
  have k2 : PyData.strOk "take" = true := by decide +kernel
  cases e with
  | post t l =>
    have h : (PyData.strOk t && PyData.strOk l) = true := h
    rw [Bool.and_eq_true_iff] at h
    simp [CanE.d, PyData.canLay0, PyData.canLayAll0, PyData.depth, PyData.depthAll, h.1, h.2, k1]
  | take s =>
    have h : PyData.strOk s = true := h
    simp [CanE.d, PyData.canLay0, PyData.canLayAll0, PyData.depth, PyData.depthAll, h, k2]
theorem canE_eqv (e : CanE) (s : Str) : PyData.eqv e.d (CanE.take s).d = true ↔ e = .take s := by
  cases e with
  | post t l => simp [CanE.d, PyData.eqv, PyData.eqvAll]
  | take t => simp [CanE.d, PyData.eqv, PyData.eqvAll]
theorem canE_any (es : List CanE) (s : Str) : ((es.map CanE.d).any fun z => PyData.eqv z (CanE.take s).d) = true ↔ CanE.take s ∈ es := by
  rw [List.any_eq_true]
  constructor
  · rintro ⟨z, hz, h⟩
    obtain ⟨e, he, rfl⟩ := List.mem_map.mp hz
    rw [← (canE_eqv e s).mp h]
    exact he
  · intro h
    exact ⟨_, List.mem_map_of_mem h, (canE_eqv _ s).mpr rfl⟩
theorem dpAll_can {H : Hp} : ∀ {ys : List V} {es : List CanE}, Paired (CanV H) ys es → DpAll K H ys (es.map CanE.d)
  | _, _, .nil => .nil
  | _, _, .cons h t => .cons h.dp (dpAll_can t)
end Pk
set_option Elab.async false
set_option linter.all false
set_option maxRecDepth 100000
set_option maxHeartbeats 4000000
/-! The defs, 23: a play: offer. -/
namespace Pk
open PySem PySem.Spec PyProof.Rows L2
variable {P : Program} {w : World} {K : PySem.W.Frag} {mg : Str → Option Value} {base : Heap}
def spOffer (K : PySem.W.Frag) : Sp := fun vs H Q _ => ∃ (L : Lf) (ms : Mch) (S : Pst) (n : Nat) (sm tm : Str × Tab) (l : Str) (qs : Nat), vs = [.ref L.a, .str sm.1, .str tm.1, .str l] ∧ PlAt K H L ms S n ∧ Rest ms S ∧ sm ∈ ms ∧ tm ∈ ms ∧ sm.1 ≠ tm.1 ∧
  sm.2.step (S.st sm.1).q (sm.1, tm.1, l) = some qs ∧ okA (sm.1, tm.1, l) = true ∧ sm.1.length ≤ 50 ∧ tm.1.length ≤ 50 ∧ l.length ≤ 50 ∧ n + 5 ≤ 50000 ∧ Wf sm.2 ∧ Wf tm.2 ∧ (tm.2.row (S.st tm.1).q).length ≤ 5000 ∧ (∀ e ∈ tm.2.row (S.st tm.1).q, con e.1 tm.1 = true) ∧
  (∀ qt, tm.2.step (S.st tm.1).q (sm.1, tm.1, l) = some qt → ∀ H' S', Out (L.z ms) H H' → PlAt K H' L ms S' (n + 5) → Rest ms S' → (∀ x, (S'.st x).q = if x = sm.1 then qs else if x = tm.1 then qt else (S.st x).q) → S'.tk = S.tk ++ [(sm.1, tm.1, l)] → Q (.bl true) H') ∧
  (tm.2.step (S.st tm.1).q (sm.1, tm.1, l) = none → ∀ H' S', Out (L.z ms) H H' → PlAt K H' L ms S' (n + 5) → Rest ms S' → (∀ x, (S'.st x).q = (S.st x).q) → S'.tk = S.tk → Q (.bl false) H')
theorem shaped1 {d : PyData} (h : d.canLay0 = true ∧ d.depth ≤ 10) : SeqAt.shaped d = true := by
  unfold SeqAt.shaped
  rw [Bool.and_eq_true_iff]
  exact ⟨h.1, decide_eq_true (by omega)⟩
/-- at rest again -/
theorem rest_of {ms : Mch} {S S' : Pst} (h : Rest ms S) {s0 t0 : Str} {Ms Mt : Tab} (hs : (s0, Ms) ∈ ms) (ht : (t0, Mt) ∈ ms) (hne : s0 ≠ t0) {a b : Pa} (ea : S'.st s0 = a) (eb : S'.st t0 = b) (ex : ∀ x, x ≠ s0 → x ≠ t0 → S'.st x = S.st x) (net : S'.net = [])
    (nd : (ms.map (·.1)).Nodup) (N : Nat) (fl : Bool) (aw : a.w = none) (ao : a.off = []) (aq : a.q < Ms.rows.length) (ap : a.post = updF (S.st s0).post t0 (N + 1)) (as_ : a.sett = (S.st s0).sett)
    (bw : b.w = none) (bo : b.off = []) (bq : b.q < Mt.rows.length) (bp : b.post = (S.st t0).post) (bs : b.sett = updF (S.st t0).sett s0 (N + 1, fl)) : Rest ms S' := by
  have post : ∀ x y, (S'.st x).post y = if x = s0 ∧ y = t0 then N + 1 else (S.st x).post y := fun x y => by
    by_cases c1 : x = s0
    · subst c1
      rw [ea, ap]
      unfold updF
      by_cases c2 : y = t0
      · rw [if_pos c2, if_pos ⟨rfl, c2⟩]
      · rw [if_neg c2, if_neg (fun e => c2 e.2)]
    · rw [if_neg (fun e => c1 e.1)]
      by_cases c2 : x = t0
      · subst c2; rw [eb, bp]
      · rw [ex x c1 c2]
  have sett : ∀ x y, ((S'.st x).sett y).1 = if x = t0 ∧ y = s0 then N + 1 else ((S.st x).sett y).1 := fun x y => by
    by_cases c1 : x = t0
    · subst c1
      rw [eb, bs]
      unfold updF
      by_cases c2 : y = s0
      · rw [if_pos c2, if_pos ⟨rfl, c2⟩]
      · rw [if_neg c2, if_neg (fun e => c2 e.2)]
    · rw [if_neg (fun e => c1 e.1)]
      by_cases c2 : x = s0
      · subst c2; rw [ea, as_]
      · rw [ex x c2 c1]
  have cas : ∀ (F : Pa → Tab → Prop), F a Ms → F b Mt → (∀ m ∈ ms, F (S.st m.1) m.2) → ∀ m ∈ ms, F (S'.st m.1) m.2 := fun F h1 h2 h3 m hm => by
    by_cases c1 : m.1 = s0
    · have : m = (s0, Ms) := mem_ms nd hm hs c1
      subst this
      rw [show S'.st (s0, Ms).1 = a from ea]
      exact h1
    · by_cases c2 : m.1 = t0
      · have : m = (t0, Mt) := mem_ms nd hm ht c2
        subst this
        rw [show S'.st (t0, Mt).1 = b from eb]
        exact h2
      · rw [ex m.1 c1 c2]
        exact h3 m hm
  refine ⟨net, cas (fun p _ => p.w = none) aw bw h.w, cas (fun p _ => p.off = []) ao bo h.off, cas (fun p M => p.q < M.rows.length) aq bq h.q, fun m hm m' hm' => ?_⟩
  rw [post, sett]
  by_cases c : m.1 = s0 ∧ m'.1 = t0
  · rw [if_pos c, if_pos ⟨c.2, c.1⟩]
  · rw [if_neg c, if_neg (fun e => c ⟨e.2, e.1⟩)]
    exact h.ps m hm m' hm'
theorem sc_Play_offer : FnScope ["self", "sender", "taker", "label"] ["self", "sender", "taker", "label"] (defScope s_Play_offer) := ⟨rfl, rfl, rfl, by decide +kernel, rfl, by decide +kernel, by decide +kernel⟩
theorem o_Play_offer (T : Txt K mg) : OkM P w K mg base CX0 (He.ga K "Play") "offer" 8 ["self", "sender", "taker", "label"] (spOffer K) :=
  okm_def T.c_Play T.d_Play_offer T.m_Play_offer sc_Play_offer (fun _ _ _ _ _ _ us hl => match us, hl with | [_, _, _, _], _ => rfl) (fun vs H Q E h => by obtain ⟨_, _, _, _, _, _, _, _, rfl, _⟩ := h; rfl) fun cdv A outer s H vs Q E hr h => by
  obtain ⟨L, ms, S, n, ⟨s0, Ms⟩, ⟨t0, Mt⟩, l, qs, rfl, hP, hrest, hsm, htm, hst, hstep, hok, hsl, htl, hll, hN, hws, hwt, hrow, hcon, hQ1, hQ2⟩ := h
  have hst : s0 ≠ t0 := hst
  refine ⟨_, (PSs.nox (pss_cons (ps_expr (pe_mt (o_Play_do T) (hr.mono (by decide)) (pv 0) (pa_cons (pe_tup (pa_cons pe_str (pa_cons (pv 1) (pa_cons (pv 2) (pa_cons (pv 3) pa_nil))))) pa_nil)))
      (pss_cons (ps_expr (pe_mt0 (o_Play_empty_net T) (hr.mono (by decide)) (pv 0)))
      (pss_cons (ps_if (pt_cmpR (ko_inD (K := K) rfl (ru65 hr)) (pe_tup (pa_cons pe_str (pa_cons (pv 1) pa_nil))) (pe_mt (o_Play_can T) (hr.mono (by decide)) (pv 0) (pa_cons (pv 2) pa_nil)) rfl) (pss_cons (ps_expr (pe_mt (o_Play_do T) (hr.mono (by decide)) (pv 0) (pa_cons (pe_tup (pa_cons pe_str (pa_cons (pv 2) (pa_cons (pv 1) pa_nil)))) pa_nil)))
      (pss_cons (ps_expr (pe_mt0 (o_Play_empty_net T) (hr.mono (by decide)) (pv 0)))
      (pss_one (ps_ret pe_bl)))) pss_nil)
      (pss_cons (ps_expr (pe_mt (o_Play_do T) (hr.mono (by decide)) (pv 0) (pa_cons (pe_tup (pa_cons pe_str (pa_cons (pv 1) pa_nil))) pa_nil)))
      (pss_cons (ps_expr (pe_mt0 (o_Play_empty_net T) (hr.mono (by decide)) (pv 0)))
      (pss_one (ps_ret pe_bl)))))))), ?_⟩
  have big : (400000 : Nat) < sizeLine := by decide
  obtain ⟨mv, nv, tv, R⟩ := id hP
  have hwS : (S.st s0).w = none := hrest.w _ hsm
  have hwT : (S.st t0).w = none := hrest.w _ htm
  have hoS : (S.st s0).off = [] := hrest.off _ hsm
  have hoT : (S.st t0).off = [] := hrest.off _ htm
  have hqS : (S.st s0).q < Ms.rows.length := hrest.q _ hsm
  have hqT : (S.st t0).q < Mt.rows.length := hrest.q _ htm
  have hpsN : (S.st s0).post t0 = ((S.st t0).sett s0).1 := hrest.ps _ hsm _ htm
  have hNn : (S.st s0).post t0 ≤ n := by
    obtain ⟨_, _, _, _, _, _, r⟩ := R.pa _ hsm
    exact r.pn t0
  have hok3 := hok
  unfold okA at hok3
  simp only [Bool.and_eq_true] at hok3
  -- the letter is posted
  refine ⟨_, rfl, L.a, _, _, rfl, R.ob, plM_do .., _, rfl, _, rfl, _, rfl, (by show 4 ≤ sizeLine; omega), fun ub hub => ?_⟩
  have u1 : Same H (upd H ub (.tup [.str "post", .str s0, .str t0, .str l])) := same_new hub
  generalize hN0 : (S.st s0).post t0 = N at *
  have a1 : Mv ms n S [.str "post", .str s0, .str t0, .str l] ⟨updF S.st s0 { S.st s0 with post := updF (S.st s0).post t0 (N + 1), w := some (t0, N + 1, l), wd := false }, [.letter s0 t0 (N + 1) l], S.tk⟩ := by
    have := Mv.act (Ac.post (ms := ms) (n := n) (S := S) (s0, Ms) t0 l hsm hwS hqS (by show (S.st s0).off.length ≤ 1; rw [hoS]; exact Nat.zero_le _) (by rw [hstep]; rfl) hok htl hll)
    rw [hrest.net] at this
    rw [← hN0]
    exact this
  refine ⟨L, ms, S, _, n, ub, _, rfl, upd_same, hP.same u1 (Nat.le_refl _), a1, by rw [hrest.net]; exact Nat.zero_lt_succ _, by omega, fun H1 o1 hP1 => ?_⟩
  have o1 := (Out.of u1).trans o1
  -- it comes
  obtain ⟨mv1, nv1, tv1, R1⟩ := id hP1
  generalize hp1 : ({ S.st s0 with post := updF (S.st s0).post t0 (N + 1), w := some (t0, N + 1, l), wd := false } : Pa) = p1 at *
  have et1 : updF S.st s0 p1 t0 = S.st t0 := updF_ne hst.symm
  have e1 : Em ms (n + 1) ⟨updF S.st s0 p1, [.letter s0 t0 (N + 1) l], S.tk⟩ 1 ⟨updF (updF S.st s0 p1) t0 { S.st t0 with off := [(s0, N + 1, l)] }, [], S.tk⟩ := by
    refine .cons (S1 := ⟨updF (updF S.st s0 p1) t0 { S.st t0 with off := [(s0, N + 1, l)] }, [], S.tk⟩) ?_ (List.cons_ne_nil _ _) (by show 1 < 200; decide) (.nil _ _ rfl)
    have := Mv.carry (ms := ms) (n := n + 1) (S := ⟨updF S.st s0 p1, [.letter s0 t0 (N + 1) l], S.tk⟩) (.letter s0 t0 (N + 1) l) [] [] (t0, Mt) { S.st t0 with off := [(s0, N + 1, l)] } rfl htm rfl (by
      show Hear t0 Mt (updF S.st s0 p1 t0) _ _ _
      rw [et1]
      exact .letter s0 (N + 1) l hst hoT (by omega)) (by show (updF S.st s0 p1 t0).q < _; rw [et1]; exact hqT) hsl htl (by show N + 1 ≤ n + 1 + 1; omega) (Nat.zero_le _)
    exact this
  refine ⟨_, rfl, L.a, _, _, rfl, R1.ob, plM_empty_net .., L, ms, _, _, n + 1, 1, rfl, hP1, e1, by omega, fun H2 o2 hP2 => ?_⟩
  have o2 := o1.trans o2
  obtain ⟨mv2, nv2, tv2, R2⟩ := id hP2
  generalize hp2 : ({ S.st t0 with off := [(s0, N + 1, l)] } : Pa) = p2 at *
  have es2 : updF (updF S.st s0 p1) t0 p2 s0 = p1 := by rw [updF_ne hst, updF_same]
  have et2 : updF (updF S.st s0 p1) t0 p2 t0 = p2 := updF_same
  have ex2 : ∀ x, x ≠ s0 → x ≠ t0 → updF (updF S.st s0 p1) t0 p2 x = S.st x := fun x h1 h2 => by rw [updF_ne h2, updF_ne h1]
  generalize updF (updF S.st s0 p1) t0 p2 = st2 at *
  have p2w : p2.w = none := by rw [← hp2]; exact hwT
  have p2q : p2.q = (S.st t0).q := by rw [← hp2]
  have p2o : p2.off = [(s0, N + 1, l)] := by rw [← hp2]
  -- can the taker take it?
  refine ⟨_, rfl, (by show 2 ≤ sizeLine; omega), fun kb hkb => ?_⟩
  have u3 : Same H2 (upd H2 kb (.tup [.str "take", .str s0])) := same_new hkb
  have hkb3 : (upd H2 kb (.tup [.str "take", .str s0])) kb = some (.tup (CanE.take s0).vs) := upd_same
  have R3 := R2.same u3 (Nat.le_refl _)
  generalize upd H2 kb (.tup [.str "take", .str s0]) = H3 at u3 hkb3 R3
  refine ⟨_, rfl, L.a, _, _, rfl, R3.ob, plM_can .., _, rfl, L, ms, _, n + 2, (t0, Mt), rfl, ⟨_, _, _, R3⟩, htm, by show (st2 t0).w = none; rw [et2]; exact p2w, by show (st2 t0).q < _; rw [et2, p2q]; exact hqT, by show (st2 t0).off.length ≤ 1; rw [et2, p2o]; exact Nat.le_refl _, by show (Mt.row (st2 t0).q).length ≤ _; rw [et2, p2q]; exact hrow, fun b H4 ys es u4 hb0 hb hys hcan => ?_⟩
  have hcan : CanOk t0 Mt (st2 t0) es := hcan
  rw [et2] at hcan
  have hkb4 := u4 _ _ hkb3
  have R4 := R3.same u4 (Nat.le_refl _)
  have o4 := (o2.trans (Out.of u3)).trans (Out.of u4)
  refine ⟨(CanE.take s0).d, es.map CanE.d, CanV.dp (show CanV H4 (.ref kb) (.take s0) from ⟨kb, rfl, hkb4⟩), .lst (SqL.of hb) (dpAll_can hys), shaped1 (CanE.sh (e := .take s0) hok3.1.1), shList fun e he => CanE.sh (hcan.ok e he), _, rfl, ?_⟩
  have key : CanE.take s0 ∈ es ↔ ∃ qt, Mt.step (S.st t0).q (s0, t0, l) = some qt := by
    rw [hcan.take s0, p2q]
    constructor
    · rintro ⟨_, k, l', t', g, h1, h2⟩
      rw [p2o, List.mem_singleton] at h1
      cases h1
      have := hcon _ h2
      have : t' = t0 := by simpa [con, hst] using this
      subst this
      exact ⟨g, nx_some (hwt.keys _ (row_mem h2)) h2⟩
    · rintro ⟨qt, h⟩
      exact ⟨hst, N + 1, l, t0, qt, by rw [p2o]; exact List.mem_singleton.mpr rfl, nx_mem h⟩
  refine ite2 (fun c => ?_) (fun c => ?_)
  · obtain ⟨qt, hqt⟩ := key.mp ((canE_any es s0).mp c)
    refine ⟨_, rfl, L.a, _, _, rfl, R4.ob, plM_do .., _, rfl, _, rfl, (by show 3 ≤ sizeLine; omega), fun vb hvb => ?_⟩
    have u5 : Same H4 (upd H4 vb (.tup [.str "take", .str t0, .str s0])) := same_new hvb
    have a3 : Mv ms (n + 2) ⟨st2, [], S.tk⟩ [.str "take", .str t0, .str s0] ⟨updF st2 t0 { p2 with sett := updF p2.sett s0 (N + 1, true), off := [], q := qt }, [.taken s0 t0 (N + 1)], S.tk ++ [(s0, t0, l)]⟩ := by
      have := Mv.act (Ac.take (ms := ms) (n := n + 2) (S := ⟨st2, [], S.tk⟩) (t0, Mt) s0 l (N + 1) qt htm (by show (st2 t0).w = none; rw [et2]; exact p2w) (by show (st2 t0).q < _; rw [et2, p2q]; exact hqT) (by show (st2 t0).off = _; rw [et2, p2o]) (by show Mt.step (st2 t0).q _ = _; rw [et2, p2q]; exact hqt) hok hsl hll (by omega))
      have k3 : ∀ p, st2 t0 = p → Mv ms (n + 2) ⟨st2, [], S.tk⟩ [.str "take", .str t0, .str s0] ⟨updF st2 t0 { p with sett := updF p.sett s0 (N + 1, true), off := [], q := qt }, [.taken s0 t0 (N + 1)], S.tk ++ [(s0, t0, l)]⟩ := fun p e => by subst e; exact this
      exact k3 p2 et2
    refine ⟨L, ms, _, _, n + 2, vb, _, rfl, upd_same, ⟨_, _, _, R4.same u5 (Nat.le_refl _)⟩, a3, by show 0 < 200; decide, by omega, fun H5 o5 hP5 => ?_⟩
    have o5 := (o4.trans (Out.of u5)).trans o5
    generalize hp3 : ({ p2 with sett := updF p2.sett s0 (N + 1, true), off := [], q := qt } : Pa) = p3 at *
    have es3 : updF st2 t0 p3 s0 = p1 := by rw [updF_ne hst, es2]
    have et3 : updF st2 t0 p3 t0 = p3 := updF_same
    have ex3 : ∀ x, x ≠ s0 → x ≠ t0 → updF st2 t0 p3 x = S.st x := fun x h1 h2 => by rw [updF_ne h2, ex2 x h1 h2]
    generalize updF st2 t0 p3 = st3 at *
    have p1w : p1.w = some (t0, N + 1, l) := by rw [← hp1]
    have p1q : p1.q = (S.st s0).q := by rw [← hp1]
    have e5 : Em ms (n + 3) ⟨st3, [.taken s0 t0 (N + 1)], S.tk ++ [(s0, t0, l)]⟩ 1 ⟨updF st3 s0 { p1 with w := none, q := qs }, [], S.tk ++ [(s0, t0, l)]⟩ := by
      refine .cons (S1 := ⟨updF st3 s0 { p1 with w := none, q := qs }, [], S.tk ++ [(s0, t0, l)]⟩) ?_ (List.cons_ne_nil _ _) (by show 1 < 200; decide) (.nil _ _ rfl)
      exact Mv.carry (ms := ms) (n := n + 3) (S := ⟨st3, [.taken s0 t0 (N + 1)], S.tk ++ [(s0, t0, l)]⟩) (.taken s0 t0 (N + 1)) [] [] (s0, Ms) { p1 with w := none, q := qs } rfl hsm rfl (by
        show Hear s0 Ms (st3 s0) _ _ _
        rw [es3]
        exact .taken t0 (N + 1) l qs hst.symm p1w (by rw [p1q]; exact hstep) hok hll) (by show (st3 s0).q < _; rw [es3, p1q]; exact hqS) hsl htl (by show N + 1 ≤ n + 3 + 1; omega) (Nat.zero_le _)
    obtain ⟨mv5, nv5, tv5, R5⟩ := id hP5
    refine ⟨_, rfl, L.a, _, _, rfl, R5.ob, plM_empty_net .., L, ms, _, _, n + 3, 1, rfl, hP5, e5, by omega, fun H6 o6 hP6 => ?_⟩
    have o6 := o5.trans o6
    generalize hp4 : ({ p1 with w := none, q := qs } : Pa) = p4 at *
    have fs : updF st3 s0 p4 s0 = p4 := updF_same
    have ft : updF st3 s0 p4 t0 = p3 := by rw [updF_ne hst.symm, et3]
    have fx : ∀ x, x ≠ s0 → x ≠ t0 → updF st3 s0 p4 x = S.st x := fun x h1 h2 => by rw [updF_ne h1, ex3 x h1 h2]
    refine hQ1 qt hqt H6 _ o6 (hP6.same (Same.refl _) (by omega)) (rest_of hrest hsm htm hst fs ft fx rfl R.nd N true ?_ ?_ ?_ ?_ ?_ ?_ ?_ ?_ ?_ ?_) (fun x => ?_) rfl
    · rw [← hp4]
    · rw [← hp4, ← hp1]; exact hoS
    · rw [← hp4]; exact step_lt hws hstep
    · rw [← hp4, ← hp1]
    · rw [← hp4, ← hp1]
    · rw [← hp3]; exact p2w
    · rw [← hp3]
    · rw [← hp3]; exact step_lt hwt hqt
    · rw [← hp3, ← hp2]
    · rw [← hp3, ← hp2]
    · by_cases c1 : x = s0
      · subst c1
        rw [if_pos rfl]
        show (updF st3 x p4 x).q = _
        rw [fs, ← hp4]
      · rw [if_neg c1]
        by_cases c2 : x = t0
        · subst c2
          rw [if_pos rfl]
          show (updF st3 s0 p4 x).q = _
          rw [ft, ← hp3]
        · rw [if_neg c2]
          show (updF st3 s0 p4 x).q = _
          rw [fx x c1 c2]
  · have hno : Mt.step (S.st t0).q (s0, t0, l) = none := by
      cases hz : Mt.step (S.st t0).q (s0, t0, l) with
      | none => rfl
      | some qt => exact absurd ((canE_any es s0).mpr (key.mpr ⟨qt, hz⟩)) c
    refine ⟨_, rfl, L.a, _, _, rfl, R4.ob, plM_do .., _, rfl, (by show 2 ≤ sizeLine; omega), fun vb hvb => ?_⟩
    have u5 : Same H4 (upd H4 vb (.tup [.str "withdraw", .str s0])) := same_new hvb
    have p1w : p1.w = some (t0, N + 1, l) := by rw [← hp1]
    have p1q : p1.q = (S.st s0).q := by rw [← hp1]
    have p1o : p1.off = [] := by rw [← hp1]; exact hoS
    have a3 : Mv ms (n + 2) ⟨st2, [], S.tk⟩ [.str "withdraw", .str s0] ⟨updF st2 s0 { p1 with wd := true }, [.back s0 t0 (N + 1)], S.tk⟩ := by
      have := Mv.act (Ac.withdraw (ms := ms) (n := n + 2) (S := ⟨st2, [], S.tk⟩) (s0, Ms) t0 l (N + 1) hsm (by show (st2 s0).w = _; rw [es2]; exact p1w) (by show (st2 s0).off.length ≤ 1; rw [es2, p1o]; exact Nat.zero_le _))
      have k3 : ∀ p, st2 s0 = p → Mv ms (n + 2) ⟨st2, [], S.tk⟩ [.str "withdraw", .str s0] ⟨updF st2 s0 { p with wd := true }, [.back s0 t0 (N + 1)], S.tk⟩ := fun p e => by subst e; exact this
      exact k3 p1 es2
    refine ⟨L, ms, _, _, n + 2, vb, _, rfl, upd_same, ⟨_, _, _, R4.same u5 (Nat.le_refl _)⟩, a3, by show 0 < 200; decide, by omega, fun H5 o5 hP5 => ?_⟩
    have o5 := (o4.trans (Out.of u5)).trans o5
    generalize hp3 : ({ p1 with wd := true } : Pa) = p3 at *
    have es3 : updF st2 s0 p3 s0 = p3 := updF_same
    have et3 : updF st2 s0 p3 t0 = p2 := by rw [updF_ne hst.symm, et2]
    have ex3 : ∀ x, x ≠ s0 → x ≠ t0 → updF st2 s0 p3 x = S.st x := fun x h1 h2 => by rw [updF_ne h1, ex2 x h1 h2]
    generalize updF st2 s0 p3 = st3 at *
    have p3w : p3.w = some (t0, N + 1, l) := by rw [← hp3]; exact p1w
    have p2s : (p2.sett s0).1 = N := by rw [← hp2]; exact hpsN.symm
    have e5 : Em ms (n + 3) ⟨st3, [.back s0 t0 (N + 1)], S.tk⟩ 2 ⟨updF (updF st3 t0 { p2 with sett := updF p2.sett s0 (N + 1, false), off := [] }) s0 { p3 with w := none }, [], S.tk⟩ := by
      refine .cons (S1 := ⟨updF st3 t0 { p2 with sett := updF p2.sett s0 (N + 1, false), off := [] }, [.gone s0 t0 (N + 1)], S.tk⟩) ?_ (List.cons_ne_nil _ _) (by show 1 < 200; decide) (.cons (S1 := ⟨updF (updF st3 t0 { p2 with sett := updF p2.sett s0 (N + 1, false), off := [] }) s0 { p3 with w := none }, [], S.tk⟩) ?_ (List.cons_ne_nil _ _) (by show 1 < 200; decide) (.nil _ _ rfl))
      · exact Mv.carry (ms := ms) (n := n + 3) (S := ⟨st3, [.back s0 t0 (N + 1)], S.tk⟩) (.back s0 t0 (N + 1)) [] [.gone s0 t0 (N + 1)] (t0, Mt) _ rfl htm rfl (by
          show Hear t0 Mt (st3 t0) _ _ _
          rw [et3]
          exact .back s0 (N + 1) l hst p2o (by rw [p2s]; omega)) (by show (st3 t0).q < _; rw [et3, p2q]; exact hqT) hsl htl (by show N + 1 ≤ n + 3 + 1; omega) (Nat.le_refl _)
      · have e6 : updF st3 t0 { p2 with sett := updF p2.sett s0 (N + 1, false), off := [] } s0 = p3 := by rw [updF_ne hst, es3]
        exact Mv.carry (ms := ms) (n := n + 3 + 1) (S := ⟨updF st3 t0 { p2 with sett := updF p2.sett s0 (N + 1, false), off := [] }, [.gone s0 t0 (N + 1)], S.tk⟩) (.gone s0 t0 (N + 1)) [] [] (s0, Ms) { p3 with w := none } rfl hsm rfl (by
          show Hear s0 Ms (updF st3 t0 _ s0) _ _ _
          rw [e6]
          exact .gone t0 (N + 1) l hst.symm p3w hok3.1.2 hll) (by show (updF st3 t0 _ s0).q < _; rw [e6, ← hp3, p1q]; exact hqS) hsl htl (by show N + 1 ≤ n + 3 + 1 + 1; omega) (Nat.zero_le _)
    obtain ⟨mv5, nv5, tv5, R5⟩ := id hP5
    refine ⟨_, rfl, L.a, _, _, rfl, R5.ob, plM_empty_net .., L, ms, _, _, n + 3, 2, rfl, hP5, e5, by omega, fun H6 o6 hP6 => ?_⟩
    have o6 := o5.trans o6
    generalize hp5 : ({ p2 with sett := updF p2.sett s0 (N + 1, false), off := [] } : Pa) = p5 at *
    generalize hp4 : ({ p3 with w := none } : Pa) = p4 at *
    have fs : updF (updF st3 t0 p5) s0 p4 s0 = p4 := updF_same
    have ft : updF (updF st3 t0 p5) s0 p4 t0 = p5 := by rw [updF_ne hst.symm, updF_same]
    have fx : ∀ x, x ≠ s0 → x ≠ t0 → updF (updF st3 t0 p5) s0 p4 x = S.st x := fun x h1 h2 => by rw [updF_ne h1, updF_ne h2, ex3 x h1 h2]
    refine hQ2 hno H6 _ o6 hP6 (rest_of hrest hsm htm hst fs ft fx rfl R.nd N false ?_ ?_ ?_ ?_ ?_ ?_ ?_ ?_ ?_ ?_) (fun x => ?_) rfl
    · rw [← hp4]
    · rw [← hp4, ← hp3]; exact p1o
    · rw [← hp4, ← hp3, p1q]; exact hqS
    · rw [← hp4, ← hp3, ← hp1]
    · rw [← hp4, ← hp3, ← hp1]
    · rw [← hp5]; exact p2w
    · rw [← hp5]
    · rw [← hp5, p2q]; exact hqT
    · rw [← hp5, ← hp2]
    · rw [← hp5, ← hp2]
    · by_cases c1 : x = s0
      · subst c1
        show (updF (updF st3 t0 p5) x p4 x).q = _
        rw [fs, ← hp4, ← hp3, p1q]
      · by_cases c2 : x = t0
        · subst c2
          show (updF (updF st3 x p5) s0 p4 x).q = _
          rw [ft, ← hp5, p2q]
        · show (updF (updF st3 t0 p5) s0 p4 x).q = _
          rw [fx x c1 c2]
end Pk
set_option Elab.async false
set_option linter.all false
set_option maxRecDepth 100000
set_option maxHeartbeats 4000000
/-! The defs, 24: a play begins. -/
namespace Pk
open PySem PySem.Spec PyProof.Rows L2
variable {P : Program} {w : World} {K : PySem.W.Frag} {mg : Str → Option Value} {base : Heap}
theorem msv_keys {H : Hp} : ∀ {kvs : List (Key × V)} {ms : Mch}, MsV H kvs ms → kvs.map (·.1) = (ms.map (·.1)).map kS
  | _, _, .nil => rfl
  | _, _, .cons h t => by rw [List.map_cons, List.map_cons, List.map_cons, h.1, msv_keys t]
/-- the parties made so far -/
structure PlB (K : PySem.W.Frag) (H0 : Hp) (D : Addr) (H : Hp) (ms : Mch) (fs : Str → Pf) : Prop where
  d : H D = some (.dK (ms.map fun m => (kS m.1, V.ref (fs m.1).a)))
  pa : ∀ m ∈ ms, PaAt K H (fs m.1) m.1 m.2 pa0 0
  fr : ∀ m ∈ ms, ∀ x ∈ (fs m.1).z, H0 x = none ∧ x ≠ D
  zz : ∀ m ∈ ms, ∀ m' ∈ ms, m.1 ≠ m'.1 → ∀ x ∈ (fs m.1).z, x ∉ (fs m'.1).z
def pst0 : Pst := ⟨fun _ => pa0, [], []⟩
theorem srtS_idem (l : List Str) : srtS (srtS l) = srtS l := by
  refine List.Perm.eq_of_pairwise (le := fun a b => leS a b = true) (fun a b _ _ h1 h2 => leS_anti h1 h2) ?_ ?_ (srtS_perm _)
  · exact List.pairwise_mergeSort (le := leS) (fun a b c h1 h2 => leS_trans h1 h2) (fun a b => by simpa [Bool.or_eq_true] using leS_total a b) _
  · exact List.pairwise_mergeSort (le := leS) (fun a b c h1 h2 => leS_trans h1 h2) (fun a b => by simpa [Bool.or_eq_true] using leS_total a b) _
def spPlInit (K : PySem.W.Frag) : Sp := fun vs H Q _ => ∃ (a dx md : Addr) (kvs : List (Key × V)) (ms : Mch), vs = [.ref a, .ref md] ∧ H a = some (.ins (He.ga K "Play") dx []) ∧ H md = some (.dK kvs) ∧ MsV H kvs ms ∧ (ms.map (·.1)).Nodup ∧ srtS (ms.map (·.1)) = ms.map (·.1) ∧ ms.length < 60 ∧
  ∀ H' L, L.a = a → SameX a H H' → (∀ x ∈ L.z ms, x ≠ a → H x = none) → PlAt K H' L ms pst0 0 → Q .non H'
theorem sc_Play_init : FnScope ["self", "machines", "name"] ["self", "machines"] (defScope s_Play_init) := ⟨rfl, rfl, rfl, by decide +kernel, rfl, by decide +kernel, by decide +kernel⟩
theorem o_Play_init (T : Txt K mg) : OkI P w K mg base CX0 (He.ga K "Play") 3 ["self", "machines"] (spPlInit K) :=
  oki_def T.m_Play T.d_Play_init sc_Play_init (fun _ _ _ _ _ _ us hl => match us, hl with | [_, _], _ => rfl) (fun vs H Q E h => by obtain ⟨_, _, _, _, _, rfl, _⟩ := h; rfl) fun cdv A outer s H vs Q E hr h => by
  obtain ⟨a, dx, md, kvs, ms, rfl, ha, hmd, hms, hnd, hsrt, hml, hQ⟩ := h
  refine ⟨_, (PSs.nox (pss_cons (ps_fld (pv 0) (pe_callTy (T := "dict") call_dictD (by rfl) T.n_dict (by decide +kernel) (pa_cons (pv 1) pa_nil)) rfl)
      (pss_cons (ps_fld (pv 0) (pe_dcG (u0 := .dK []) (.inl rfl) (ru0 hr) (own := [("name", 2)]) (tt := tYes) rfl sc_Play_init.nd (ki_list (K := K) rfl (pe_callB (id := "sorted") (call_sortedD rfl) (by rfl) T.n_sorted (by decide +kernel) (pa_cons (pv 1) pa_nil))) (blkOk_by (N := ["self", "machines", "name"]) (sc := defScope s_Play_init) (by decide +kernel)) (fun _ _ _ _ _ => (pg_name (i := 2) sc_Play_init.nd rfl (by first | exact Or.inl rfl | exact Or.inr rfl))) (fun _ _ _ _ _ => pts_nil) (fun _ _ _ _ _ => (pv 2)) (fun _ _ _ _ _ => (pe_mk (o_Party_init T) T.g_Party (hr.mono (by decide)) (pa_cons (pv 2) (pa_cons (pe_dget (ru1 hr) (pv 1) (pv 2) (fun _ _ => rfl)) pa_nil))))) rfl)
      (pss_cons (ps_fld (pv 0) (pe_lst pa_nil) rfl)
      (pss_one (ps_fld (pv 0) (pe_lst pa_nil) rfl)))))), ?_⟩
  have big : (400000 : Nat) < sizeLine := by decide
  have nma : md ≠ a := fun e => by rw [e, ha] at hmd; cases hmd
  refine ⟨_, rfl, md, kvs, rfl, .inl hmd, fun d0 hd0 => ?_⟩
  have nda : a ≠ d0 := ne_of_none ha hd0
  refine ⟨_, rfl, a, _, dx, _, rfl, by rw [upd_ne nda]; exact ha, T.c_Play, T.a_Play__machines, by show 0 < 1000; decide, ?_⟩
  have x1 : SameX a H (upd (upd H d0 (.dK kvs)) a (.ins (He.ga K "Play") dx (putF "_machines" (.ref d0) []))) := fun x o hx h => by
    rw [upd_ne hx, upd_ne (ne_of_none h hd0)]
    exact h
  have ha1 : (upd (upd H d0 (.dK kvs)) a (.ins (He.ga K "Play") dx (putF "_machines" (.ref d0) []))) a = some (.ins (He.ga K "Play") dx (putF "_machines" (.ref d0) [])) := upd_same
  generalize upd (upd H d0 (.dK kvs)) a (.ins (He.ga K "Play") dx (putF "_machines" (.ref d0) [])) = H1 at x1 ha1
  have fr1 : ∀ x, H1 x = none → H x = none := fun x h => by
    cases hz : H x with
    | none => rfl
    | some o =>
      by_cases c : x = a
      · rw [c, ha1] at h; cases h
      · rw [x1 x o c hz] at h; cases h
  have tp1 : Tp H H1 := fun b xs hb => x1 b _ (fun e => by rw [e, ha] at hb; cases hb) hb
  have hmd1 := x1 _ _ nma hmd
  have hms1 := hms.mono tp1
  refine ⟨_, rfl, md, kvs, ms.map (·.1), rfl, .inl hmd1, by rw [msv_keys hms]; rfl, by rw [List.length_map]; omega, fun ys p hperm hso hp => ?_⟩
  have hys : ys = ms.map (·.1) := by rw [sortedS_eq hso hperm, hsrt]
  subst hys
  have s2 : Same H1 (upd H1 p (.lst ((ms.map (·.1)).map V.str))) := same_new hp
  have hp2 : (upd H1 p (.lst ((ms.map (·.1)).map V.str))) p = some (.lst ((ms.map (·.1)).map V.str)) := upd_same
  generalize upd H1 p (.lst ((ms.map (·.1)).map V.str)) = H2 at s2 hp2
  refine ⟨p, rfl, ⟨_, SqL.of hp2⟩, fun D hD => ?_⟩
  have hD1 : H1 D = none := s2.free hD
  refine dcg_it (walk_list (K := K) (a := p) (xs := (ms.map (·.1)).map V.str)) (fun i H' => Same H2 H' ∧ ∃ fs, PlB K H1 D H' (ms.take i) fs) ⟨same_new hD, fun _ => ⟨a, a, a, a, a⟩, upd_same, (fun m hm => nomatch hm), (fun m hm => nomatch hm), (fun m hm => nomatch hm)⟩ (fun i H' _ h => SqL.of (h.1 _ _ hp2)) ?_ ?_
  · rintro i x H3' H3 hi ⟨s3, fs, B⟩ ⟨rfl, hx⟩
    rw [List.getElem?_map, List.getElem?_map] at hx
    cases hmi : ms[i]? with
    | none => rw [hmi] at hx; cases hx
    | some m =>
      rw [hmi] at hx
      cases hx
      have hmm := List.mem_of_getElem? hmi
      have s13 := s2.trans s3
      obtain ⟨v, hv, hTV⟩ := ms_get (hms1.mono (Tp.of s13)) hnd m hmm
      have hnew : ∀ m' ∈ ms.take i, m'.1 ≠ m.1 := fun m' hm' e => by
        obtain ⟨j, hj⟩ := List.mem_iff_getElem?.mp hm'
        have hji : j < i := by
          have := (List.getElem?_eq_some_iff.mp hj).1
          rw [List.length_take] at this
          omega
        rw [List.getElem?_take, if_pos hji] at hj
        have := nd_ix hnd hj hmi e
        omega
      have hmd3 := s13 _ _ hmd1
      refine ⟨rfl, _, rfl, _, rfl, _, rfl, _, rfl, md, v, rfl, by have := DGet.k (k := kS m.1) hmd3; rw [hv] at this; exact this, ?_⟩
      intro x dx' hx hdx hne
      have t1 : Same H3 (upd H3 dx' (.own x)) := same_new hdx
      have t2 : Same H3 (upd (upd H3 dx' (.own x)) x (.ins (He.ga K "Party") dx' [])) := t1.trans (same_new (by rw [upd_ne (Ne.symm hne)]; exact hx))
      refine ⟨x, dx', m.1, v, m.2, rfl, upd_same, hTV.mono (Tp.of t2), fun H' pd sd od keep hpd hsd hod hPa => ⟨rfl, ?_⟩⟩
      have t3 : Same H3 H' := fun y o h => keep y o (ne_of_none h hx) (t2 y o h)
      have hD3 := B.d
      have fr3 : ∀ z ∈ (⟨x, dx', pd, sd, od⟩ : Pf).z, H3 z = none := fun z hz => by
        simp only [Pf.z, List.mem_cons, List.not_mem_nil, or_false] at hz
        rcases hz with rfl | rfl | rfl | rfl
        · exact hx
        · exact t2.free hpd
        · exact t2.free hsd
        · exact t2.free hod
      have hDz : D ∉ (⟨x, dx', pd, sd, od⟩ : Pf).z := fun hz => by rw [fr3 D hz] at hD3; cases hD3
      have hkl : (ms.take i).length ≤ 60 := by rw [List.length_take]; omega
      refine ⟨_, DPut.k (k := kS m.1) (t3 _ _ hD3) (by rw [List.length_map]; omega), same_put (s3.trans t3) hD, updF fs m.1 ⟨x, dx', pd, sd, od⟩, ?_⟩
      have hno : valV ((ms.take i).map fun m => (kS m.1, V.ref (fs m.1).a)) (kS m.1) = none := by
        refine val_no fun y hy => ?_
        obtain ⟨m', hm', rfl⟩ := List.mem_map.mp hy
        exact fun e => hnew m' hm' (kS_inj _ _ e)
      rw [putK_new _ hno]
      have tpz : Tp H' (upd H' D (.dK ((ms.take i).map (fun m => (kS m.1, V.ref (fs m.1).a)) ++ [(kS m.1, V.ref x)]))) := (Tp.refl H').put (t3 _ _ hD3) (fun _ z => nomatch z)
      have oz : Out [D] H' (upd H' D (.dK ((ms.take i).map (fun m => (kS m.1, V.ref (fs m.1).a)) ++ [(kS m.1, V.ref x)]))) := (Out.refl _ _).put (List.mem_singleton.mpr rfl)
      have en : ∀ m' ∈ ms.take i, updF fs m.1 ⟨x, dx', pd, sd, od⟩ m'.1 = fs m'.1 := fun m' hm' => updF_ne (hnew m' hm')
      have es : updF fs m.1 ⟨x, dx', pd, sd, od⟩ m.1 = ⟨x, dx', pd, sd, od⟩ := updF_same
      have hD0 : ∀ m' ∈ ms.take i, D ∉ (fs m'.1).z := fun m' hm' hz => (B.fr m' hm' D hz).2 rfl
      have split : ∀ m' ∈ ms.take (i + 1), m' ∈ ms.take i ∨ m' = m := fun m' hm' => by
        rw [takec hmi] at hm'
        rcases List.mem_append.mp hm' with h | h
        · exact .inl h
        · exact .inr (List.mem_singleton.mp h)
      refine ⟨?_, fun m' hm' => ?_, fun m' hm' z hz => ?_, fun m1 h1 m2 h2 hne' z hz => ?_⟩
      · rw [upd_same, takec hmi, List.map_append]
        congr 2
        have e1 : (ms.take i).map (fun m' => (kS m'.1, V.ref (updF fs m.1 ⟨x, dx', pd, sd, od⟩ m'.1).a)) = (ms.take i).map (fun m' => (kS m'.1, V.ref (fs m'.1).a)) := List.map_congr_left fun m' hm' => by rw [en m' hm']
        rw [e1]
        show _ = _ ++ [(kS m.1, V.ref (updF fs m.1 ⟨x, dx', pd, sd, od⟩ m.1).a)]
        rw [es]
      · rcases split m' hm' with h | rfl
        · rw [en m' h]
          exact ((B.pa m' h).same t3).keep oz tpz (fun z hz e => by rw [List.mem_singleton.mp e] at hz; exact hD0 m' h hz) (Nat.le_refl _)
        · rw [es]
          exact hPa.keep oz tpz (fun z hz e => by rw [List.mem_singleton.mp e] at hz; exact hDz hz) (Nat.le_refl _)
      · rcases split m' hm' with h | rfl
        · rw [en m' h] at hz
          exact B.fr m' h z hz
        · rw [es] at hz
          exact ⟨s13.free (fr3 z hz), fun e => by rw [e] at hz; exact hDz hz⟩
      · rcases split m1 h1 with h1 | rfl
        · rcases split m2 h2 with h2 | rfl
          · rw [en m1 h1] at hz
            rw [en m2 h2]
            exact B.zz m1 h1 m2 h2 hne' z hz
          · rw [en m1 h1] at hz
            rw [es]
            exact fun q => (B.pa m1 h1).some_ hz (fr3 z q)
        · rcases split m2 h2 with h2 | rfl
          · rw [es] at hz
            rw [en m2 h2]
            exact fun q => (B.pa m2 h2).some_ q (fr3 z hz)
          · exact absurd rfl hne'
  · rintro H3 ⟨s3, fs, B⟩
    rw [List.length_map, List.length_map, List.take_length] at B
    have s13 := s2.trans s3
    have ha3 := s13 _ _ ha1
    refine ⟨_, rfl, a, _, dx, _, rfl, ha3, T.c_Play, T.a_Play__parties, (by have := putF_le "_machines" (V.ref d0) []; show _ < 1000; have : ([] : List (Str × V)).length = 0 := rfl; omega), ?_⟩
    have le : ∀ {f : Str} {v : V} {fs : List (Str × V)} {n : Nat}, fs.length ≤ n → (putF f v fs).length ≤ n + 1 := fun h => Nat.le_trans (putF_le _ _ _) (Nat.succ_le_succ h)
    have l0 : ([] : List (Str × V)).length ≤ 0 := Nat.le_refl _
    refine ⟨Nat.zero_le _, fun nb hnb => ?_⟩
    have nna : a ≠ nb := fun e => by rw [← e, upd_same] at hnb; cases hnb
    have hnb3 : H3 nb = none := by rw [upd_ne nna.symm] at hnb; exact hnb
    refine ⟨_, rfl, a, _, dx, _, rfl, by rw [upd_ne nna, upd_same], T.c_Play, T.a_Play__net, (by have := le (f := "_parties") (v := .ref D) (le (f := "_machines") (v := .ref d0) l0); omega), ?_⟩
    refine ⟨Nat.zero_le _, fun tb htb => ?_⟩
    have nta : a ≠ tb := fun e => by rw [← e, upd_same] at htb; cases htb
    have ntn : nb ≠ tb := fun e => by rw [← e, upd_ne nna.symm, upd_same] at htb; cases htb
    have htb3 : H3 tb = none := by rw [upd_ne nta.symm, upd_ne ntn.symm, upd_ne nta.symm] at htb; exact htb
    refine ⟨_, rfl, a, _, dx, _, rfl, by rw [upd_ne nta, upd_same], T.c_Play, T.a_Play__taken, (by have := le (f := "_net") (v := .ref nb) (le (f := "_parties") (v := .ref D) (le (f := "_machines") (v := .ref d0) l0)); omega), ?_⟩
    rw [pl_made]
    have xf : SameX a H3 (upd (upd (upd (upd (upd H3 a (.ins (He.ga K "Play") dx (putF "_parties" (.ref D) (putF "_machines" (.ref d0) [])))) nb (.lst [])) a (.ins (He.ga K "Play") dx (putF "_net" (.ref nb) (putF "_parties" (.ref D) (putF "_machines" (.ref d0) []))))) tb (.lst [])) a (.ins (He.ga K "Play") dx (plF (.ref d0) (.ref D) (.ref nb) (.ref tb)))) := fun x o hx h => by
      rw [upd_ne hx, upd_ne (ne_of_none h htb3), upd_ne hx, upd_ne (ne_of_none h hnb3), upd_ne hx]
      exact h
    have hD3 := B.d
    have nDa : D ≠ a := fun e => by rw [e, ha1] at hD1; cases hD1
    have nDn : D ≠ nb := ne_of_none hD3 hnb3
    have nDt : D ≠ tb := ne_of_none hD3 htb3
    have zf : ∀ m ∈ ms, ∀ x ∈ (fs m.1).z, x ≠ a ∧ x ≠ nb ∧ x ≠ tb := fun m hm x hx => by
      refine ⟨fun e => ?_, fun e => ?_, fun e => ?_⟩
      · have := (B.fr m hm x hx).1
        rw [e, ha1] at this
        cases this
      · exact (B.pa m hm).some_ hx (by rw [e]; exact hnb3)
      · exact (B.pa m hm).some_ hx (by rw [e]; exact htb3)
    refine hQ _ ⟨a, dx, D, nb, tb, fs⟩ rfl (fun x o hx h => xf x o hx (s13 x o (x1 x o hx h))) (fun x hx hxa => ?_) ⟨.ref d0, [], [], upd_same, xf _ _ nDa hD3, ?_, .nil, ?_, .nil, Nat.le_refl _, fun m hm => ?_, hnd, fun m hm x hx hc => ?_, B.zz, ?_⟩
    · refine fr1 x ?_
      rcases List.mem_append.mp hx with hx | hx
      · simp only [Lf.c, List.mem_cons, List.not_mem_nil, or_false] at hx
        rcases hx with rfl | rfl | rfl | rfl
        · exact absurd rfl hxa
        · exact hD1
        · exact s13.free hnb3
        · exact s13.free htb3
      · obtain ⟨m, hm, hx⟩ := List.mem_flatMap.mp hx
        exact (B.fr m hm x hx).1
    · show (upd _ a _) nb = _
      rw [upd_ne nna.symm, upd_ne ntn, upd_ne nna.symm, upd_same]
    · show (upd _ a _) tb = _
      rw [upd_ne nta.symm, upd_same]
    · refine (B.pa m hm).keep (Z := [a]) (fun x o hx h => xf x o (fun e => hx (List.mem_singleton.mpr e)) h) (fun b xs hb => xf b _ (fun e => by rw [e, ha3] at hb; cases hb) hb) (fun x hx e => (zf m hm x hx).1 (List.mem_singleton.mp e)) (Nat.le_refl _)
    · obtain ⟨h1, h2, h3⟩ := zf m hm x hx
      simp only [Lf.c, List.mem_cons, List.not_mem_nil, or_false] at hc
      rcases hc with h | h | h | h
      · exact h1 h
      · exact (B.fr m hm x hx).2 h
      · exact h2 h
      · exact h3 h
    · simp [Lf.c, nDa.symm, nna, nta, nDn, nDt, ntn]
def spPlay (K : PySem.W.Frag) : Sp := fun vs H Q _ => ∃ (v : V) (T : Tab), vs = [v] ∧ TabV H v T ∧ Sml T ∧ (parties T).length < 60 ∧ ∀ H' L, Same H H' → (∀ x ∈ L.z (machs T), H x = none) → PlAt K H' L (machs T) pst0 0 → Q (.ref L.a) H'
theorem sc_play_of : FnScope ["table"] ["table"] (defScope s_play_of) := ⟨rfl, rfl, rfl, by decide +kernel, rfl, by decide +kernel, by decide +kernel⟩
theorem o_play_of (T : Txt K mg) : Ok P w K mg base CX0 "play_of" 7 ["table"] (spPlay K) :=
  ok_def T.d_play_of T.g_play_of sc_play_of (fun _ _ _ _ _ _ us hl => match us, hl with | [_], _ => rfl) (fun vs H Q E h => by obtain ⟨_, _, rfl, _⟩ := h; rfl) fun cdv A outer s H vs Q E hr h => by
  obtain ⟨v, T', rfl, hT, hs, hp, hQ⟩ := h
  refine ⟨_, (PSs.nox (pss_one (ps_ret (pe_mk (o_Play_init T) T.g_Play (hr.mono (by decide)) (pa_cons (pe_cl (o_machines_of T) (hr.mono (by decide)) (pa_cons (pv 0) pa_nil)) pa_nil))))), ?_⟩
  refine ⟨_, rfl, v, T', rfl, hT, hs, hp, fun md H1 kvs s1 hmd0 hmd hms => ?_⟩
  intro x dx hx hdx hne
  have t1 : Same H1 (upd H1 dx (.own x)) := same_new hdx
  have t2 : Same H1 (upd (upd H1 dx (.own x)) x (.ins (He.ga K "Play") dx [])) := t1.trans (same_new (by rw [upd_ne (Ne.symm hne)]; exact hx))
  refine ⟨x, dx, md, kvs, machs T', rfl, upd_same, t2 _ _ hmd, hms.mono (Tp.of t2), machs_nodup T', ?_, by unfold machs; rw [List.length_map]; exact hp, fun H' L hLa hSX hfr hP => ⟨rfl, ?_⟩⟩
  · rw [machs_names]
    unfold parties
    exact srtS_idem _
  · rw [← hLa]
    refine hQ H' L (s1.trans (fun y o h => hSX y o (ne_of_none h hx) (t2 y o h))) (fun y hy => ?_) hP
    by_cases c : y = x
    · rw [c]; exact s1.free hx
    · exact s1.free (t2.free (hfr y hy c))
end Pk
set_option Elab.async false
set_option linter.all false
set_option maxRecDepth 100000
set_option maxHeartbeats 4000000
/-! The defs, 25: the law: state, draw. -/
namespace Pk
open PySem PySem.Spec PyProof.Rows L2
variable {P : Program} {w : World} {K : PySem.W.Frag} {mg : Str → Option Value} {base : Heap}
/-- what the draws stand on -/
structure DrR (H : Hp) (sb lb : Addr) (ns : List Int) (p : Nat) (c k : Int) (b : Bool) : Prop where
  st : H sb = some (.lst [.ref lb, .int (p : Nat), .int c, .int k, .bl b, .int 500])
  cells : H lb = some (.lst (ns.map V.int))
  c0 : 0 ≤ c
  small : b = false → c < 10 ^ 18
  k0 : 0 ≤ k
  k60 : k ≤ 60
def DrV (H : Hp) (sb lb : Addr) : Prop := ∃ ns p c k b, DrR H sb lb ns p c k b
theorem DrR.out {H H' : Hp} {sb lb : Addr} {ns : List Int} {p : Nat} {c k : Int} {b : Bool} (h : DrR H sb lb ns p c k b) (s : Same H H') : DrR H' sb lb ns p c k b := ⟨s _ _ h.st, s _ _ h.cells, h.c0, h.small, h.k0, h.k60⟩
theorem DrV.same {H H' : Hp} {sb lb : Addr} (h : DrV H sb lb) (s : Same H H') : DrV H' sb lb := let ⟨_, _, _, _, _, r⟩ := h; ⟨_, _, _, _, _, r.out s⟩
/-- what is not at the draws' places may change -/
theorem DrV.outz {Z : List Addr} {H H' : Hp} {sb lb : Addr} (h : DrV H sb lb) (s : Out Z H H') (h1 : sb ∉ Z) (h2 : lb ∉ Z) : DrV H' sb lb :=
  let ⟨ns, p, c, k, b, r⟩ := h; ⟨ns, p, c, k, b, s _ _ h1 r.st, s _ _ h2 r.cells, r.c0, r.small, r.k0, r.k60⟩
theorem DrV.some_ {H : Hp} {sb lb : Addr} (h : DrV H sb lb) : H sb ≠ none ∧ H lb ≠ none := let ⟨_, _, _, _, _, r⟩ := h; ⟨by rw [r.st]; exact nofun, by rw [r.cells]; exact nofun⟩
def spState (K : PySem.W.Frag) : Sp := fun vs H Q _ => ∃ (a : Addr) (ns : List Int), vs = [.ref a] ∧ SqL K H a (ns.map V.int) ∧ ∀ sb lb H', Same H H' → H sb = none → H lb = none → DrV H' sb lb → Q (.ref sb) H'
theorem sc_law_state : FnScope ["_law_script"] ["_law_script"] (defScope s_law_state) := ⟨rfl, rfl, rfl, by decide +kernel, rfl, by decide +kernel, by decide +kernel⟩
theorem o_law_state (T : Txt K mg) : Ok P w K mg base CX0 "_law_state" 1 ["_law_script"] (spState K) :=
  ok_def T.d_law_state T.g_law_state sc_law_state (fun _ _ _ _ _ _ us hl => match us, hl with | [_], _ => rfl) (fun vs H Q E h => by obtain ⟨_, _, rfl, _⟩ := h; rfl) fun cdv A outer s H vs Q E hr h => by
  obtain ⟨a, ns, rfl, hS, hQ⟩ := h
  refine ⟨_, (PSs.nox (pss_one (ps_ret (pe_lst (pa_cons (pe_callTy (T := "list") (kc_list (K := K) rfl) (by rfl) T.n_list (by decide +kernel) (pa_cons (pv 0) pa_nil)) (pa_cons pe_int (pa_cons pe_int (pa_cons pe_int (pa_cons pe_bl (pa_cons pe_int pa_nil)))))))))), ?_⟩
  refine ⟨_, rfl, a, _, rfl, .inl hS, fun lb hlb => ⟨(by show 6 ≤ sizeLine; decide), fun sb hsb => ?_⟩⟩
  have s1 : Same H (upd H lb (.lst (ns.map V.int))) := same_new hlb
  have s2 := s1.trans (same_new (o := .lst [.ref lb, .int 0, .int 0, .int 0, .bl false, .int 500]) hsb)
  exact hQ sb lb _ s2 (s1.free hsb) hlb ⟨ns, 0, 0, 0, false, upd_same, same_new hsb _ _ upd_same, Int.le_refl _, fun _ => by decide, Int.le_refl _, by decide⟩
def spDraw : Sp := fun vs H Q _ => ∃ (sb lb : Addr) (lim : Int), vs = [.ref sb, .int lim] ∧ DrV H sb lb ∧ 0 < lim ∧ lim < 1000000 ∧ ∀ r H', 0 ≤ r → r < lim → Out [sb] H H' → DrV H' sb lb → Q (.int r) H'
theorem dr_cell {H : Hp} {sb lb : Addr} {ns : List Int} {p : Nat} {c k : Int} {b : Bool} (h : DrR H sb lb ns p c k b) : sb ≠ lb := fun e => by
  have h1 := h.st
  have h2 := h.cells
  rw [e, h2] at h1
  cases ns with
  | nil => cases h1
  | cons n ns => cases h1
theorem dr_put {H : Hp} {sb lb : Addr} {ns : List Int} {p : Nat} {c k : Int} {b : Bool} (h : DrR H sb lb ns p c k b) {p' : Nat} {c' k' : Int} {b' : Bool} (h1 : 0 ≤ c') (h2 : b' = false → c' < 10 ^ 18) (h3 : 0 ≤ k') (h4 : k' ≤ 60) :
    DrR (upd H sb (.lst [.ref lb, .int (p' : Nat), .int c', .int k', .bl b', .int 500])) sb lb ns p' c' k' b' := ⟨upd_same, by rw [upd_ne (dr_cell h).symm]; exact h.cells, h1, h2, h3, h4⟩
theorem ixN6 (j : Nat) (h : j < 6) : ixN 6 (j : Int) = some j := ixN_nat h
theorem if_fall {b : Bool} {t : TS} {D : Ends} {σ : L2.St} {H : Hp} (I : L2.St → Hp → Prop) (k : ∀ σ' H', I σ' H' → D.nx σ' H') (h0 : b = false → I σ H) (h1 : b = true → (∀ σ' H', I σ' H' → D.nx σ' H') → t D σ H) : if b = true then t D σ H else tNext D σ H := by
  cases b with
  | true => exact iteT (h1 rfl k)
  | false => exact iteF (k _ _ (h0 rfl))
theorem sc_law_draw : FnScope ["_law_state_here", "_law_limit", "_law_cell", "_law_digit", "_law_mixed"] ["_law_state_here", "_law_limit"] (defScope s_law_draw) := ⟨rfl, rfl, rfl, by decide +kernel, rfl, by decide +kernel, by decide +kernel⟩
theorem o_law_draw (T : Txt K mg) : Ok P w K mg base CX0 "_law_draw" 1 ["_law_state_here", "_law_limit"] spDraw :=
  ok_def T.d_law_draw T.g_law_draw sc_law_draw (fun _ _ _ _ _ _ us hl => match us, hl with | [_, _], _ => rfl) (fun vs H Q E h => by obtain ⟨_, _, _, rfl, _⟩ := h; rfl) fun cdv A outer s H vs Q E hr h => by
  obtain ⟨sb, lb, lim, rfl, ⟨ns, p, c, k, b, R⟩, hl0, hl1, hQ⟩ := h
  refine ⟨_, (PSs.nox (pss_cons (ps_if (pt_cmpR op_eq (pe_ix (kx_list (K := K) rfl) (pv 0) pe_int (fun _ _ => rfl)) pe_int (nomark _)) (pss_cons (ps_if (pt_cmpR op_ge (pe_ix (kx_list (K := K) rfl) (pv 0) pe_int (fun _ _ => rfl)) (pe_callB (id := "len") (kc_len (K := K) rfl) (by rfl) T.n_len (by decide +kernel) (pa_cons (pe_ix (kx_list (K := K) rfl) (pv 0) pe_int (fun _ _ => rfl)) pa_nil)) (nomark _)) (pss_one (ps_ret pe_int)) pss_nil)
      (pss_cons (ps_set (i := 2) sc_law_draw.nd rfl (by first | exact Or.inl rfl | exact Or.inr rfl) (pe_ix (kx_list (K := K) rfl) (pe_ix (kx_list (K := K) rfl) (pv 0) pe_int (fun _ _ => rfl)) (pe_ix (kx_list (K := K) rfl) (pv 0) pe_int (fun _ _ => rfl)) (fun _ _ => rfl)))
      (pss_cons (ps_if (pt_cmpR op_lt (pv 2) pe_int (nomark _)) (pss_one (ps_set (i := 2) sc_law_draw.nd rfl (by first | exact Or.inl rfl | exact Or.inr rfl) (pe_op op_sub (pe_un un_neg pe_int) (pv 2)))) pss_nil)
      (pss_cons (ps_asg (pe_op op_add (pe_ix (kx_list (K := K) rfl) (pv 0) pe_int (fun _ _ => rfl)) pe_int) (pg_sub (pv 0) pe_int set_list))
      (pss_cons (ps_asg (pv 2) (pg_sub (pv 0) pe_int set_list))
      (pss_cons (ps_asg (pe_cmpR op_ge (pv 2) (pe_op op_pow pe_int pe_int) (nomark _)) (pg_sub (pv 0) pe_int set_list))
      (pss_cons (ps_asg pe_int (pg_sub (pv 0) pe_int set_list))
      (pss_one (ps_if (pt_val (pe_ix (kx_list (K := K) rfl) (pv 0) pe_int (fun _ _ => rfl))) (pss_one (ps_asg pe_int (pg_sub (pv 0) pe_int set_list))) pss_nil))))))))) pss_nil)
      (pss_cons (ps_asg (pe_op op_sub (pe_ix (kx_list (K := K) rfl) (pv 0) pe_int (fun _ _ => rfl)) pe_int) (pg_sub (pv 0) pe_int set_list))
      (pss_cons (ps_if (pt_val (pe_ix (kx_list (K := K) rfl) (pv 0) pe_int (fun _ _ => rfl))) (pss_cons (ps_set (i := 3) sc_law_draw.nd rfl (by first | exact Or.inl rfl | exact Or.inr rfl) (pe_op op_mod (pe_callTy (T := "int") call_int1 (by rfl) T.n_int (by decide +kernel) (pa_cons (pe_ix (kx_list (K := K) rfl) (pv 0) pe_int (fun _ _ => rfl)) pa_nil)) (pv 1)))
      (pss_cons (ps_asg (pe_op op_fdiv (pe_ix (kx_list (K := K) rfl) (pv 0) pe_int (fun _ _ => rfl)) (pv 1)) (pg_sub (pv 0) pe_int set_list))
      (pss_cons (ps_if (pt_cmpR op_eq (pe_ix (kx_list (K := K) rfl) (pv 0) pe_int (fun _ _ => rfl)) pe_int (nomark _)) (pss_one (ps_asg pe_int (pg_sub (pv 0) pe_int set_list))) pss_nil)
      (pss_one (ps_ret (pv 3)))))) pss_nil)
      (pss_cons (ps_set (i := 4) sc_law_draw.nd rfl (by first | exact Or.inl rfl | exact Or.inr rfl) (pe_op op_mod (pe_callTy (T := "int") call_int1 (by rfl) T.n_int (by decide +kernel) (pa_cons (pe_op op_add (pe_op op_add (pe_op op_mul (pe_ix (kx_list (K := K) rfl) (pv 0) pe_int (fun _ _ => rfl)) pe_int) (pe_op op_mul (pe_ix (kx_list (K := K) rfl) (pv 0) pe_int (fun _ _ => rfl)) pe_int)) pe_int) pa_nil)) pe_int))
      (pss_cons (ps_set (i := 4) sc_law_draw.nd rfl (by first | exact Or.inl rfl | exact Or.inr rfl) (pe_op op_mod (pe_callTy (T := "int") call_int1 (by rfl) T.n_int (by decide +kernel) (pa_cons (pe_op op_add (pe_op op_add (pe_op op_mul (pv 4) (pv 4)) (pe_op op_mul (pe_ix (kx_list (K := K) rfl) (pv 0) pe_int (fun _ _ => rfl)) pe_int)) (pe_ix (kx_list (K := K) rfl) (pv 0) pe_int (fun _ _ => rfl))) pa_nil)) pe_int))
      (pss_one (ps_ret (pe_op op_mod (pe_callTy (T := "int") call_int1 (by rfl) T.n_int (by decide +kernel) (pa_cons (pv 4) pa_nil)) (pv 1)))))))))), ?_⟩
  refine ⟨_, rfl, sb, _, _, _, rfl, rfl, SqL.of R.st, atI_nat (j := 3) rfl, rfl, _, rfl, ?_⟩
  refine if_fall (fun σ' H1 => ∃ x2 p c k b, σ' = [some (.ref sb), some (.int lim), x2, none, none] ∧ Out [sb] H H1 ∧ DrR H1 sb lb ns p c k b ∧ 0 < k) ?_ (fun hk => ?_) (fun hk I => ?_)
  · rintro σ' H1 ⟨x2, p, c, k, b, rfl, o1, R1, hk⟩
    refine ⟨_, rfl, sb, _, _, _, rfl, rfl, SqL.of R1.st, atI_nat (j := 3) rfl, _, _, rfl, rfl, _, rfl, sb, _, _, 3, rfl, rfl, R1.st, ixN6 3 (by decide), ?_⟩
    have R2 : DrR (upd H1 sb (.lst [.ref lb, .int (p : Nat), .int c, .int (k - 1), .bl b, .int 500])) sb lb ns p c (k - 1) b := dr_put R1 R1.c0 R1.small (by omega) (by have := R1.k60; omega)
    have o2 : Out [sb] H (upd H1 sb (.lst [.ref lb, .int (p : Nat), .int c, .int (k - 1), .bl b, .int 500])) := o1.put (List.mem_singleton.mpr rfl)
    show tSeq _ _ _ _ (upd H1 sb (.lst [.ref lb, .int (p : Nat), .int c, .int (k - 1), .bl b, .int 500]))
    generalize upd H1 sb (.lst [.ref lb, .int (p : Nat), .int c, .int (k - 1), .bl b, .int 500]) = H2 at R2 o2
    refine ⟨_, rfl, sb, _, _, _, rfl, rfl, SqL.of R2.st, atI_nat (j := 4) rfl, _, rfl, ?_⟩
    refine ite2 (fun hb => ?_) (fun hb => ?_)
    · refine ⟨_, rfl, sb, _, _, _, rfl, rfl, SqL.of R2.st, atI_nat (j := 2) rfl, .inl ⟨_, rfl, _, rfl, _, _, rfl, rfl, hl0, ?_⟩⟩
      refine ⟨_, rfl, sb, _, _, _, rfl, rfl, SqL.of R2.st, atI_nat (j := 2) rfl, _, rfl, _, _, rfl, rfl, ⟨hl0, by omega⟩, _, rfl, sb, _, _, 2, rfl, rfl, R2.st, ixN6 2 (by decide), ?_⟩
      have R3 : DrR (upd H2 sb (.lst [.ref lb, .int (p : Nat), .int (c / lim), .int (k - 1), .bl b, .int 500])) sb lb ns p (c / lim) (k - 1) b := dr_put R2 (Int.ediv_nonneg R2.c0 (by omega)) (fun e => by rw [e] at hb; cases hb) R2.k0 R2.k60
      have o3 : Out [sb] H (upd H2 sb (.lst [.ref lb, .int (p : Nat), .int (c / lim), .int (k - 1), .bl b, .int 500])) := o2.put (List.mem_singleton.mpr rfl)
      show tSeq _ _ _ _ (upd H2 sb (.lst [.ref lb, .int (p : Nat), .int (c / lim), .int (k - 1), .bl b, .int 500]))
      generalize upd H2 sb (.lst [.ref lb, .int (p : Nat), .int (c / lim), .int (k - 1), .bl b, .int 500]) = H3 at R3 o3
      refine ⟨_, rfl, sb, _, _, _, rfl, rfl, SqL.of R3.st, atI_nat (j := 2) rfl, rfl, _, rfl, ?_⟩
      have h1 := Int.emod_nonneg c (show lim ≠ 0 by omega)
      have h2 := Int.emod_lt_of_pos c hl0
      refine ite2 (fun hz => ?_) (fun hz => ?_)
      · refine ⟨_, rfl, sb, _, _, 3, rfl, rfl, R3.st, ixN6 3 (by decide), ?_⟩
        exact ⟨_, rfl, hQ _ _ h1 h2 (o3.put (List.mem_singleton.mpr rfl)) ⟨_, _, _, _, _, dr_put R3 R3.c0 R3.small (Int.le_refl 0) (by decide)⟩⟩
      · exact ⟨_, rfl, hQ _ _ h1 h2 o3 ⟨_, _, _, _, _, R3⟩⟩
    · have hb : b = false := by cases b with | true => exact absurd rfl hb | false => rfl
      have hc := R2.small hb
      have hc0 := R2.c0
      have hk0 := R2.k0
      have hk60 := R2.k60
      refine ⟨_, rfl, sb, _, _, _, rfl, rfl, SqL.of R2.st, atI_nat (j := 2) rfl, _, _, rfl, rfl, .inr (by decide), _, rfl, sb, _, _, _, rfl, rfl, SqL.of R2.st, atI_nat (j := 3) rfl, _, _, rfl, rfl, .inr (by decide), _, _, rfl, rfl, _, _, rfl, rfl, .inl ⟨_, rfl, _, _, rfl, rfl, (by show (0 : Int) < 2147483647; decide), ?_⟩⟩
      have m0 := Int.emod_nonneg (c * 48271 + (k - 1) * 69621 + 7) (show (2147483647 : Int) ≠ 0 by decide)
      have m1 := Int.emod_lt_of_pos (c * 48271 + (k - 1) * 69621 + 7) (show (0 : Int) < 2147483647 by decide)
      generalize (c * 48271 + (k - 1) * 69621 + 7) % 2147483647 = m at m0 m1
      refine ⟨_, rfl, _, rfl, _, _, rfl, rfl, .inl ⟨by omega, by omega⟩, _, rfl, sb, _, _, _, rfl, rfl, SqL.of R2.st, atI_nat (j := 2) rfl, _, _, rfl, rfl, .inr (by decide), _, _, rfl, rfl, _, rfl, sb, _, _, _, rfl, rfl, SqL.of R2.st, atI_nat (j := 3) rfl, _, _, rfl, rfl, .inl ⟨_, rfl, _, _, rfl, rfl, (by show (0 : Int) < 1000003; decide), ?_⟩⟩
      refine ⟨_, rfl, .inl ⟨_, rfl, _, rfl, _, _, rfl, rfl, hl0, ?_⟩⟩
      exact hQ _ _ (Int.emod_nonneg _ (by omega)) (Int.emod_lt_of_pos _ hl0) o2 ⟨_, _, _, _, _, R2⟩
  · refine ⟨none, p, c, k, b, rfl, Out.refl _ _, R, ?_⟩
    have : k ≠ 0 := fun e => by rw [e] at hk; exact absurd hk (by decide)
    have := R.k0
    omega
  · refine ⟨_, rfl, sb, _, _, _, rfl, rfl, SqL.of R.st, atI_nat (j := 1) rfl, _, rfl, sb, _, _, _, rfl, rfl, SqL.of R.st, atI_nat (j := 0) rfl, lb, _, rfl, .inl (SqL.of R.cells), _, _, rfl, rfl, _, rfl, ?_⟩
    refine ite2 (fun hp => ?_) (fun hp => ?_)
    · exact hQ 0 H (Int.le_refl _) hl0 (Out.refl _ _) ⟨_, _, _, _, _, R⟩
    · have hp : p < ns.length := by
        have : ¬ (((ns.map V.int).length : Int) ≤ (p : Nat)) := fun e => hp (decide_eq_true e)
        rw [List.length_map] at this
        omega
      obtain ⟨n, hn⟩ : ∃ n, ns[p]? = some n := ⟨_, List.getElem?_eq_getElem hp⟩
      refine ⟨_, rfl, sb, _, _, _, rfl, rfl, SqL.of R.st, atI_nat (j := 0) rfl, _, rfl, sb, _, _, _, rfl, rfl, SqL.of R.st, atI_nat (j := 1) rfl, lb, _, _, .int n, rfl, rfl, SqL.of R.cells, atI_nat (j := p) (by rw [List.getElem?_map, hn] <;> rfl), ?_⟩
      refine ⟨_, rfl, _, _, rfl, rfl, _, rfl, ?_⟩
      refine if_fall (fun σ' H1 => ∃ c1 : Int, 0 ≤ c1 ∧ σ' = [some (.ref sb), some (.int lim), some (.int c1), none, none] ∧ H1 = H) ?_ (fun hz => ?_) (fun hz J => ?_)
      · rintro σ' H1 ⟨c1, hc1, rfl, rfl⟩
        refine ⟨_, rfl, sb, _, _, _, rfl, rfl, SqL.of R.st, atI_nat (j := 1) rfl, _, _, rfl, rfl, _, rfl, sb, _, _, 1, rfl, rfl, R.st, ixN6 1 (by decide), ?_⟩
        refine ⟨_, rfl, _, rfl, sb, _, _, 2, rfl, rfl, upd_same, ixN6 2 (by decide), ?_⟩
        rw [upd_upd]
        refine ⟨_, rfl, _, _, rfl, rfl, (by refine ⟨?_, ?_, ?_⟩ <;> decide), _, _, rfl, rfl, _, rfl, sb, _, _, 4, rfl, rfl, upd_same, ixN6 4 (by decide), ?_⟩
        rw [upd_upd]
        refine ⟨_, rfl, sb, _, _, 3, rfl, rfl, upd_same, ixN6 3 (by decide), ?_⟩
        rw [upd_upd]
        refine ⟨_, rfl, sb, _, _, _, rfl, rfl, SqL.of upd_same, atI_nat (j := 4) rfl, _, rfl, ?_⟩
        have hsm : ∀ b : Bool, b = decide ((10 : Int) ^ 18 ≤ c1) → b = false → c1 < 10 ^ 18 := fun b e1 e2 => by
          rw [e2] at e1
          have := of_decide_eq_false e1.symm
          omega
        refine if_fall (fun σ' H2 => ∃ x2 p c k b, σ' = [some (.ref sb), some (.int lim), x2, none, none] ∧ Out [sb] H1 H2 ∧ DrR H2 sb lb ns p c k b ∧ 0 < k) I (fun hz => ?_) (fun hz I' => ?_)
        · exact ⟨_, p + 1, c1, 6, _, rfl, (Out.refl _ _).put (List.mem_singleton.mpr rfl), dr_put R hc1 (hsm _ rfl) (by decide) (by decide), by decide⟩
        · refine ⟨_, rfl, sb, _, _, 3, rfl, rfl, upd_same, ixN6 3 (by decide), ?_⟩
          rw [upd_upd]
          exact I' _ _ ⟨_, p + 1, c1, 60, _, rfl, (Out.refl _ _).put (List.mem_singleton.mpr rfl), dr_put R hc1 (hsm _ rfl) (by decide) (by decide), by decide⟩
      · have : ¬ n < 0 := of_decide_eq_false hz
        exact ⟨n, by omega, rfl, rfl⟩
      · have : n < 0 := of_decide_eq_true hz
        exact ⟨_, rfl, _, rfl, _, _, rfl, rfl, J _ _ ⟨-1 - n, by omega, rfl, rfl⟩⟩
end Pk
set_option Elab.async false
set_option linter.all false
set_option maxRecDepth 100000
set_option maxHeartbeats 4000000
/-! The defs, 26: the law: names. -/
namespace Pk
open PySem PySem.Spec PyProof.Rows L2
variable {P : Program} {w : World} {K : PySem.W.Frag} {mg : Str → Option Value} {base : Heap}
theorem strOk_iff {z : Str} : PyData.strOk z = true ↔ ∀ c ∈ z.cps.toList, c < 0x110000 := by
  unfold PyData.strOk
  rw [Array.all_eq_true']
  simp
theorem strOk_app {a b : Str} (ha : PyData.strOk a = true) (hb : PyData.strOk b = true) : PyData.strOk (a ++ b) = true := by
  rw [strOk_iff] at *
  intro c hc
  have hc : c ∈ (a.cps ++ b.cps).toList := hc
  rw [Array.toList_append] at hc
  rcases List.mem_append.mp hc with h | h
  · exact ha c h
  · exact hb c h
theorem strOk_one {z : Str} {c : Nat} (hz : PyData.strOk z = true) (h : c ∈ z.cps.toList) : PyData.strOk ⟨#[c]⟩ = true := by
  rw [strOk_iff] at *
  intro d hd
  have : d = c := by simpa using hd
  rw [this]
  exact hz c h
theorem strOk_cut {z : Str} (hz : PyData.strOk z = true) (lo hi : Option Int) : PyData.strOk (cutS z lo hi) = true := by
  rw [strOk_iff] at *
  intro c hc
  unfold cutS at hc
  have hc : c ∈ (z.cps.toList.drop (HT.sIx z.length 0 lo)).take (HT.sIx z.length z.length hi - HT.sIx z.length 0 lo) := by simpa using hc
  exact hz c (List.mem_of_mem_drop (List.mem_of_mem_take hc))
theorem strOk_of (s : String) : PyData.strOk (Str.ofString s) = true := by
  rw [strOk_iff, Str.ofString_eq_toList]
  intro c hc
  have hc : c ∈ s.toList.map Char.toNat := by simpa using hc
  obtain ⟨d, _, rfl⟩ := List.mem_map.mp hc
  have h1 := d.valid
  have h2 : d.val.toNat.isValidChar := h1
  unfold Nat.isValidChar at h2
  show d.val.toNat < _
  omega
/-- a text, four times -/
theorem op_str4 {X : Cx} : OpR X (binaryOp .Mult) (fun x y H Q => ∃ z, x = .str z ∧ y = .int 4 ∧ z.length ≤ 100 ∧ z.length ≠ 0 ∧ Q (.str (((z ++ z) ++ z) ++ z)) H) := by
  intro pins s σ H x y v u Q I rx ry h
  obtain ⟨z, rfl, rfl, hz, hz0, q⟩ := h
  obtain ⟨t, rfl⟩ := rx
  obtain ⟨t', rfl⟩ := ry
  have big : (400000 : Nat) < sizeLine := by decide
  have e0 : ((4 : Int) == 1 || z.length == 0) = false := by
    have : (z.length == 0) = false := by simp [hz0]
    rw [this]
    rfl
  refine PySem.P.mul_str (by decide) (fun _ _ => ?_) (fun _ _ => ?_) ?_
  · show ¬ ((z.length : Int) > (2 ^ 63 - 1) / 4)
    have : ((2 : Int) ^ 63 - 1) / 4 = 2305843009213693951 := by decide
    rw [this]
    omega
  · unfold Builtin.Str.tooLong
    exact decide_eq_false (by show ¬ (z.length * 4 > sizeLine); omega)
  · rw [if_neg (by decide), if_neg (by rw [e0]; decide)]
    have e : (⟨(List.replicate (4 : Int).toNat z.cps).foldl (· ++ ·) #[]⟩ : Str) = ((z ++ z) ++ z) ++ z := by
      show (⟨(((#[] ++ z.cps) ++ z.cps) ++ z.cps) ++ z.cps⟩ : Str) = ⟨((z.cps ++ z.cps) ++ z.cps) ++ z.cps⟩
      rw [Array.empty_append]
    rw [e]
    exact ⟨by rw [len_app, len_app, len_app]; omega, ⟨.str _, H, I.tok _, ⟨_, rfl⟩, q⟩⟩
theorem str_at {z : Str} {i : Int} (h0 : 0 ≤ i) (h1 : i < (z.length : Nat)) : ∃ c, atI z.cps.toList i = some c ∧ c ∈ z.cps.toList := by
  obtain ⟨n, rfl⟩ := Int.eq_ofNat_of_zero_le h0
  have hl : n < z.cps.toList.length := by
    have : z.cps.toList.length = z.length := by simp [Str.length]
    omega
  obtain ⟨c, hc⟩ : ∃ c, z.cps.toList[n]? = some c := ⟨_, List.getElem?_eq_getElem hl⟩
  exact ⟨c, atI_nat hc, List.mem_of_getElem? hc⟩
def Nm (z : Str) : Prop := PyData.strOk z = true ∧ z.length ≤ 20
def spName : Sp := fun vs H Q _ => ∃ (sb lb : Addr), vs = [.ref sb] ∧ DrV H sb lb ∧ ∀ z H', Nm z → Out [sb] H H' → DrV H' sb lb → Q (.str z) H'
theorem md {n : Int} {k : Int} (h : 0 < k) : 0 ≤ n % k ∧ n % k < k := ⟨Int.emod_nonneg _ (by omega), Int.emod_lt_of_pos _ h⟩
theorem if_fall' {b : Bool} {t e : TS} {D : Ends} {σ : L2.St} {H : Hp} (I : L2.St → Hp → Prop) (k : ∀ σ' H', I σ' H' → D.nx σ' H') (h1 : b = true → (∀ σ' H', I σ' H' → D.nx σ' H') → t D σ H) (h0 : b = false → (∀ σ' H', I σ' H' → D.nx σ' H') → e D σ H) : if b = true then t D σ H else e D σ H := by
  cases b with
  | true => exact iteT (h1 rfl k)
  | false => exact iteF (h0 rfl k)
theorem sc_law_name : FnScope ["_law_state_here", "_law_first", "_law_other", "_law_number", "_law_name_here", "_law_tail"] ["_law_state_here"] (defScope s_law_name) := ⟨rfl, rfl, rfl, by decide +kernel, rfl, by decide +kernel, by decide +kernel⟩
theorem o_law_name (T : Txt K mg) : Ok P w K mg base CX0 "_law_name" 2 ["_law_state_here"] spName :=
  ok_def T.d_law_name T.g_law_name sc_law_name (fun _ _ _ _ _ _ us hl => match us, hl with | [_], _ => rfl) (fun vs H Q E h => by obtain ⟨_, _, rfl, _⟩ := h; rfl) fun cdv A outer s H vs Q E hr h => by
  obtain ⟨sb, lb, rfl, hD, hQ⟩ := h
  refine ⟨_, (PSs.nox (pss_cons (ps_set (i := 1) sc_law_name.nd rfl (by first | exact Or.inl rfl | exact Or.inr rfl) pe_str)
      (pss_cons (ps_set (i := 2) sc_law_name.nd rfl (by first | exact Or.inl rfl | exact Or.inr rfl) (pe_op op_add_str (pv 1) pe_str))
      (pss_cons (ps_set (i := 3) sc_law_name.nd rfl (by first | exact Or.inl rfl | exact Or.inr rfl) (pe_cl (o_law_draw T) (hr.mono (by decide)) (pa_cons (pv 0) (pa_cons pe_int pa_nil))))
      (pss_cons (ps_set (i := 4) sc_law_name.nd rfl (by first | exact Or.inl rfl | exact Or.inr rfl) (pe_ix ix_str (pv 1) (pe_op op_mod (pe_callTy (T := "int") call_int1 (by rfl) T.n_int (by decide +kernel) (pa_cons (pe_op op_fdiv (pv 3) pe_int) pa_nil)) pe_int) (fun _ _ => rfl)))
      (pss_cons (ps_set (i := 5) sc_law_name.nd rfl (by first | exact Or.inl rfl | exact Or.inr rfl) (pe_op op_add_str (pe_op op_add_str (pe_ix ix_str (pv 2) (pe_op op_mod (pe_callTy (T := "int") call_int1 (by rfl) T.n_int (by decide +kernel) (pa_cons (pe_op op_fdiv (pv 3) pe_int) pa_nil)) pe_int) (fun _ _ => rfl)) (pe_ix ix_str (pv 2) (pe_op op_mod (pe_callTy (T := "int") call_int1 (by rfl) T.n_int (by decide +kernel) (pa_cons (pe_op op_fdiv (pv 3) pe_int) pa_nil)) pe_int) (fun _ _ => rfl))) (pe_ix ix_str (pv 2) (pe_op op_mod (pe_callTy (T := "int") call_int1 (by rfl) T.n_int (by decide +kernel) (pa_cons (pv 3) pa_nil)) pe_int) (fun _ _ => rfl))))
      (pss_cons (ps_if (pt_cmpR op_eq (pe_cl (o_law_draw T) (hr.mono (by decide)) (pa_cons (pv 0) (pa_cons pe_int pa_nil))) pe_int (nomark _)) (pss_one (ps_set (i := 4) sc_law_name.nd rfl (by first | exact Or.inl rfl | exact Or.inr rfl) (pe_slice sl_str (pe_op op_add_str (pv 4) (pe_op op_str4 (pv 5) pe_int)) po_none (po_some (pe_op op_add pe_int (pe_cl (o_law_draw T) (hr.mono (by decide)) (pa_cons (pv 0) (pa_cons pe_int pa_nil)))))))) (pss_one (ps_set (i := 4) sc_law_name.nd rfl (by first | exact Or.inl rfl | exact Or.inr rfl) (pe_op op_add_str (pv 4) (pe_slice sl_str (pv 5) po_none (po_some (pe_op op_mod (pe_callTy (T := "int") call_int1 (by rfl) T.n_int (by decide +kernel) (pa_cons (pv 3) pa_nil)) pe_int)))))))
      (pss_cons (ps_if (pt_cmpR op_in_seq (pv 4) (pe_lst (pa_cons pe_str (pa_cons pe_str (pa_cons pe_str (pa_cons pe_str (pa_cons pe_str (pa_cons pe_str pa_nil))))))) rfl) (pss_one (ps_ret (pe_op op_add_str (pv 4) pe_str))) pss_nil)
      (pss_one (ps_ret (pv 4))))))))))), ?_⟩
  have big : (400000 : Nat) < sizeLine := by decide
  have l1 : (Str.ofString "abcdefghijklmnopqrstuvwxyz").length = 26 := by decide +kernel
  have l2 : (Str.ofString "0123456789").length = 10 := by decide +kernel
  have l9 : (Str.ofString "1").length = 1 := by decide +kernel
  have ok1 : PyData.strOk (Str.ofString "abcdefghijklmnopqrstuvwxyz") = true := strOk_of _
  have ok2 : PyData.strOk (Str.ofString "abcdefghijklmnopqrstuvwxyz" ++ Str.ofString "0123456789") = true := strOk_app ok1 (strOk_of _)
  have l3 : (Str.ofString "abcdefghijklmnopqrstuvwxyz" ++ Str.ofString "0123456789").length = 36 := by rw [len_app, l1, l2]
  refine ⟨_, rfl, _, _, rfl, rfl, by omega, ?_⟩
  refine ⟨_, rfl, sb, lb, 134784, rfl, hD, by decide, by decide, fun n H1 h0 h1 o1 hD1 => ?_⟩
  -- the letters
  obtain ⟨c1, hc1, m1⟩ := str_at (z := Str.ofString "abcdefghijklmnopqrstuvwxyz") (md (n := n / 4) (k := 26) (by decide)).1 (by rw [l1]; exact (md (n := n / 4) (k := 26) (by decide)).2)
  refine ⟨_, rfl, _, rfl, _, _, rfl, rfl, ⟨by decide, by decide⟩, .inl ⟨_, rfl, _, _, rfl, rfl, (by show (0 : Int) < 26; decide), _, _, c1, rfl, rfl, by omega, hc1, ?_⟩⟩
  generalize hzo : Str.ofString "abcdefghijklmnopqrstuvwxyz" ++ Str.ofString "0123456789" = zo at *
  obtain ⟨c2, hc2, m2⟩ := str_at (z := zo) (md (n := n / 104) (k := 36) (by decide)).1 (by rw [l3]; exact (md (n := n / 104) (k := 36) (by decide)).2)
  obtain ⟨c3, hc3, m3⟩ := str_at (z := zo) (md (n := n / 3744) (k := 36) (by decide)).1 (by rw [l3]; exact (md (n := n / 3744) (k := 36) (by decide)).2)
  obtain ⟨c4, hc4, m4⟩ := str_at (z := zo) (md (n := n) (k := 35) (by decide)).1 (by rw [l3]; have := (md (n := n) (k := 35) (by decide)).2; omega)
  refine ⟨_, rfl, _, rfl, _, _, rfl, rfl, ⟨by decide, by decide⟩, .inl ⟨_, rfl, _, _, rfl, rfl, (by show (0 : Int) < 36; decide), _, _, c2, rfl, rfl, by omega, hc2, ?_⟩⟩
  refine ⟨_, rfl, _, rfl, _, _, rfl, rfl, ⟨by decide, by decide⟩, .inl ⟨_, rfl, _, _, rfl, rfl, (by show (0 : Int) < 36; decide), _, _, c3, rfl, rfl, by omega, hc3, ?_⟩⟩
  refine ⟨_, _, rfl, rfl, (by show 1 + 1 ≤ sizeLine; omega), ?_⟩
  refine ⟨_, rfl, _, rfl, .inl ⟨_, rfl, _, _, rfl, rfl, (by show (0 : Int) < 35; decide), _, _, c4, rfl, rfl, by omega, hc4, ?_⟩⟩
  refine ⟨_, _, rfl, rfl, (by rw [len_app]; show 1 + 1 + 1 ≤ sizeLine; omega), ?_⟩
  have okA_ : PyData.strOk ⟨#[c1]⟩ = true := strOk_one ok1 m1
  have okT : PyData.strOk ((⟨#[c2]⟩ : Str) ++ ⟨#[c3]⟩ ++ ⟨#[c4]⟩) = true := strOk_app (strOk_app (strOk_one ok2 m2) (strOk_one ok2 m3)) (strOk_one ok2 m4)
  have lT : ((⟨#[c2]⟩ : Str) ++ ⟨#[c3]⟩ ++ ⟨#[c4]⟩).length = 3 := by rw [len_app, len_app] <;> rfl
  have lA : (⟨#[c1]⟩ : Str).length = 1 := rfl
  generalize (⟨#[c2]⟩ : Str) ++ ⟨#[c3]⟩ ++ ⟨#[c4]⟩ = zt at okT lT
  generalize (⟨#[c1]⟩ : Str) = za at okA_ lA
  refine ⟨_, rfl, sb, lb, 9, rfl, hD1, by decide, by decide, fun r H2 r0 r1 o2 hD2 => ⟨rfl, _, rfl, ?_⟩⟩
  have o2 := o1.trans o2
  refine if_fall' (fun σ' H' => ∃ zn, PyData.strOk zn = true ∧ zn.length ≤ 13 ∧ Out [sb] H H' ∧ DrV H' sb lb ∧ σ' = [some (.ref sb), some (.str (Str.ofString "abcdefghijklmnopqrstuvwxyz")), some (.str zo), some (.int n), some (.str zn), some (.str zt)]) ?_ (fun _ I => ?_) (fun _ I => ?_)
  · rintro σ' H3 ⟨zn, okn, ln, o3, hD3, rfl⟩
    refine ⟨_, rfl, (by show 6 ≤ sizeLine; omega), fun wb hwb => ⟨wb, _, rfl, .inl (SqL.of upd_same), rfl, rfl, _, rfl, ?_⟩⟩
    have s4 := same_new (o := .lst [.str "pact", .str "end", .str "choice", .str "both", .str "loop", .str "use"]) hwb
    refine ite2 (fun _ => ?_) (fun _ => ?_)
    · refine ⟨_, rfl, _, _, rfl, rfl, (by omega), ?_⟩
      exact hQ _ _ ⟨strOk_app okn (strOk_of _), by rw [len_app]; omega⟩ (o3.trans (Out.of s4)) (hD3.same s4)
    · exact ⟨_, rfl, hQ _ _ ⟨okn, by omega⟩ (o3.trans (Out.of s4)) (hD3.same s4)⟩
  · refine ⟨_, rfl, _, rfl, zt, rfl, rfl, by omega, by omega, _, _, rfl, rfl, (by rw [len_app, len_app, len_app]; omega), _, rfl, sb, lb, 9, rfl, hD2, by decide, by decide, fun r3 H3 r4 r5 o3 hD3 => ⟨_, _, rfl, rfl, _, rfl, _, rfl, (by rw [len_app, len_app, len_app, len_app]; omega), ?_⟩⟩
    have hc := cutS_length (za ++ (zt ++ zt ++ zt ++ zt)) none (some (4 + r3))
    have hl : (za ++ (zt ++ zt ++ zt ++ zt)).length = 13 := by rw [len_app, len_app, len_app, len_app, lA, lT]
    exact I _ _ ⟨_, strOk_cut (strOk_app okA_ (strOk_app (strOk_app (strOk_app okT okT) okT) okT)) none (some (4 + r3)), by omega, o2.trans o3, hD3, rfl⟩
  · refine ⟨_, rfl, _, rfl, _, rfl, .inl ⟨_, rfl, _, _, rfl, rfl, (by show (0 : Int) < 4; decide), _, rfl, _, rfl, (by omega), ?_⟩⟩
    have hc := cutS_length zt none (some (n % 4))
    refine ⟨_, _, rfl, rfl, (by omega), ?_⟩
    exact I _ _ ⟨_, strOk_app okA_ (strOk_cut okT none (some (n % 4))), by rw [len_app]; omega, o2, hD2, rfl⟩
end Pk
set_option Elab.async false
set_option linter.all false
set_option maxRecDepth 100000
set_option maxHeartbeats 4000000
/-! The defs, 27: the law: many names. -/
namespace Pk
open PySem PySem.Spec PyProof.Rows L2
variable {P : Program} {w : World} {K : PySem.W.Frag} {mg : Str → Option Value} {base : Heap}
/-- the last sign -/
def lastC (z : Str) : Option Nat := z.cps.toList.getLast?
theorem lastC_app (a b : Str) (h : lastC b ≠ none) : lastC (a ++ b) = lastC b := by
  show (a.cps ++ b.cps).toList.getLast? = b.cps.toList.getLast?
  rw [Array.toList_append, List.getLast?_append]
  cases hz : b.cps.toList.getLast? with
  | none => exact absurd hz h
  | some c => rfl
/-- a name, after i tries -/
def Try (l : List Str) (i : Nat) (z : Str) : Prop := z ∉ l ∨ i ≤ 3 ∧ (i = 0 ∨ ∃ ws : List Str, ws.length + 1 = i ∧ ws.Nodup ∧ (∀ x ∈ ws, x ∈ l ∧ ∃ d, d + 1 < i ∧ lastC x = some (48 + d)) ∧ lastC z = some (48 + (i - 1)))
theorem digit_last (i : Nat) (h : i ≤ 3) : lastC (Str.ofString (toString (i : Int))) = some (48 + i) := by
  match i, h with
  | 0, _ => decide +kernel
  | 1, _ => decide +kernel
  | 2, _ => decide +kernel
  | 3, _ => decide +kernel
theorem Try.next {l : List Str} (hl : l.length ≤ 3) {i : Nat} {z : Str} (h : Try l i z) (hz : z ∈ l) (pre : Str) : Try l (i + 1) (pre ++ Str.ofString (toString (i : Int))) := by
  rcases h with h | ⟨h3, h⟩
  · exact absurd hz h
  have hd := digit_last i h3
  have hlast : lastC (pre ++ Str.ofString (toString (i : Int))) = some (48 + i) := by rw [lastC_app _ _ (by rw [hd]; exact nofun), hd]
  by_cases h4 : i ≤ 2
  · refine .inr ⟨by omega, .inr ?_⟩
    rcases h with rfl | ⟨ws, w1, w2, w3, w4⟩
    · exact ⟨[], rfl, List.nodup_nil, (fun x hx => nomatch hx), hlast⟩
    · refine ⟨z :: ws, by rw [List.length_cons]; omega, List.nodup_cons.mpr ⟨fun hm => ?_, w2⟩, fun x hx => ?_, hlast⟩
      · obtain ⟨_, d, d1, d2⟩ := w3 z hm
        rw [w4] at d2
        have := Option.some.inj d2
        omega
      · rcases List.mem_cons.mp hx with rfl | hx
        · exact ⟨hz, i - 1, by omega, w4⟩
        · obtain ⟨a, d, d1, d2⟩ := w3 x hx
          exact ⟨a, d, by omega, d2⟩
  · have hi : i = 3 := by omega
    subst hi
    rcases h with h | ⟨ws, w1, w2, w3, w4⟩
    · cases h
    left
    intro hn
    have hnd : (((pre ++ Str.ofString (toString ((3 : Nat) : Int))) :: z :: ws) : List Str).Nodup := by
      refine List.nodup_cons.mpr ⟨fun hm => ?_, List.nodup_cons.mpr ⟨fun hm => ?_, w2⟩⟩
      · rcases List.mem_cons.mp hm with e | hm
        · rw [e, w4] at hlast
          cases hlast
        · obtain ⟨_, d, d1, d2⟩ := w3 _ hm
          rw [hlast] at d2
          have := Option.some.inj d2
          omega
      · obtain ⟨_, d, d1, d2⟩ := w3 z hm
        rw [w4] at d2
        have := Option.some.inj d2
        omega
    have := nodup_len (m := l) hnd fun x hx => by
      rcases List.mem_cons.mp hx with rfl | hx
      · exact hn
      · rcases List.mem_cons.mp hx with rfl | hx
        · exact hz
        · exact (w3 x hx).1
    rw [List.length_cons, List.length_cons] at this
    omega
theorem Try.stay {l : List Str} {i : Nat} {z : Str} (hz : z ∉ l) : Try l (i + 1) z := .inl hz
theorem Try.fine {l : List Str} {i : Nat} {z : Str} (h : Try l i z) (hi : 4 ≤ i) : z ∉ l := by
  rcases h with h | ⟨h, _⟩
  · exact h
  · omega
theorem inV_str (z : Str) (l : List Str) : inV (V.str z) (l.map V.str) = decide (z ∈ l) := by
  unfold inV
  induction l with
  | nil => rfl
  | cons x l ih =>
    rw [List.map_cons, List.any_cons, ih]
    show ((x == z) || decide (z ∈ l)) = _
    by_cases c : x = z
    · subst c
      simp
    · have : ¬ z = x := fun e => c e.symm
      simp [this, c]
theorem flat_str : ∀ l : List Str, (l.map V.str).all flatV = true
  | [] => rfl
  | _ :: l => by rw [List.map_cons, List.all_cons, flat_str l] <;> rfl
theorem cutS_len9 (z : Str) : (cutS z none (some 9)).length ≤ 9 := by
  unfold cutS
  show (Array.size (List.toArray _)) ≤ 9
  rw [List.size_toArray, List.length_take]
  have : HT.sIx z.length z.length (some 9) = min 9 z.length := HT.sIx_nat _ _ 9
  rw [this]
  omega
def spNames (K : PySem.W.Frag) : Sp := fun vs H Q _ => ∃ (sb lb tb : Addr) (n : Nat), vs = [.ref sb, .int (n : Nat), .ref tb] ∧ DrV H sb lb ∧ H tb = some (.lst []) ∧ n ≤ 4 ∧ tb ≠ sb ∧ ∀ b H' (zs : List Str), Out [sb] H H' → DrV H' sb lb → H b = none → H' b = some (.lst (zs.map V.str)) → zs.length = n → zs.Nodup → (∀ z ∈ zs, Nm z) → Q (.ref b) H'
theorem sc_law_names : FnScope ["_law_state_here", "_law_count", "_law_taken", "_law_names_here", "_law_k", "_law_name_here", "_law_j"] ["_law_state_here", "_law_count", "_law_taken"] (defScope s_law_names) := ⟨rfl, rfl, rfl, by decide +kernel, rfl, by decide +kernel, by decide +kernel⟩
theorem o_law_names (T : Txt K mg) : Ok P w K mg base CX0 "_law_names" 3 ["_law_state_here", "_law_count", "_law_taken"] (spNames K) :=
  ok_def T.d_law_names T.g_law_names sc_law_names (fun _ _ _ _ _ _ us hl => match us, hl with | [_, _, _], _ => rfl) (fun vs H Q E h => by obtain ⟨_, _, _, _, rfl, _⟩ := h; rfl) fun cdv A outer s H vs Q E hr h => by
  obtain ⟨sb, lb, tb, n, rfl, hD, htb, hn, hts, hQ⟩ := h
  refine ⟨_, (PSs.nox (pss_cons (ps_set (i := 3) sc_law_names.nd rfl (by first | exact Or.inl rfl | exact Or.inr rfl) (pe_lst pa_nil))
      (pss_cons (ps_for PassesOwn.never rfl (pi_range1 (by rfl) T.n_range (pa_cons (pv 1) pa_nil)) (pg_name (i := 4) sc_law_names.nd rfl (by first | exact Or.inl rfl | exact Or.inr rfl)) (pss_cons (ps_set (i := 5) sc_law_names.nd rfl (by first | exact Or.inl rfl | exact Or.inr rfl) (pe_cl (o_law_name T) (hr.mono (by decide)) (pa_cons (pv 0) pa_nil)))
      (pss_cons (ps_for PassesOwn.never rfl (pi_range1 (by rfl) T.n_range (pa_cons pe_int pa_nil)) (pg_name (i := 6) sc_law_names.nd rfl (by first | exact Or.inl rfl | exact Or.inr rfl)) (pss_one (ps_if (PW.pt (pw_or (pt_cmpR op_in_seq (pv 5) (pv 3) rfl) (pw_or1 (pt_cmpR op_in_seq (pv 5) (pv 2) rfl)))) (pss_one (ps_set (i := 5) sc_law_names.nd rfl (by first | exact Or.inl rfl | exact Or.inr rfl) (pe_op op_add_str (pe_op op_add_str (pe_slice sl_str (pv 5) po_none (po_some pe_int)) pe_str) (pe_callTy (T := "str") call_str_int (by rfl) T.n_str (by decide +kernel) (pa_cons (pv 6) pa_nil))))) pss_nil)))
      (pss_one (ps_expr (pe_bm PySem.F.plainAttrs_list PySem.F.slot_list_append PySem.F.type_list_append mt_append (pv 3) (pa_cons (pv 5) pa_nil)))))))
      (pss_one (ps_ret (pv 3)))))), ?_⟩
  have big : (400000 : Nat) < sizeLine := by decide
  refine ⟨Nat.zero_le _, fun b hb => ?_⟩
  have s1 : Same H (upd H b (.lst [])) := same_new hb
  have hb1 : (upd H b (.lst [])) b = some (.lst (([] : List Str).map V.str)) := upd_same
  have hD1 := hD.same s1
  have nbs : b ≠ sb := fun e => hD.some_.1 (by rw [← e]; exact hb)
  have nbl : b ≠ lb := fun e => hD.some_.2 (by rw [← e]; exact hb)
  generalize upd H b (.lst []) = H1 at s1 hb1 hD1
  refine ⟨_, rfl, _, rfl, by omega, by omega, for_range (lo := 0) (n := n) (fun i σ H' => ∃ (zs : List Str) (x4 x5 x6 : Option V), σ = [some (.ref sb), some (.int (n : Nat)), some (.ref tb), some (.ref b), x4, x5, x6] ∧ Out [sb] H H' ∧ DrV H' sb lb ∧ H' b = some (.lst (zs.map V.str)) ∧ zs.length = i ∧ zs.Nodup ∧ ∀ z ∈ zs, Nm z)
    ⟨[], _, _, _, rfl, Out.of s1, hD1, hb1, rfl, List.nodup_nil, (fun z hz => nomatch hz)⟩ ?_ ?_⟩
  · rintro i σ H2 hi ⟨zs, x4, x5, x6, rfl, o2, hD2, hb2, hzl, hznd, hzn⟩
    refine ⟨_, rfl, sb, lb, rfl, hD2, fun z H3 hz o3 hD3 => ?_⟩
    have o3' := o2.trans o3
    have hb3 : H3 b = some (.lst (zs.map V.str)) := o3 _ _ (fun e => nbs (List.mem_singleton.mp e)) hb2
    have htb3 : H3 tb = some (.lst []) := o3' _ _ (fun e => hts (List.mem_singleton.mp e)) htb
    refine ⟨20, rfl, by decide, by decide, for_range (lo := 0) (n := 20) (fun j σ H' => ∃ (z : Str) (x6 : Option V), σ = [some (.ref sb), some (.int (n : Nat)), some (.ref tb), some (.ref b), some (.int (0 + (i : Nat))), some (.str z), x6] ∧ H' = H3 ∧ Nm z ∧ Try zs j z)
      ⟨z, _, rfl, rfl, hz, .inr ⟨by decide, .inl rfl⟩⟩ ?_ ?_⟩
    · rintro j σ H4 hj ⟨z, x6, rfl, rfl, hz, ht⟩
      refine ⟨_, rfl, _, rfl, b, _, rfl, .inl (SqL.of hb3), rfl, flat_str zs, _, rfl, ?_⟩
      rw [show (if false = true then !inV (V.str z) (zs.map V.str) else inV (V.str z) (zs.map V.str)) = decide (z ∈ zs) from by rw [if_neg (by decide)]; exact inV_str z zs]
      by_cases c : z ∈ zs
      · rw [decide_eq_true c]
        have hc9 : (cutS z none (some 9)).length ≤ 9 := by
          have := cutS_len9 z
          exact this
        have hj0 : (0 : Int) + (j : Nat) = (j : Nat) := by omega
        have ltx := txt_small (n := (0 : Int) + (j : Nat)) (by omega) (by omega)
        have lq : (Str.ofString "q").length = 1 := by decide +kernel
        refine iteT (iteT ⟨_, rfl, _, rfl, z, rfl, by have := hz.2; omega, _, _, rfl, rfl, by omega, _, rfl, _, rfl, log_small (by omega) (by omega), _, _, rfl, rfl, by rw [len_app]; omega, ?_⟩)
        refine ⟨_, _, rfl, rfl, ⟨strOk_app (strOk_app (strOk_cut hz.1 none (some 9)) (strOk_of _)) (strOk_of _), by rw [len_app, len_app]; omega⟩, ?_⟩
        have := ht.next (by omega) c (cutS z none (some 9) ++ Str.ofString "q")
        rw [← hj0] at this
        exact this
      · rw [decide_eq_false c]
        refine iteF ⟨_, rfl, _, rfl, tb, _, rfl, .inl (SqL.of htb3), rfl, rfl, _, rfl, iteF ?_⟩
        exact ⟨z, _, rfl, rfl, hz, .stay c⟩
    · rintro σ H4 ⟨z, x6, rfl, rfl, hz, ht⟩
      have hzn' := ht.fine (by decide)
      refine ⟨_, rfl, .inl ⟨rfl, _, SqL.of hb3⟩, _, rfl, b, _, _, rfl, rfl, hb3, by rw [List.length_map]; omega, ?_⟩
      have hDz : DrV (upd H4 b (.lst (zs.map V.str ++ [.str z]))) sb lb := hD3.outz (Z := [b]) ((Out.refl _ _).put (List.mem_singleton.mpr rfl)) (fun e => nbs (List.mem_singleton.mp e).symm) (fun e => nbl (List.mem_singleton.mp e).symm)
      refine ⟨zs ++ [z], _, _, _, rfl, fun y o hy h => ?_, hDz, by rw [upd_same, List.map_append] <;> rfl, by rw [List.length_append, List.length_singleton, hzl], nodup_snoc hznd hzn', fun y hy => ?_⟩
      · rw [upd_ne (ne_of_none h hb)]
        exact o3' y o hy h
      · rcases List.mem_append.mp hy with h | h
        · exact hzn y h
        · rw [List.mem_singleton.mp h]; exact hz
  · rintro σ H2 ⟨zs, x4, x5, x6, rfl, o2, hD2, hb2, hzl, hznd, hzn⟩
    exact ⟨_, rfl, hQ b H2 zs o2 hD2 hb hb2 hzl hznd hzn⟩
end Pk
set_option Elab.async false
set_option linter.all false
set_option maxRecDepth 100000
set_option maxHeartbeats 4000000
/-! The defs, 28: the law: an edge. -/
namespace Pk
open PySem PySem.Spec PyProof.Rows L2
variable {P : Program} {w : World} {K : PySem.W.Frag} {mg : Str → Option Value} {base : Heap}
/-- a row as a dict -/
def rK (r : Row) : List (List Key × V) := r.map fun e => (kA e.1, .int (e.2 : Nat))
theorem rK_val {r : Row} (nd : (r.map (·.1)).Nodup) (a : Act) : (valV (rK r) (kA a) = none ∧ a ∉ r.map (·.1)) ∨ ∃ t, valV (rK r) (kA a) = some (.int (t : Nat)) ∧ (a, t) ∈ r := by
  by_cases h : a ∈ r.map (·.1)
  · right
    obtain ⟨e, he, rfl⟩ := List.mem_map.mp h
    refine ⟨e.2, ?_, he⟩
    have nd' : ((rK r).map (·.1)).Nodup := by
      have : (rK r).map (·.1) = (r.map (·.1)).map kA := by unfold rK; rw [List.map_map, List.map_map] <;> rfl
      rw [this]
      exact (List.pairwise_map.mpr (nd.imp fun h e => h (kA_inj _ _ e)))
    exact val_nodup nd' (kA e.1, .int (e.2 : Nat)) (List.mem_map.mpr ⟨e, he, rfl⟩)
  · left
    refine ⟨val_no fun y hy => ?_, h⟩
    obtain ⟨e, he, rfl⟩ := List.mem_map.mp hy
    exact fun q => h (List.mem_map.mpr ⟨e, he, kA_inj _ _ q⟩)
theorem rK_snoc (r : Row) (a : Act) (g : Nat) : rK (r ++ [(a, g)]) = rK r ++ [(kA a, .int (g : Nat))] := by
  unfold rK
  rw [List.map_append] <;> rfl
/-- an edge that the law draws -/
structure EdA (ps ls : List Str) (a : Act) : Prop where
  s : a.1 ∈ ps
  t : a.2.1 ∈ ps
  ne : a.1 ≠ a.2.1
  l : a.2.2 ∈ ls
def EdgeR (ps ls : List Str) (g : Nat) (r r' : Row) : Prop := r' = r ∨ ∃ a, r' = r ++ [(a, g)] ∧ a ∉ r.map (·.1) ∧ EdA ps ls a
theorem ActV.of {H : Hp} {b : Addr} {x y z : Str} (h : H b = some (.tup [.str x, .str y, .str z])) (hx : Nm x) (hy : Nm y) (hz : Nm z) : ActV H (.ref b) (x, y, z) := ⟨b, rfl, h, by
  unfold okA
  rw [hx.1, hy.1, hz.1]
  rfl⟩
theorem other_ne {n s d : Int} (hn : n = 3 ∨ n = 4) (s0 : 0 ≤ s) (s1 : s < n) (d0 : 0 ≤ d) (d1 : d < n - 1) : (s + 1 + d) % n ≠ s ∧ 0 ≤ (s + 1 + d) % n ∧ (s + 1 + d) % n < n := by
  rcases hn with rfl | rfl <;> omega
theorem str_ix {ps : List Str} {i : Int} (h0 : 0 ≤ i) (h1 : i < (ps.length : Nat)) : ∃ (n : Nat) (x : Str), i = (n : Nat) ∧ ps[n]? = some x ∧ atI (ps.map V.str) i = some (.str x) := by
  obtain ⟨n, rfl⟩ := Int.eq_ofNat_of_zero_le h0
  have hn : n < ps.length := by omega
  obtain ⟨x, hx⟩ : ∃ x, ps[n]? = some x := ⟨_, List.getElem?_eq_getElem hn⟩
  exact ⟨n, x, rfl, hx, atI_nat (by rw [List.getElem?_map, hx] <;> rfl)⟩
theorem nd_ne {ps : List Str} (nd : ps.Nodup) {i j : Nat} {x y : Str} (hi : ps[i]? = some x) (hj : ps[j]? = some y) (h : i ≠ j) : x ≠ y := by
  intro e
  subst e
  obtain ⟨q1, q2⟩ := List.getElem?_eq_some_iff.mp hi
  obtain ⟨q3, q4⟩ := List.getElem?_eq_some_iff.mp hj
  rcases Nat.lt_trichotomy i j with c | c | c
  · have := List.pairwise_iff_getElem.mp nd i j q1 q3 c
    rw [q2, q4] at this
    exact this rfl
  · exact h c
  · have := List.pairwise_iff_getElem.mp nd j i q3 q1 c
    rw [q2, q4] at this
    exact this rfl
structure NmL (ps : List Str) : Prop where
  nm : ∀ x ∈ ps, Nm x
  nd : ps.Nodup
def spEdge : Sp := fun vs H Q _ => ∃ (sb lb rb pb tb : Addr) (g : Nat) (r : Row) (ps ls : List Str), vs = [.ref sb, .ref rb, .ref pb, .ref tb, .int (g : Nat)] ∧ DrV H sb lb ∧ H rb = some (.dT (rK r)) ∧ (r.map (·.1)).Nodup ∧ r.length ≤ 1000 ∧ rb ≠ sb ∧ rb ≠ lb ∧ pb ≠ sb ∧ tb ≠ sb ∧
  H pb = some (.lst (ps.map V.str)) ∧ H tb = some (.lst (ls.map V.str)) ∧ NmL ps ∧ NmL ls ∧ (ps.length = 3 ∨ ps.length = 4) ∧ (ls.length = 1 ∨ ls.length = 2) ∧
  ∀ H' r', Out [sb, rb] H H' → DrV H' sb lb → H' rb = some (.dT (rK r')) → EdgeR ps ls g r r' → Q .non H'
theorem sc_law_edge : FnScope ["_law_state_here", "_law_row", "_law_parties", "_law_labels", "_law_goal", "_law_sender", "_law_taker", "_law_action", "_law_label"] ["_law_state_here", "_law_row", "_law_parties", "_law_labels", "_law_goal"] (defScope s_law_edge) := ⟨rfl, rfl, rfl, by decide +kernel, rfl, by decide +kernel, by decide +kernel⟩
theorem o_law_edge (T : Txt K mg) : Ok P w K mg base CX0 "_law_edge" 2 ["_law_state_here", "_law_row", "_law_parties", "_law_labels", "_law_goal"] spEdge :=
  ok_def T.d_law_edge T.g_law_edge sc_law_edge (fun _ _ _ _ _ _ us hl => match us, hl with | [_, _, _, _, _], _ => rfl) (fun vs H Q E h => by obtain ⟨_, _, _, _, _, _, _, _, _, rfl, _⟩ := h; rfl) fun cdv A outer s H vs Q E hr h => by
  obtain ⟨sb, lb, rb, pb, tb, g, r, ps, ls, rfl, hD, hrb, hnd, hrl, n1, n2, n3, n4, hpb, htb, hps, hls, hpl, hll, hQ⟩ := h
  refine ⟨_, (PSs.nox (pss_cons (ps_set (i := 5) sc_law_edge.nd rfl (by first | exact Or.inl rfl | exact Or.inr rfl) (pe_cl (o_law_draw T) (hr.mono (by decide)) (pa_cons (pv 0) (pa_cons (pe_callB (id := "len") (kc_len (K := K) rfl) (by rfl) T.n_len (by decide +kernel) (pa_cons (pv 2) pa_nil)) pa_nil))))
      (pss_cons (ps_set (i := 6) sc_law_edge.nd rfl (by first | exact Or.inl rfl | exact Or.inr rfl) (pe_op op_mod (pe_callTy (T := "int") call_int1 (by rfl) T.n_int (by decide +kernel) (pa_cons (pe_op op_add (pe_op op_add (pv 5) pe_int) (pe_cl (o_law_draw T) (hr.mono (by decide)) (pa_cons (pv 0) (pa_cons (pe_op op_sub (pe_callB (id := "len") (kc_len (K := K) rfl) (by rfl) T.n_len (by decide +kernel) (pa_cons (pv 2) pa_nil)) pe_int) pa_nil)))) pa_nil)) (pe_callB (id := "len") (kc_len (K := K) rfl) (by rfl) T.n_len (by decide +kernel) (pa_cons (pv 2) pa_nil))))
      (pss_cons (ps_set (i := 7) sc_law_edge.nd rfl (by first | exact Or.inl rfl | exact Or.inr rfl) (pe_tup (pa_cons (pe_ix (kx_list (K := K) rfl) (pv 2) (pv 5) (fun _ _ => rfl)) (pa_cons (pe_ix (kx_list (K := K) rfl) (pv 2) (pv 6) (fun _ _ => rfl)) (pa_cons (pe_ix (kx_list (K := K) rfl) (pv 3) (pe_cl (o_law_draw T) (hr.mono (by decide)) (pa_cons (pv 0) (pa_cons (pe_callB (id := "len") (kc_len (K := K) rfl) (by rfl) T.n_len (by decide +kernel) (pa_cons (pv 3) pa_nil)) pa_nil))) (fun _ _ => rfl)) pa_nil)))))
      (pss_cons (ps_for PassesOwn.never rfl (ki_list (K := K) rfl (pv 3)) (pg_name (i := 8) sc_law_edge.nd rfl (by first | exact Or.inl rfl | exact Or.inr rfl)) (pss_one (ps_if (pt_cmp (pc_din (ru1 hr) (pv 7) (pv 1))) (pss_one (ps_set (i := 7) sc_law_edge.nd rfl (by first | exact Or.inl rfl | exact Or.inr rfl) (pe_tup (pa_cons (pe_ix (kx_tup (K := K) rfl) (pv 7) pe_int (fun _ _ => rfl)) (pa_cons (pe_ix (kx_tup (K := K) rfl) (pv 7) pe_int (fun _ _ => rfl)) (pa_cons (pv 8) pa_nil)))))) pss_nil)))
      (pss_one (ps_if (pt_cmp (pc_dnotin (ru1 hr) (pv 7) (pv 1))) (pss_one (ps_dput (ru1 hr) (pv 1) (pv 7) (pv 4) rfl)) pss_nil))))))), ?_⟩
  have big : (400000 : Nat) < sizeLine := by decide
  have ms : sb ∈ [sb, rb] := by simp
  have pn : (ps.map V.str).length = ps.length := List.length_map _
  have ln : (ls.map V.str).length = ls.length := List.length_map _
  -- the parties
  refine ⟨_, rfl, _, rfl, pb, _, rfl, .inl (SqL.of hpb), sb, lb, _, rfl, hD, by rw [pn]; omega, by rw [pn]; omega, fun s H1 s0 s1 o1 hD1 => ?_⟩
  rw [pn] at s1
  have hpb1 : H1 pb = _ := o1 _ _ (fun e => n3 (List.mem_singleton.mp e)) hpb
  refine ⟨_, rfl, _, _, rfl, rfl, ?_⟩
  refine ⟨_, rfl, _, rfl, pb, _, rfl, .inl (SqL.of hpb1), _, _, rfl, rfl, sb, lb, _, rfl, hD1, by rw [pn]; omega, by rw [pn]; omega, fun d H2 d0 d1 o2 hD2 => ?_⟩
  rw [pn] at d1
  have o2 := o1.trans o2
  have hpb2 : H2 pb = _ := o2 _ _ (fun e => n3 (List.mem_singleton.mp e)) hpb
  have htb2 : H2 tb = _ := o2 _ _ (fun e => n4 (List.mem_singleton.mp e)) htb
  refine ⟨_, _, rfl, rfl, .inl ⟨_, rfl, _, rfl, pb, _, rfl, .inl (SqL.of hpb2), _, _, rfl, rfl, by rw [pn]; omega, ?_⟩⟩
  rw [pn]
  obtain ⟨hne, t0, t1⟩ := other_ne (n := (ps.length : Nat)) (by omega) s0 s1 d0 d1
  show gName 6 (V.int ((s + 1 + d) % ((ps.length : Nat) : Int))) _ _ _
  generalize (s + 1 + d) % ((ps.length : Nat) : Int) = t at hne t0 t1
  obtain ⟨si, x, rfl, hx, ax⟩ := str_ix s0 s1
  obtain ⟨ti, y, rfl, hy, ay⟩ := str_ix t0 t1
  have hxy : x ≠ y := nd_ne hps.nd hx hy (fun e => hne (by rw [e]))
  have hxm := List.mem_of_getElem? hx
  have hym := List.mem_of_getElem? hy
  refine ⟨_, rfl, _, rfl, pb, _, _, _, rfl, rfl, SqL.of hpb2, ax, _, rfl, _, rfl, pb, _, _, _, rfl, rfl, SqL.of hpb2, ay, _, rfl, _, rfl, _, rfl, tb, _, rfl, .inl (SqL.of htb2), sb, lb, _, rfl, hD2, by rw [ln]; omega, by rw [ln]; omega, fun e H3 e0 e1 o3 hD3 => ?_⟩
  rw [ln] at e1
  have o3 := o2.trans o3
  have htb3 : H3 tb = _ := o3 _ _ (fun e => n4 (List.mem_singleton.mp e)) htb
  have hrb3 : H3 rb = _ := o3 _ _ (fun e => n1 (List.mem_singleton.mp e)) hrb
  obtain ⟨li, z, rfl, hz, az⟩ := str_ix e0 e1
  have hzm := List.mem_of_getElem? hz
  refine ⟨tb, _, _, _, rfl, rfl, SqL.of htb3, az, (by show 3 ≤ sizeLine; omega), fun ab hab => ?_⟩
  have s4 : Same H3 (upd H3 ab (.tup [.str x, .str y, .str z])) := same_new hab
  have hab4 : (upd H3 ab (.tup [.str x, .str y, .str z])) ab = some (.tup [.str x, .str y, .str z]) := upd_same
  generalize upd H3 ab (.tup [.str x, .str y, .str z]) = H4 at s4 hab4
  refine ⟨_, rfl, tb, rfl, ⟨_, SqL.of (s4 _ _ htb3)⟩, for_list (K := K) (a := tb) (xs := ls.map V.str) (fun i σ H' => ∃ (ab : Addr) (z : Str) (x8 : Option V), σ = [some (.ref sb), some (.ref rb), some (.ref pb), some (.ref tb), some (.int (g : Nat)), some (.int (si : Nat)), some (.int (ti : Nat)), some (.ref ab), x8] ∧ Same H3 H' ∧ H' ab = some (.tup [.str x, .str y, .str z]) ∧ z ∈ ls)
    ⟨ab, z, _, rfl, s4, hab4, hzm⟩ (fun i σ H' _ ⟨_, _, _, _, h, _⟩ => SqL.of (h _ _ htb3)) ?_ ?_⟩
  · rintro i v σ H5 hi ⟨ab, z, x8, rfl, s5, hab5, hzm⟩
    rw [List.getElem?_map] at hi
    cases hz' : ls[i]? with
    | none => rw [hz'] at hi; cases hi
    | some z' =>
      rw [hz'] at hi
      cases hi
      have hrb5 := s5 _ _ hrb3
      refine ⟨_, rfl, _, rfl, rb, _, rfl, DGet.t (k := kA (x, y, z)) hrb5 hab5, _, rfl, ?_⟩
      rcases rK_val hnd (x, y, z) with ⟨hv, _⟩ | ⟨q, hv, _⟩
      · rw [hv]
        exact iteF ⟨ab, z, _, rfl, s5, hab5, hzm⟩
      · rw [hv]
        refine iteT ⟨_, rfl, ab, _, _, _, rfl, rfl, SqT.of hab5, atI_nat (j := 0) rfl, _, rfl, ab, _, _, _, rfl, rfl, SqT.of hab5, atI_nat (j := 1) rfl, _, rfl, (by show 3 ≤ sizeLine; omega), fun cb hcb => ?_⟩
        exact ⟨cb, z', _, rfl, s5.trans (same_new hcb), upd_same, List.mem_of_getElem? hz'⟩
  · rintro σ H5 ⟨ab, z, x8, rfl, s5, hab5, hzm⟩
    have hrb5 := s5 _ _ hrb3
    have o5 : Out [sb, rb] H H5 := (o3.more fun x hx => by rw [List.mem_singleton.mp hx]; exact ms).trans (Out.of s5)
    have hD5 := hD3.same s5
    refine ⟨_, rfl, _, rfl, rb, _, rfl, DGet.t (k := kA (x, y, z)) hrb5 hab5, _, rfl, ?_⟩
    rcases rK_val hnd (x, y, z) with ⟨hv, hni⟩ | ⟨q, hv, _⟩
    · rw [hv]
      refine iteT ⟨_, rfl, _, rfl, _, rfl, rb, _, rfl, DPut.t (k := kA (x, y, z)) hrb5 hab5 (by unfold rK; rw [List.length_map]; omega), ?_⟩
      rw [putK_new _ hv, ← rK_snoc]
      exact hQ _ _ (o5.put (by simp)) (hD5.outz (Z := [rb]) ((Out.refl _ _).put (List.mem_singleton.mpr rfl)) (fun e => n1 (List.mem_singleton.mp e).symm) (fun e => n2 (List.mem_singleton.mp e).symm)) upd_same (.inr ⟨(x, y, z), rfl, hni, hxm, hym, hxy, hzm⟩)
    · rw [hv]
      exact iteF (hQ _ r o5 hD5 hrb5 (.inl rfl))
end Pk
set_option Elab.async false
set_option linter.all false
set_option maxRecDepth 100000
set_option maxHeartbeats 4000000
/-! The defs, 29: the law: the table. -/
namespace Pk
open PySem PySem.Spec PyProof.Rows L2
variable {P : Program} {w : World} {K : PySem.W.Frag} {mg : Str → Option Value} {base : Heap}
theorem pr_ix {α β : Type} {F : α → β → Prop} : ∀ {l : List α} {m : List β}, l.length = m.length → (∀ (i : Nat) x y, l[i]? = some x → m[i]? = some y → F x y) → Paired F l m
  | [], [], _, _ => .nil
  | x :: l, y :: m, h, k => .cons (k 0 x y rfl rfl) (pr_ix (by simpa using h) fun i a b ha hb => k (i + 1) a b ha hb)
  | [], y :: m, h, _ => by cases h
  | x :: l, [], h, _ => by cases h
structure RowOk (ps ls : List Str) (n m : Nat) (r : Row) : Prop where
  nd : (r.map (·.1)).Nodup
  le : r.length ≤ m
  ed : ∀ e ∈ r, EdA ps ls e.1 ∧ e.2 < n
theorem RowOk.edge {ps ls : List Str} {n m g : Nat} {r r' : Row} (h : RowOk ps ls n m r) (hg : g < n) (e : EdgeR ps ls g r r') : RowOk ps ls n (m + 1) r' := by
  rcases e with rfl | ⟨a, rfl, hni, ha⟩
  · exact ⟨h.nd, Nat.le_succ_of_le h.le, h.ed⟩
  · refine ⟨?_, ?_, fun e he => ?_⟩
    · rw [List.map_append]
      exact nodup_snoc h.nd hni
    · rw [List.length_append, List.length_singleton]
      exact Nat.succ_le_succ h.le
    · rcases List.mem_append.mp he with q | q
      · exact h.ed e q
      · rw [List.mem_singleton.mp q]
        exact ⟨ha, hg⟩
/-- the rows as they are drawn -/
structure RI (H0 H : Hp) (wb : Addr) (rbs : List Addr) (rows : List Row) (ps ls : List Str) (n m : Nat) : Prop where
  hw : H wb = some (.lst (rbs.map V.ref))
  rw : Paired (fun rb (r : Row) => H rb = some (.dT (rK r))) rbs rows
  nd : rbs.Nodup
  fr : ∀ rb ∈ rbs, H0 rb = none ∧ rb ≠ wb
  ok : ∀ r ∈ rows, RowOk ps ls n m r
theorem RI.edge {H0 H H' : Hp} {wb sb rb : Addr} {rbs : List Addr} {rows : List Row} {ps ls : List Str} {n m g k : Nat} {r r' : Row} (h : RI H0 H wb rbs rows ps ls n m) (hw : wb ≠ sb) (hsb : H0 sb ≠ none) (hk : rbs[k]? = some rb) (hr : rows[k]? = some r) (hg : g < n)
    (o : Out [sb, rb] H H') (hrb : H' rb = some (.dT (rK r'))) (e : EdgeR ps ls g r r') : RI H0 H' wb rbs (rows.set k r') ps ls n (m + 1) := by
  have hl := Paired.length h.rw
  have hkm := List.mem_of_getElem? hk
  refine ⟨o _ _ (fun q => ?_) h.hw, pr_ix (by rw [List.length_set]; exact hl) fun i x y hx hy => ?_, h.nd, h.fr, fun y hy => ?_⟩
  · simp only [List.mem_cons, List.not_mem_nil, or_false] at q
    rcases q with q | q
    · exact hw q
    · exact (h.fr rb hkm).2 q.symm
  · by_cases c : k = i
    · subst c
      rw [hk] at hx
      cases hx
      rw [List.getElem?_set_self (by have := (List.getElem?_eq_some_iff.mp hr).1; exact this)] at hy
      cases hy
      exact hrb
    · rw [List.getElem?_set_ne c] at hy
      obtain ⟨y', hy', q⟩ := pr_get' h.rw hx
      rw [hy] at hy'
      cases hy'
      refine o _ _ (fun q => ?_) q
      simp only [List.mem_cons, List.not_mem_nil, or_false] at q
      rcases q with q | q
      · exact hsb (by rw [← q]; exact (h.fr x (List.mem_of_getElem? hx)).1)
      · subst q
        obtain ⟨q1, q2⟩ := List.getElem?_eq_some_iff.mp hk
        obtain ⟨q3, q4⟩ := List.getElem?_eq_some_iff.mp hx
        exact c ((List.getElem_inj h.nd).mp (q2.trans q4.symm))
  · rcases List.mem_or_eq_of_mem_set hy with q | q
    · have := h.ok y q
      exact ⟨this.nd, Nat.le_succ_of_le this.le, this.ed⟩
    · rw [q]
      exact (h.ok r (List.mem_of_getElem? hr)).edge hg e
theorem pr_mem' {α β : Type} {F : α → β → Prop} : ∀ {l : List α} {m : List β}, Paired F l m → Paired (fun x y => x ∈ l ∧ F x y) l m
  | _, _, .nil => .nil
  | _, _, .cons h t => .cons ⟨List.mem_cons_self, h⟩ (L2.Paired.mapP (pr_mem' t) fun _ _ q => ⟨List.mem_cons_of_mem _ q.1, q.2⟩)
structure TbOk (ps ls : List Str) (n : Nat) (T : Tab) : Prop where
  len : T.rows.length = n
  lens : T.ends.length = n
  rows : ∀ r ∈ T.rows, RowOk ps ls n 50 r
theorem sorted_row {r : Row} (nd : (r.map (·.1)).Nodup) : ((sortA (r.map (·.1))).map fun a => (a, (nx r a).getD 0)).Perm r := by
  have h1 := (sortA_perm (r.map (·.1))).map fun a => (a, (nx r a).getD 0)
  refine h1.trans ?_
  rw [List.map_map]
  have : r.map ((fun a => (a, (nx r a).getD 0)) ∘ (·.1)) = r := by
    have h2 : r.map ((fun a => (a, (nx r a).getD 0)) ∘ (·.1)) = r.map id := List.map_congr_left fun e he => by
      show (e.1, (nx r e.1).getD 0) = e
      rw [nx_some nd (show (e.1, e.2) ∈ r from he)] <;> rfl
    rw [h2, List.map_id]
  rw [this]
def spTable : Sp := fun vs H Q _ => ∃ (sb lb pb tb : Addr) (n : Nat) (ps ls : List Str), vs = [.ref sb, .ref pb, .ref tb, .int (n : Nat)] ∧ DrV H sb lb ∧ 2 ≤ n ∧ n ≤ 5 ∧ pb ≠ sb ∧ tb ≠ sb ∧
  H pb = some (.lst (ps.map V.str)) ∧ H tb = some (.lst (ls.map V.str)) ∧ NmL ps ∧ NmL ls ∧ (ps.length = 3 ∨ ps.length = 4) ∧ (ls.length = 1 ∨ ls.length = 2) ∧
  ∀ v H' T, Out [sb] H H' → DrV H' sb lb → TabV H' v T → TbOk ps ls n T → Q v H'
theorem sc_law_table : FnScope ["_law_state_here", "_law_parties", "_law_labels", "_law_size", "_law_rows", "_law_k", "_law_ends", "_law_x", "_law_row"] ["_law_state_here", "_law_parties", "_law_labels", "_law_size"] (defScope s_law_table) := ⟨rfl, rfl, rfl, by decide +kernel, rfl, by decide +kernel, by decide +kernel⟩
theorem o_law_table (T : Txt K mg) : Ok P w K mg base CX0 "_law_table" 3 ["_law_state_here", "_law_parties", "_law_labels", "_law_size"] spTable :=
  ok_def T.d_law_table T.g_law_table sc_law_table (fun _ _ _ _ _ _ us hl => match us, hl with | [_, _, _, _], _ => rfl) (fun vs H Q E h => by obtain ⟨_, _, _, _, _, _, _, rfl, _⟩ := h; rfl) fun cdv A outer s H vs Q E hr h => by
  obtain ⟨sb, lb, pb, tb, n, ps, ls, rfl, hD, hn2, hn5, n3, n4, hpb, htb, hps, hls, hpl, hll, hQ⟩ := h
  refine ⟨_, (PSs.nox (pss_cons (ps_setLc (i := 4) (own := [("_law_k", 5)]) (tt := tYes) rfl sc_law_table.nd rfl rfl (sw_true rfl rfl rfl (by decide +kernel)) (pi_range1 (by rfl) T.n_range (pa_cons (pv 3) pa_nil)) (blkOk_by (N := ["_law_state_here", "_law_parties", "_law_labels", "_law_size", "_law_rows", "_law_k", "_law_ends", "_law_x", "_law_row"]) (sc := defScope s_law_table) (by decide +kernel)) (fun _ _ _ _ _ => (pg_name (i := 5) sc_law_table.nd rfl (by first | exact Or.inl rfl | exact Or.inr rfl))) (fun _ _ _ _ _ => pts_nil) (fun _ _ _ _ _ => pe_dnewT))
      (pss_cons (ps_for PassesOwn.never rfl (pi_range1 (by rfl) T.n_range (pa_cons (pe_op op_sub (pv 3) pe_int) pa_nil)) (pg_name (i := 5) sc_law_table.nd rfl (by first | exact Or.inl rfl | exact Or.inr rfl)) (pss_one (ps_expr (pe_cl (o_law_edge T) (hr.mono (by decide)) (pa_cons (pv 0) (pa_cons (pe_ix (kx_list (K := K) rfl) (pv 4) (pv 5) (fun _ _ => rfl)) (pa_cons (pv 1) (pa_cons (pv 2) (pa_cons (pe_op op_add (pv 5) pe_int) pa_nil)))))))))
      (pss_cons (ps_for PassesOwn.never rfl (pi_range1 (by rfl) T.n_range (pa_cons (pe_cl (o_law_draw T) (hr.mono (by decide)) (pa_cons (pv 0) (pa_cons (pe_op op_add (pe_op op_mul pe_int (pv 3)) pe_int) pa_nil))) pa_nil)) (pg_name (i := 5) sc_law_table.nd rfl (by first | exact Or.inl rfl | exact Or.inr rfl)) (pss_one (ps_expr (pe_cl (o_law_edge T) (hr.mono (by decide)) (pa_cons (pv 0) (pa_cons (pe_ix (kx_list (K := K) rfl) (pv 4) (pe_cl (o_law_draw T) (hr.mono (by decide)) (pa_cons (pv 0) (pa_cons (pv 3) pa_nil))) (fun _ _ => rfl)) (pa_cons (pv 1) (pa_cons (pv 2) (pa_cons (pe_cl (o_law_draw T) (hr.mono (by decide)) (pa_cons (pv 0) (pa_cons (pv 3) pa_nil))) pa_nil)))))))))
      (pss_cons (ps_setLc (i := 6) (own := [("_law_k", 5)]) (tt := tYes) rfl sc_law_table.nd rfl rfl (sw_true rfl rfl rfl (by decide +kernel)) (pi_range1 (by rfl) T.n_range (pa_cons (pv 3) pa_nil)) (blkOk_by (N := ["_law_state_here", "_law_parties", "_law_labels", "_law_size", "_law_rows", "_law_k", "_law_ends", "_law_x", "_law_row"]) (sc := defScope s_law_table) (by decide +kernel)) (fun _ _ _ _ _ => (pg_name (i := 5) sc_law_table.nd rfl (by first | exact Or.inl rfl | exact Or.inr rfl))) (fun _ _ _ _ _ => pts_nil) (fun _ _ _ _ _ => (pe_cmpR op_eq (pe_cl (o_law_draw T) (hr.mono (by decide)) (pa_cons (pv 0) (pa_cons pe_int pa_nil))) pe_int (nomark _))))
      (pss_cons (ps_asg pe_bl (pg_sub (pv 6) (pe_op op_sub (pv 3) pe_int) set_list))
      (pss_one (ps_ret (pe_tup (pa_cons pe_str (pa_cons (pe_callTy (T := "tuple") (kc_tuple (K := K) rfl) (by rfl) T.n_tuple (by decide +kernel) (pa_cons (pe_lc (own := [("_law_row", 8)]) (tt := tYes) rfl sc_law_table.nd (ki_list (K := K) rfl (pv 4)) (blkOk_by (N := ["_law_state_here", "_law_parties", "_law_labels", "_law_size", "_law_rows", "_law_k", "_law_ends", "_law_x", "_law_row"]) (sc := defScope s_law_table) (by decide +kernel)) (fun _ _ _ _ _ => (pg_name (i := 8) sc_law_table.nd rfl (by first | exact Or.inl rfl | exact Or.inr rfl))) (fun _ _ _ _ _ => pts_nil) (fun _ _ _ _ _ => (pe_callTy (T := "tuple") (kc_tuple (K := K) rfl) (by rfl) T.n_tuple (by decide +kernel) (pa_cons (pe_lc (own := [("_law_x", 7)]) (tt := tYes) rfl sc_law_table.nd (ki_list (K := K) rfl (pe_callB (id := "sorted") (cr_sortA rfl (ru64 hr)) (by rfl) T.n_sorted (by decide +kernel) (pa_cons (pv 8) pa_nil))) (blk_rel (blkOk_by (N := ["_law_state_here", "_law_parties", "_law_labels", "_law_size", "_law_rows", "_law_k", "_law_ends", "_law_x", "_law_row"]) (by decide +kernel))) (fun _ _ _ _ _ => (pg_name (i := 7) sc_law_table.nd rfl (by first | exact Or.inl rfl | exact Or.inr rfl))) (fun _ _ _ _ _ => pts_nil) (fun _ _ _ _ _ => (pe_tup (pa_cons (pv 7) (pa_cons (pe_dget (ru1 hr) (pv 8) (pv 7) (fun _ _ => rfl)) pa_nil))))) pa_nil)))) pa_nil)) (pa_cons (pe_callTy (T := "tuple") (kc_tuple (K := K) rfl) (by rfl) T.n_tuple (by decide +kernel) (pa_cons (pv 6) pa_nil)) pa_nil)))))))))))), ?_⟩
  have big : (400000 : Nat) < sizeLine := by decide
  refine ⟨_, rfl, (n : Nat), rfl, by omega, by omega, fun wb hwb => ?_⟩
  have nws : wb ≠ sb := fun e => hD.some_.1 (by rw [← e]; exact hwb)
  have nwl : wb ≠ lb := fun e => hD.some_.2 (by rw [← e]; exact hwb)
  refine lc_range (lo := 0) (n := n) (fun i H' => Same H H' ∧ ∃ rbs, RI H H' wb rbs (List.replicate i []) ps ls n 0) ⟨same_new hwb, [], upd_same, .nil, List.nodup_nil, (fun x hx => nomatch hx), (fun x hx => nomatch hx)⟩ ?_ ?_
  · rintro i H1 hi ⟨s1, rbs, R⟩
    refine ⟨rfl, fun e he => ?_⟩
    have s2 : Same H1 (upd H1 e (.dT [])) := same_new he
    have hl := Paired.length R.rw
    rw [List.length_replicate] at hl
    have new : e ≠ wb := fun q => by rw [q, R.hw] at he; cases he
    have hnr : ∀ rb ∈ rbs, e ≠ rb := fun rb hrb q => by
      obtain ⟨j, hj⟩ := List.mem_iff_getElem?.mp hrb
      obtain ⟨_, _, h2⟩ := pr_get' R.rw hj
      rw [← q, he] at h2
      cases h2
    refine ⟨_, s2 _ _ R.hw, by rw [List.length_map]; omega, same_put (s1.trans s2) hwb, rbs ++ [e], ⟨by rw [upd_same, List.map_append] <;> rfl, ?_, nodup_snoc R.nd (fun q => hnr e q rfl), fun rb hrb => ?_, fun r hr => ?_⟩⟩
    · rw [List.replicate_succ']
      refine Paired.snoc (L2.Paired.mapP (pr_mem' R.rw) fun x y q => ?_) (by rw [upd_ne new, upd_same] <;> rfl)
      rw [upd_ne (R.fr x q.1).2]
      exact s2 _ _ q.2
    · rcases List.mem_append.mp hrb with q | q
      · exact R.fr rb q
      · rw [List.mem_singleton.mp q]
        exact ⟨s1.free he, new⟩
    · rw [(List.mem_replicate.mp hr).2]
      exact ⟨List.nodup_nil, Nat.le_refl _, (fun x hx => nomatch hx)⟩
  rintro H1 ⟨s1, rbs, R1⟩
  have hsb0 : H sb ≠ none := hD.some_.1
  have rbl : rbs.length = n := by have := Paired.length R1.rw; rw [List.length_replicate] at this; exact this
  have hpb1 := s1 _ _ hpb
  have htb1 := s1 _ _ htb
  have hD1 := hD.same s1
  -- what stays
  have low : ∀ rb ∈ rbs, rb ≠ sb ∧ rb ≠ lb ∧ rb ≠ pb ∧ rb ≠ tb := fun rb hrb => by
    have := (R1.fr rb hrb).1
    exact ⟨fun e => hD.some_.1 (by rw [← e]; exact this), fun e => hD.some_.2 (by rw [← e]; exact this), (fun e => by rw [e, hpb] at this; cases this), (fun e => by rw [e, htb] at this; cases this)⟩
  refine ⟨_, rfl, _, _, rfl, rfl, _, rfl, by omega, by omega, ?_⟩
  have outf : ∀ {Ha Hb : Hp} {rb : Addr}, Out [sb] H Ha → Out [sb, rb] Ha Hb → H rb = none → Out [sb] H Hb := fun a b h x o hx hh => b x o (fun q => by
    simp only [List.mem_cons, List.not_mem_nil, or_false] at q
    rcases q with q | q
    · exact hx (by rw [q]; exact List.mem_singleton.mpr rfl)
    · rw [q, h] at hh; cases hh) (a x o hx hh)
  have p5 : pb ∉ [sb] := fun e => n3 (List.mem_singleton.mp e)
  have t5 : tb ∉ [sb] := fun e => n4 (List.mem_singleton.mp e)
  refine for_range (lo := 0) (n := ((n : Nat) - 1 : Int).toNat) (fun i σ H' => ∃ rows x5, σ = [some (.ref sb), some (.ref pb), some (.ref tb), some (.int (n : Nat)), some (.ref wb), x5, none, none, none] ∧ Out [sb] H H' ∧ DrV H' sb lb ∧ RI H H' wb rbs rows ps ls n i ∧ rows.length = n)
    ⟨_, _, rfl, Out.of s1, hD1, R1, List.length_replicate⟩ ?_ ?_
  · rintro i σ H2 hi ⟨rows, x5, rfl, o2, hD2, R2, hrl⟩
    have hin : i < n := by omega
    obtain ⟨rb, hrb⟩ : ∃ rb, rbs[i]? = some rb := ⟨_, List.getElem?_eq_getElem (by omega)⟩
    obtain ⟨r, hr, hrr⟩ := pr_get' R2.rw hrb
    have hok := R2.ok r (List.mem_of_getElem? hr)
    obtain ⟨l1, l2, l3, l4⟩ := low rb (List.mem_of_getElem? hrb)
    have hle := hok.le
    refine ⟨_, rfl, _, rfl, _, rfl, wb, _, _, .ref rb, rfl, rfl, SqL.of R2.hw, (by rw [Int.zero_add]; exact atI_nat (by rw [List.getElem?_map, hrb] <;> rfl)), _, rfl, _, rfl, _, rfl, _, _, rfl, rfl, sb, lb, rb, pb, tb, i + 1, r, ps, ls, (by show [V.ref sb, V.ref rb, V.ref pb, V.ref tb, V.int ((0 : Int) + (i : Nat) + 1)] = _; rw [show (0 : Int) + (i : Nat) + 1 = ((i + 1 : Nat) : Int) by omega]), hD2, hrr, hok.nd, by omega, l1, l2, n3, n4, o2 _ _ p5 hpb, o2 _ _ t5 htb, hps, hls, hpl, hll, fun H3 r' o3 hD3 hrr3 he => ?_⟩
    exact ⟨rows.set i r', _, rfl, outf o2 o3 (R1.fr rb (List.mem_of_getElem? hrb)).1, hD3, R2.edge nws hsb0 hrb hr (by omega) o3 hrr3 he, by rw [List.length_set]; exact hrl⟩
  rintro σ H2 ⟨rows, x5, rfl, o2, hD2, R2, hrl⟩
  -- more edges
  refine ⟨_, rfl, _, rfl, _, _, rfl, rfl, .inl (by decide), _, _, rfl, rfl, sb, lb, _, rfl, hD2, by omega, by omega, fun d H3 d0 d1 o3 hD3 => ⟨d, rfl, by omega, by omega, ?_⟩⟩
  have R3 : RI H H3 wb rbs rows ps ls n ((n : Nat) - 1 : Int).toNat := by
    refine ⟨o3 _ _ (fun e => nws (List.mem_singleton.mp e)) R2.hw, L2.Paired.mapP (pr_mem' R2.rw) fun x y q => o3 _ _ (fun e => (low x q.1).1 (List.mem_singleton.mp e)) q.2, R2.nd, R2.fr, R2.ok⟩
  have o3 := o2.trans o3
  refine for_range (lo := 0) (n := d.toNat) (fun i σ H' => ∃ rows x5, σ = [some (.ref sb), some (.ref pb), some (.ref tb), some (.int (n : Nat)), some (.ref wb), x5, none, none, none] ∧ Out [sb] H H' ∧ DrV H' sb lb ∧ RI H H' wb rbs rows ps ls n (((n : Nat) - 1 : Int).toNat + i) ∧ rows.length = n)
    ⟨_, _, rfl, o3, hD3, R3, hrl⟩ ?_ ?_
  · rintro i σ H4 hi ⟨rows, x5, rfl, o4, hD4, R4, hrl⟩
    refine ⟨_, rfl, _, rfl, _, rfl, _, rfl, sb, lb, _, rfl, hD4, by omega, by omega, fun k H5 k0 k1 o5 hD5 => ?_⟩
    obtain ⟨k, rfl⟩ := Int.eq_ofNat_of_zero_le k0
    have hkn : k < n := by omega
    have R5 : RI H H5 wb rbs rows ps ls n (((n : Nat) - 1 : Int).toNat + i) := ⟨o5 _ _ (fun e => nws (List.mem_singleton.mp e)) R4.hw, L2.Paired.mapP (pr_mem' R4.rw) fun x y q => o5 _ _ (fun e => (low x q.1).1 (List.mem_singleton.mp e)) q.2, R4.nd, R4.fr, R4.ok⟩
    have o5 := o4.trans o5
    obtain ⟨rb, hrb⟩ : ∃ rb, rbs[k]? = some rb := ⟨_, List.getElem?_eq_getElem (by omega)⟩
    obtain ⟨l1, l2, l3, l4⟩ := low rb (List.mem_of_getElem? hrb)
    refine ⟨wb, _, _, .ref rb, rfl, rfl, SqL.of R5.hw, atI_nat (by rw [List.getElem?_map, hrb] <;> rfl), _, rfl, _, rfl, _, rfl, _, rfl, sb, lb, _, rfl, hD5, by omega, by omega, fun g H6 g0 g1 o6 hD6 => ?_⟩
    obtain ⟨g, rfl⟩ := Int.eq_ofNat_of_zero_le g0
    have R6 : RI H H6 wb rbs rows ps ls n (((n : Nat) - 1 : Int).toNat + i) := ⟨o6 _ _ (fun e => nws (List.mem_singleton.mp e)) R5.hw, L2.Paired.mapP (pr_mem' R5.rw) fun x y q => o6 _ _ (fun e => (low x q.1).1 (List.mem_singleton.mp e)) q.2, R5.nd, R5.fr, R5.ok⟩
    have o6 := o5.trans o6
    obtain ⟨r, hr, hrr⟩ := pr_get' R6.rw hrb
    have hok := R6.ok r (List.mem_of_getElem? hr)
    have hle := hok.le
    refine ⟨sb, lb, rb, pb, tb, g, r, ps, ls, rfl, hD6, hrr, hok.nd, by omega, l1, l2, n3, n4, o6 _ _ p5 hpb, o6 _ _ t5 htb, hps, hls, hpl, hll, fun H7 r' o7 hD7 hrr7 he => ?_⟩
    exact ⟨rows.set k r', _, rfl, outf o6 o7 (R1.fr rb (List.mem_of_getElem? hrb)).1, hD7, R6.edge nws hsb0 hrb hr (by omega) o7 hrr7 he, by rw [List.length_set]; exact hrl⟩
  rintro σ H4 ⟨rows, x5, rfl, o4, hD4, R4, hrl⟩
  -- the ends
  refine ⟨_, rfl, (n : Nat), rfl, by omega, by omega, fun eb heb => ?_⟩
  have nes : eb ≠ sb := fun e => hD4.some_.1 (by rw [← e]; exact heb)
  have nel : eb ≠ lb := fun e => hD4.some_.2 (by rw [← e]; exact heb)
  refine lc_range (lo := 0) (n := n) (fun i H' => Out [sb] H4 H' ∧ DrV H' sb lb ∧ ∃ bs : List Bool, H' eb = some (.lst (bs.map V.bl)) ∧ bs.length = i) ⟨Out.of (same_new heb), hD4.same (same_new heb), [], upd_same, rfl⟩ ?_ ?_
  · rintro i H5 hi ⟨o5, hD5, bs, heb5, hbl⟩
    refine ⟨rfl, _, rfl, sb, lb, _, rfl, hD5, by decide, by decide, fun r H6 r0 r1 o6 hD6 => ⟨rfl, ?_⟩⟩
    have heb6 : H6 eb = _ := o6 _ _ (fun e => nes (List.mem_singleton.mp e)) heb5
    refine ⟨_, heb6, by rw [List.length_map]; omega, fun x o hx hh => ?_, hD6.outz (Z := [eb]) ((Out.refl _ _).put (List.mem_singleton.mpr rfl)) (fun e => nes (List.mem_singleton.mp e).symm) (fun e => nel (List.mem_singleton.mp e).symm), bs ++ [decide (V.int r = V.int 0)], by rw [upd_same, List.map_append] <;> rfl, by rw [List.length_append, List.length_singleton, hbl]⟩
    rw [upd_ne (ne_of_none hh heb)]
    exact o6 x o hx (o5 x o hx hh)
  rintro H5 ⟨o5, hD5, bs, heb5, hbl⟩
  refine ⟨_, rfl, _, rfl, _, _, rfl, rfl, eb, _, _, n - 1, rfl, rfl, heb5, (by rw [List.length_map, show ((n : Nat) : Int) - 1 = ((n - 1 : Nat) : Int) by omega]; exact ixN_nat (by omega)), ?_⟩
  have hbs : ∃ bs' : List Bool, (bs.map V.bl).set (n - 1) (.bl true) = bs'.map V.bl ∧ bs'.length = n := ⟨bs.set (n - 1) true, by rw [List.map_set], by rw [List.length_set]; exact hbl⟩
  obtain ⟨bs', hbs', hbl'⟩ := hbs
  rw [hbs']
  have heb6 : (upd H5 eb (.lst (bs'.map V.bl))) eb = some (.lst (bs'.map V.bl)) := upd_same
  have o6 : Out [sb] H4 (upd H5 eb (.lst (bs'.map V.bl))) := fun x o hx hh => by
    rw [upd_ne (ne_of_none hh heb)]
    exact o5 x o hx hh
  have hD6 : DrV (upd H5 eb (.lst (bs'.map V.bl))) sb lb := hD5.outz (Z := [eb]) ((Out.refl _ _).put (List.mem_singleton.mpr rfl)) (fun e => nes (List.mem_singleton.mp e).symm) (fun e => nel (List.mem_singleton.mp e).symm)
  generalize upd H5 eb (.lst (bs'.map V.bl)) = H6 at heb6 o6 hD6
  have R6 : RI H H6 wb rbs rows ps ls n (((n : Nat) - 1 : Int).toNat + d.toNat) := ⟨o6 _ _ (fun e => nws (List.mem_singleton.mp e)) R4.hw, L2.Paired.mapP (pr_mem' R4.rw) fun x y q => o6 _ _ (fun e => (low x q.1).1 (List.mem_singleton.mp e)) q.2, R4.nd, R4.fr, R4.ok⟩
  have o06 := o4.trans o6
  have hmm : ((n : Nat) - 1 : Int).toNat + d.toNat ≤ 20 := by omega
  -- the rows, as they come out
  refine ⟨_, rfl, wb, rfl, ⟨_, SqL.of R6.hw⟩, fun D hD => ?_⟩
  have nDw : D ≠ wb := fun e => by rw [e, R6.hw] at hD; cases hD
  refine lc_list (K := K) (a := wb) (xs := rbs.map V.ref) (fun i H' => Same H6 H' ∧ ∃ acc rs, H' D = some (.lst acc) ∧ Paired (RowV H') acc rs ∧ Paired (fun (r' r : Row) => r'.Perm r) rs (rows.take i)) ⟨same_new hD, [], [], upd_same, .nil, .nil⟩ (fun i H' _ h => SqL.of (h.1 _ _ R6.hw)) ?_ ?_
  · rintro i x H7 hi ⟨s7, acc, rs, hD7, hacc, hrs⟩
    rw [List.getElem?_map] at hi
    cases hri : rbs[i]? with
    | none => rw [hri] at hi; cases hi
    | some rb =>
      rw [hri] at hi
      cases hi
      obtain ⟨r, hr, hrr⟩ := pr_get' R6.rw hri
      have hok := R6.ok r (List.mem_of_getElem? hr)
      have hle := hok.le
      have hrr7 := s7 _ _ hrr
      have hokA : ∀ e ∈ r, okA e.1 = true := fun e he => by
        have h1 := (hok.ed e he).1
        unfold okA
        rw [(hps.nm _ h1.s).1, (hps.nm _ h1.t).1, (hls.nm _ h1.l).1]
        rfl
      have hal := Paired.length hacc
      have hrl' := Paired.length hrs
      rw [List.length_take] at hrl'
      refine ⟨rfl, _, rfl, rb, rK r, r.map (·.1), rfl, .inl hrr7, (by unfold rK; rw [List.map_map, List.map_map] <;> rfl), (fun a ha => by
        obtain ⟨e, he, rfl⟩ := List.mem_map.mp ha
        exact hokA e he), fun p ys hp hys => ?_⟩
      have s8 : Same H7 (upd H7 p (.lst ys)) := same_new hp
      have hp8 : (upd H7 p (.lst ys)) p = some (.lst ys) := upd_same
      have hys8 := L2.Paired.mapP hys fun _ _ q => q.mono (Tp.of s8)
      generalize upd H7 p (.lst ys) = H8 at s8 hp8 hys8
      refine ⟨p, rfl, ⟨_, SqL.of hp8⟩, fun D2 hD2 => ?_⟩
      refine lc_list (K := K) (a := p) (xs := ys) (fun j H' => Same H8 H' ∧ ∃ acc2, H' D2 = some (.lst acc2) ∧ Paired (MvV H') acc2 (((sortA (r.map (·.1))).take j).map fun a => (a, (nx r a).getD 0))) ⟨same_new hD2, [], upd_same, .nil⟩ (fun j H' _ h => SqL.of (h.1 _ _ hp8)) ?_ ?_
      · rintro j x H9 hj ⟨s9, acc2, hD9, hacc2⟩
        obtain ⟨a, ha, hxa⟩ := pr_get' hys8 hj
        obtain ⟨b, rfl, hb, hoka⟩ := hxa
        have ham : a ∈ r.map (·.1) := (sortA_perm (r.map (·.1))).mem_iff.mp (List.mem_of_getElem? ha)
        have hrr9 := s9 _ _ (s8 _ _ hrr7)
        have hb9 := s9 _ _ hb
        have hl2 := Paired.length hacc2
        rw [List.length_map, List.length_take, (sortA_perm (r.map (·.1))).length_eq, List.length_map] at hl2
        rcases rK_val hok.nd a with ⟨_, hni⟩ | ⟨t, hv, hm⟩
        · exact absurd ham hni
        refine ⟨rfl, _, rfl, _, rfl, _, rfl, rb, .int (t : Nat), rfl, by have := DGet.t (k := kA a) hrr9 hb9; rw [hv] at this; exact this, (by show 2 ≤ sizeLine; omega), fun ub hub => ?_⟩
        have s10 : Same H9 (upd H9 ub (.tup [.ref b, .int (t : Nat)])) := same_new hub
        have hD10 := s10 _ _ hD9
        have tpz : Tp (upd H9 ub (.tup [.ref b, .int (t : Nat)])) (upd (upd H9 ub (.tup [.ref b, .int (t : Nat)])) D2 (.lst (acc2 ++ [.ref ub]))) := (Tp.refl _).put hD10 (fun _ z => nomatch z)
        refine ⟨acc2, hD10, by omega, same_put (s9.trans s10) hD2, acc2 ++ [.ref ub], upd_same, ?_⟩
        rw [takec ha, List.map_append]
        refine Paired.snoc (L2.Paired.mapP hacc2 fun _ _ q => q.mono ((Tp.of s10).trans tpz)) ?_
        show MvV _ _ (a, (nx r a).getD 0)
        rw [nx_some hok.nd hm]
        exact ⟨ub, .ref b, rfl, tpz _ _ upd_same, b, rfl, tpz _ _ (s10 _ _ hb9), hoka⟩
      rintro H9 ⟨s9, acc2, hD9, hacc2⟩
      rw [Paired.length hys8, List.take_length] at hacc2
      have s79 := s8.trans s9
      refine ⟨D2, acc2, rfl, .inl ⟨SqL.of hD9, fun tp htp => ?_⟩⟩
      have s10 : Same H9 (upd H9 tp (.tup acc2)) := same_new htp
      have hD10 := s10 _ _ (s79 _ _ hD7)
      have tpz : Tp (upd H9 tp (.tup acc2)) (upd (upd H9 tp (.tup acc2)) D (.lst (acc ++ [.ref tp]))) := (Tp.refl _).put hD10 (fun _ z => nomatch z)
      refine ⟨acc, hD10, by omega, same_put ((s7.trans s79).trans s10) hD, acc ++ [.ref tp], rs ++ [(sortA (r.map (·.1))).map fun a => (a, (nx r a).getD 0)], upd_same, Paired.snoc (L2.Paired.mapP hacc fun _ _ q => q.mono (((Tp.of s79).trans (Tp.of s10)).trans tpz)) ⟨tp, acc2, rfl, tpz _ _ upd_same, L2.Paired.mapP hacc2 fun _ _ q => q.mono ((Tp.of s10).trans tpz)⟩, ?_⟩
      rw [takec hr]
      exact Paired.snoc hrs (sorted_row hok.nd)
  · rintro H7 ⟨s7, acc, rs, hD7, hacc, hrs⟩
    rw [List.length_map, rbl, ← hrl, List.take_length] at hrs
    refine ⟨D, acc, rfl, .inl ⟨SqL.of hD7, fun tp htp => ?_⟩⟩
    have s8 : Same H7 (upd H7 tp (.tup acc)) := same_new htp
    have heb8 := s8 _ _ (s7 _ _ heb6)
    refine ⟨_, rfl, eb, _, rfl, .inl ⟨SqL.of heb8, fun tq htq => ⟨(by show 3 ≤ sizeLine; omega), fun tz htz => ?_⟩⟩⟩
    have s9 : Same (upd H7 tp (.tup acc)) (upd (upd H7 tp (.tup acc)) tq (.tup (bs'.map V.bl))) := same_new htq
    have s10 : Same (upd (upd H7 tp (.tup acc)) tq (.tup (bs'.map V.bl))) (upd (upd (upd H7 tp (.tup acc)) tq (.tup (bs'.map V.bl))) tz (.tup [.str "table", .ref tp, .ref tq])) := same_new htz
    have sA := ((s7.trans s8).trans s9).trans s10
    have hrsl := Paired.length hrs
    refine hQ _ _ ⟨rs, bs'⟩ (o06.trans (Out.of sA)) (hD6.same sA) ⟨tz, tp, tq, acc, rfl, upd_same, s10 _ _ (s9 _ _ upd_same), L2.Paired.mapP hacc fun _ _ q => q.mono (Tp.of ((s8.trans s9).trans s10)), s10 _ _ upd_same⟩ ⟨by show rs.length = n; omega, hbl', fun r hr => ?_⟩
    obtain ⟨i, hi⟩ := List.mem_iff_getElem?.mp hr
    obtain ⟨r0, hr0, hpm⟩ := pr_get' hrs hi
    have hok := R6.ok r0 (List.mem_of_getElem? hr0)
    exact ⟨((hpm.map (·.1)).nodup_iff).mpr hok.nd, by rw [hpm.length_eq]; have := hok.le; omega, fun e he => hok.ed e (hpm.mem_iff.mp he)⟩
end Pk
set_option Elab.async false
set_option linter.all false
set_option maxRecDepth 100000
set_option maxHeartbeats 4000000
/-! The defs, 30: the law: walk, told. -/
namespace Pk
open PySem PySem.Spec PyProof.Rows L2
variable {P : Program} {w : World} {K : PySem.W.Frag} {mg : Str → Option Value} {base : Heap}
theorem walk_next {T : Tab} : ∀ {l : List Act} {s : Nat} {a : Act}, T.walk s (l ++ [a]) = (T.walk s l).bind fun t => T.step t a
  | [], s, a => by
    show (match T.step s a with | none => none | some u => some u) = T.step s a
    cases T.step s a <;> rfl
  | b :: l, s, a => by
    show (match T.step s b with | none => none | some t => T.walk t (l ++ [a])) = (match T.step s b with | none => none | some t => T.walk t l).bind _
    cases T.step s b with
    | none => rfl
    | some t => exact walk_next
def spWalk : Sp := fun vs H Q _ => ∃ (v : V) (T : Tab) (lb : Addr) (xs : List V) (run : List Act), vs = [v, .ref lb] ∧ TabV H v T ∧ Wf T ∧ H lb = some (.lst xs) ∧ Paired (ActV H) xs run ∧ Q (optI (T.walk 0 run)) H
theorem sc_law_walk : FnScope ["_law_table_here", "_law_actions", "_law_state_here", "_law_action"] ["_law_table_here", "_law_actions"] (defScope s_law_walk) := ⟨rfl, rfl, rfl, by decide +kernel, rfl, by decide +kernel, by decide +kernel⟩
theorem o_law_walk (T : Txt K mg) : Ok P w K mg base CX0 "_law_walk" 2 ["_law_table_here", "_law_actions"] spWalk :=
  ok_def T.d_law_walk T.g_law_walk sc_law_walk (fun _ _ _ _ _ _ us hl => match us, hl with | [_, _], _ => rfl) (fun vs H Q E h => by obtain ⟨_, _, _, _, _, rfl, _⟩ := h; rfl) fun cdv A outer s H vs Q E hr h => by
  obtain ⟨v, T', lb, xs, run, rfl, hT, hw, hlb, hxs, hQ⟩ := h
  refine ⟨_, (PSs.nox (pss_cons (ps_set (i := 2) sc_law_walk.nd rfl (by first | exact Or.inl rfl | exact Or.inr rfl) pe_int)
      (pss_cons (ps_for PassesOwn.never rfl (ki_list (K := K) rfl (pv 1)) (pg_name (i := 3) sc_law_walk.nd rfl (by first | exact Or.inl rfl | exact Or.inr rfl)) (pss_one (ps_if (pt_cmpR op_notN (pv 2) pe_non (nomark _)) (pss_one (ps_set (i := 2) sc_law_walk.nd rfl (by first | exact Or.inl rfl | exact Or.inr rfl) (pe_cl (o_law_step T) (hr.mono (by decide)) (pa_cons (pv 0) (pa_cons (pv 2) (pa_cons (pv 3) pa_nil)))))) pss_nil)))
      (pss_one (ps_ret (pv 2)))))), ?_⟩
  refine ⟨_, rfl, lb, rfl, ⟨_, SqL.of hlb⟩, for_list (K := K) (a := lb) (xs := xs) (fun i σ H' => ∃ x3, σ = [some v, some (.ref lb), some (optI (T'.walk 0 (run.take i))), x3] ∧ H' = H) ⟨_, rfl, rfl⟩ (fun i σ H' _ ⟨_, _, h⟩ => by rw [h]; exact SqL.of hlb) ?_ ?_⟩
  · rintro i x σ H1 hi ⟨x3, rfl, rfl⟩
    obtain ⟨a, ha, hxa⟩ := pr_get' hxs hi
    have e : run.take (i + 1) = run.take i ++ [a] := takec ha
    cases hz : T'.walk 0 (run.take i) with
    | none =>
      refine ⟨_, rfl, rfl, _, rfl, iteF ?_⟩
      refine ⟨some x, ?_, rfl⟩
      rw [e, walk_next, hz]
      rfl
    | some s =>
      refine ⟨_, rfl, rfl, _, rfl, iteT ?_⟩
      refine ⟨_, rfl, _, rfl, _, rfl, v, s, x, T', a, rfl, hT, walk_lt hw hw.pos hz, hxa, ?_⟩
      refine ⟨some x, ?_, rfl⟩
      rw [e, walk_next, hz]
      rfl
  · rintro σ H1 ⟨x3, rfl, rfl⟩
    rw [Paired.length hxs, List.take_length]
    exact ⟨_, rfl, hQ⟩
def spTold (K : PySem.W.Frag) : Sp := fun vs H Q _ => ∃ (v : V) (T : Tab), vs = [v] ∧ TabV H v T ∧ Sml T ∧ (parties T).length < 60 ∧ CkQ K T H Q ∧ ∀ b H', Same H H' → H' b = some (.tup [.str "large"]) → Q (.ref b) H'
theorem sc_law_told : FnScope ["_law_table_here"] ["_law_table_here"] (defScope s_law_told) := ⟨rfl, rfl, rfl, by decide +kernel, rfl, by decide +kernel, by decide +kernel⟩
theorem o_law_told (T : Txt K mg) : Ok P w K mg base CX0 "_law_told" 9 ["_law_table_here"] (spTold K) :=
  ok_def T.d_law_told T.g_law_told sc_law_told (fun _ _ _ _ _ _ us hl => match us, hl with | [_], _ => rfl) (fun vs H Q E h => by obtain ⟨_, _, rfl, _⟩ := h; rfl) fun cdv A outer s H vs Q E hr h => by
  obtain ⟨v, T', rfl, hT, hs, hp, hQ, hL⟩ := h
  refine ⟨_, (PSs.nox (pss_one (ps_try_only rfl rfl ⟨rfl, by decide, .inl T.g_TooLarge⟩ takes0 (fun W pn xe tk _ => (pss_one (ps_ret (pe_clS (o_check T) (fun σ => passAt tk σ) (hr.mono (by decide)) (pa_cons (pv 0) pa_nil))))) (fun a oe cls d pn _ _ => (pss_one (ps_ret (pe_tup (pa_cons pe_str pa_nil)))))))), ?_⟩
  refine ⟨_, rfl, v, T', rfl, hT, hs, hp, hQ, fun H1 s1 => ⟨true, T.e_TooLarge, (fun _ a ha => ⟨(by show 1 ≤ sizeLine; decide), fun tb htb => hL tb _ (s1.trans (same_new htb)) upd_same⟩), (fun q => nomatch q)⟩⟩
end Pk
set_option Elab.async false
set_option linter.all false
set_option maxRecDepth 100000
set_option maxHeartbeats 4000000
/-! The defs, 31: the law: follows. -/
namespace Pk
open PySem PySem.Spec PyProof.Rows L2
variable {P : Program} {w : World} {K : PySem.W.Frag} {mg : Str → Option Value} {base : Heap}
/-- a table that the law draws -/
structure Ty (T : Tab) : Prop where
  sml : Sml T
  few : (parties T).length < 60
  act : ∀ r ∈ T.rows, ∀ e ∈ r, e.1.1 ≠ e.1.2.1 ∧ okA e.1 = true ∧ e.1.1.length ≤ 50 ∧ e.1.2.1.length ≤ 50 ∧ e.1.2.2.length ≤ 50
theorem TbOk.ty {ps ls : List Str} {n : Nat} {T : Tab} (h : TbOk ps ls n T) (hp : NmL ps) (hl : NmL ls) (hpl : ps.length ≤ 4) (h2 : 2 ≤ n) (h5 : n ≤ 5) : Ty T := by
  have hr : ∀ r ∈ T.rows, ∀ e ∈ r, EdA ps ls e.1 ∧ e.2 < n := fun r hr e he => (h.rows r hr).ed e he
  refine ⟨⟨⟨by rw [h.len]; omega, by rw [h.lens, h.len], fun r hr' p hp' => by rw [h.len]; exact (hr r hr' p hp').2, fun r hr' => (h.rows r hr').nd⟩, by rw [h.len]; exact h5, fun r hr' => (h.rows r hr').le⟩, ?_, fun r hr' e he => ?_⟩
  · have := nodup_len (m := ps) (parties_nodup T) fun x hx => by
      obtain ⟨r, hr', e, he, hc⟩ := parties_mem.mp hx
      have ed := (hr r hr' e he).1
      unfold con at hc
      rw [Bool.or_eq_true] at hc
      rcases hc with q | q
      · rw [← of_decide_eq_true q]; exact ed.s
      · rw [← of_decide_eq_true q]; exact ed.t
    omega
  · have ed := (hr r hr' e he).1
    obtain ⟨a1, a2⟩ := hp.nm _ ed.s
    obtain ⟨b1, b2⟩ := hp.nm _ ed.t
    obtain ⟨c1, c2⟩ := hl.nm _ ed.l
    exact ⟨ed.ne, by unfold okA; rw [a1, b1, c1]; rfl, by omega, by omega, by omega⟩
theorem row_le {T : Tab} {n : Nat} (h : ∀ r ∈ T.rows, r.length ≤ n) (q : Nat) : (T.row q).length ≤ n := by
  unfold Tab.row
  rw [List.getD_eq_getElem?_getD]
  cases hq : T.rows[q]? with
  | none => exact Nat.zero_le _
  | some r => exact h r (List.mem_of_getElem? hq)
theorem mem_machs {T : Tab} {x : Str} : x ∈ parties T → (x, mach T x) ∈ machs T := fun h => List.mem_map.mpr ⟨x, h, rfl⟩
theorem of_machs {T : Tab} {m : Str × Tab} (h : m ∈ machs T) : m.1 ∈ parties T ∧ m.2 = mach T m.1 := by
  obtain ⟨p, hp, rfl⟩ := List.mem_map.mp h
  exact ⟨hp, rfl⟩
/-- an action of a machine -/
theorem Ty.lab {T : Tab} (ty : Ty T) {x : Str} (hx : x ∈ parties T) {q t : Nat} {a : Act} (h : (a, t) ∈ (mach T x).row q) : con a x = true ∧ a.1 ∈ parties T ∧ a.2.1 ∈ parties T ∧ a.1 ≠ a.2.1 ∧ okA a = true ∧ a.1.length ≤ 50 ∧ a.2.1.length ≤ 50 ∧ a.2.2.length ≤ 50 := by
  have ok := (machs_ok ty.sml).m _ (mem_machs hx)
  obtain ⟨h1, r', hr', t', ht'⟩ := ok.lab _ (row_mem h) _ h
  obtain ⟨b1, b2, b3, b4, b5⟩ := ty.act r' hr' _ ht'
  exact ⟨h1, parties_mem.mpr ⟨r', hr', _, ht', by unfold con; simp⟩, parties_mem.mpr ⟨r', hr', _, ht', by unfold con; simp⟩, b1, b2, b3, b4, b5⟩
/-- a play at rest, whose machines stand where what was taken led them -/
structure PI (K : PySem.W.Frag) (T : Tab) (H : Hp) (L : Lf) (S : Pst) (n : Nat) : Prop where
  at_ : PlAt K H L (machs T) S n
  rest : Rest (machs T) S
  q : ∀ x ∈ parties T, (mach T x).walk 0 (seenBy x S.tk) = some (S.st x).q
theorem PI.same {T : Tab} {H H' : Hp} {L : Lf} {S : Pst} {n : Nat} (h : PI K T H L S n) (s : Same H H') : PI K T H' L S n := ⟨h.at_.same s (Nat.le_refl _), h.rest, h.q⟩
theorem seen_next {T : Tab} {x : Str} {l : List Act} {q : Nat} {a : Act} (h : (mach T x).walk 0 (seenBy x l) = some q) : (mach T x).walk 0 (seenBy x (l ++ [a])) = if con a x = true then (mach T x).step q a else some q := by
  unfold seenBy at *
  rw [List.filter_append]
  cases hc : con a x with
  | true =>
    rw [List.filter_cons, if_pos hc, if_pos rfl, List.filter_nil, walk_next, h]
    rfl
  | false =>
    rw [List.filter_cons, if_neg (by rw [hc]; decide), if_neg (by decide), List.filter_nil, List.append_nil]
    exact h
theorem con_iff {a : Act} {x : Str} : con a x = true ↔ x = a.1 ∨ x = a.2.1 := by
  unfold con
  rw [Bool.or_eq_true]
  constructor
  · rintro (h | h)
    · exact .inl (of_decide_eq_true h).symm
    · exact .inr (of_decide_eq_true h).symm
  · rintro (h | h)
    · exact .inl (decide_eq_true h.symm)
    · exact .inr (decide_eq_true h.symm)
/-- what an offer asks -/
theorem offer_pre {T : Tab} {H : Hp} {L : Lf} {S : Pst} {n : Nat} {a : Act} (ty : Ty T) (I : PI K T H L S n) (hs : a.1 ∈ parties T) (hst : ∃ t, (mach T a.1).step (S.st a.1).q a = some t) (hn : n + 5 ≤ 50000) :
    ∃ qs : Nat, Rest (machs T) S ∧ (a.1, mach T a.1) ∈ machs T ∧ (a.2.1, mach T a.2.1) ∈ machs T ∧ a.1 ≠ a.2.1 ∧ (mach T a.1).step (S.st a.1).q a = some qs ∧ okA a = true ∧ a.1.length ≤ 50 ∧ a.2.1.length ≤ 50 ∧ a.2.2.length ≤ 50 ∧ n + 5 ≤ 50000 ∧ Wf (mach T a.1) ∧ Wf (mach T a.2.1) ∧
      ((mach T a.2.1).row (S.st a.2.1).q).length ≤ 5000 ∧ ∀ e ∈ (mach T a.2.1).row (S.st a.2.1).q, con e.1 a.2.1 = true := by
  obtain ⟨qs, hqs⟩ := hst
  obtain ⟨_, h1, h2, h3, h4, h5, h6, h7⟩ := ty.lab hs (step_mem hqs)
  have mok := machs_ok ty.sml
  exact ⟨qs, I.rest, mem_machs h1, mem_machs h2, h3, hqs, h4, h5, h6, h7, hn, (mok.m _ (mem_machs h1)).wf, (mok.m _ (mem_machs h2)).wf, row_le (mach_rows ty.sml a.2.1) _, fun e he => (ty.lab h2 (t := e.2) he).1⟩
theorem offer_yes {T : Tab} {H H' : Hp} {L : Lf} {S S' : Pst} {n qs qt : Nat} {a : Act} (I : PI K T H L S n) (hqs : (mach T a.1).step (S.st a.1).q a = some qs) (hqt : (mach T a.2.1).step (S.st a.2.1).q a = some qt)
    (hP : PlAt K H' L (machs T) S' (n + 5)) (hR : Rest (machs T) S') (hq : ∀ x, (S'.st x).q = if x = a.1 then qs else if x = a.2.1 then qt else (S.st x).q) (htk : S'.tk = S.tk ++ [a]) : PI K T H' L S' (n + 5) := by
  refine ⟨hP, hR, fun x hx => ?_⟩
  rw [htk, seen_next (I.q x hx), hq x]
  by_cases c1 : x = a.1
  · subst c1
    rw [if_pos (con_iff.mpr (.inl rfl)), if_pos rfl]
    exact hqs
  · by_cases c2 : x = a.2.1
    · subst c2
      rw [if_pos (con_iff.mpr (.inr rfl)), if_neg c1, if_pos rfl]
      exact hqt
    · rw [if_neg (fun q => (con_iff.mp q).elim c1 c2), if_neg c1, if_neg c2]
theorem offer_no {T : Tab} {H H' : Hp} {L : Lf} {S S' : Pst} {n : Nat} (I : PI K T H L S n) (hP : PlAt K H' L (machs T) S' (n + 5)) (hR : Rest (machs T) S') (hq : ∀ x, (S'.st x).q = (S.st x).q) (htk : S'.tk = S.tk) : PI K T H' L S' (n + 5) := by
  refine ⟨hP, hR, fun x hx => ?_⟩
  rw [htk, hq x]
  exact I.q x hx
/-- a list of letters that are all taken -/
def FlOk (T : Tab) : List Act → List Act → Prop
  | _, [] => True
  | l, a :: r => (a.1 ∈ parties T ∧ (∃ q t, (mach T a.1).walk 0 (seenBy a.1 l) = some q ∧ (mach T a.1).step q a = some t) ∧ ∃ q t, (mach T a.2.1).walk 0 (seenBy a.2.1 l) = some q ∧ (mach T a.2.1).step q a = some t) ∧ FlOk T (l ++ [a]) r
theorem FlOk.of_walk {T : Tab} (ty : Ty T) : ∀ {r l : List Act} {s : Nat}, T.walk 0 (l ++ r) = some s → FlOk T l r
  | [], _, _, _ => trivial
  | a :: r, l, s, h => by
    have h0 := h
    rw [walk_app] at h
    cases hl : T.walk 0 l with
    | none => rw [hl] at h; cases h
    | some s0 =>
      rw [hl] at h
      have h : (match T.step s0 a with | none => none | some t => T.walk t r) = some s := h
      cases hs : T.step s0 a with
      | none => rw [hs] at h; cases h
      | some t =>
        have hm := step_mem hs
        have p1 : a.1 ∈ parties T := parties_mem.mpr ⟨_, row_mem hm, _, hm, con_iff.mpr (.inl rfl)⟩
        have p2 : a.2.1 ∈ parties T := parties_mem.mpr ⟨_, row_mem hm, _, hm, con_iff.mpr (.inr rfl)⟩
        have mok := machs_ok ty.sml
        obtain ⟨q1, w1, _, k1⟩ := sim_run ty.sml.wf (mok.m _ (mem_machs p1)) hl
        obtain ⟨q2, w2, _, k2⟩ := sim_run ty.sml.wf (mok.m _ (mem_machs p2)) hl
        obtain ⟨t1, e1⟩ := k1 a t hs (con_iff.mpr (.inl rfl))
        obtain ⟨t2, e2⟩ := k2 a t hs (con_iff.mpr (.inr rfl))
        refine ⟨⟨p1, ⟨q1, t1, w1, e1⟩, q2, t2, w2, e2⟩, FlOk.of_walk ty (s := s) ?_⟩
        rw [List.append_assoc]
        exact h0
theorem FlOk.snoc {T : Tab} {a : Act} : ∀ {r l : List Act}, FlOk T l r → (a.1 ∈ parties T ∧ (∃ q t, (mach T a.1).walk 0 (seenBy a.1 (l ++ r)) = some q ∧ (mach T a.1).step q a = some t) ∧ ∃ q t, (mach T a.2.1).walk 0 (seenBy a.2.1 (l ++ r)) = some q ∧ (mach T a.2.1).step q a = some t) → FlOk T l (r ++ [a])
  | [], l, _, h => by rw [List.append_nil] at h; exact ⟨h, trivial⟩
  | b :: r, l, h0, h => ⟨h0.1, FlOk.snoc h0.2 (by rw [List.append_assoc]; exact h)⟩
theorem FlOk.drop {T : Tab} : ∀ {r l : List Act} (i : Nat), FlOk T l r → FlOk T (l ++ r.take i) (r.drop i)
  | [], l, i, h => by rw [List.drop_nil]; trivial
  | a :: r, l, 0, h => by rw [List.take_zero, List.append_nil, List.drop_zero]; exact h
  | a :: r, l, i + 1, h => by
    rw [List.take_succ_cons, List.drop_succ_cons]
    have := FlOk.drop i h.2
    rw [List.append_assoc] at this
    exact this
theorem eqv_acts : ∀ (l m : List Act), PyData.eqvAll (l.map fun a => tkD (kA a)) (m.map fun a => tkD (kA a)) = decide (l = m)
  | [], [] => by simp [PyData.eqvAll]
  | [], _ :: _ => by simp [PyData.eqvAll]
  | _ :: _, [] => by simp [PyData.eqvAll]
  | a :: l, b :: m => by
    rw [List.map_cons, List.map_cons, PyData.eqvAll, eq_act, eqv_acts l m]
    by_cases c1 : a = b
    · subst c1
      simp
    · simp [c1]
theorem eqv_actl (l m : List Act) : PyData.eqv (.list (l.map fun a => tkD (kA a))) (.list (m.map fun a => tkD (kA a))) = decide (l = m) := by
  rw [PyData.eqv]
  exact eqv_acts l m
theorem sh_act {a : Act} (h : okA a = true) : (tkD (kA a)).canLay0 = true ∧ (tkD (kA a)).depth ≤ 10 := by
  unfold okA at h
  simp only [Bool.and_eq_true] at h
  show PyData.canLay0 (.tuple [.str a.1, .str a.2.1, .str a.2.2]) = true ∧ PyData.depth (.tuple [.str a.1, .str a.2.1, .str a.2.2]) ≤ 10
  simp [PyData.canLay0, PyData.canLayAll0, PyData.depth, PyData.depthAll, h.1.1, h.1.2, h.2]
theorem dpAll_act {H : Hp} : ∀ {ys : List V} {es : List Act}, Paired (ActV H) ys es → DpAll K H ys (es.map fun a => tkD (kA a))
  | _, _, .nil => .nil
  | _, _, .cons h t => .cons h.dp (dpAll_act t)
theorem act_oks {H : Hp} : ∀ {ys : List V} {es : List Act}, Paired (ActV H) ys es → ∀ a ∈ es, okA a = true
  | _, _, .nil, a, h => nomatch h
  | _, _, .cons h t, a, ha => by
    rcases List.mem_cons.mp ha with rfl | ha
    · exact h.ok
    · exact act_oks t a ha
def spFollows (K : PySem.W.Frag) : Sp := fun vs H Q _ => ∃ (T : Tab) (L : Lf) (S : Pst) (n : Nat) (rb : Addr) (xs : List V) (run : List Act), vs = [.ref L.a, .ref rb] ∧ Ty T ∧ PI K T H L S n ∧ S.tk = [] ∧ H rb = some (.lst xs) ∧ rb ∉ L.z (machs T) ∧ Paired (ActV H) xs run ∧ FlOk T [] run ∧ n + 5 * run.length ≤ 50000 ∧
  ∀ H' S' n', Out (L.z (machs T)) H H' → PI K T H' L S' n' → S'.tk = run → Q (.bl true) H'
theorem sc_law_follows : FnScope ["_law_play", "_law_run", "_law_action"] ["_law_play", "_law_run"] (defScope s_law_follows) := ⟨rfl, rfl, rfl, by decide +kernel, rfl, by decide +kernel, by decide +kernel⟩
theorem o_law_follows (T : Txt K mg) : Ok P w K mg base CX0 "_law_follows" 9 ["_law_play", "_law_run"] (spFollows K) :=
  ok_def T.d_law_follows T.g_law_follows sc_law_follows (fun _ _ _ _ _ _ us hl => match us, hl with | [_, _], _ => rfl) (fun vs H Q E h => by obtain ⟨_, _, _, _, _, _, _, rfl, _⟩ := h; rfl) fun cdv A outer s H vs Q E hr h => by
  obtain ⟨T', L, S, n, rb, xs, run, rfl, ty, I, htk, hrb, hrz, hxs, hfl, hn, hQ⟩ := h
  refine ⟨_, (PSs.nox (pss_cons (ps_for PassesOwn.never rfl (ki_list (K := K) rfl (pv 1)) (pg_name (i := 2) sc_law_follows.nd rfl (by first | exact Or.inl rfl | exact Or.inr rfl)) (pss_one (ps_if (pt_cmpR op_isnot_bl (pe_mt (o_Play_offer T) (hr.mono (by decide)) (pv 0) (pa_cons (pe_ix (kx_tup (K := K) rfl) (pv 2) pe_int (fun _ _ => rfl)) (pa_cons (pe_ix (kx_tup (K := K) rfl) (pv 2) pe_int (fun _ _ => rfl)) (pa_cons (pe_ix (kx_tup (K := K) rfl) (pv 2) pe_int (fun _ _ => rfl)) pa_nil)))) pe_bl (nomark _)) (pss_one (ps_ret pe_bl)) pss_nil)))
      (pss_one (ps_ret (pe_cmpR (ko_eqD (K := K) rfl (ru64 hr)) (pe_mt0 (o_Play_taken T) (hr.mono (by decide)) (pv 0)) (pv 1) (nomark _)))))), ?_⟩
  refine ⟨_, rfl, rb, rfl, ⟨_, SqL.of hrb⟩, for_list (K := K) (a := rb) (xs := xs) (fun i σ H' => ∃ S1 x2, σ = [some (.ref L.a), some (.ref rb), x2] ∧ Out (L.z (machs T')) H H' ∧ PI K T' H' L S1 (n + 5 * i) ∧ S1.tk = run.take i) ⟨S, _, rfl, Out.refl _ _, I, by rw [htk, List.take_zero]⟩ (fun i σ H' _ ⟨_, _, _, o, _⟩ => SqL.of (o _ _ hrz hrb)) ?_ ?_⟩
  · rintro i x σ H1 hi ⟨S1, x2, rfl, o1, I1, ht1⟩
    obtain ⟨a, ha, b, rfl, hb, hok⟩ := pr_get' hxs hi
    obtain ⟨mv, nv, tv, R⟩ := I1.at_
    obtain ⟨mv0, nv0, tv0, R0⟩ := I.at_
    have hb1 := R0.tp o1 _ _ hb
    have hil : i < run.length := (List.getElem?_eq_some_iff.mp ha).1
    have hd := hfl.drop i
    rw [List.nil_append, List.drop_eq_getElem_cons hil] at hd
    have ea : run[i] = a := by rw [List.getElem?_eq_getElem hil] at ha; exact Option.some.inj ha
    rw [ea] at hd
    obtain ⟨⟨p1, ⟨q1, t1, w1, e1⟩, q2, t2, w2, e2⟩, _⟩ := hd
    have g1 := I1.q a.1 p1
    rw [ht1, w1] at g1
    have g1 := Option.some.inj g1
    refine ⟨_, rfl, L.a, _, _, rfl, R.ob, plM_offer .., _, rfl, b, _, _, _, rfl, rfl, SqT.of hb1, atI_nat (j := 0) rfl, _, rfl, b, _, _, _, rfl, rfl, SqT.of hb1, atI_nat (j := 1) rfl, _, rfl, b, _, _, _, rfl, rfl, SqT.of hb1, atI_nat (j := 2) rfl, ?_⟩
    obtain ⟨qs, c1, c2, c3, c4, c5, c6, c7, c8, c9, c10, c11, c12, c13, c14⟩ := offer_pre ty I1 p1 ⟨t1, by rw [← g1]; exact e1⟩ (by omega)
    refine ⟨L, machs T', S1, _, (a.1, mach T' a.1), (a.2.1, mach T' a.2.1), a.2.2, qs, rfl, I1.at_, c1, c2, c3, c4, c5, c6, c7, c8, c9, c10, c11, c12, c13, c14, fun qt hqt H2 S2 o2 hP2 hR2 hq2 ht2 => ?_, fun hno H2 S2 o2 hP2 hR2 hq2 ht2 => ?_⟩
    · have I2 := offer_yes (qs := qs) (qt := qt) I1 c5 hqt hP2 hR2 hq2 ht2
      refine ⟨true, true, rfl, rfl, _, rfl, iteF ?_⟩
      exact ⟨S2, _, rfl, o1.trans o2, I2, by rw [ht2, ht1, takec ha]⟩
    · exfalso
      have p2 := (ty.lab p1 (step_mem e1)).2.2.1
      have g2 := I1.q a.2.1 p2
      rw [ht1, w2] at g2
      have g2 := Option.some.inj g2
      rw [← g2, e2] at hno
      cases hno
  · rintro σ H1 ⟨S1, x2, rfl, o1, I1, ht1⟩
    rw [Paired.length hxs, List.take_length] at ht1
    obtain ⟨mv, nv, tv, R⟩ := id I1.at_
    obtain ⟨mv0, nv0, tv0, R0⟩ := I.at_
    refine ⟨_, rfl, L.a, _, _, rfl, R.ob, plM_taken .., L, machs T', S1, _, rfl, I1.at_, fun b H2 ys s2 hb0 hb hys => ?_⟩
    rw [ht1] at hys
    have hxs2 : Paired (ActV H2) xs run := L2.Paired.mapP hxs fun _ _ q => (q.mono (R0.tp o1)).mono (Tp.of s2)
    refine ⟨_, rfl, .list (run.map fun a => tkD (kA a)), .list (run.map fun a => tkD (kA a)), .lst (SqL.of hb) (dpAll_act hys), .lst (SqL.of (s2 _ _ (o1 _ _ hrz hrb))) (dpAll_act hxs2), shList fun a ha => sh_act (act_oks hys a ha), shList fun a ha => sh_act (act_oks hys a ha), ?_⟩
    rw [eqv_actl, decide_eq_true rfl]
    exact hQ H2 S1 _ (o1.trans (Out.of s2)) (I1.same s2) ht1
end Pk
set_option Elab.async false
set_option linter.all false
set_option maxRecDepth 100000
set_option maxHeartbeats 4000000
/-! The defs, 32: the law. -/
namespace Pk
open PySem PySem.Spec PyProof.Rows L2
variable {P : Program} {w : World} {K : PySem.W.Frag} {mg : Str → Option Value} {base : Heap}
theorem PlR.outz {Z : List Addr} {H H' : Hp} {L : Lf} {ms : Mch} {S : Pst} {n : Nat} {mv : V} {nv tv : List V} (h : PlR K H L ms S n mv nv tv) (o : Out Z H H') (tp : Tp H H') (hz : ∀ x ∈ Z, x ∉ L.z ms) : PlR K H' L ms S n mv nv tv :=
  have c : ∀ x ∈ L.c, x ∉ Z := fun x hx hx' => hz x hx' (Lf.mc hx)
  ⟨o _ _ (c _ (by simp [Lf.c])) h.ob, o _ _ (c _ (by simp [Lf.c])) h.pd, o _ _ (c _ (by simp [Lf.c])) h.nb, L2.Paired.mapP h.nv fun _ _ q => q.mono tp, o _ _ (c _ (by simp [Lf.c])) h.tb, L2.Paired.mapP h.tv fun _ _ q => q.mono tp, h.tl, fun m hm => (h.pa m hm).keep (Z := Z) o tp (fun x hx hx' => hz x hx' (Lf.mp hm hx)) (Nat.le_refl _), h.nd, h.zc, h.zz, h.zn⟩
theorem PI.outz {Z : List Addr} {T : Tab} {H H' : Hp} {L : Lf} {S : Pst} {n : Nat} (h : PI K T H L S n) (o : Out Z H H') (tp : Tp H H') (hz : ∀ x ∈ Z, x ∉ L.z (machs T)) : PI K T H' L S n := by
  obtain ⟨mv, nv, tv, R⟩ := h.at_
  exact ⟨⟨_, _, _, R.outz o tp hz⟩, h.rest, h.q⟩
theorem PI.begin {T : Tab} {H : Hp} {L : Lf} (ty : Ty T) (h : PlAt K H L (machs T) pst0 0) : PI K T H L pst0 0 := by
  refine ⟨h, ⟨rfl, fun _ _ => rfl, fun _ _ => rfl, fun m hm => ?_, fun _ _ _ _ => rfl⟩, fun x hx => rfl⟩
  exact ((machs_ok ty.sml).m m hm).wf.pos
theorem DrV.tp {H H' : Hp} {sb lb : Addr} (h : DrV H sb lb) (o : Out [sb] H H') : Tp H H' := fun b xs hb => o b _ (fun e => by
  obtain ⟨_, _, _, _, _, r⟩ := h
  rw [List.mem_singleton.mp e, r.st] at hb
  cases hb) hb
theorem PlR.some_ {H : Hp} {L : Lf} {ms : Mch} {S : Pst} {n : Nat} {mv : V} {nv tv : List V} (h : PlR K H L ms S n mv nv tv) {x : Addr} (hx : x ∈ L.z ms) : H x ≠ none := by
  rcases List.mem_append.mp hx with m | m
  · simp only [Lf.c, List.mem_cons, List.not_mem_nil, or_false] at m
    intro e
    rcases m with rfl | rfl | rfl | rfl
    · rw [h.ob] at e; cases e
    · rw [h.pd] at e; cases e
    · rw [h.nb] at e; cases e
    · rw [h.tb] at e; cases e
  · obtain ⟨m', hm', hx⟩ := List.mem_flatMap.mp m
    exact (h.pa m' hm').some_ hx
theorem ms_at {T : Tab} {run : List Act} {s : Nat} {qs : List Nat} (g : Good T (machs T) run s qs) {i : Nat} {m : Str × Tab} {q : Nat} (hm : (machs T)[i]? = some m) (hq : qs[i]? = some q) : m.1 ∈ parties T ∧ m.2 = mach T m.1 ∧ (mach T m.1).walk 0 (seenBy m.1 run) = some q := by
  obtain ⟨h1, h2⟩ := of_machs (List.mem_of_getElem? hm)
  refine ⟨h1, h2, ?_⟩
  obtain ⟨m', hm', hw⟩ := pr_get' g.m hq
  rw [hm] at hm'
  cases hm'
  rw [h2] at hw
  exact hw
theorem stray_ok {T : Tab} (ty : Ty T) {run : List Act} {s : Nat} {qs : List Nat} {a : Act} (g : Good T (machs T) run s qs) (st : Stray T (machs T) s qs a) :
    a.1 ∈ parties T ∧ (∃ q t, (mach T a.1).walk 0 (seenBy a.1 ([] ++ run)) = some q ∧ (mach T a.1).step q a = some t) ∧ ∃ q t, (mach T a.2.1).walk 0 (seenBy a.2.1 ([] ++ run)) = some q ∧ (mach T a.2.1).step q a = some t := by
  rw [List.nil_append]
  obtain ⟨i, m, q, hm, hq, e, t, ht⟩ := st.send
  obtain ⟨j, m', q', hm', hq', e', t', ht'⟩ := st.take
  obtain ⟨h1, h2, h3⟩ := ms_at g hm hq
  obtain ⟨h4, h5, h6⟩ := ms_at g hm' hq'
  rw [← e] at h1 h2 h3
  rw [← e'] at h4 h5 h6
  have wf := ((machs_ok ty.sml).m _ (mem_machs h1)).wf
  rw [h2] at ht
  rw [h5] at ht'
  exact ⟨h1, ⟨q, t, h3, nx_some (wf.keys _ (row_mem ht)) ht⟩, q', t', h6, ht'⟩
theorem row_get_mem {T : Tab} {s : Nat} (h : s < T.rows.length) : T.row s ∈ T.rows := by
  unfold Tab.row
  rw [List.getD_eq_getElem?_getD, List.getElem?_eq_getElem h]
  exact List.getElem_mem h
theorem ms_ix {T : Tab} {run : List Act} {s : Nat} {qs : List Nat} (g : Good T (machs T) run s qs) {p : Str} (hp : p ∈ parties T) : ∃ (i q : Nat), (machs T)[i]? = some (p, mach T p) ∧ qs[i]? = some q ∧ (mach T p).walk 0 (seenBy p run) = some q := by
  obtain ⟨i, hi⟩ := List.mem_iff_getElem?.mp (mem_machs hp)
  have hl := Paired.length g.m
  have hil := (List.getElem?_eq_some_iff.mp hi).1
  obtain ⟨q, hq⟩ : ∃ q, qs[i]? = some q := ⟨_, List.getElem?_eq_getElem (by omega)⟩
  exact ⟨i, q, hi, hq, (ms_at g hi hq).2.2⟩
def spLaw (K : PySem.W.Frag) : Sp := fun vs H Q _ => ∃ (a : Addr) (ns : List Int), vs = [.ref a] ∧ SqL K H a (ns.map V.int) ∧ ∀ H', Q (.bl true) H'
theorem sc_law : FnScope ["_law_script", "_law_state_here", "_law_parties", "_law_table_here", "_law_told_here", "_law_play", "_law_run", "_law_senders", "_law_pair", "_law_name_here", "_law_k", "_law_posts", "_law_act", "_law_action", "_law_before", "_law_taken"] ["_law_script"] (defScope s_law) := ⟨rfl, rfl, rfl, by decide +kernel, rfl, by decide +kernel, by decide +kernel⟩
theorem o_law (T : Txt K mg) {fd : FuncData} (F : FnP K "law" "law" s_law (He.fAd K ("law", none)) fd) : FnOk P w K mg base CX0 10 (He.fAd K ("law", none)) fd ["_law_script"] (spLaw K) :=
  F.ok sc_law (fun vs H Q E h => by obtain ⟨_, _, rfl, _⟩ := h; rfl) fun cdv A outer s H vs Q E hr h => by
  obtain ⟨a, ns, rfl, hS, hQ⟩ := h
  refine ⟨_, (PSs.nox (pss_cons (ps_set (i := 1) sc_law.nd rfl (by first | exact Or.inl rfl | exact Or.inr rfl) (pe_cl (o_law_state T) (hr.mono (by decide)) (pa_cons (pv 0) pa_nil)))
      (pss_cons (ps_set (i := 2) sc_law.nd rfl (by first | exact Or.inl rfl | exact Or.inr rfl) (pe_cl (o_law_names T) (hr.mono (by decide)) (pa_cons (pv 1) (pa_cons (pe_op op_add pe_int (pe_cl (o_law_draw T) (hr.mono (by decide)) (pa_cons (pv 1) (pa_cons pe_int pa_nil)))) (pa_cons (pe_lst pa_nil) pa_nil)))))
      (pss_cons (ps_set (i := 3) sc_law.nd rfl (by first | exact Or.inl rfl | exact Or.inr rfl) (pe_cl (o_law_table T) (hr.mono (by decide)) (pa_cons (pv 1) (pa_cons (pv 2) (pa_cons (pe_cl (o_law_names T) (hr.mono (by decide)) (pa_cons (pv 1) (pa_cons (pe_op op_add pe_int (pe_cl (o_law_draw T) (hr.mono (by decide)) (pa_cons (pv 1) (pa_cons pe_int pa_nil)))) (pa_cons (pe_lst pa_nil) pa_nil)))) (pa_cons (pe_op op_add pe_int (pe_cl (o_law_draw T) (hr.mono (by decide)) (pa_cons (pv 1) (pa_cons pe_int pa_nil)))) pa_nil))))))
      (pss_cons (ps_set (i := 4) sc_law.nd rfl (by first | exact Or.inl rfl | exact Or.inr rfl) (pe_cl (o_law_told T) (hr.mono (by decide)) (pa_cons (pv 3) pa_nil)))
      (pss_cons (ps_set (i := 5) sc_law.nd rfl (by first | exact Or.inl rfl | exact Or.inr rfl) (pe_cl (o_play_of T) (hr.mono (by decide)) (pa_cons (pv 3) pa_nil)))
      (pss_cons (ps_if (pt_cmpR op_eq (pe_ix (kx_tup (K := K) rfl) (pv 4) pe_int (fun _ _ => rfl)) pe_str (nomark _)) (pss_cons (ps_set (i := 6) sc_law.nd rfl (by first | exact Or.inl rfl | exact Or.inr rfl) (pe_op op_cat (pe_ix (kx_tup (K := K) rfl) (pv 4) pe_int (fun _ _ => rfl)) (pe_lst (pa_cons (pe_ix (kx_tup (K := K) rfl) (pv 4) pe_int (fun _ _ => rfl)) pa_nil))))
      (pss_one (ps_ret (pe_and (pe_cl (o_law_follows T) (hr.mono (by decide)) (pa_cons (pv 5) (pa_cons (pv 6) pa_nil))) (pe_one (pe_cmpR op_isN (pe_cl (o_law_walk T) (hr.mono (by decide)) (pa_cons (pv 3) (pa_cons (pv 6) pa_nil))) pe_non (nomark _))))))) pss_nil)
      (pss_cons (ps_if (pt_cmpR op_eq (pe_ix (kx_tup (K := K) rfl) (pv 4) pe_int (fun _ _ => rfl)) pe_str (nomark _)) (pss_cons (ps_if (PW.pt (pw_or (pt_not (pt_val (pe_cl (o_law_follows T) (hr.mono (by decide)) (pa_cons (pv 5) (pa_cons (pe_ix (kx_tup (K := K) rfl) (pv 4) pe_int (fun _ _ => rfl)) pa_nil))))) (pw_or1 (pt_val (pe_ix (kx_tup (K := K) rfl) (pe_ix (kx_tup (K := K) rfl) (pv 3) pe_int (fun _ _ => rfl)) (pe_cl (o_law_walk T) (hr.mono (by decide)) (pa_cons (pv 3) (pa_cons (pe_ix (kx_tup (K := K) rfl) (pv 4) pe_int (fun _ _ => rfl)) pa_nil))) (fun _ _ => rfl)))))) (pss_one (ps_ret pe_bl)) pss_nil)
      (pss_cons (ps_setLc (i := 7) (own := [("_law_pair", 8)]) (tt := tYes) rfl sc_law.nd rfl rfl (sw_true rfl rfl rfl (by decide +kernel)) (ki_tup (K := K) rfl (pe_ix (kx_tup (K := K) rfl) (pe_ix (kx_tup (K := K) rfl) (pv 3) pe_int (fun _ _ => rfl)) (pe_cl (o_law_walk T) (hr.mono (by decide)) (pa_cons (pv 3) (pa_cons (pe_ix (kx_tup (K := K) rfl) (pv 4) pe_int (fun _ _ => rfl)) pa_nil))) (fun _ _ => rfl))) (blkOk_by (N := ["_law_script", "_law_state_here", "_law_parties", "_law_table_here", "_law_told_here", "_law_play", "_law_run", "_law_senders", "_law_pair", "_law_name_here", "_law_k", "_law_posts", "_law_act", "_law_action", "_law_before", "_law_taken"]) (sc := defScope s_law) (by decide +kernel)) (fun _ _ _ _ _ => (pg_name (i := 8) sc_law.nd rfl (by first | exact Or.inl rfl | exact Or.inr rfl))) (fun _ _ _ _ _ => pts_nil) (fun _ _ _ _ _ => (pe_ix (kx_tup (K := K) rfl) (pe_ix (kx_tup (K := K) rfl) (pv 8) pe_int (fun _ _ => rfl)) pe_int (fun _ _ => rfl))))
      (pss_one (ps_ret (pe_cmpR op_eq (pe_callB (id := "len") (kc_len (K := K) rfl) (by rfl) T.n_len (by decide +kernel) (pa_cons (pe_lc (own := [("_law_name_here", 9)]) rfl sc_law.nd (ki_list (K := K) rfl (pv 7)) (blkOk_by (N := ["_law_script", "_law_state_here", "_law_parties", "_law_table_here", "_law_told_here", "_law_play", "_law_run", "_law_senders", "_law_pair", "_law_name_here", "_law_k", "_law_posts", "_law_act", "_law_action", "_law_before", "_law_taken"]) (sc := defScope s_law) (by decide +kernel)) (fun _ _ _ _ _ => (pg_name (i := 9) sc_law.nd rfl (by first | exact Or.inl rfl | exact Or.inr rfl))) (fun _ _ _ _ _ => (pts_one (pt_not (pt_val (pe_mt (o_Play_rests T) (hr.mono (by decide)) (pv 5) (pa_cons (pv 9) pa_nil)))))) (fun _ _ _ _ _ => (pv 9))) pa_nil)) pe_int (nomark _)))))) pss_nil)
      (pss_cons (ps_if (pt_cmpR op_eq (pe_ix (kx_tup (K := K) rfl) (pv 4) pe_int (fun _ _ => rfl)) pe_str (nomark _)) (pss_one (ps_ret pe_bl)) pss_nil)
      (pss_cons (ps_for PassesOwn.never rfl (pi_range1 (by rfl) T.n_range (pa_cons (pe_cl (o_law_draw T) (hr.mono (by decide)) (pa_cons (pv 1) (pa_cons pe_int pa_nil))) pa_nil)) (pg_name (i := 10) sc_law.nd rfl (by first | exact Or.inl rfl | exact Or.inr rfl)) (pss_cons (ps_set (i := 11) sc_law.nd rfl (by first | exact Or.inl rfl | exact Or.inr rfl) (pe_lst pa_nil))
      (pss_cons (ps_for PassesOwn.never rfl (ki_list (K := K) rfl (pe_mt0 (o_Play_names T) (hr.mono (by decide)) (pv 5))) (pg_name (i := 9) sc_law.nd rfl (by first | exact Or.inl rfl | exact Or.inr rfl)) (pss_one (ps_set (i := 11) sc_law.nd rfl (by first | exact Or.inl rfl | exact Or.inr rfl) (pe_op op_cat (pv 11) (pe_lc (own := [("_law_act", 12)]) rfl sc_law.nd (ki_list (K := K) rfl (pe_mt (o_Play_can T) (hr.mono (by decide)) (pv 5) (pa_cons (pv 9) pa_nil))) (blkOk_by (N := ["_law_script", "_law_state_here", "_law_parties", "_law_table_here", "_law_told_here", "_law_play", "_law_run", "_law_senders", "_law_pair", "_law_name_here", "_law_k", "_law_posts", "_law_act", "_law_action", "_law_before", "_law_taken"]) (sc := defScope s_law) (by decide +kernel)) (fun _ _ _ _ _ => (pg_name (i := 12) sc_law.nd rfl (by first | exact Or.inl rfl | exact Or.inr rfl))) (fun _ _ _ _ _ => (pts_one (pt_cmpR op_eq (pe_ix (kx_tup (K := K) rfl) (pv 12) pe_int (fun _ _ => rfl)) pe_str (nomark _)))) (fun _ _ _ _ _ => (pe_tup (pa_cons (pv 9) (pa_cons (pe_ix (kx_tup (K := K) rfl) (pv 12) pe_int (fun _ _ => rfl)) (pa_cons (pe_ix (kx_tup (K := K) rfl) (pv 12) pe_int (fun _ _ => rfl)) pa_nil))))))))))
      (pss_one (ps_if (pt_truth (pv 11) (by intro _; rfl)) (pss_cons (ps_set (i := 13) sc_law.nd rfl (by first | exact Or.inl rfl | exact Or.inr rfl) (pe_ix (kx_list (K := K) rfl) (pv 11) (pe_cl (o_law_draw T) (hr.mono (by decide)) (pa_cons (pv 1) (pa_cons (pe_callB (id := "len") (kc_len (K := K) rfl) (by rfl) T.n_len (by decide +kernel) (pa_cons (pv 11) pa_nil)) pa_nil))) (fun _ _ => rfl)))
      (pss_cons (ps_set (i := 14) sc_law.nd rfl (by first | exact Or.inl rfl | exact Or.inr rfl) (pe_mt0 (o_Play_taken T) (hr.mono (by decide)) (pv 5)))
      (pss_cons (ps_set (i := 15) sc_law.nd rfl (by first | exact Or.inl rfl | exact Or.inr rfl) (pe_mt (o_Play_offer T) (hr.mono (by decide)) (pv 5) (pa_cons (pe_ix (kx_tup (K := K) rfl) (pv 13) pe_int (fun _ _ => rfl)) (pa_cons (pe_ix (kx_tup (K := K) rfl) (pv 13) pe_int (fun _ _ => rfl)) (pa_cons (pe_ix (kx_tup (K := K) rfl) (pv 13) pe_int (fun _ _ => rfl)) pa_nil)))))
      (pss_one (ps_if (PW.pt (pw_or (pt_cmpR op_ne (pv 15) (pe_cmpR op_notN (pe_cl (o_law_walk T) (hr.mono (by decide)) (pa_cons (pv 3) (pa_cons (pe_op op_cat (pv 14) (pe_lst (pa_cons (pv 13) pa_nil))) pa_nil))) pe_non (nomark _)) (nomark _)) (pw_or1 (pt_cmpR (ko_neD (K := K) rfl (ru64 hr)) (pe_mt0 (o_Play_taken T) (hr.mono (by decide)) (pv 5)) (pe_op op_cat (pv 14) (pe_op op_rep (pe_lst (pa_cons (pv 13) pa_nil)) (pe_callTy (T := "int") call_int1 (by rfl) T.n_int (by decide +kernel) (pa_cons (pv 15) pa_nil)))) (nomark _))))) (pss_one (ps_ret pe_bl)) pss_nil))))) pss_nil)))))
      (pss_one (ps_ret (pe_cmpR (ko_eqD (K := K) rfl (ru64 hr)) (pv 4) (pe_tup (pa_cons pe_str pa_nil)) (nomark _)))))))))))))), ?_⟩
  have big : (400000 : Nat) < sizeLine := by decide
  refine ⟨_, rfl, a, ns, rfl, hS, fun sb lb H1 s1 hsb0 hlb0 hD1 => ?_⟩
  refine ⟨_, rfl, _, rfl, sb, lb, 2, rfl, hD1, by decide, by decide, fun r H2 r0 r1 o2 hD2 => ⟨_, _, rfl, rfl, Nat.zero_le _, fun tb htb => ?_⟩⟩
  obtain ⟨r, rfl⟩ := Int.eq_ofNat_of_zero_le r0
  have hD3 := hD2.same (same_new (o := .lst []) htb)
  have htbs : tb ≠ sb := fun e => hD2.some_.1 (by rw [← e]; exact htb)
  refine ⟨sb, lb, tb, 3 + r, (by show [V.ref sb, V.int (3 + (r : Nat)), V.ref tb] = _; rw [Int.natCast_add]; rfl), hD3, upd_same, by omega, htbs, fun pb H4 ps o4 hD4 hpb0 hpb hpl hpnd hpn => ?_⟩
  have hps : NmL ps := ⟨hpn, hpnd⟩
  generalize upd H2 tb (.lst []) = H3 at hD3 o4 hpb0
  have npb : pb ≠ sb := fun e => hD3.some_.1 (by rw [← e]; exact hpb0)
  -- the labels, the table
  refine ⟨_, rfl, _, rfl, _, rfl, _, rfl, sb, lb, 2, rfl, hD4, by decide, by decide, fun k H5 k0 k1 o5 hD5 => ⟨_, _, rfl, rfl, Nat.zero_le _, fun ub hub => ?_⟩⟩
  obtain ⟨k, rfl⟩ := Int.eq_ofNat_of_zero_le k0
  have hD6 := hD5.same (same_new (o := .lst []) hub)
  have hubs : ub ≠ sb := fun e => hD5.some_.1 (by rw [← e]; exact hub)
  have hpb5 : H5 pb = _ := o5 _ _ (fun e => npb (List.mem_singleton.mp e)) hpb
  have hpb6 := same_new (o := .lst []) hub _ _ hpb5
  refine ⟨sb, lb, ub, 1 + k, (by show [V.ref sb, V.int (1 + (k : Nat)), V.ref ub] = _; rw [Int.natCast_add]; rfl), hD6, upd_same, by omega, hubs, fun qb H7 ls o7 hD7 hqb0 hqb hll hlnd hln => ?_⟩
  have hls : NmL ls := ⟨hln, hlnd⟩
  generalize upd H5 ub (.lst []) = H6 at hD6 o7 hqb0 hpb6
  have nqb : qb ≠ sb := fun e => hD6.some_.1 (by rw [← e]; exact hqb0)
  have hpb7 : H7 pb = _ := o7 _ _ (fun e => npb (List.mem_singleton.mp e)) hpb6
  refine ⟨_, rfl, sb, lb, 4, rfl, hD7, by decide, by decide, fun g H8 g0 g1 o8 hD8 => ⟨_, _, rfl, rfl, ?_⟩⟩
  obtain ⟨g, rfl⟩ := Int.eq_ofNat_of_zero_le g0
  have hpb8 : H8 pb = _ := o8 _ _ (fun e => npb (List.mem_singleton.mp e)) hpb7
  have hqb8 : H8 qb = _ := o8 _ _ (fun e => nqb (List.mem_singleton.mp e)) hqb
  refine ⟨sb, lb, pb, qb, 2 + g, ps, ls, (by show [V.ref sb, V.ref pb, V.ref qb, V.int (2 + (g : Nat))] = _; rw [Int.natCast_add]; rfl), hD8, by omega, by omega, npb, nqb, hpb8, hqb8, hps, hls, by omega, by omega, fun v H9 T' o9 hD9 hT9 hok => ?_⟩
  have ty : Ty T' := hok.ty hps hls (by omega) (by omega) (by omega)
  have hw := ty.sml.wf
  refine ⟨_, rfl, v, T', rfl, hT9, ty.sml, ty.few, ⟨fun b H10 rb u a x y s qs xs run s10 hb hrb hxs hrl hua hgood hstray => ?_, fun b H10 rb x s qs xs run s10 hb hrb hxs hrl hgood hidle => ?_, fun b H10 ord s10 hb hjo hns => ?_⟩, fun b H10 s10 hb => ?_⟩
  · have hT10 := hT9.mono (Tp.of s10)
    refine ⟨_, rfl, v, T', rfl, hT10, ty.sml, ty.few, fun H11 L s11 hfr hP => ?_⟩
    have I := PI.begin ty hP
    have hb11 := s11 _ _ hb
    have hT11 := hT10.mono (Tp.of s11)
    refine ⟨_, rfl, b, _, _, _, rfl, rfl, SqT.of hb11, atI_nat (j := 0) rfl, rfl, _, rfl, ?_⟩
    rw [show decide (V.str "stray" = V.str "stray") = true by decide +kernel]
    refine iteT ?_
    have hrb11 := s11 _ _ hrb
    have hua11 := hua.mono (Tp.of s11)
    have hxs11 := L2.Paired.mapP hxs fun _ _ q => q.mono (Tp.of s11)
    refine ⟨_, rfl, b, _, _, _, rfl, rfl, SqT.of hb11, atI_nat (j := 1) rfl, _, rfl, b, _, _, _, rfl, rfl, SqT.of hb11, atI_nat (j := 2) rfl, (by show 1 ≤ sizeLine; omega), fun cb hcb => ?_⟩
    have s12 : Same H11 (upd H11 cb (.lst [u])) := same_new hcb
    have hcb12 : (upd H11 cb (.lst [u])) cb = some (.lst [u]) := upd_same
    generalize upd H11 cb (.lst [u]) = H12 at s12 hcb12
    have hxl := Paired.length hxs
    refine ⟨rb, cb, xs, [u], rfl, rfl, s12 _ _ hrb11, hcb12, by show xs.length + 1 ≤ sizeLine; omega, fun db hdb => ?_⟩
    have s13 : Same H12 (upd H12 db (.lst (xs ++ [u]))) := same_new hdb
    have hdb13 : (upd H12 db (.lst (xs ++ [u]))) db = some (.lst (xs ++ [u])) := upd_same
    have hdb11 : H11 db = none := s12.free hdb
    generalize upd H12 db (.lst (xs ++ [u])) = H13 at s13 hdb13
    have s113 := s12.trans s13
    have I13 := I.same s113
    have hrun : Paired (ActV H13) (xs ++ [u]) (run ++ [a]) := Paired.snoc (L2.Paired.mapP hxs11 fun _ _ q => q.mono (Tp.of s113)) (hua11.mono (Tp.of s113))
    have hdz : db ∉ L.z (machs T') := fun hm => by
      obtain ⟨mv, nv, tv, R⟩ := I.at_
      exact R.some_ hm hdb11
    have hfl : FlOk T' [] (run ++ [a]) := (FlOk.of_walk ty (s := s) (by rw [List.nil_append]; exact hgood.t)).snoc (stray_ok ty hgood hstray)
    refine ⟨_, rfl, _, rfl, T', L, pst0, 0, db, _, run ++ [a], rfl, ty, I13, rfl, hdb13, hdz, hrun, hfl, by rw [List.length_append, List.length_singleton]; omega, fun H14 S' n' o14 I14 ht14 => ?_⟩
    obtain ⟨mv, nv, tv, R⟩ := I13.at_
    have tp14 := R.tp o14
    have hno : T'.walk 0 (run ++ [a]) = none := by
      rw [walk_next, hgood.t]
      exact hstray.no
    refine ⟨true, rfl, iteT ⟨_, rfl, _, rfl, v, T', db, _, run ++ [a], rfl, (hT11.mono (Tp.of s113)).mono tp14, hw, o14 _ _ hdz hdb13, L2.Paired.mapP hrun fun _ _ q => q.mono tp14, ⟨rfl, ?_⟩⟩⟩
    rw [hno]
    exact hQ _
  · have hT10 := hT9.mono (Tp.of s10)
    refine ⟨_, rfl, v, T', rfl, hT10, ty.sml, ty.few, fun H11 L s11 hfr hP => ?_⟩
    have I := PI.begin ty hP
    have hb11 := s11 _ _ hb
    have hT11 := hT10.mono (Tp.of s11)
    refine ⟨_, rfl, b, _, _, _, rfl, rfl, SqT.of hb11, atI_nat (j := 0) rfl, rfl, _, rfl, ?_⟩
    rw [show decide (V.str "idle" = V.str "stray") = false by decide +kernel]
    refine iteF ?_
    refine ⟨_, rfl, b, _, _, _, rfl, rfl, SqT.of hb11, atI_nat (j := 0) rfl, rfl, _, rfl, ?_⟩
    rw [show decide (V.str "idle" = V.str "idle") = true by decide +kernel]
    refine iteT ?_
    have hrb11 := s11 _ _ hrb
    have hxs11 := L2.Paired.mapP hxs fun _ _ q => q.mono (Tp.of s11)
    have hxl := Paired.length hxs
    have hrz : rb ∉ L.z (machs T') := fun hm => by
      have := hfr rb hm
      rw [hrb] at this
      cases this
    have hfl : FlOk T' [] run := FlOk.of_walk ty (s := s) (by rw [List.nil_append]; exact hgood.t)
    refine ⟨_, rfl, _, rfl, b, _, _, _, rfl, rfl, SqT.of hb11, atI_nat (j := 1) rfl, T', L, pst0, 0, rb, _, run, rfl, ty, I, rfl, hrb11, hrz, hxs11, hfl, by omega, fun H14 S' n' o14 I14 ht14 => ?_⟩
    obtain ⟨mv, nv, tv, R⟩ := I.at_
    have tp14 := R.tp o14
    have hT14 := hT11.mono tp14
    have hb14 := tp14 _ _ hb11
    have hrb14 := o14 _ _ hrz hrb11
    have hxs14 := L2.Paired.mapP hxs11 fun _ _ q => q.mono tp14
    have hsl := hgood.lts hw
    have gw : ∀ {σ : L2.St} {H' : Hp} (s' : Same H14 H'), σ[3]? = some (some v) → σ[4]? = some (some (.ref b)) → Gv (tCall spWalk [] E0 (tCons (tVar 3) (tCons (tOp (rIxT K) (tVar 4) (tC (.int 1))) tNil))) σ H' (.int (s : Nat)) := fun s' h3 h4 Q q => by
      refine ⟨_, h3, _, h4, b, _, _, _, rfl, rfl, SqT.of (s' _ _ hb14), atI_nat (j := 1) rfl, v, T', rb, _, run, rfl, hT14.mono (Tp.of s'), hw, s' _ _ hrb14, L2.Paired.mapP hxs14 (fun _ _ q => q.mono (Tp.of s')), ?_⟩
      rw [hgood.t]
      exact q
    refine ⟨_, rfl, iteF ?_⟩
    refine gv_end (K := K) hT14 (by rw [hw.lens]; exact hsl) (gv_var rfl) (gw (Same.refl _) rfl rfl) _ ⟨_, rfl, ?_⟩
    rw [hidle.e]
    refine iteF ?_
    obtain ⟨wb, ps', hwb, hps', gr⟩ := gv_row (K := K) (te := tVar 3) (ti := tCall spWalk [] E0 (tCons (tVar 3) (tCons (tOp (rIxT K) (tVar 4) (tC (.int 1))) tNil))) (σ := [some (.ref a), some (.ref sb), some (.ref pb), some v, some (.ref b), some (.ref L.a), none, none, none, none, none, none, none, none, none, none]) hT14 hsl (gv_var rfl) (gw (Same.refl _) rfl rfl)
    refine gr _ ⟨wb, rfl, ⟨_, SqT.of hwb⟩, fun D hD => ?_⟩
    refine lc_tup (K := K) (a := wb) (xs := ps') (fun j H' => Same H14 H' ∧ H' D = some (.lst ((((T'.row s).take j).map fun e => e.1.1).map V.str))) ⟨same_new hD, upd_same⟩ (fun j H' _ h => SqT.of (h.1 _ _ hwb)) ?_ ?_
    · rintro j z H15 hj ⟨s15, hD15⟩
      obtain ⟨e, he, c, z', rfl, hc, d, rfl, hd, hod⟩ := pr_get' hps' hj
      have hrw := ty.sml.r _ (row_get_mem hsl)
      refine ⟨rfl, _, rfl, c, _, _, _, rfl, rfl, SqT.of (s15 _ _ hc), atI_nat (j := 0) rfl, d, _, _, _, rfl, rfl, SqT.of (s15 _ _ hd), atI_nat (j := 0) rfl, _, hD15, ?_, same_put s15 hD, ?_⟩
      · rw [List.length_map, List.length_map, List.length_take]
        omega
      · rw [upd_same, takec he, List.map_append, List.map_append] <;> rfl
    rintro H15 ⟨s15, hD15⟩
    rw [Paired.length hps', List.take_length] at hD15
    have I15 := I14.same s15
    refine ⟨_, rfl, D, rfl, ⟨_, SqL.of hD15⟩, fun D2 hD2 => ?_⟩
    refine lc_list (K := K) (a := D) (xs := ((T'.row s).map fun e => e.1.1).map V.str) (fun j H' => Same H15 H' ∧ H' D2 = some (.lst [])) ⟨same_new hD2, upd_same⟩ (fun j H' _ h => SqL.of (h.1 _ _ hD15)) ?_ ?_
    · rintro j z H16 hj ⟨s16, hD16⟩
      rw [List.getElem?_map, List.getElem?_map] at hj
      cases hze : (T'.row s)[j]? with
      | none => rw [hze] at hj; cases hj
      | some e =>
        rw [hze] at hj
        cases hj
        obtain ⟨i, m, q, hm, hq, e1, e2⟩ := hidle.rest e.1 e.2 (List.mem_of_getElem? hze)
        obtain ⟨h1, h2, h3⟩ := ms_at hgood hm hq
        rw [← e1] at h1 h2 h3
        have hq2 := I14.q _ h1
        rw [ht14, h3] at hq2
        have hq2 := Option.some.inj hq2
        have I16 := I15.same s16
        obtain ⟨mv6, nv6, tv6, R6⟩ := id I16.at_
        have hlt := I16.rest.q _ (mem_machs h1)
        have wf := ((machs_ok ty.sml).m _ (mem_machs h1)).wf
        refine ⟨rfl, _, rfl, L.a, _, _, rfl, R6.ob, plM_rests .., _, rfl, L, machs T', S', n', (e.1.1, mach T' e.1.1), rfl, I16.at_, mem_machs h1, I16.rest.w _ (mem_machs h1), by rw [wf.lens]; exact hlt, _, rfl, ?_⟩
        have hb : (mach T' e.1.1).ends.getD (S'.st e.1.1).q false = true := by rw [← hq2, ← h2]; exact e2
        show (if (!(mach T' e.1.1).ends.getD (S'.st e.1.1).q false) = true then _ else _)
        rw [hb]
        exact iteF ⟨s16, hD16⟩
    rintro H16 ⟨s16, hD16⟩
    exact ⟨D2, _, rfl, .inl (SqL.of hD16), rfl, hQ _⟩
  · have hT10 := hT9.mono (Tp.of s10)
    refine ⟨_, rfl, v, T', rfl, hT10, ty.sml, ty.few, fun H11 L s11 hfr hP => ?_⟩
    have I := PI.begin ty hP
    have hb11 := s11 _ _ hb
    have hT11 := hT10.mono (Tp.of s11)
    refine ⟨_, rfl, b, _, _, _, rfl, rfl, SqT.of hb11, atI_nat (j := 0) rfl, rfl, _, rfl, ?_⟩
    rw [show decide (V.str "fine" = V.str "stray") = false by decide +kernel]
    refine iteF ?_
    refine ⟨_, rfl, b, _, _, _, rfl, rfl, SqT.of hb11, atI_nat (j := 0) rfl, rfl, _, rfl, ?_⟩
    rw [show decide (V.str "fine" = V.str "idle") = false by decide +kernel]
    refine iteF ?_
    refine ⟨_, rfl, b, _, _, _, rfl, rfl, SqT.of hb11, atI_nat (j := 0) rfl, rfl, _, rfl, ?_⟩
    rw [show decide (V.str "fine" = V.str "large") = false by decide +kernel]
    refine iteF ?_
    have hD11 := (hD9.same s10).same s11
    have hsz : sb ∉ L.z (machs T') := fun hm => (hD9.same s10).some_.1 (hfr sb hm)
    have hlz : lb ∉ L.z (machs T') := fun hm => (hD9.same s10).some_.2 (hfr lb hm)
    refine ⟨_, rfl, sb, lb, 13, rfl, hD11, by decide, by decide, fun r H12 r0 r1 o12 hD12 => ⟨r, rfl, by omega, by omega, ?_⟩⟩
    have tp12 := hD11.tp o12
    have zs1 : ∀ x ∈ [sb], x ∉ L.z (machs T') := fun x hx => by rw [List.mem_singleton.mp hx]; exact hsz
    refine for_range (lo := 0) (n := r.toNat) (fun i σ H' => ∃ (S : Pst) (x9 x10 x11 x12 x13 x14 x15 : Option V), σ = [some (.ref a), some (.ref sb), some (.ref pb), some v, some (.ref b), some (.ref L.a), none, none, none, x9, x10, x11, x12, x13, x14, x15] ∧ TabV H' v T' ∧ H' b = some (.tup [.str "fine"]) ∧ DrV H' sb lb ∧ PI K T' H' L S (5 * i) ∧
        ∃ e ∈ ord, Good T' (machs T') S.tk e.1 e.2.1) ⟨pst0, _, _, _, _, _, _, _, rfl, hT11.mono tp12, tp12 _ _ hb11, hD12, I.outz o12 tp12 zs1, _, List.mem_of_getElem? hjo.inv.first, good_start T' (machs T')⟩ ?_ ?_
    · rintro i σ H1' hi ⟨S, x9, x10, x11, x12, x13, x14, x15, rfl, hT1, hb1, hD1', I, e, he, hgd⟩
      refine ⟨Nat.zero_le _, fun q0 hq0 => ?_⟩
      have t1 : Same H1' (upd H1' q0 (.lst [])) := same_new hq0
      have hq1 : (upd H1' q0 (.lst [])) q0 = some (.lst []) := upd_same
      generalize upd H1' q0 (.lst []) = H2' at t1 hq1
      have I2 := I.same t1
      obtain ⟨mv2, nv2, tv2, R2⟩ := id I2.at_
      refine ⟨_, rfl, L.a, _, _, rfl, R2.ob, plM_names .., L, machs T', S, _, rfl, I2.at_, fun nb H3' t3 hnb0 hnb => ⟨nb, rfl, ⟨_, SqL.of hnb⟩, ?_⟩⟩
      have I3 := I2.same t3
      refine for_list (K := K) (a := nb) (xs := (machs T').map fun m => V.str m.1) (fun j σ H' => ∃ (qb : Addr) (ys : List V) (as : List Act) (x9 : Option V), σ = [some (.ref a), some (.ref sb), some (.ref pb), some v, some (.ref b), some (.ref L.a), none, none, none, x9, some (.int (0 + (i : Nat))), some (.ref qb), x12, x13, x14, x15] ∧ Same H3' H' ∧ H1' qb = none ∧ H' qb = some (.lst ys) ∧ Paired (ActV H') ys as ∧ as.length ≤ 5000 * j ∧
          ∀ x ∈ as, x.1 ∈ parties T' ∧ ∃ t, (mach T' x.1).step (S.st x.1).q x = some t) ⟨q0, [], [], _, rfl, Same.refl _, hq0, t3 _ _ hq1, .nil, Nat.zero_le _, fun x hx => nomatch hx⟩ (fun j σ H' _ ⟨_, _, _, _, _, h, _⟩ => SqL.of (h _ _ hnb)) ?_ ?_
      · rintro j z σ H4' hj ⟨qb, ys, as, x9, rfl, t4, hqf, hqb, hys, hasl, has⟩
        rw [List.getElem?_map] at hj
        cases hmj : (machs T')[j]? with
        | none => rw [hmj] at hj; cases hj
        | some m =>
          rw [hmj] at hj
          cases hj
          obtain ⟨hmp, hmm⟩ := of_machs (List.mem_of_getElem? hmj)
          have hjl : j < 60 := by
            have h1 := (List.getElem?_eq_some_iff.mp hmj).1
            have h2 : (machs T').length = (parties T').length := by unfold machs; rw [List.length_map]
            have := ty.few
            omega
          have I4 := I3.same t4
          obtain ⟨mv4, nv4, tv4, R4⟩ := id I4.at_
          have hmem := List.mem_of_getElem? hmj
          refine ⟨_, rfl, _, rfl, L.a, _, _, rfl, R4.ob, plM_can .., _, rfl, L, machs T', S, _, m, rfl, I4.at_, hmem, I4.rest.w _ hmem, I4.rest.q _ hmem, by rw [I4.rest.off _ hmem]; exact Nat.zero_le _, by rw [hmm]; exact row_le (mach_rows ty.sml m.1) _, fun cb H5' ysc es t5 hcb0 hcb hysc hcan => ⟨cb, rfl, ⟨_, SqL.of hcb⟩, fun D hD => ?_⟩⟩
          have hel := hcan.len
          refine lc_list (K := K) (a := cb) (xs := ysc) (fun l H' => Same H5' H' ∧ ∃ zs as2, H' D = some (.lst zs) ∧ Paired (ActV H') zs as2 ∧ as2.length ≤ l ∧ ∀ x ∈ as2, x.1 = m.1 ∧ CanE.post x.2.1 x.2.2 ∈ es) ⟨same_new hD, [], [], upd_same, .nil, Nat.zero_le _, fun x hx => nomatch hx⟩ (fun l H' _ h => SqL.of (h.1 _ _ hcb)) ?_ ?_
          · rintro l z H6' hl ⟨t6, zs, as2, hD6', hzs, hl2, has2⟩
            obtain ⟨ce, hce, c, rfl, hc⟩ := pr_get' hysc hl
            have hll' : l < es.length := (List.getElem?_eq_some_iff.mp hce).1
            have hzl := Paired.length hzs
            have hc6 := t6 _ _ hc
            cases ce with
            | take s' =>
              refine ⟨rfl, _, rfl, c, _, _, _, rfl, rfl, SqT.of hc6, atI_nat (j := 0) rfl, rfl, _, rfl, ?_⟩
              rw [show decide (V.str "take" = V.str "post") = false by decide +kernel]
              exact iteF ⟨t6, zs, as2, hD6', hzs, by omega, has2⟩
            | post t l' =>
              refine ⟨rfl, _, rfl, c, _, _, _, rfl, rfl, SqT.of hc6, atI_nat (j := 0) rfl, rfl, _, rfl, ?_⟩
              rw [show decide (V.str "post" = V.str "post") = true by decide +kernel]
              refine iteT ⟨_, rfl, _, rfl, c, _, _, _, rfl, rfl, SqT.of hc6, atI_nat (j := 1) rfl, _, rfl, c, _, _, _, rfl, rfl, SqT.of hc6, atI_nat (j := 2) rfl, (by show 3 ≤ sizeLine; omega), fun ub hub => ?_⟩
              have t7 : Same H6' (upd H6' ub (.tup [.str m.1, .str t, .str l'])) := same_new hub
              have hD7' := t7 _ _ hD6'
              have tpz : Tp (upd H6' ub (.tup [.str m.1, .str t, .str l'])) (upd (upd H6' ub (.tup [.str m.1, .str t, .str l'])) D (.lst (zs ++ [.ref ub]))) := (Tp.refl _).put hD7' (fun _ z => nomatch z)
              have hmem' := List.mem_of_getElem? hce
              obtain ⟨g', hg'⟩ := (hcan.post t l').mp hmem'
              rw [hmm] at hg'
              have hlab := ty.lab hmp hg'
              refine ⟨zs, hD7', by omega, same_put (t6.trans t7) hD, zs ++ [.ref ub], as2 ++ [(m.1, t, l')], upd_same, Paired.snoc (L2.Paired.mapP hzs fun _ _ q => q.mono ((Tp.of t7).trans tpz)) ⟨ub, rfl, tpz _ _ upd_same, hlab.2.2.2.2.1⟩, by rw [List.length_append, List.length_singleton]; omega, fun x hx => ?_⟩
              rcases List.mem_append.mp hx with h | h
              · exact has2 x h
              · rw [List.mem_singleton.mp h]; exact ⟨rfl, hmem'⟩
          rintro H6' ⟨t6, zs, as2, hD6', hzs, hl2, has2⟩
          have hzl := Paired.length hzs
          have hyl := Paired.length hys
          have hcl := Paired.length hysc
          rw [hcl] at hl2
          have t46 := t5.trans t6
          refine ⟨qb, D, ys, zs, rfl, rfl, t46 _ _ hqb, hD6', by omega, fun nq hnq => ?_⟩
          have t7 : Same H6' (upd H6' nq (.lst (ys ++ zs))) := same_new hnq
          refine ⟨nq, ys ++ zs, as ++ as2, _, rfl, (t4.trans t46).trans t7, ((t1.trans t3).trans (t4.trans t46)).free hnq, upd_same, pr_app (L2.Paired.mapP hys fun _ _ q => q.mono (Tp.of (t46.trans t7))) (L2.Paired.mapP hzs fun _ _ q => q.mono (Tp.of t7)), by rw [List.length_append]; omega, fun x hx => ?_⟩
          rcases List.mem_append.mp hx with h | h
          · exact has x h
          · obtain ⟨h1, h2⟩ := has2 x h
            obtain ⟨g', hg'⟩ := (hcan.post x.2.1 x.2.2).mp h2
            rw [← h1] at hg' hmm hmp
            rw [hmm] at hg'
            have wf := ((machs_ok ty.sml).m _ (mem_machs hmp)).wf
            exact ⟨hmp, g', nx_some (wf.keys _ (row_mem hg')) hg'⟩
      rintro σ H4' ⟨qb, ys, as, x9, rfl, t4, hqf, hqb, hys, hasl, has⟩
      have t14 := (t1.trans t3).trans t4
      have I4 := I3.same t4
      have hT4 := hT1.mono (Tp.of t14)
      have hb4 := t14 _ _ hb1
      have hD4' := hD1'.same t14
      have hyl := Paired.length hys
      have hml : (machs T').length < 60 := by unfold machs; rw [List.length_map]; exact ty.few
      rw [List.length_map] at hasl
      refine ⟨_, rfl, !ys.isEmpty, .inl ⟨_, SqL.of hqb, rfl⟩, ?_⟩
      refine ite2 (fun c => ?_) (fun c => ?_)
      · have hyp : 0 < ys.length := by
          cases ys with
          | nil => cases c
          | cons => exact Nat.zero_lt_succ _
        refine ⟨_, rfl, _, rfl, _, rfl, qb, _, rfl, .inl (SqL.of hqb), sb, lb, _, rfl, hD4', by omega, by omega, fun d H5 d0 d1 o5 hD5 => ?_⟩
        obtain ⟨d, rfl⟩ := Int.eq_ofNat_of_zero_le d0
        obtain ⟨u, hu⟩ : ∃ u, ys[d]? = some u := ⟨_, List.getElem?_eq_getElem (by omega)⟩
        obtain ⟨x, hx, hux⟩ := pr_get' hys hu
        obtain ⟨hxp, t', hxt⟩ := has x (List.mem_of_getElem? hx)
        have tp5 := hD4'.tp o5
        have hqs : qb ≠ sb := fun e => hD1'.some_.1 (by rw [← e]; exact hqf)
        have hqb5 : H5 qb = some (.lst ys) := o5 _ _ (fun e => hqs (List.mem_singleton.mp e)) hqb
        have I5 := I4.outz o5 tp5 zs1
        obtain ⟨mv5, nv5, tv5, R5⟩ := id I5.at_
        refine ⟨qb, _, _, _, rfl, rfl, SqL.of hqb5, atI_nat hu, ?_⟩
        refine ⟨_, rfl, L.a, _, _, rfl, R5.ob, plM_taken .., L, machs T', S, _, rfl, I5.at_, fun bb H6 ys6 s6 hbb0 hbb hys6 => ?_⟩
        have I6 := I5.same s6
        have hT6 := (hT4.mono tp5).mono (Tp.of s6)
        have hb6 := s6 _ _ (tp5 _ _ hb4)
        have hD6 := hD5.same s6
        have hu6 := (hux.mono tp5).mono (Tp.of s6)
        obtain ⟨ub, rfl, hub6, hokx⟩ := id hu6
        obtain ⟨mv6, nv6, tv6, R6⟩ := id I6.at_
        have hin : i < 13 := by omega
        obtain ⟨qs, c1, c2, c3, c4, c5, c6, c7, c8, c9, c10, c11, c12, c13, c14⟩ := offer_pre ty I6 hxp ⟨t', hxt⟩ (by omega)
        have mok := machs_ok ty.sml
        have hwalk : T'.walk 0 (S.tk ++ [x]) = T'.step e.1 x := by
          rw [walk_next, hgd.t]
          rfl
        have hxp2 := (ty.lab hxp (step_mem hxt)).2.2.1
        refine ⟨_, rfl, L.a, _, _, rfl, R6.ob, plM_offer .., _, rfl, ub, _, _, _, rfl, rfl, SqT.of hub6, atI_nat (j := 0) rfl, _, rfl, ub, _, _, _, rfl, rfl, SqT.of hub6, atI_nat (j := 1) rfl, _, rfl, ub, _, _, _, rfl, rfl, SqT.of hub6, atI_nat (j := 2) rfl, ?_⟩
        refine ⟨L, machs T', S, _, (x.1, mach T' x.1), (x.2.1, mach T' x.2.1), x.2.2, qs, rfl, I6.at_, c1, c2, c3, c4, c5, c6, c7, c8, c9, c10, c11, c12, c13, c14, fun qt hqt H7 S7 o7 hP7 hR7 hq7 ht7 => ?_, fun hno H7 S7 o7 hP7 hR7 hq7 ht7 => ?_⟩
        · have hqt : (mach T' x.2.1).step (S.st x.2.1).q x = some qt := hqt
          have ht7 : S7.tk = S.tk ++ [x] := ht7
          have I7 := offer_yes (qs := qs) (qt := qt) I6 c5 hqt hP7 hR7 hq7 ht7
          obtain ⟨tt, htt⟩ : ∃ tt, T'.step e.1 x = some tt := by
            cases hz : T'.step e.1 x with
            | some tt => exact ⟨tt, rfl⟩
            | none =>
              exfalso
              obtain ⟨i1, q1, hm1, hq1', w1⟩ := ms_ix hgd hxp
              obtain ⟨i2, q2, hm2, hq2', w2⟩ := ms_ix hgd hxp2
              have g1 := I.q _ hxp
              have g2 := I.q _ hxp2
              rw [w1] at g1
              rw [w2] at g2
              have g1 := Option.some.inj g1
              have g2 := Option.some.inj g2
              exact hns e he x ⟨⟨i1, _, q1, hm1, hq1', rfl, t', step_mem (by rw [g1]; exact hxt)⟩, ⟨i2, _, q2, hm2, hq2', rfl, qt, by rw [g2]; exact hqt⟩, hz⟩
          have hdec : (T'.step e.1 x).isSome = true := by rw [htt]; rfl
          have hnext : ∃ e ∈ ord, Good T' (machs T') S7.tk e.1 e.2.1 := by
            have hg := good_next hgd mok htt
            obtain ⟨e2, he2, ek⟩ := List.mem_map.mp (hjo.clo e he x tt htt)
            unfold jk at ek
            injection ek with k1 k2
            rw [← k1, ← k2, ← ht7] at hg
            exact ⟨e2, he2, hg⟩
          have hwk : (T'.walk 0 (S.tk ++ [x])).isSome = true := by rw [hwalk]; exact hdec
          have ht7' : S7.tk = S.tk ++ [x] := ht7
          obtain ⟨mv6, nv6, tv6, R6'⟩ := id I6.at_
          have tp7 := R6'.tp o7
          have hbb7 : H7 bb = some (.lst ys6) := o7 _ _ (fun hm => R5.some_ hm hbb0) hbb
          have hT7 := hT6.mono tp7
          have hb7 := tp7 _ _ hb6
          have hu7 := hu6.mono tp7
          have hys7 := L2.Paired.mapP hys6 fun _ _ q => q.mono tp7
          have hD7 : DrV H7 sb lb := hD6.outz o7 hsz hlz
          have hyl := Paired.length hys6
          have htl : S.tk.length ≤ 5 * i := by
            obtain ⟨_, _, _, r⟩ := I.at_
            exact r.tl
          refine ⟨_, rfl, _, rfl, _, rfl, _, rfl, (by show 1 ≤ sizeLine; omega), fun l1 hl1 => ⟨bb, l1, ys6, [.ref ub], rfl, rfl, same_new hl1 _ _ hbb7, upd_same, (by show ys6.length + 1 ≤ sizeLine; omega), fun c1 hc1 => ?_⟩⟩
          have s8 : Same H7 (upd H7 l1 (.lst [.ref ub])) := same_new hl1
          have s9 : Same (upd H7 l1 (.lst [.ref ub])) (upd (upd H7 l1 (.lst [.ref ub])) c1 (.lst (ys6 ++ [.ref ub]))) := same_new hc1
          have hc9 : (upd (upd H7 l1 (.lst [.ref ub])) c1 (.lst (ys6 ++ [.ref ub]))) c1 = some (.lst (ys6 ++ [.ref ub])) := upd_same
          have s79 := s8.trans s9
          generalize upd (upd H7 l1 (.lst [.ref ub])) c1 (.lst (ys6 ++ [.ref ub])) = H9' at s9 hc9 s79
          refine ⟨v, T', c1, _, S.tk ++ [x], rfl, hT7.mono (Tp.of s79), hw, hc9, Paired.snoc (L2.Paired.mapP hys7 fun _ _ q => q.mono (Tp.of s79)) (hu7.mono (Tp.of s79)), ⟨rfl, ?_⟩⟩
          refine ⟨rfl, _, rfl, ?_⟩
          rw [show (!decide (V.bl true = V.bl (!decide (optI (T'.walk 0 (S.tk ++ [x])) = V.non)))) = false from by
            cases hz : T'.walk 0 (S.tk ++ [x]) with
            | none => rw [hz] at hwk; cases hwk
            | some q => rw [hz] at hwk; rfl]
          have I9 := I7.same s79
          obtain ⟨mv9, nv9, tv9, R9⟩ := id I9.at_
          refine iteF ⟨_, rfl, L.a, _, _, rfl, R9.ob, plM_taken .., L, machs T', S7, _, rfl, I9.at_, fun b2 H10' ys10 s10' hb20 hb2 hys10 => ?_⟩
          have s7a := s79.trans s10'
          refine ⟨_, rfl, _, rfl, (by show 1 ≤ sizeLine; omega), fun l2 hl2 => ⟨_, rfl, .inr ⟨true, rfl, l2, 1, [.ref ub], rfl, rfl, upd_same, by decide, by decide, (by show 1 * 1 ≤ sizeLine; omega), fun p1 hp1 => ?_⟩⟩⟩
          rw [show (List.replicate (1 : Int).toNat [V.ref ub]).flatten = [V.ref ub] from rfl]
          have s11' : Same H10' (upd H10' l2 (.lst [.ref ub])) := same_new hl2
          have s12' : Same (upd H10' l2 (.lst [.ref ub])) (upd (upd H10' l2 (.lst [.ref ub])) p1 (.lst [.ref ub])) := same_new hp1
          have hp12 : (upd (upd H10' l2 (.lst [.ref ub])) p1 (.lst [.ref ub])) p1 = some (.lst [.ref ub]) := upd_same
          have s7b := s7a.trans (s11'.trans s12')
          refine ⟨bb, p1, ys6, [.ref ub], rfl, rfl, s7b _ _ hbb7, hp12, (by show ys6.length + 1 ≤ sizeLine; omega), fun p2 hp2 => ?_⟩
          have s13' : Same (upd (upd H10' l2 (.lst [.ref ub])) p1 (.lst [.ref ub])) (upd (upd (upd H10' l2 (.lst [.ref ub])) p1 (.lst [.ref ub])) p2 (.lst (ys6 ++ [.ref ub]))) := same_new hp2
          have hp22 : (upd (upd (upd H10' l2 (.lst [.ref ub])) p1 (.lst [.ref ub])) p2 (.lst (ys6 ++ [.ref ub]))) p2 = some (.lst (ys6 ++ [.ref ub])) := upd_same
          have sa := (s11'.trans s12').trans s13'
          have s7c := s7a.trans sa
          generalize upd (upd (upd H10' l2 (.lst [.ref ub])) p1 (.lst [.ref ub])) p2 (.lst (ys6 ++ [.ref ub])) = H13' at s13' hp22 sa s7c
          rw [ht7'] at hys10
          have pa : Paired (ActV H13') ys10 (S.tk ++ [x]) := L2.Paired.mapP hys10 fun _ _ q => q.mono (Tp.of sa)
          have pb' : Paired (ActV H13') (ys6 ++ [.ref ub]) (S.tk ++ [x]) := Paired.snoc (L2.Paired.mapP hys7 fun _ _ q => q.mono (Tp.of s7c)) (hu7.mono (Tp.of s7c))
          refine ⟨.list ((S.tk ++ [x]).map fun a => tkD (kA a)), .list ((S.tk ++ [x]).map fun a => tkD (kA a)), .lst (SqL.of (sa _ _ hb2)) (dpAll_act pa), .lst (SqL.of hp22) (dpAll_act pb'), shList fun a ha => sh_act (act_oks pa a ha), shList fun a ha => sh_act (act_oks pa a ha), _, rfl, ?_⟩
          rw [eqv_actl, decide_eq_true rfl]
          refine iteF ?_
          exact ⟨S7, _, _, _, _, _, _, _, rfl, hT7.mono (Tp.of s7c), s7c _ _ hb7, hD7.same s7c, I7.same s7c, hnext⟩
        · have hno : (mach T' x.2.1).step (S.st x.2.1).q x = none := hno
          have I7 := offer_no I6 hP7 hR7 hq7 ht7
          have hz : T'.step e.1 x = none := by
            cases hz : T'.step e.1 x with
            | none => rfl
            | some tt =>
              exfalso
              obtain ⟨q2, w2, _, k2⟩ := sim_run ty.sml.wf (mok.m _ (mem_machs hxp2)) hgd.t
              obtain ⟨t2, e2⟩ := k2 x tt hz (con_iff.mpr (.inr rfl))
              have g2 := I.q _ hxp2
              rw [w2] at g2
              have g2 := Option.some.inj g2
              rw [← g2, e2] at hno
              cases hno
          have hdec : (T'.step e.1 x).isSome = false := by rw [hz]; rfl
          have hnext : ∃ e ∈ ord, Good T' (machs T') S7.tk e.1 e.2.1 := ⟨e, he, by rw [ht7]; exact hgd⟩
          have hwk : (T'.walk 0 (S.tk ++ [x])).isSome = false := by rw [hwalk]; exact hdec
          have ht7' : S7.tk = S.tk ++ [] := by rw [ht7, List.append_nil]
          obtain ⟨mv6, nv6, tv6, R6'⟩ := id I6.at_
          have tp7 := R6'.tp o7
          have hbb7 : H7 bb = some (.lst ys6) := o7 _ _ (fun hm => R5.some_ hm hbb0) hbb
          have hT7 := hT6.mono tp7
          have hb7 := tp7 _ _ hb6
          have hu7 := hu6.mono tp7
          have hys7 := L2.Paired.mapP hys6 fun _ _ q => q.mono tp7
          have hD7 : DrV H7 sb lb := hD6.outz o7 hsz hlz
          have hyl := Paired.length hys6
          have htl : S.tk.length ≤ 5 * i := by
            obtain ⟨_, _, _, r⟩ := I.at_
            exact r.tl
          refine ⟨_, rfl, _, rfl, _, rfl, _, rfl, (by show 1 ≤ sizeLine; omega), fun l1 hl1 => ⟨bb, l1, ys6, [.ref ub], rfl, rfl, same_new hl1 _ _ hbb7, upd_same, (by show ys6.length + 1 ≤ sizeLine; omega), fun c1 hc1 => ?_⟩⟩
          have s8 : Same H7 (upd H7 l1 (.lst [.ref ub])) := same_new hl1
          have s9 : Same (upd H7 l1 (.lst [.ref ub])) (upd (upd H7 l1 (.lst [.ref ub])) c1 (.lst (ys6 ++ [.ref ub]))) := same_new hc1
          have hc9 : (upd (upd H7 l1 (.lst [.ref ub])) c1 (.lst (ys6 ++ [.ref ub]))) c1 = some (.lst (ys6 ++ [.ref ub])) := upd_same
          have s79 := s8.trans s9
          generalize upd (upd H7 l1 (.lst [.ref ub])) c1 (.lst (ys6 ++ [.ref ub])) = H9' at s9 hc9 s79
          refine ⟨v, T', c1, _, S.tk ++ [x], rfl, hT7.mono (Tp.of s79), hw, hc9, Paired.snoc (L2.Paired.mapP hys7 fun _ _ q => q.mono (Tp.of s79)) (hu7.mono (Tp.of s79)), ⟨rfl, ?_⟩⟩
          refine ⟨rfl, _, rfl, ?_⟩
          rw [show (!decide (V.bl false = V.bl (!decide (optI (T'.walk 0 (S.tk ++ [x])) = V.non)))) = false from by
            cases hz : T'.walk 0 (S.tk ++ [x]) with
            | none => rw [hz] at hwk; rfl
            | some q => rw [hz] at hwk; cases hwk]
          have I9 := I7.same s79
          obtain ⟨mv9, nv9, tv9, R9⟩ := id I9.at_
          refine iteF ⟨_, rfl, L.a, _, _, rfl, R9.ob, plM_taken .., L, machs T', S7, _, rfl, I9.at_, fun b2 H10' ys10 s10' hb20 hb2 hys10 => ?_⟩
          have s7a := s79.trans s10'
          refine ⟨_, rfl, _, rfl, (by show 1 ≤ sizeLine; omega), fun l2 hl2 => ⟨_, rfl, .inr ⟨false, rfl, l2, 0, [.ref ub], rfl, rfl, upd_same, by decide, by decide, (by show 1 * 0 ≤ sizeLine; omega), fun p1 hp1 => ?_⟩⟩⟩
          rw [show (List.replicate (0 : Int).toNat [V.ref ub]).flatten = ([] : List V) from rfl]
          have s11' : Same H10' (upd H10' l2 (.lst [.ref ub])) := same_new hl2
          have s12' : Same (upd H10' l2 (.lst [.ref ub])) (upd (upd H10' l2 (.lst [.ref ub])) p1 (.lst [])) := same_new hp1
          have hp12 : (upd (upd H10' l2 (.lst [.ref ub])) p1 (.lst [])) p1 = some (.lst []) := upd_same
          have s7b := s7a.trans (s11'.trans s12')
          refine ⟨bb, p1, ys6, [], rfl, rfl, s7b _ _ hbb7, hp12, (by show ys6.length + 0 ≤ sizeLine; omega), fun p2 hp2 => ?_⟩
          have s13' : Same (upd (upd H10' l2 (.lst [.ref ub])) p1 (.lst [])) (upd (upd (upd H10' l2 (.lst [.ref ub])) p1 (.lst [])) p2 (.lst (ys6 ++ []))) := same_new hp2
          have hp22 : (upd (upd (upd H10' l2 (.lst [.ref ub])) p1 (.lst [])) p2 (.lst (ys6 ++ []))) p2 = some (.lst (ys6 ++ [])) := upd_same
          have sa := (s11'.trans s12').trans s13'
          have s7c := s7a.trans sa
          generalize upd (upd (upd H10' l2 (.lst [.ref ub])) p1 (.lst [])) p2 (.lst (ys6 ++ [])) = H13' at s13' hp22 sa s7c
          rw [ht7'] at hys10
          have pa : Paired (ActV H13') ys10 (S.tk ++ []) := L2.Paired.mapP hys10 fun _ _ q => q.mono (Tp.of sa)
          have pb' : Paired (ActV H13') (ys6 ++ []) (S.tk ++ []) := by rw [List.append_nil, List.append_nil]; exact L2.Paired.mapP hys7 fun _ _ q => q.mono (Tp.of s7c)
          refine ⟨.list ((S.tk ++ []).map fun a => tkD (kA a)), .list ((S.tk ++ []).map fun a => tkD (kA a)), .lst (SqL.of (sa _ _ hb2)) (dpAll_act pa), .lst (SqL.of hp22) (dpAll_act pb'), shList fun a ha => sh_act (act_oks pa a ha), shList fun a ha => sh_act (act_oks pa a ha), _, rfl, ?_⟩
          rw [eqv_actl, decide_eq_true rfl]
          refine iteF ?_
          exact ⟨S7, _, _, _, _, _, _, _, rfl, hT7.mono (Tp.of s7c), s7c _ _ hb7, hD7.same s7c, I7.same s7c, hnext⟩
      · obtain ⟨mvx, nvx, tvx, Rx⟩ := id I4.at_
        exact ⟨S, _, _, _, _, _, _, _, rfl, hT4, hb4, hD4', ⟨I4.at_.same (Same.refl _) (by omega), I4.rest, I4.q⟩, e, he, hgd⟩
    · rintro σ H1' ⟨S, x9, x10, x11, x12, x13, x14, x15, rfl, hT1, hb1, hD1', I, e, he, hgd⟩
      refine ⟨_, rfl, (by show 1 ≤ sizeLine; omega), fun fb hfb => ?_⟩
      have t1 : Same H1' (upd H1' fb (.tup [.str "fine"])) := same_new hfb
      have k1 : PyData.strOk "fine" = true := by decide +kernel
      have sh : SeqAt.shaped (.tuple [.str "fine"]) = true := by simp [SeqAt.shaped, PyData.canLay0, PyData.canLayAll0, PyData.depth, PyData.depthAll, k1]
      refine ⟨.tuple [.str "fine"], .tuple [.str "fine"], .tup (SqT.of (t1 _ _ hb1)) (.cons (.str _) .nil), .tup (SqT.of upd_same) (.cons (.str _) .nil), sh, sh, ?_⟩
      rw [show PyData.eqv (.tuple [.str "fine"]) (.tuple [.str "fine"]) = true by simp [PyData.eqv, PyData.eqvAll]]
      exact hQ _
  · have hT10 := hT9.mono (Tp.of s10)
    refine ⟨_, rfl, v, T', rfl, hT10, ty.sml, ty.few, fun H11 L s11 hfr hP => ?_⟩
    have I := PI.begin ty hP
    have hb11 := s11 _ _ hb
    have hT11 := hT10.mono (Tp.of s11)
    refine ⟨_, rfl, b, _, _, _, rfl, rfl, SqT.of hb11, atI_nat (j := 0) rfl, rfl, _, rfl, ?_⟩
    rw [show decide (V.str "large" = V.str "stray") = false by decide +kernel]
    refine iteF ?_
    refine ⟨_, rfl, b, _, _, _, rfl, rfl, SqT.of hb11, atI_nat (j := 0) rfl, rfl, _, rfl, ?_⟩
    rw [show decide (V.str "large" = V.str "idle") = false by decide +kernel]
    refine iteF ?_
    refine ⟨_, rfl, b, _, _, _, rfl, rfl, SqT.of hb11, atI_nat (j := 0) rfl, rfl, _, rfl, ?_⟩
    rw [show decide (V.str "large" = V.str "large") = true by decide +kernel]
    exact iteT (hQ _)
end Pk
set_option Elab.async false
set_option linter.all false
set_option maxRecDepth 100000
set_option maxHeartbeats 0
/-! The end: head and law joined. -/
open PySem PySem.W PySem.Calls PyProof.Rows
theorem PySem.Challenge.cw_pactloom_k56_whole_refused_protocols_go_holds : PySem.Challenge.rw_pactloom_k56_whole_refused_protocols_go.Holds := by
  w_on; o_law
  refine HandSHeadRun.head_any (r := OpenLaw.row PySem.Challenge.rw_pactloom_k56_whole_refused_protocols_go) (q := view (OpenLaw.row PySem.Challenge.rw_pactloom_k56_whole_refused_protocols_go).prog [68]) (H := Pk.hk) (ob := Pk.ob) (M := 4000) (loose := Pk.names) (d := HandSHeadRun.topDef (OpenLaw.row PySem.Challenge.rw_pactloom_k56_whole_refused_protocols_go).prog 68) (kwd := []) Pk.ob_eq
    (by kernel_rfl) (fun s => by kernel_rfl) Pk.run (by kernel_rfl) (by kernel_rfl) (by kernel_rfl) (by rfl) (by first | assumption | decide +kernel) (by decide +kernel) ⟨rfl, rfl, rfl, rfl, rfl, by decide +kernel⟩ ?hw ?hc
  case hw => w_witness2
  case hc =>
    refine L2.walk_ofE (l := PySem.Challenge.rw_pactloom_k56_whole_refused_protocols_go) (n := 63) (k := 10) (x := "_law_script") (CX := L2.CX0) rfl (by decide) (by kernel_rfl) ⟨rfl, by decide, by decide⟩ ?F (fun _ _ _ _ z => z)
    intro w mg fa h Y G hmg0
    obtain ⟨K, KX, c⟩ := Y
    have hmg : mg ("law" : PySem.Str) = some (.ref fa) := by
      have e : (HandSHeadRun.topDef (OpenLaw.row PySem.Challenge.rw_pactloom_k56_whole_refused_protocols_go).prog 68).name = ("law" : PySem.Str) := by kernel_rfl
      rw [← e]
      exact hmg0
    have T := Pk.txt_of KX G c
    obtain ⟨fd, F⟩ := T.d_law
    have e := hmg.symm.trans T.g_law
    cases e
    have b := L2.FunD.bindsA (ps := ["_law_script"]) F fun _ _ _ _ _ _ us hl => match us, hl with | [_], _ => rfl
    refine ⟨K, fd, Pk.spLaw K, KX, fun s v => b s [v] rfl, fun H a ns hl _ hS => ⟨a, ns, rfl, hS, fun _ => rfl⟩, fun base _ _ => Pk.o_law T F⟩
