import PyProof.Rows.All
import Wide.All
import OpenK.AllK
import Wide.FinOn
import KE.KStateDown
import HandS.ForMost
import HandS.FStr
import HandS.TupLe
import HandS.TupAny
import HandS.TupLen
import HandS.Deep
import HandS.DictComp
import HandS.DictTup
import HandS.SetKeys
import HandS.SortKw
import HandS.SortOrd
import HandS.Wide
import HandS.IsInst
import HandS.Exc
import HandS.TryOnly
import HandS.ExcOwn
import HandS.Defaults
import HandS.Flow
import HandS.Codes
import HandS.Steps
import HandS.SortRule
import HandS.TupSets
import HandS.EndTab
import HandS.Head0
import HandS.Head1
import HandS.Head2
import HandS.HeadHook2
import HandS.HeadHook3
import HandS.HeadHook4
import HandS.HeadWalk
import PySem.Challenge.RW_authsync_k60_whole_followers
import HandS.GenList
import HandS.AnyAll
import HandS.Walk
import KE.DataMinMax
import PyProof.DictMoreH
import HandS.Conv
import PyProof.FString5
import KE.KxAffix
set_option Elab.async false
set_option linter.all false
set_option maxRecDepth 100000
set_option maxHeartbeats 4000000

namespace Z
open PySem PySem.Spec PyProof.Rows L2
def top (i : Nat) : Stmt := PySem.Challenge.pw_authsync_k60_whole_followers.main.body.getD i (.Pass ⟨0, 0, 0, 0⟩)
abbrev s_is_sign : Stmt := top 9
abbrev s_is_word : Stmt := top 10
abbrev s_is_identifier : Stmt := top 11
abbrev s_is_object : Stmt := top 12
abbrev s_type_of : Stmt := top 13
abbrev s_split_reference : Stmt := top 14
abbrev s_token_of : Stmt := top 15
abbrev s_split_token : Stmt := top 16
abbrev s_grant_line : Stmt := top 18
abbrev s_write_snapshot : Stmt := top 19
abbrev s_write_feed : Stmt := top 20
abbrev s_head_of : Stmt := top 21
abbrev s_grant_of : Stmt := top 22
abbrev s_read_snapshot : Stmt := top 23
abbrev s_put_grant : Stmt := top 24
abbrev s_read_feed : Stmt := top 25
abbrev s_difference : Stmt := top 27
abbrev s_applies : Stmt := top 28
abbrev s_apply_change : Stmt := top 29
abbrev s_Replica_init : Stmt := inClass (top 33) 0
abbrev s_Replica_store_id : Stmt := inClass (top 33) 1
abbrev s_Replica_revision : Stmt := inClass (top 33) 2
abbrev s_Replica_fits : Stmt := inClass (top 33) 3
abbrev s_Replica_check_entry : Stmt := inClass (top 33) 4
abbrev s_Replica_receive : Stmt := inClass (top 33) 5
abbrev s_Replica_take_waiting : Stmt := inClass (top 33) 6
abbrev s_Replica_waiting : Stmt := inClass (top 33) 7
abbrev s_Replica_waiting_entries : Stmt := inClass (top 33) 8
abbrev s_Replica_check : Stmt := inClass (top 33) 9
abbrev s_revisions_of : Stmt := top 36
abbrev s_read_request : Stmt := top 37
abbrev s_answer_to : Stmt := top 38
abbrev s_Follower_init : Stmt := inClass (top 39) 0
abbrev s_Follower_store_id : Stmt := inClass (top 39) 1
abbrev s_Follower_revision : Stmt := inClass (top 39) 2
abbrev s_Follower_check : Stmt := inClass (top 39) 3
abbrev s_Follower_ask : Stmt := inClass (top 39) 4
abbrev s_Follower_take : Stmt := inClass (top 39) 5
abbrev s_Follower_take_snapshot : Stmt := inClass (top 39) 6
abbrev s_Line_init : Stmt := inClass (top 46) 0
abbrev s_Line_next_part : Stmt := inClass (top 46) 2
abbrev s_Line_take : Stmt := inClass (top 46) 3
abbrev s_Line_expect : Stmt := inClass (top 46) 4
abbrev s_Line_name : Stmt := inClass (top 46) 5
abbrev s_Line_accepts : Stmt := inClass (top 46) 6
abbrev s_Line_finish : Stmt := inClass (top 46) 7
abbrev s_parts_of_line : Stmt := top 47
abbrev s_read_subject : Stmt := top 48
abbrev s_read_relation : Stmt := top 49
abbrev s_read_term : Stmt := top 50
abbrev s_read_permission : Stmt := top 51
abbrev s_read_line : Stmt := top 52
abbrev s_check_duplicates : Stmt := top 53
abbrev s_entry_of : Stmt := top 54
abbrev s_definition : Stmt := top 55
abbrev s_led_types : Stmt := top 56
abbrev s_is_known : Stmt := top 57
abbrev s_needs_of : Stmt := top 58
abbrev s_strata : Stmt := top 59
abbrev s_read_schema : Stmt := top 60
abbrev s_conforms : Stmt := top 62
abbrev s_check_relationships : Stmt := top 63
abbrev s_Graph_init : Stmt := inClass (top 65) 0
abbrev s_Graph_subjects_of : Stmt := inClass (top 65) 1
abbrev s_Graph_stratum_of : Stmt := inClass (top 65) 2
abbrev s_Graph_pairs_of : Stmt := inClass (top 65) 3
abbrev s_Graph_depends_on : Stmt := inClass (top 65) 4
abbrev s_count_of : Stmt := top 66
abbrev s_least : Stmt := top 67
abbrev s_both : Stmt := top 68
abbrev s_rule_count : Stmt := top 69
abbrev s_names_by_stratum : Stmt := top 70
abbrev s_ranks_for : Stmt := top 71
abbrev s_ranked : Stmt := top 72
abbrev s_evaluate : Stmt := top 73
abbrev s_Revision_init : Stmt := inClass (top 77) 0
abbrev s_Primary_init : Stmt := inClass (top 78) 0
abbrev s_Primary_store_id : Stmt := inClass (top 78) 1
abbrev s_Primary_revision : Stmt := inClass (top 78) 2
abbrev s_Primary_oldest : Stmt := inClass (top 78) 3
abbrev s_Primary_token : Stmt := inClass (top 78) 4
abbrev s_Primary_check_room : Stmt := inClass (top 78) 5
abbrev s_Primary_check_update : Stmt := inClass (top 78) 6
abbrev s_Primary_after_updates : Stmt := inClass (top 78) 7
abbrev s_Primary_write : Stmt := inClass (top 78) 9
abbrev s_Primary_number_at : Stmt := inClass (top 78) 13
abbrev s_Primary_check_revision : Stmt := inClass (top 78) 14
abbrev s_Primary_at_number : Stmt := inClass (top 78) 15
abbrev s_Primary_relationships : Stmt := inClass (top 78) 16
abbrev s_Primary_grants : Stmt := inClass (top 78) 18
abbrev s_Primary_snapshot : Stmt := inClass (top 78) 19
abbrev s_Primary_entry : Stmt := inClass (top 78) 21
abbrev s_Primary_compact : Stmt := inClass (top 78) 23
abbrev s_law_cell : Stmt := top 80
abbrev s_law_draws : Stmt := top 81
abbrev s_law_same : Stmt := top 82
abbrev s_law_store : Stmt := top 83
abbrev s_law_is_answer : Stmt := top 86
abbrev s_law_taken : Stmt := top 87
abbrev s_law_is_true : Stmt := top 88
abbrev s_law : Stmt := top 89
def d_is_sign : He.DefD := ⟨("is_sign", none), "is_sign", "is_sign", defArgs s_is_sign, defBody s_is_sign, defScope s_is_sign, [], []⟩
def d_is_word : He.DefD := ⟨("is_word", none), "is_word", "is_word", defArgs s_is_word, defBody s_is_word, defScope s_is_word, [], []⟩
def d_is_identifier : He.DefD := ⟨("is_identifier", none), "is_identifier", "is_identifier", defArgs s_is_identifier, defBody s_is_identifier, defScope s_is_identifier, [], []⟩
def d_is_object : He.DefD := ⟨("is_object", none), "is_object", "is_object", defArgs s_is_object, defBody s_is_object, defScope s_is_object, [], []⟩
def d_type_of : He.DefD := ⟨("type_of", none), "type_of", "type_of", defArgs s_type_of, defBody s_type_of, defScope s_type_of, [], []⟩
def d_split_reference : He.DefD := ⟨("split_reference", none), "split_reference", "split_reference", defArgs s_split_reference, defBody s_split_reference, defScope s_split_reference, [], []⟩
def d_token_of : He.DefD := ⟨("token_of", none), "token_of", "token_of", defArgs s_token_of, defBody s_token_of, defScope s_token_of, [], []⟩
def d_split_token : He.DefD := ⟨("split_token", none), "split_token", "split_token", defArgs s_split_token, defBody s_split_token, defScope s_split_token, [], []⟩
def d_grant_line : He.DefD := ⟨("grant_line", none), "grant_line", "grant_line", defArgs s_grant_line, defBody s_grant_line, defScope s_grant_line, [], []⟩
def d_write_snapshot : He.DefD := ⟨("write_snapshot", none), "write_snapshot", "write_snapshot", defArgs s_write_snapshot, defBody s_write_snapshot, defScope s_write_snapshot, [], []⟩
def d_write_feed : He.DefD := ⟨("write_feed", none), "write_feed", "write_feed", defArgs s_write_feed, defBody s_write_feed, defScope s_write_feed, [], []⟩
def d_head_of : He.DefD := ⟨("head_of", none), "head_of", "head_of", defArgs s_head_of, defBody s_head_of, defScope s_head_of, [], []⟩
def d_grant_of : He.DefD := ⟨("grant_of", none), "grant_of", "grant_of", defArgs s_grant_of, defBody s_grant_of, defScope s_grant_of, [], []⟩
def d_read_snapshot : He.DefD := ⟨("read_snapshot", none), "read_snapshot", "read_snapshot", defArgs s_read_snapshot, defBody s_read_snapshot, defScope s_read_snapshot, [], []⟩
def d_put_grant : He.DefD := ⟨("put_grant", none), "put_grant", "put_grant", defArgs s_put_grant, defBody s_put_grant, defScope s_put_grant, [], []⟩
def d_read_feed : He.DefD := ⟨("read_feed", none), "read_feed", "read_feed", defArgs s_read_feed, defBody s_read_feed, defScope s_read_feed, [], []⟩
def d_difference : He.DefD := ⟨("difference", none), "difference", "difference", defArgs s_difference, defBody s_difference, defScope s_difference, [], []⟩
def d_applies : He.DefD := ⟨("applies", none), "applies", "applies", defArgs s_applies, defBody s_applies, defScope s_applies, [], []⟩
def d_apply_change : He.DefD := ⟨("apply_change", none), "apply_change", "apply_change", defArgs s_apply_change, defBody s_apply_change, defScope s_apply_change, [], []⟩
def d_Replica_init : He.DefD := ⟨("Replica", some "__init__"), "__init__", "Replica.__init__", defArgs s_Replica_init, defBody s_Replica_init, defScope s_Replica_init, [], []⟩
def d_Replica_store_id : He.DefD := ⟨("Replica", some "store_id"), "store_id", "Replica.store_id", defArgs s_Replica_store_id, defBody s_Replica_store_id, defScope s_Replica_store_id, [], []⟩
def d_Replica_revision : He.DefD := ⟨("Replica", some "revision"), "revision", "Replica.revision", defArgs s_Replica_revision, defBody s_Replica_revision, defScope s_Replica_revision, [], []⟩
def d_Replica_fits : He.DefD := ⟨("Replica", some "fits"), "fits", "Replica.fits", defArgs s_Replica_fits, defBody s_Replica_fits, defScope s_Replica_fits, [], []⟩
def d_Replica_check_entry : He.DefD := ⟨("Replica", some "check_entry"), "check_entry", "Replica.check_entry", defArgs s_Replica_check_entry, defBody s_Replica_check_entry, defScope s_Replica_check_entry, [], []⟩
def d_Replica_receive : He.DefD := ⟨("Replica", some "receive"), "receive", "Replica.receive", defArgs s_Replica_receive, defBody s_Replica_receive, defScope s_Replica_receive, [], []⟩
def d_Replica_take_waiting : He.DefD := ⟨("Replica", some "take_waiting"), "take_waiting", "Replica.take_waiting", defArgs s_Replica_take_waiting, defBody s_Replica_take_waiting, defScope s_Replica_take_waiting, [], []⟩
def d_Replica_waiting : He.DefD := ⟨("Replica", some "waiting"), "waiting", "Replica.waiting", defArgs s_Replica_waiting, defBody s_Replica_waiting, defScope s_Replica_waiting, [], []⟩
def d_Replica_waiting_entries : He.DefD := ⟨("Replica", some "waiting_entries"), "waiting_entries", "Replica.waiting_entries", defArgs s_Replica_waiting_entries, defBody s_Replica_waiting_entries, defScope s_Replica_waiting_entries, [], []⟩
def d_Replica_check : He.DefD := ⟨("Replica", some "check"), "check", "Replica.check", defArgs s_Replica_check, defBody s_Replica_check, defScope s_Replica_check, [], []⟩
def d_revisions_of : He.DefD := ⟨("revisions_of", none), "revisions_of", "revisions_of", defArgs s_revisions_of, defBody s_revisions_of, defScope s_revisions_of, [], []⟩
def d_read_request : He.DefD := ⟨("read_request", none), "read_request", "read_request", defArgs s_read_request, defBody s_read_request, defScope s_read_request, [], []⟩
def d_answer_to : He.DefD := ⟨("answer_to", none), "answer_to", "answer_to", defArgs s_answer_to, defBody s_answer_to, defScope s_answer_to, [], []⟩
def d_Follower_init : He.DefD := ⟨("Follower", some "__init__"), "__init__", "Follower.__init__", defArgs s_Follower_init, defBody s_Follower_init, defScope s_Follower_init, [], []⟩
def d_Follower_store_id : He.DefD := ⟨("Follower", some "store_id"), "store_id", "Follower.store_id", defArgs s_Follower_store_id, defBody s_Follower_store_id, defScope s_Follower_store_id, [], []⟩
def d_Follower_revision : He.DefD := ⟨("Follower", some "revision"), "revision", "Follower.revision", defArgs s_Follower_revision, defBody s_Follower_revision, defScope s_Follower_revision, [], []⟩
def d_Follower_check : He.DefD := ⟨("Follower", some "check"), "check", "Follower.check", defArgs s_Follower_check, defBody s_Follower_check, defScope s_Follower_check, [], []⟩
def d_Follower_ask : He.DefD := ⟨("Follower", some "ask"), "ask", "Follower.ask", defArgs s_Follower_ask, defBody s_Follower_ask, defScope s_Follower_ask, [], []⟩
def d_Follower_take : He.DefD := ⟨("Follower", some "take"), "take", "Follower.take", defArgs s_Follower_take, defBody s_Follower_take, defScope s_Follower_take, [], []⟩
def d_Follower_take_snapshot : He.DefD := ⟨("Follower", some "take_snapshot"), "take_snapshot", "Follower.take_snapshot", defArgs s_Follower_take_snapshot, defBody s_Follower_take_snapshot, defScope s_Follower_take_snapshot, [], []⟩
def d_Line_init : He.DefD := ⟨("Line", some "__init__"), "__init__", "Line.__init__", defArgs s_Line_init, defBody s_Line_init, defScope s_Line_init, [], []⟩
def d_Line_next_part : He.DefD := ⟨("Line", some "next_part"), "next_part", "Line.next_part", defArgs s_Line_next_part, defBody s_Line_next_part, defScope s_Line_next_part, [], []⟩
def d_Line_take : He.DefD := ⟨("Line", some "take"), "take", "Line.take", defArgs s_Line_take, defBody s_Line_take, defScope s_Line_take, [], []⟩
def d_Line_expect : He.DefD := ⟨("Line", some "expect"), "expect", "Line.expect", defArgs s_Line_expect, defBody s_Line_expect, defScope s_Line_expect, [], []⟩
def d_Line_name : He.DefD := ⟨("Line", some "name"), "name", "Line.name", defArgs s_Line_name, defBody s_Line_name, defScope s_Line_name, [], []⟩
def d_Line_accepts : He.DefD := ⟨("Line", some "accepts"), "accepts", "Line.accepts", defArgs s_Line_accepts, defBody s_Line_accepts, defScope s_Line_accepts, [], []⟩
def d_Line_finish : He.DefD := ⟨("Line", some "finish"), "finish", "Line.finish", defArgs s_Line_finish, defBody s_Line_finish, defScope s_Line_finish, [], []⟩
def d_parts_of_line : He.DefD := ⟨("parts_of_line", none), "parts_of_line", "parts_of_line", defArgs s_parts_of_line, defBody s_parts_of_line, defScope s_parts_of_line, [], []⟩
def d_read_subject : He.DefD := ⟨("read_subject", none), "read_subject", "read_subject", defArgs s_read_subject, defBody s_read_subject, defScope s_read_subject, [], []⟩
def d_read_relation : He.DefD := ⟨("read_relation", none), "read_relation", "read_relation", defArgs s_read_relation, defBody s_read_relation, defScope s_read_relation, [], []⟩
def d_read_term : He.DefD := ⟨("read_term", none), "read_term", "read_term", defArgs s_read_term, defBody s_read_term, defScope s_read_term, [], []⟩
def d_read_permission : He.DefD := ⟨("read_permission", none), "read_permission", "read_permission", defArgs s_read_permission, defBody s_read_permission, defScope s_read_permission, [], []⟩
def d_read_line : He.DefD := ⟨("read_line", none), "read_line", "read_line", defArgs s_read_line, defBody s_read_line, defScope s_read_line, [], []⟩
def d_check_duplicates : He.DefD := ⟨("check_duplicates", none), "check_duplicates", "check_duplicates", defArgs s_check_duplicates, defBody s_check_duplicates, defScope s_check_duplicates, [], []⟩
def d_entry_of : He.DefD := ⟨("entry_of", none), "entry_of", "entry_of", defArgs s_entry_of, defBody s_entry_of, defScope s_entry_of, [], []⟩
def d_definition : He.DefD := ⟨("definition", none), "definition", "definition", defArgs s_definition, defBody s_definition, defScope s_definition, [], []⟩
def d_led_types : He.DefD := ⟨("led_types", none), "led_types", "led_types", defArgs s_led_types, defBody s_led_types, defScope s_led_types, [], []⟩
def d_is_known : He.DefD := ⟨("is_known", none), "is_known", "is_known", defArgs s_is_known, defBody s_is_known, defScope s_is_known, [], []⟩
def d_needs_of : He.DefD := ⟨("needs_of", none), "needs_of", "needs_of", defArgs s_needs_of, defBody s_needs_of, defScope s_needs_of, [], []⟩
def d_strata : He.DefD := ⟨("strata", none), "strata", "strata", defArgs s_strata, defBody s_strata, defScope s_strata, [], []⟩
def d_read_schema : He.DefD := ⟨("read_schema", none), "read_schema", "read_schema", defArgs s_read_schema, defBody s_read_schema, defScope s_read_schema, [], []⟩
def d_conforms : He.DefD := ⟨("conforms", none), "conforms", "conforms", defArgs s_conforms, defBody s_conforms, defScope s_conforms, [], []⟩
def d_check_relationships : He.DefD := ⟨("check_relationships", none), "check_relationships", "check_relationships", defArgs s_check_relationships, defBody s_check_relationships, defScope s_check_relationships, [], []⟩
def d_Graph_init : He.DefD := ⟨("Graph", some "__init__"), "__init__", "Graph.__init__", defArgs s_Graph_init, defBody s_Graph_init, defScope s_Graph_init, [], []⟩
def d_Graph_subjects_of : He.DefD := ⟨("Graph", some "subjects_of"), "subjects_of", "Graph.subjects_of", defArgs s_Graph_subjects_of, defBody s_Graph_subjects_of, defScope s_Graph_subjects_of, [], []⟩
def d_Graph_stratum_of : He.DefD := ⟨("Graph", some "stratum_of"), "stratum_of", "Graph.stratum_of", defArgs s_Graph_stratum_of, defBody s_Graph_stratum_of, defScope s_Graph_stratum_of, [], []⟩
def d_Graph_pairs_of : He.DefD := ⟨("Graph", some "pairs_of"), "pairs_of", "Graph.pairs_of", defArgs s_Graph_pairs_of, defBody s_Graph_pairs_of, defScope s_Graph_pairs_of, [], []⟩
def d_Graph_depends_on : He.DefD := ⟨("Graph", some "depends_on"), "depends_on", "Graph.depends_on", defArgs s_Graph_depends_on, defBody s_Graph_depends_on, defScope s_Graph_depends_on, [], []⟩
def d_count_of : He.DefD := ⟨("count_of", none), "count_of", "count_of", defArgs s_count_of, defBody s_count_of, defScope s_count_of, [], []⟩
def d_least : He.DefD := ⟨("least", none), "least", "least", defArgs s_least, defBody s_least, defScope s_least, [], []⟩
def d_both : He.DefD := ⟨("both", none), "both", "both", defArgs s_both, defBody s_both, defScope s_both, [], []⟩
def d_rule_count : He.DefD := ⟨("rule_count", none), "rule_count", "rule_count", defArgs s_rule_count, defBody s_rule_count, defScope s_rule_count, [], []⟩
def d_names_by_stratum : He.DefD := ⟨("names_by_stratum", none), "names_by_stratum", "names_by_stratum", defArgs s_names_by_stratum, defBody s_names_by_stratum, defScope s_names_by_stratum, [], []⟩
def d_ranks_for : He.DefD := ⟨("ranks_for", none), "ranks_for", "ranks_for", defArgs s_ranks_for, defBody s_ranks_for, defScope s_ranks_for, [], []⟩
def d_ranked : He.DefD := ⟨("ranked", none), "ranked", "ranked", defArgs s_ranked, defBody s_ranked, defScope s_ranked, [], []⟩
def d_evaluate : He.DefD := ⟨("evaluate", none), "evaluate", "evaluate", defArgs s_evaluate, defBody s_evaluate, defScope s_evaluate, [], []⟩
def d_Revision_init : He.DefD := ⟨("Revision", some "__init__"), "__init__", "Revision.__init__", defArgs s_Revision_init, defBody s_Revision_init, defScope s_Revision_init, [], []⟩
def d_Primary_init : He.DefD := ⟨("Primary", some "__init__"), "__init__", "Primary.__init__", defArgs s_Primary_init, defBody s_Primary_init, defScope s_Primary_init, [.adr (He.dflAt ("Primary", some "__init__") 0)], []⟩
def d_Primary_store_id : He.DefD := ⟨("Primary", some "store_id"), "store_id", "Primary.store_id", defArgs s_Primary_store_id, defBody s_Primary_store_id, defScope s_Primary_store_id, [], []⟩
def d_Primary_revision : He.DefD := ⟨("Primary", some "revision"), "revision", "Primary.revision", defArgs s_Primary_revision, defBody s_Primary_revision, defScope s_Primary_revision, [], []⟩
def d_Primary_oldest : He.DefD := ⟨("Primary", some "oldest"), "oldest", "Primary.oldest", defArgs s_Primary_oldest, defBody s_Primary_oldest, defScope s_Primary_oldest, [], []⟩
def d_Primary_token : He.DefD := ⟨("Primary", some "token"), "token", "Primary.token", defArgs s_Primary_token, defBody s_Primary_token, defScope s_Primary_token, [], []⟩
def d_Primary_check_room : He.DefD := ⟨("Primary", some "check_room"), "check_room", "Primary.check_room", defArgs s_Primary_check_room, defBody s_Primary_check_room, defScope s_Primary_check_room, [], []⟩
def d_Primary_check_update : He.DefD := ⟨("Primary", some "check_update"), "check_update", "Primary.check_update", defArgs s_Primary_check_update, defBody s_Primary_check_update, defScope s_Primary_check_update, [], []⟩
def d_Primary_after_updates : He.DefD := ⟨("Primary", some "after_updates"), "after_updates", "Primary.after_updates", defArgs s_Primary_after_updates, defBody s_Primary_after_updates, defScope s_Primary_after_updates, [], []⟩
def d_Primary_write : He.DefD := ⟨("Primary", some "write"), "write", "Primary.write", defArgs s_Primary_write, defBody s_Primary_write, defScope s_Primary_write, [], []⟩
def d_Primary_number_at : He.DefD := ⟨("Primary", some "number_at"), "number_at", "Primary.number_at", defArgs s_Primary_number_at, defBody s_Primary_number_at, defScope s_Primary_number_at, [], []⟩
def d_Primary_check_revision : He.DefD := ⟨("Primary", some "check_revision"), "check_revision", "Primary.check_revision", defArgs s_Primary_check_revision, defBody s_Primary_check_revision, defScope s_Primary_check_revision, [], []⟩
def d_Primary_at_number : He.DefD := ⟨("Primary", some "at_number"), "at_number", "Primary.at_number", defArgs s_Primary_at_number, defBody s_Primary_at_number, defScope s_Primary_at_number, [], []⟩
def d_Primary_relationships : He.DefD := ⟨("Primary", some "relationships"), "relationships", "Primary.relationships", defArgs s_Primary_relationships, defBody s_Primary_relationships, defScope s_Primary_relationships, [], []⟩
def d_Primary_grants : He.DefD := ⟨("Primary", some "grants"), "grants", "Primary.grants", defArgs s_Primary_grants, defBody s_Primary_grants, defScope s_Primary_grants, [], []⟩
def d_Primary_snapshot : He.DefD := ⟨("Primary", some "snapshot"), "snapshot", "Primary.snapshot", defArgs s_Primary_snapshot, defBody s_Primary_snapshot, defScope s_Primary_snapshot, [], []⟩
def d_Primary_entry : He.DefD := ⟨("Primary", some "entry"), "entry", "Primary.entry", defArgs s_Primary_entry, defBody s_Primary_entry, defScope s_Primary_entry, [], []⟩
def d_Primary_compact : He.DefD := ⟨("Primary", some "compact"), "compact", "Primary.compact", defArgs s_Primary_compact, defBody s_Primary_compact, defScope s_Primary_compact, [], []⟩
def d_law_cell : He.DefD := ⟨("_law_cell", none), "_law_cell", "_law_cell", defArgs s_law_cell, defBody s_law_cell, defScope s_law_cell, [], []⟩
def d_law_draws : He.DefD := ⟨("_law_draws", none), "_law_draws", "_law_draws", defArgs s_law_draws, defBody s_law_draws, defScope s_law_draws, [], []⟩
def d_law_same : He.DefD := ⟨("_law_same", none), "_law_same", "_law_same", defArgs s_law_same, defBody s_law_same, defScope s_law_same, [], []⟩
def d_law_store : He.DefD := ⟨("_law_store", none), "_law_store", "_law_store", defArgs s_law_store, defBody s_law_store, defScope s_law_store, [], []⟩
def d_law_is_answer : He.DefD := ⟨("_law_is_answer", none), "_law_is_answer", "_law_is_answer", defArgs s_law_is_answer, defBody s_law_is_answer, defScope s_law_is_answer, [], []⟩
def d_law_taken : He.DefD := ⟨("_law_taken", none), "_law_taken", "_law_taken", defArgs s_law_taken, defBody s_law_taken, defScope s_law_taken, [], []⟩
def d_law_is_true : He.DefD := ⟨("_law_is_true", none), "_law_is_true", "_law_is_true", defArgs s_law_is_true, defBody s_law_is_true, defScope s_law_is_true, [], []⟩
def d_law : He.DefD := ⟨("law", none), "law", "law", defArgs s_law, defBody s_law, defScope s_law, [], []⟩
def fn : List He.DefD := [d_is_sign, d_is_word, d_is_identifier, d_is_object, d_type_of, d_split_reference, d_token_of, d_split_token, d_grant_line, d_write_snapshot, d_write_feed, d_head_of, d_grant_of, d_read_snapshot, d_put_grant, d_read_feed, d_difference, d_applies, d_apply_change, d_Replica_init, d_Replica_store_id, d_Replica_revision, d_Replica_fits, d_Replica_check_entry, d_Replica_receive, d_Replica_take_waiting, d_Replica_waiting, d_Replica_waiting_entries, d_Replica_check, d_revisions_of, d_read_request, d_answer_to, d_Follower_init, d_Follower_store_id, d_Follower_revision, d_Follower_check, d_Follower_ask, d_Follower_take, d_Follower_take_snapshot, d_Line_init, d_Line_next_part, d_Line_take, d_Line_expect, d_Line_name, d_Line_accepts, d_Line_finish, d_parts_of_line, d_read_subject, d_read_relation, d_read_term, d_read_permission, d_read_line, d_check_duplicates, d_entry_of, d_definition, d_led_types, d_is_known, d_needs_of, d_strata, d_read_schema, d_conforms, d_check_relationships, d_Graph_init, d_Graph_subjects_of, d_Graph_stratum_of, d_Graph_pairs_of, d_Graph_depends_on, d_count_of, d_least, d_both, d_rule_count, d_names_by_stratum, d_ranks_for, d_ranked, d_evaluate, d_Revision_init, d_Primary_init, d_Primary_store_id, d_Primary_revision, d_Primary_oldest, d_Primary_token, d_Primary_check_room, d_Primary_check_update, d_Primary_after_updates, d_Primary_write, d_Primary_number_at, d_Primary_check_revision, d_Primary_at_number, d_Primary_relationships, d_Primary_grants, d_Primary_snapshot, d_Primary_entry, d_Primary_compact, d_law_cell, d_law_draws, d_law_same, d_law_store, d_law_is_answer, d_law_taken, d_law_is_true, d_law]
def fa : List He.Fa := [.glo "is_sign", .glo "is_word", .glo "is_identifier", .glo "is_object", .glo "type_of", .glo "split_reference", .glo "token_of", .glo "split_token", .glo "grant_line", .glo "write_snapshot", .glo "write_feed", .glo "head_of", .glo "grant_of", .glo "read_snapshot", .glo "put_grant", .glo "read_feed", .glo "difference", .glo "applies", .glo "apply_change", .glo "revisions_of", .glo "read_request", .glo "answer_to", .glo "parts_of_line", .glo "read_subject", .glo "read_relation", .glo "read_term", .glo "read_permission", .glo "read_line", .glo "check_duplicates", .glo "entry_of", .glo "definition", .glo "led_types", .glo "is_known", .glo "needs_of", .glo "strata", .glo "read_schema", .glo "conforms", .glo "check_relationships", .glo "count_of", .glo "least", .glo "both", .glo "rule_count", .glo "names_by_stratum", .glo "ranks_for", .glo "ranked", .glo "evaluate", .glo "_law_cell", .glo "_law_draws", .glo "_law_same", .glo "_law_store", .glo "_law_is_answer", .glo "_law_taken", .glo "_law_is_true", .glo "law", .glo "Replica", .cls "Replica", .mkr "Replica", .noat "Replica" "name", .noat "Replica" "number", .noat "Replica" "table", .noat "Replica" "later", .meth "Replica" "store_id", .meth "Replica" "revision", .meth "Replica" "fits", .meth "Replica" "check_entry", .meth "Replica" "receive", .meth "Replica" "take_waiting", .meth "Replica" "waiting", .meth "Replica" "waiting_entries", .meth "Replica" "check", .glo "Follower", .cls "Follower", .mkr "Follower", .noat "Follower" "replica", .meth "Follower" "store_id", .meth "Follower" "revision", .meth "Follower" "check", .meth "Follower" "ask", .meth "Follower" "take", .meth "Follower" "take_snapshot", .glo "Line", .cls "Line", .mkr "Line", .noat "Line" "number", .noat "Line" "parts", .noat "Line" "at", .meth "Line" "next_part", .meth "Line" "take", .meth "Line" "expect", .meth "Line" "name", .meth "Line" "accepts", .meth "Line" "finish", .glo "Graph", .cls "Graph", .mkr "Graph", .noat "Graph" "schema", .noat "Graph" "strata", .noat "Graph" "subjects", .noat "Graph" "objects", .noat "Graph" "people", .meth "Graph" "subjects_of", .meth "Graph" "stratum_of", .meth "Graph" "pairs_of", .meth "Graph" "depends_on", .glo "Revision", .cls "Revision", .mkr "Revision", .noat "Revision" "schema", .noat "Revision" "relationships", .noat "Revision" "table", .glo "Primary", .cls "Primary", .mkr "Primary", .noat "Primary" "name", .noat "Primary" "first", .noat "Primary" "revisions", .meth "Primary" "store_id", .meth "Primary" "revision", .meth "Primary" "oldest", .meth "Primary" "token", .meth "Primary" "check_room", .meth "Primary" "check_update", .meth "Primary" "after_updates", .meth "Primary" "write", .meth "Primary" "number_at", .meth "Primary" "check_revision", .meth "Primary" "at_number", .meth "Primary" "relationships", .meth "Primary" "grants", .meth "Primary" "snapshot", .meth "Primary" "entry", .meth "Primary" "compact", .free "len", .free "sorted", .free "range", .free "all", .free "any", .free "enumerate", .free "tuple", .free "list", .free "str", .free "int", .free "min", .free "max", .free "isinstance", .free "bool", .int "MOST" 20, .int "REVISION_MOST" 1000, .int "MOST_GRANTS" 12800, .int "MOST_AHEAD" 40, .int "ENTRIES_MOST" 10, .int "TYPES_MOST" 8, .int "NAMES_MOST" 8, .int "SUBJECTS_MOST" 8, .int "TERMS_MOST" 16, .int "MOST_REVISIONS" 40, .int "MOST_RELATIONSHIPS" 40, .glo "Refused", .glo "OPERATORS"]
def tf : List He.Defn := [("is_word", none), ("split_token", none), ("check_duplicates", none), ("is_known", none), ("applies", none)]
/-- one constant more: the written tuple OPERATORS, the empty default -/
def tupAt (K : PySem.W.Frag) (a : Addr) (vs : List V) : Bool := match K.lookup a with
  | some ⟨.type c, _, .seq its _, _⟩ => decide (c = "tuple") && (decide (its.size ≤ sizeLine) && He.relAll vs its.toList)
  | _ => false
theorem tupAt_ok {K : PySem.W.Frag} {a : Addr} {vs : List V} (h : tupAt K a vs = true) (H : Hp) : SqT K H a vs := by
  unfold tupAt at h
  split at h
  · rename_i c od its n sl q
    obtain ⟨h1, h2⟩ := He.ba h
    obtain ⟨h3, h4⟩ := He.ba h2
    exact .inr ⟨_, its, n, q, congrArg Value.type (of_decide_eq_true h1), rfl, of_decide_eq_true h3, He.relAll_ok h4⟩
  · cases h
def exB (K : PySem.W.Frag) : Bool := tupAt K (He.ga K "OPERATORS") [.str "|", .str "&", .str "-"] && tupAt K (He.dflAt ("Primary", some "__init__") 0 K) []
/-- the function datum at a place -/
def fdA (K : PySem.W.Frag) (p : Str × Option Str) : FuncData := match K.lookup (He.fAd K p) with
  | some ⟨_, _, .func fd, _⟩ => fd
  | _ => ⟨"", "", ⟨[], [], none, [], [], none, []⟩, .stmts [], ⟨.function, [], false, false, []⟩, 0, [], .none, .none, .none, .none, none, .none, .none, 0⟩
/-- what the proof knows of the program behind its top -/
structure Tx (w : World) (K : PySem.W.Frag) (mg : Str → Option Value) (base : Heap) : Prop where
  c : He.SaysD fa fn K
  glo : ∀ x, He.Fa.glo x ∈ fa → mg x = some (.ref (He.ga K x))
  free : ∀ x, He.Fa.free x ∈ fa → mg x = none
  int : ∀ x i, He.Fa.int x i ∈ fa → ∃ t, mg x = some (.int i t)
  ex : exB K = true
  tb : ∀ p ∈ tf, LamX.TabB base mg (He.cT K p).1 (He.cT K p).2
section
variable {w : World} {K : PySem.W.Frag} {mg : Str → Option Value} {base : Heap}
theorem Tx.fd (T : Tx w K mg base) (i : Nat) {d : He.DefD} (h : fn[i]? = some d) : FunD K d.name d.qual d.params d.body d.scope (d.dvs K) (d.kws K) (He.fAd K d.at_) (fdA K d.at_) := by
  obtain ⟨fd, F⟩ := T.c.def_ i h
  have e : fdA K d.at_ = fd := by
    obtain ⟨_, _, _, _, _, _, _, _, _, _, _, q, _⟩ := F.ex
    unfold fdA
    rw [q]
  rw [e]
  exact F
theorem Tx.ops (T : Tx w K mg base) (H : Hp) : SqT K H (He.ga K "OPERATORS") [.str "|", .str "&", .str "-"] := tupAt_ok (He.ba T.ex).1 H
theorem Tx.dfl0 (T : Tx w K mg base) (H : Hp) : SqT K H (He.dflAt ("Primary", some "__init__") 0 K) [] := tupAt_ok (He.ba T.ex).2 H
abbrev a_is_sign (K : PySem.W.Frag) : Addr := He.fAd K ("is_sign", none)
abbrev fd_is_sign (K : PySem.W.Frag) : FuncData := fdA K ("is_sign", none)
theorem Tx.f_is_sign (T : Tx w K mg base) : FunD K "is_sign" "is_sign" (defArgs s_is_sign) (defBody s_is_sign) (defScope s_is_sign) [] [] (a_is_sign K) (fd_is_sign K) := T.fd 0 (d := d_is_sign) rfl
theorem Tx.b_is_sign (T : Tx w K mg base) : Binds K (fd_is_sign K) ["sign"] [] := T.f_is_sign.bindsN fun _ _ _ _ _ _ us hl => match us, hl with | [_], _ => rfl
abbrev a_is_word (K : PySem.W.Frag) : Addr := He.fAd K ("is_word", none)
abbrev fd_is_word (K : PySem.W.Frag) : FuncData := fdA K ("is_word", none)
theorem Tx.f_is_word (T : Tx w K mg base) : FunD K "is_word" "is_word" (defArgs s_is_word) (defBody s_is_word) (defScope s_is_word) [] [] (a_is_word K) (fd_is_word K) := T.fd 1 (d := d_is_word) rfl
theorem Tx.b_is_word (T : Tx w K mg base) : Binds K (fd_is_word K) ["text"] [] := T.f_is_word.bindsN fun _ _ _ _ _ _ us hl => match us, hl with | [_], _ => rfl
abbrev a_is_identifier (K : PySem.W.Frag) : Addr := He.fAd K ("is_identifier", none)
abbrev fd_is_identifier (K : PySem.W.Frag) : FuncData := fdA K ("is_identifier", none)
theorem Tx.f_is_identifier (T : Tx w K mg base) : FunD K "is_identifier" "is_identifier" (defArgs s_is_identifier) (defBody s_is_identifier) (defScope s_is_identifier) [] [] (a_is_identifier K) (fd_is_identifier K) := T.fd 2 (d := d_is_identifier) rfl
theorem Tx.b_is_identifier (T : Tx w K mg base) : Binds K (fd_is_identifier K) ["text"] [] := T.f_is_identifier.bindsN fun _ _ _ _ _ _ us hl => match us, hl with | [_], _ => rfl
abbrev a_is_object (K : PySem.W.Frag) : Addr := He.fAd K ("is_object", none)
abbrev fd_is_object (K : PySem.W.Frag) : FuncData := fdA K ("is_object", none)
theorem Tx.f_is_object (T : Tx w K mg base) : FunD K "is_object" "is_object" (defArgs s_is_object) (defBody s_is_object) (defScope s_is_object) [] [] (a_is_object K) (fd_is_object K) := T.fd 3 (d := d_is_object) rfl
theorem Tx.b_is_object (T : Tx w K mg base) : Binds K (fd_is_object K) ["text"] [] := T.f_is_object.bindsN fun _ _ _ _ _ _ us hl => match us, hl with | [_], _ => rfl
abbrev a_type_of (K : PySem.W.Frag) : Addr := He.fAd K ("type_of", none)
abbrev fd_type_of (K : PySem.W.Frag) : FuncData := fdA K ("type_of", none)
theorem Tx.f_type_of (T : Tx w K mg base) : FunD K "type_of" "type_of" (defArgs s_type_of) (defBody s_type_of) (defScope s_type_of) [] [] (a_type_of K) (fd_type_of K) := T.fd 4 (d := d_type_of) rfl
theorem Tx.b_type_of (T : Tx w K mg base) : Binds K (fd_type_of K) ["thing"] [] := T.f_type_of.bindsN fun _ _ _ _ _ _ us hl => match us, hl with | [_], _ => rfl
abbrev a_split_reference (K : PySem.W.Frag) : Addr := He.fAd K ("split_reference", none)
abbrev fd_split_reference (K : PySem.W.Frag) : FuncData := fdA K ("split_reference", none)
theorem Tx.f_split_reference (T : Tx w K mg base) : FunD K "split_reference" "split_reference" (defArgs s_split_reference) (defBody s_split_reference) (defScope s_split_reference) [] [] (a_split_reference K) (fd_split_reference K) := T.fd 5 (d := d_split_reference) rfl
theorem Tx.b_split_reference (T : Tx w K mg base) : Binds K (fd_split_reference K) ["reference"] [] := T.f_split_reference.bindsN fun _ _ _ _ _ _ us hl => match us, hl with | [_], _ => rfl
abbrev a_token_of (K : PySem.W.Frag) : Addr := He.fAd K ("token_of", none)
abbrev fd_token_of (K : PySem.W.Frag) : FuncData := fdA K ("token_of", none)
theorem Tx.f_token_of (T : Tx w K mg base) : FunD K "token_of" "token_of" (defArgs s_token_of) (defBody s_token_of) (defScope s_token_of) [] [] (a_token_of K) (fd_token_of K) := T.fd 6 (d := d_token_of) rfl
theorem Tx.b_token_of (T : Tx w K mg base) : Binds K (fd_token_of K) ["store", "revision"] [] := T.f_token_of.bindsN fun _ _ _ _ _ _ us hl => match us, hl with | [_, _], _ => rfl
abbrev a_split_token (K : PySem.W.Frag) : Addr := He.fAd K ("split_token", none)
abbrev fd_split_token (K : PySem.W.Frag) : FuncData := fdA K ("split_token", none)
theorem Tx.f_split_token (T : Tx w K mg base) : FunD K "split_token" "split_token" (defArgs s_split_token) (defBody s_split_token) (defScope s_split_token) [] [] (a_split_token K) (fd_split_token K) := T.fd 7 (d := d_split_token) rfl
theorem Tx.b_split_token (T : Tx w K mg base) : Binds K (fd_split_token K) ["text"] [] := T.f_split_token.bindsN fun _ _ _ _ _ _ us hl => match us, hl with | [_], _ => rfl
abbrev a_grant_line (K : PySem.W.Frag) : Addr := He.fAd K ("grant_line", none)
abbrev fd_grant_line (K : PySem.W.Frag) : FuncData := fdA K ("grant_line", none)
theorem Tx.f_grant_line (T : Tx w K mg base) : FunD K "grant_line" "grant_line" (defArgs s_grant_line) (defBody s_grant_line) (defScope s_grant_line) [] [] (a_grant_line K) (fd_grant_line K) := T.fd 8 (d := d_grant_line) rfl
theorem Tx.b_grant_line (T : Tx w K mg base) : Binds K (fd_grant_line K) ["sign", "grant"] [] := T.f_grant_line.bindsN fun _ _ _ _ _ _ us hl => match us, hl with | [_, _], _ => rfl
abbrev a_write_snapshot (K : PySem.W.Frag) : Addr := He.fAd K ("write_snapshot", none)
abbrev fd_write_snapshot (K : PySem.W.Frag) : FuncData := fdA K ("write_snapshot", none)
theorem Tx.f_write_snapshot (T : Tx w K mg base) : FunD K "write_snapshot" "write_snapshot" (defArgs s_write_snapshot) (defBody s_write_snapshot) (defScope s_write_snapshot) [] [] (a_write_snapshot K) (fd_write_snapshot K) := T.fd 9 (d := d_write_snapshot) rfl
theorem Tx.b_write_snapshot (T : Tx w K mg base) : Binds K (fd_write_snapshot K) ["snapshot"] [] := T.f_write_snapshot.bindsN fun _ _ _ _ _ _ us hl => match us, hl with | [_], _ => rfl
abbrev a_write_feed (K : PySem.W.Frag) : Addr := He.fAd K ("write_feed", none)
abbrev fd_write_feed (K : PySem.W.Frag) : FuncData := fdA K ("write_feed", none)
theorem Tx.f_write_feed (T : Tx w K mg base) : FunD K "write_feed" "write_feed" (defArgs s_write_feed) (defBody s_write_feed) (defScope s_write_feed) [] [] (a_write_feed K) (fd_write_feed K) := T.fd 10 (d := d_write_feed) rfl
theorem Tx.b_write_feed (T : Tx w K mg base) : Binds K (fd_write_feed K) ["entries"] [] := T.f_write_feed.bindsN fun _ _ _ _ _ _ us hl => match us, hl with | [_], _ => rfl
abbrev a_head_of (K : PySem.W.Frag) : Addr := He.fAd K ("head_of", none)
abbrev fd_head_of (K : PySem.W.Frag) : FuncData := fdA K ("head_of", none)
theorem Tx.f_head_of (T : Tx w K mg base) : FunD K "head_of" "head_of" (defArgs s_head_of) (defBody s_head_of) (defScope s_head_of) [] [] (a_head_of K) (fd_head_of K) := T.fd 11 (d := d_head_of) rfl
theorem Tx.b_head_of (T : Tx w K mg base) : Binds K (fd_head_of K) ["line", "word", "least"] [] := T.f_head_of.bindsN fun _ _ _ _ _ _ us hl => match us, hl with | [_, _, _], _ => rfl
abbrev a_grant_of (K : PySem.W.Frag) : Addr := He.fAd K ("grant_of", none)
abbrev fd_grant_of (K : PySem.W.Frag) : FuncData := fdA K ("grant_of", none)
theorem Tx.f_grant_of (T : Tx w K mg base) : FunD K "grant_of" "grant_of" (defArgs s_grant_of) (defBody s_grant_of) (defScope s_grant_of) [] [] (a_grant_of K) (fd_grant_of K) := T.fd 12 (d := d_grant_of) rfl
theorem Tx.b_grant_of (T : Tx w K mg base) : Binds K (fd_grant_of K) ["line"] [] := T.f_grant_of.bindsN fun _ _ _ _ _ _ us hl => match us, hl with | [_], _ => rfl
abbrev a_read_snapshot (K : PySem.W.Frag) : Addr := He.fAd K ("read_snapshot", none)
abbrev fd_read_snapshot (K : PySem.W.Frag) : FuncData := fdA K ("read_snapshot", none)
theorem Tx.f_read_snapshot (T : Tx w K mg base) : FunD K "read_snapshot" "read_snapshot" (defArgs s_read_snapshot) (defBody s_read_snapshot) (defScope s_read_snapshot) [] [] (a_read_snapshot K) (fd_read_snapshot K) := T.fd 13 (d := d_read_snapshot) rfl
theorem Tx.b_read_snapshot (T : Tx w K mg base) : Binds K (fd_read_snapshot K) ["text"] [] := T.f_read_snapshot.bindsN fun _ _ _ _ _ _ us hl => match us, hl with | [_], _ => rfl
abbrev a_put_grant (K : PySem.W.Frag) : Addr := He.fAd K ("put_grant", none)
abbrev fd_put_grant (K : PySem.W.Frag) : FuncData := fdA K ("put_grant", none)
theorem Tx.f_put_grant (T : Tx w K mg base) : FunD K "put_grant" "put_grant" (defArgs s_put_grant) (defBody s_put_grant) (defScope s_put_grant) [] [] (a_put_grant K) (fd_put_grant K) := T.fd 14 (d := d_put_grant) rfl
theorem Tx.b_put_grant (T : Tx w K mg base) : Binds K (fd_put_grant K) ["number", "line", "entry"] [] := T.f_put_grant.bindsN fun _ _ _ _ _ _ us hl => match us, hl with | [_, _, _], _ => rfl
abbrev a_read_feed (K : PySem.W.Frag) : Addr := He.fAd K ("read_feed", none)
abbrev fd_read_feed (K : PySem.W.Frag) : FuncData := fdA K ("read_feed", none)
theorem Tx.f_read_feed (T : Tx w K mg base) : FunD K "read_feed" "read_feed" (defArgs s_read_feed) (defBody s_read_feed) (defScope s_read_feed) [] [] (a_read_feed K) (fd_read_feed K) := T.fd 15 (d := d_read_feed) rfl
theorem Tx.b_read_feed (T : Tx w K mg base) : Binds K (fd_read_feed K) ["text"] [] := T.f_read_feed.bindsN fun _ _ _ _ _ _ us hl => match us, hl with | [_], _ => rfl
abbrev a_difference (K : PySem.W.Frag) : Addr := He.fAd K ("difference", none)
abbrev fd_difference (K : PySem.W.Frag) : FuncData := fdA K ("difference", none)
theorem Tx.f_difference (T : Tx w K mg base) : FunD K "difference" "difference" (defArgs s_difference) (defBody s_difference) (defScope s_difference) [] [] (a_difference K) (fd_difference K) := T.fd 16 (d := d_difference) rfl
theorem Tx.b_difference (T : Tx w K mg base) : Binds K (fd_difference K) ["before", "after"] [] := T.f_difference.bindsN fun _ _ _ _ _ _ us hl => match us, hl with | [_, _], _ => rfl
abbrev a_applies (K : PySem.W.Frag) : Addr := He.fAd K ("applies", none)
abbrev fd_applies (K : PySem.W.Frag) : FuncData := fdA K ("applies", none)
theorem Tx.f_applies (T : Tx w K mg base) : FunD K "applies" "applies" (defArgs s_applies) (defBody s_applies) (defScope s_applies) [] [] (a_applies K) (fd_applies K) := T.fd 17 (d := d_applies) rfl
theorem Tx.b_applies (T : Tx w K mg base) : Binds K (fd_applies K) ["grants", "change"] [] := T.f_applies.bindsN fun _ _ _ _ _ _ us hl => match us, hl with | [_, _], _ => rfl
abbrev a_apply_change (K : PySem.W.Frag) : Addr := He.fAd K ("apply_change", none)
abbrev fd_apply_change (K : PySem.W.Frag) : FuncData := fdA K ("apply_change", none)
theorem Tx.f_apply_change (T : Tx w K mg base) : FunD K "apply_change" "apply_change" (defArgs s_apply_change) (defBody s_apply_change) (defScope s_apply_change) [] [] (a_apply_change K) (fd_apply_change K) := T.fd 18 (d := d_apply_change) rfl
theorem Tx.b_apply_change (T : Tx w K mg base) : Binds K (fd_apply_change K) ["grants", "change"] [] := T.f_apply_change.bindsN fun _ _ _ _ _ _ us hl => match us, hl with | [_, _], _ => rfl
abbrev a_Replica_init (K : PySem.W.Frag) : Addr := He.fAd K ("Replica", some "__init__")
abbrev fd_Replica_init (K : PySem.W.Frag) : FuncData := fdA K ("Replica", some "__init__")
theorem Tx.f_Replica_init (T : Tx w K mg base) : FunD K "__init__" "Replica.__init__" (defArgs s_Replica_init) (defBody s_Replica_init) (defScope s_Replica_init) [] [] (a_Replica_init K) (fd_Replica_init K) := T.fd 19 (d := d_Replica_init) rfl
theorem Tx.b_Replica_init (T : Tx w K mg base) : Binds K (fd_Replica_init K) ["self", "snapshot"] [] := T.f_Replica_init.bindsN fun _ _ _ _ _ _ us hl => match us, hl with | [_, _], _ => rfl
abbrev a_Replica_store_id (K : PySem.W.Frag) : Addr := He.fAd K ("Replica", some "store_id")
abbrev fd_Replica_store_id (K : PySem.W.Frag) : FuncData := fdA K ("Replica", some "store_id")
theorem Tx.f_Replica_store_id (T : Tx w K mg base) : FunD K "store_id" "Replica.store_id" (defArgs s_Replica_store_id) (defBody s_Replica_store_id) (defScope s_Replica_store_id) [] [] (a_Replica_store_id K) (fd_Replica_store_id K) := T.fd 20 (d := d_Replica_store_id) rfl
theorem Tx.b_Replica_store_id (T : Tx w K mg base) : Binds K (fd_Replica_store_id K) ["self"] [] := T.f_Replica_store_id.bindsN fun _ _ _ _ _ _ us hl => match us, hl with | [_], _ => rfl
abbrev a_Replica_revision (K : PySem.W.Frag) : Addr := He.fAd K ("Replica", some "revision")
abbrev fd_Replica_revision (K : PySem.W.Frag) : FuncData := fdA K ("Replica", some "revision")
theorem Tx.f_Replica_revision (T : Tx w K mg base) : FunD K "revision" "Replica.revision" (defArgs s_Replica_revision) (defBody s_Replica_revision) (defScope s_Replica_revision) [] [] (a_Replica_revision K) (fd_Replica_revision K) := T.fd 21 (d := d_Replica_revision) rfl
theorem Tx.b_Replica_revision (T : Tx w K mg base) : Binds K (fd_Replica_revision K) ["self"] [] := T.f_Replica_revision.bindsN fun _ _ _ _ _ _ us hl => match us, hl with | [_], _ => rfl
abbrev a_Replica_fits (K : PySem.W.Frag) : Addr := He.fAd K ("Replica", some "fits")
abbrev fd_Replica_fits (K : PySem.W.Frag) : FuncData := fdA K ("Replica", some "fits")
theorem Tx.f_Replica_fits (T : Tx w K mg base) : FunD K "fits" "Replica.fits" (defArgs s_Replica_fits) (defBody s_Replica_fits) (defScope s_Replica_fits) [] [] (a_Replica_fits K) (fd_Replica_fits K) := T.fd 22 (d := d_Replica_fits) rfl
theorem Tx.b_Replica_fits (T : Tx w K mg base) : Binds K (fd_Replica_fits K) ["self", "change"] [] := T.f_Replica_fits.bindsN fun _ _ _ _ _ _ us hl => match us, hl with | [_, _], _ => rfl
abbrev a_Replica_check_entry (K : PySem.W.Frag) : Addr := He.fAd K ("Replica", some "check_entry")
abbrev fd_Replica_check_entry (K : PySem.W.Frag) : FuncData := fdA K ("Replica", some "check_entry")
theorem Tx.f_Replica_check_entry (T : Tx w K mg base) : FunD K "check_entry" "Replica.check_entry" (defArgs s_Replica_check_entry) (defBody s_Replica_check_entry) (defScope s_Replica_check_entry) [] [] (a_Replica_check_entry K) (fd_Replica_check_entry K) := T.fd 23 (d := d_Replica_check_entry) rfl
theorem Tx.b_Replica_check_entry (T : Tx w K mg base) : Binds K (fd_Replica_check_entry K) ["self", "number", "change"] [] := T.f_Replica_check_entry.bindsN fun _ _ _ _ _ _ us hl => match us, hl with | [_, _, _], _ => rfl
abbrev a_Replica_receive (K : PySem.W.Frag) : Addr := He.fAd K ("Replica", some "receive")
abbrev fd_Replica_receive (K : PySem.W.Frag) : FuncData := fdA K ("Replica", some "receive")
theorem Tx.f_Replica_receive (T : Tx w K mg base) : FunD K "receive" "Replica.receive" (defArgs s_Replica_receive) (defBody s_Replica_receive) (defScope s_Replica_receive) [] [] (a_Replica_receive K) (fd_Replica_receive K) := T.fd 24 (d := d_Replica_receive) rfl
theorem Tx.b_Replica_receive (T : Tx w K mg base) : Binds K (fd_Replica_receive K) ["self", "entry"] [] := T.f_Replica_receive.bindsN fun _ _ _ _ _ _ us hl => match us, hl with | [_, _], _ => rfl
abbrev a_Replica_take_waiting (K : PySem.W.Frag) : Addr := He.fAd K ("Replica", some "take_waiting")
abbrev fd_Replica_take_waiting (K : PySem.W.Frag) : FuncData := fdA K ("Replica", some "take_waiting")
theorem Tx.f_Replica_take_waiting (T : Tx w K mg base) : FunD K "take_waiting" "Replica.take_waiting" (defArgs s_Replica_take_waiting) (defBody s_Replica_take_waiting) (defScope s_Replica_take_waiting) [] [] (a_Replica_take_waiting K) (fd_Replica_take_waiting K) := T.fd 25 (d := d_Replica_take_waiting) rfl
theorem Tx.b_Replica_take_waiting (T : Tx w K mg base) : Binds K (fd_Replica_take_waiting K) ["self"] [] := T.f_Replica_take_waiting.bindsN fun _ _ _ _ _ _ us hl => match us, hl with | [_], _ => rfl
abbrev a_Replica_waiting (K : PySem.W.Frag) : Addr := He.fAd K ("Replica", some "waiting")
abbrev fd_Replica_waiting (K : PySem.W.Frag) : FuncData := fdA K ("Replica", some "waiting")
theorem Tx.f_Replica_waiting (T : Tx w K mg base) : FunD K "waiting" "Replica.waiting" (defArgs s_Replica_waiting) (defBody s_Replica_waiting) (defScope s_Replica_waiting) [] [] (a_Replica_waiting K) (fd_Replica_waiting K) := T.fd 26 (d := d_Replica_waiting) rfl
theorem Tx.b_Replica_waiting (T : Tx w K mg base) : Binds K (fd_Replica_waiting K) ["self"] [] := T.f_Replica_waiting.bindsN fun _ _ _ _ _ _ us hl => match us, hl with | [_], _ => rfl
abbrev a_Replica_waiting_entries (K : PySem.W.Frag) : Addr := He.fAd K ("Replica", some "waiting_entries")
abbrev fd_Replica_waiting_entries (K : PySem.W.Frag) : FuncData := fdA K ("Replica", some "waiting_entries")
theorem Tx.f_Replica_waiting_entries (T : Tx w K mg base) : FunD K "waiting_entries" "Replica.waiting_entries" (defArgs s_Replica_waiting_entries) (defBody s_Replica_waiting_entries) (defScope s_Replica_waiting_entries) [] [] (a_Replica_waiting_entries K) (fd_Replica_waiting_entries K) := T.fd 27 (d := d_Replica_waiting_entries) rfl
theorem Tx.b_Replica_waiting_entries (T : Tx w K mg base) : Binds K (fd_Replica_waiting_entries K) ["self"] [] := T.f_Replica_waiting_entries.bindsN fun _ _ _ _ _ _ us hl => match us, hl with | [_], _ => rfl
abbrev a_Replica_check (K : PySem.W.Frag) : Addr := He.fAd K ("Replica", some "check")
abbrev fd_Replica_check (K : PySem.W.Frag) : FuncData := fdA K ("Replica", some "check")
theorem Tx.f_Replica_check (T : Tx w K mg base) : FunD K "check" "Replica.check" (defArgs s_Replica_check) (defBody s_Replica_check) (defScope s_Replica_check) [] [] (a_Replica_check K) (fd_Replica_check K) := T.fd 28 (d := d_Replica_check) rfl
theorem Tx.b_Replica_check (T : Tx w K mg base) : Binds K (fd_Replica_check K) ["self", "target", "name", "subject", "at_least"] [] := T.f_Replica_check.bindsN fun _ _ _ _ _ _ us hl => match us, hl with | [_, _, _, _, _], _ => rfl
abbrev a_revisions_of (K : PySem.W.Frag) : Addr := He.fAd K ("revisions_of", none)
abbrev fd_revisions_of (K : PySem.W.Frag) : FuncData := fdA K ("revisions_of", none)
theorem Tx.f_revisions_of (T : Tx w K mg base) : FunD K "revisions_of" "revisions_of" (defArgs s_revisions_of) (defBody s_revisions_of) (defScope s_revisions_of) [] [] (a_revisions_of K) (fd_revisions_of K) := T.fd 29 (d := d_revisions_of) rfl
theorem Tx.b_revisions_of (T : Tx w K mg base) : Binds K (fd_revisions_of K) ["text"] [] := T.f_revisions_of.bindsN fun _ _ _ _ _ _ us hl => match us, hl with | [_], _ => rfl
abbrev a_read_request (K : PySem.W.Frag) : Addr := He.fAd K ("read_request", none)
abbrev fd_read_request (K : PySem.W.Frag) : FuncData := fdA K ("read_request", none)
theorem Tx.f_read_request (T : Tx w K mg base) : FunD K "read_request" "read_request" (defArgs s_read_request) (defBody s_read_request) (defScope s_read_request) [] [] (a_read_request K) (fd_read_request K) := T.fd 30 (d := d_read_request) rfl
theorem Tx.b_read_request (T : Tx w K mg base) : Binds K (fd_read_request K) ["text"] [] := T.f_read_request.bindsN fun _ _ _ _ _ _ us hl => match us, hl with | [_], _ => rfl
abbrev a_answer_to (K : PySem.W.Frag) : Addr := He.fAd K ("answer_to", none)
abbrev fd_answer_to (K : PySem.W.Frag) : FuncData := fdA K ("answer_to", none)
theorem Tx.f_answer_to (T : Tx w K mg base) : FunD K "answer_to" "answer_to" (defArgs s_answer_to) (defBody s_answer_to) (defScope s_answer_to) [] [] (a_answer_to K) (fd_answer_to K) := T.fd 31 (d := d_answer_to) rfl
theorem Tx.b_answer_to (T : Tx w K mg base) : Binds K (fd_answer_to K) ["primary", "request"] [] := T.f_answer_to.bindsN fun _ _ _ _ _ _ us hl => match us, hl with | [_, _], _ => rfl
abbrev a_Follower_init (K : PySem.W.Frag) : Addr := He.fAd K ("Follower", some "__init__")
abbrev fd_Follower_init (K : PySem.W.Frag) : FuncData := fdA K ("Follower", some "__init__")
theorem Tx.f_Follower_init (T : Tx w K mg base) : FunD K "__init__" "Follower.__init__" (defArgs s_Follower_init) (defBody s_Follower_init) (defScope s_Follower_init) [] [] (a_Follower_init K) (fd_Follower_init K) := T.fd 32 (d := d_Follower_init) rfl
theorem Tx.b_Follower_init (T : Tx w K mg base) : Binds K (fd_Follower_init K) ["self", "snapshot"] [] := T.f_Follower_init.bindsN fun _ _ _ _ _ _ us hl => match us, hl with | [_, _], _ => rfl
abbrev a_Follower_store_id (K : PySem.W.Frag) : Addr := He.fAd K ("Follower", some "store_id")
abbrev fd_Follower_store_id (K : PySem.W.Frag) : FuncData := fdA K ("Follower", some "store_id")
theorem Tx.f_Follower_store_id (T : Tx w K mg base) : FunD K "store_id" "Follower.store_id" (defArgs s_Follower_store_id) (defBody s_Follower_store_id) (defScope s_Follower_store_id) [] [] (a_Follower_store_id K) (fd_Follower_store_id K) := T.fd 33 (d := d_Follower_store_id) rfl
theorem Tx.b_Follower_store_id (T : Tx w K mg base) : Binds K (fd_Follower_store_id K) ["self"] [] := T.f_Follower_store_id.bindsN fun _ _ _ _ _ _ us hl => match us, hl with | [_], _ => rfl
abbrev a_Follower_revision (K : PySem.W.Frag) : Addr := He.fAd K ("Follower", some "revision")
abbrev fd_Follower_revision (K : PySem.W.Frag) : FuncData := fdA K ("Follower", some "revision")
theorem Tx.f_Follower_revision (T : Tx w K mg base) : FunD K "revision" "Follower.revision" (defArgs s_Follower_revision) (defBody s_Follower_revision) (defScope s_Follower_revision) [] [] (a_Follower_revision K) (fd_Follower_revision K) := T.fd 34 (d := d_Follower_revision) rfl
theorem Tx.b_Follower_revision (T : Tx w K mg base) : Binds K (fd_Follower_revision K) ["self"] [] := T.f_Follower_revision.bindsN fun _ _ _ _ _ _ us hl => match us, hl with | [_], _ => rfl
abbrev a_Follower_check (K : PySem.W.Frag) : Addr := He.fAd K ("Follower", some "check")
abbrev fd_Follower_check (K : PySem.W.Frag) : FuncData := fdA K ("Follower", some "check")
theorem Tx.f_Follower_check (T : Tx w K mg base) : FunD K "check" "Follower.check" (defArgs s_Follower_check) (defBody s_Follower_check) (defScope s_Follower_check) [] [] (a_Follower_check K) (fd_Follower_check K) := T.fd 35 (d := d_Follower_check) rfl
theorem Tx.b_Follower_check (T : Tx w K mg base) : Binds K (fd_Follower_check K) ["self", "target", "name", "subject", "at_least"] [] := T.f_Follower_check.bindsN fun _ _ _ _ _ _ us hl => match us, hl with | [_, _, _, _, _], _ => rfl
abbrev a_Follower_ask (K : PySem.W.Frag) : Addr := He.fAd K ("Follower", some "ask")
abbrev fd_Follower_ask (K : PySem.W.Frag) : FuncData := fdA K ("Follower", some "ask")
theorem Tx.f_Follower_ask (T : Tx w K mg base) : FunD K "ask" "Follower.ask" (defArgs s_Follower_ask) (defBody s_Follower_ask) (defScope s_Follower_ask) [] [] (a_Follower_ask K) (fd_Follower_ask K) := T.fd 36 (d := d_Follower_ask) rfl
theorem Tx.b_Follower_ask (T : Tx w K mg base) : Binds K (fd_Follower_ask K) ["self"] [] := T.f_Follower_ask.bindsN fun _ _ _ _ _ _ us hl => match us, hl with | [_], _ => rfl
abbrev a_Follower_take (K : PySem.W.Frag) : Addr := He.fAd K ("Follower", some "take")
abbrev fd_Follower_take (K : PySem.W.Frag) : FuncData := fdA K ("Follower", some "take")
theorem Tx.f_Follower_take (T : Tx w K mg base) : FunD K "take" "Follower.take" (defArgs s_Follower_take) (defBody s_Follower_take) (defScope s_Follower_take) [] [] (a_Follower_take K) (fd_Follower_take K) := T.fd 37 (d := d_Follower_take) rfl
theorem Tx.b_Follower_take (T : Tx w K mg base) : Binds K (fd_Follower_take K) ["self", "text"] [] := T.f_Follower_take.bindsN fun _ _ _ _ _ _ us hl => match us, hl with | [_, _], _ => rfl
abbrev a_Follower_take_snapshot (K : PySem.W.Frag) : Addr := He.fAd K ("Follower", some "take_snapshot")
abbrev fd_Follower_take_snapshot (K : PySem.W.Frag) : FuncData := fdA K ("Follower", some "take_snapshot")
theorem Tx.f_Follower_take_snapshot (T : Tx w K mg base) : FunD K "take_snapshot" "Follower.take_snapshot" (defArgs s_Follower_take_snapshot) (defBody s_Follower_take_snapshot) (defScope s_Follower_take_snapshot) [] [] (a_Follower_take_snapshot K) (fd_Follower_take_snapshot K) := T.fd 38 (d := d_Follower_take_snapshot) rfl
theorem Tx.b_Follower_take_snapshot (T : Tx w K mg base) : Binds K (fd_Follower_take_snapshot K) ["self", "snapshot"] [] := T.f_Follower_take_snapshot.bindsN fun _ _ _ _ _ _ us hl => match us, hl with | [_, _], _ => rfl
abbrev a_Line_init (K : PySem.W.Frag) : Addr := He.fAd K ("Line", some "__init__")
abbrev fd_Line_init (K : PySem.W.Frag) : FuncData := fdA K ("Line", some "__init__")
theorem Tx.f_Line_init (T : Tx w K mg base) : FunD K "__init__" "Line.__init__" (defArgs s_Line_init) (defBody s_Line_init) (defScope s_Line_init) [] [] (a_Line_init K) (fd_Line_init K) := T.fd 39 (d := d_Line_init) rfl
theorem Tx.b_Line_init (T : Tx w K mg base) : Binds K (fd_Line_init K) ["self", "number", "parts"] [] := T.f_Line_init.bindsN fun _ _ _ _ _ _ us hl => match us, hl with | [_, _, _], _ => rfl
abbrev a_Line_next_part (K : PySem.W.Frag) : Addr := He.fAd K ("Line", some "next_part")
abbrev fd_Line_next_part (K : PySem.W.Frag) : FuncData := fdA K ("Line", some "next_part")
theorem Tx.f_Line_next_part (T : Tx w K mg base) : FunD K "next_part" "Line.next_part" (defArgs s_Line_next_part) (defBody s_Line_next_part) (defScope s_Line_next_part) [] [] (a_Line_next_part K) (fd_Line_next_part K) := T.fd 40 (d := d_Line_next_part) rfl
theorem Tx.b_Line_next_part (T : Tx w K mg base) : Binds K (fd_Line_next_part K) ["self"] [] := T.f_Line_next_part.bindsN fun _ _ _ _ _ _ us hl => match us, hl with | [_], _ => rfl
abbrev a_Line_take (K : PySem.W.Frag) : Addr := He.fAd K ("Line", some "take")
abbrev fd_Line_take (K : PySem.W.Frag) : FuncData := fdA K ("Line", some "take")
theorem Tx.f_Line_take (T : Tx w K mg base) : FunD K "take" "Line.take" (defArgs s_Line_take) (defBody s_Line_take) (defScope s_Line_take) [] [] (a_Line_take K) (fd_Line_take K) := T.fd 41 (d := d_Line_take) rfl
theorem Tx.b_Line_take (T : Tx w K mg base) : Binds K (fd_Line_take K) ["self"] [] := T.f_Line_take.bindsN fun _ _ _ _ _ _ us hl => match us, hl with | [_], _ => rfl
abbrev a_Line_expect (K : PySem.W.Frag) : Addr := He.fAd K ("Line", some "expect")
abbrev fd_Line_expect (K : PySem.W.Frag) : FuncData := fdA K ("Line", some "expect")
theorem Tx.f_Line_expect (T : Tx w K mg base) : FunD K "expect" "Line.expect" (defArgs s_Line_expect) (defBody s_Line_expect) (defScope s_Line_expect) [] [] (a_Line_expect K) (fd_Line_expect K) := T.fd 42 (d := d_Line_expect) rfl
theorem Tx.b_Line_expect (T : Tx w K mg base) : Binds K (fd_Line_expect K) ["self", "part"] [] := T.f_Line_expect.bindsN fun _ _ _ _ _ _ us hl => match us, hl with | [_, _], _ => rfl
abbrev a_Line_name (K : PySem.W.Frag) : Addr := He.fAd K ("Line", some "name")
abbrev fd_Line_name (K : PySem.W.Frag) : FuncData := fdA K ("Line", some "name")
theorem Tx.f_Line_name (T : Tx w K mg base) : FunD K "name" "Line.name" (defArgs s_Line_name) (defBody s_Line_name) (defScope s_Line_name) [] [] (a_Line_name K) (fd_Line_name K) := T.fd 43 (d := d_Line_name) rfl
theorem Tx.b_Line_name (T : Tx w K mg base) : Binds K (fd_Line_name K) ["self"] [] := T.f_Line_name.bindsN fun _ _ _ _ _ _ us hl => match us, hl with | [_], _ => rfl
abbrev a_Line_accepts (K : PySem.W.Frag) : Addr := He.fAd K ("Line", some "accepts")
abbrev fd_Line_accepts (K : PySem.W.Frag) : FuncData := fdA K ("Line", some "accepts")
theorem Tx.f_Line_accepts (T : Tx w K mg base) : FunD K "accepts" "Line.accepts" (defArgs s_Line_accepts) (defBody s_Line_accepts) (defScope s_Line_accepts) [] [] (a_Line_accepts K) (fd_Line_accepts K) := T.fd 44 (d := d_Line_accepts) rfl
theorem Tx.b_Line_accepts (T : Tx w K mg base) : Binds K (fd_Line_accepts K) ["self", "part"] [] := T.f_Line_accepts.bindsN fun _ _ _ _ _ _ us hl => match us, hl with | [_, _], _ => rfl
abbrev a_Line_finish (K : PySem.W.Frag) : Addr := He.fAd K ("Line", some "finish")
abbrev fd_Line_finish (K : PySem.W.Frag) : FuncData := fdA K ("Line", some "finish")
theorem Tx.f_Line_finish (T : Tx w K mg base) : FunD K "finish" "Line.finish" (defArgs s_Line_finish) (defBody s_Line_finish) (defScope s_Line_finish) [] [] (a_Line_finish K) (fd_Line_finish K) := T.fd 45 (d := d_Line_finish) rfl
theorem Tx.b_Line_finish (T : Tx w K mg base) : Binds K (fd_Line_finish K) ["self"] [] := T.f_Line_finish.bindsN fun _ _ _ _ _ _ us hl => match us, hl with | [_], _ => rfl
abbrev a_parts_of_line (K : PySem.W.Frag) : Addr := He.fAd K ("parts_of_line", none)
abbrev fd_parts_of_line (K : PySem.W.Frag) : FuncData := fdA K ("parts_of_line", none)
theorem Tx.f_parts_of_line (T : Tx w K mg base) : FunD K "parts_of_line" "parts_of_line" (defArgs s_parts_of_line) (defBody s_parts_of_line) (defScope s_parts_of_line) [] [] (a_parts_of_line K) (fd_parts_of_line K) := T.fd 46 (d := d_parts_of_line) rfl
theorem Tx.b_parts_of_line (T : Tx w K mg base) : Binds K (fd_parts_of_line K) ["number", "text"] [] := T.f_parts_of_line.bindsN fun _ _ _ _ _ _ us hl => match us, hl with | [_, _], _ => rfl
abbrev a_read_subject (K : PySem.W.Frag) : Addr := He.fAd K ("read_subject", none)
abbrev fd_read_subject (K : PySem.W.Frag) : FuncData := fdA K ("read_subject", none)
theorem Tx.f_read_subject (T : Tx w K mg base) : FunD K "read_subject" "read_subject" (defArgs s_read_subject) (defBody s_read_subject) (defScope s_read_subject) [] [] (a_read_subject K) (fd_read_subject K) := T.fd 47 (d := d_read_subject) rfl
theorem Tx.b_read_subject (T : Tx w K mg base) : Binds K (fd_read_subject K) ["line"] [] := T.f_read_subject.bindsN fun _ _ _ _ _ _ us hl => match us, hl with | [_], _ => rfl
abbrev a_read_relation (K : PySem.W.Frag) : Addr := He.fAd K ("read_relation", none)
abbrev fd_read_relation (K : PySem.W.Frag) : FuncData := fdA K ("read_relation", none)
theorem Tx.f_read_relation (T : Tx w K mg base) : FunD K "read_relation" "read_relation" (defArgs s_read_relation) (defBody s_read_relation) (defScope s_read_relation) [] [] (a_read_relation K) (fd_read_relation K) := T.fd 48 (d := d_read_relation) rfl
theorem Tx.b_read_relation (T : Tx w K mg base) : Binds K (fd_read_relation K) ["line"] [] := T.f_read_relation.bindsN fun _ _ _ _ _ _ us hl => match us, hl with | [_], _ => rfl
abbrev a_read_term (K : PySem.W.Frag) : Addr := He.fAd K ("read_term", none)
abbrev fd_read_term (K : PySem.W.Frag) : FuncData := fdA K ("read_term", none)
theorem Tx.f_read_term (T : Tx w K mg base) : FunD K "read_term" "read_term" (defArgs s_read_term) (defBody s_read_term) (defScope s_read_term) [] [] (a_read_term K) (fd_read_term K) := T.fd 49 (d := d_read_term) rfl
theorem Tx.b_read_term (T : Tx w K mg base) : Binds K (fd_read_term K) ["line", "operator"] [] := T.f_read_term.bindsN fun _ _ _ _ _ _ us hl => match us, hl with | [_, _], _ => rfl
abbrev a_read_permission (K : PySem.W.Frag) : Addr := He.fAd K ("read_permission", none)
abbrev fd_read_permission (K : PySem.W.Frag) : FuncData := fdA K ("read_permission", none)
theorem Tx.f_read_permission (T : Tx w K mg base) : FunD K "read_permission" "read_permission" (defArgs s_read_permission) (defBody s_read_permission) (defScope s_read_permission) [] [] (a_read_permission K) (fd_read_permission K) := T.fd 50 (d := d_read_permission) rfl
theorem Tx.b_read_permission (T : Tx w K mg base) : Binds K (fd_read_permission K) ["line"] [] := T.f_read_permission.bindsN fun _ _ _ _ _ _ us hl => match us, hl with | [_], _ => rfl
abbrev a_read_line (K : PySem.W.Frag) : Addr := He.fAd K ("read_line", none)
abbrev fd_read_line (K : PySem.W.Frag) : FuncData := fdA K ("read_line", none)
theorem Tx.f_read_line (T : Tx w K mg base) : FunD K "read_line" "read_line" (defArgs s_read_line) (defBody s_read_line) (defScope s_read_line) [] [] (a_read_line K) (fd_read_line K) := T.fd 51 (d := d_read_line) rfl
theorem Tx.b_read_line (T : Tx w K mg base) : Binds K (fd_read_line K) ["line", "types"] [] := T.f_read_line.bindsN fun _ _ _ _ _ _ us hl => match us, hl with | [_, _], _ => rfl
abbrev a_check_duplicates (K : PySem.W.Frag) : Addr := He.fAd K ("check_duplicates", none)
abbrev fd_check_duplicates (K : PySem.W.Frag) : FuncData := fdA K ("check_duplicates", none)
theorem Tx.f_check_duplicates (T : Tx w K mg base) : FunD K "check_duplicates" "check_duplicates" (defArgs s_check_duplicates) (defBody s_check_duplicates) (defScope s_check_duplicates) [] [] (a_check_duplicates K) (fd_check_duplicates K) := T.fd 52 (d := d_check_duplicates) rfl
theorem Tx.b_check_duplicates (T : Tx w K mg base) : Binds K (fd_check_duplicates K) ["types"] [] := T.f_check_duplicates.bindsN fun _ _ _ _ _ _ us hl => match us, hl with | [_], _ => rfl
abbrev a_entry_of (K : PySem.W.Frag) : Addr := He.fAd K ("entry_of", none)
abbrev fd_entry_of (K : PySem.W.Frag) : FuncData := fdA K ("entry_of", none)
theorem Tx.f_entry_of (T : Tx w K mg base) : FunD K "entry_of" "entry_of" (defArgs s_entry_of) (defBody s_entry_of) (defScope s_entry_of) [] [] (a_entry_of K) (fd_entry_of K) := T.fd 53 (d := d_entry_of) rfl
theorem Tx.b_entry_of (T : Tx w K mg base) : Binds K (fd_entry_of K) ["schema", "kind", "name"] [] := T.f_entry_of.bindsN fun _ _ _ _ _ _ us hl => match us, hl with | [_, _, _], _ => rfl
abbrev a_definition (K : PySem.W.Frag) : Addr := He.fAd K ("definition", none)
abbrev fd_definition (K : PySem.W.Frag) : FuncData := fdA K ("definition", none)
theorem Tx.f_definition (T : Tx w K mg base) : FunD K "definition" "definition" (defArgs s_definition) (defBody s_definition) (defScope s_definition) [] [] (a_definition K) (fd_definition K) := T.fd 54 (d := d_definition) rfl
theorem Tx.b_definition (T : Tx w K mg base) : Binds K (fd_definition K) ["schema", "kind", "name"] [] := T.f_definition.bindsN fun _ _ _ _ _ _ us hl => match us, hl with | [_, _, _], _ => rfl
abbrev a_led_types (K : PySem.W.Frag) : Addr := He.fAd K ("led_types", none)
abbrev fd_led_types (K : PySem.W.Frag) : FuncData := fdA K ("led_types", none)
theorem Tx.f_led_types (T : Tx w K mg base) : FunD K "led_types" "led_types" (defArgs s_led_types) (defBody s_led_types) (defScope s_led_types) [] [] (a_led_types K) (fd_led_types K) := T.fd 55 (d := d_led_types) rfl
theorem Tx.b_led_types (T : Tx w K mg base) : Binds K (fd_led_types K) ["schema", "kind", "relation", "name"] [] := T.f_led_types.bindsN fun _ _ _ _ _ _ us hl => match us, hl with | [_, _, _, _], _ => rfl
abbrev a_is_known (K : PySem.W.Frag) : Addr := He.fAd K ("is_known", none)
abbrev fd_is_known (K : PySem.W.Frag) : FuncData := fdA K ("is_known", none)
theorem Tx.f_is_known (T : Tx w K mg base) : FunD K "is_known" "is_known" (defArgs s_is_known) (defBody s_is_known) (defScope s_is_known) [] [] (a_is_known K) (fd_is_known K) := T.fd 56 (d := d_is_known) rfl
theorem Tx.b_is_known (T : Tx w K mg base) : Binds K (fd_is_known K) ["schema", "kind", "entry"] [] := T.f_is_known.bindsN fun _ _ _ _ _ _ us hl => match us, hl with | [_, _, _], _ => rfl
abbrev a_needs_of (K : PySem.W.Frag) : Addr := He.fAd K ("needs_of", none)
abbrev fd_needs_of (K : PySem.W.Frag) : FuncData := fdA K ("needs_of", none)
theorem Tx.f_needs_of (T : Tx w K mg base) : FunD K "needs_of" "needs_of" (defArgs s_needs_of) (defBody s_needs_of) (defScope s_needs_of) [] [] (a_needs_of K) (fd_needs_of K) := T.fd 57 (d := d_needs_of) rfl
theorem Tx.b_needs_of (T : Tx w K mg base) : Binds K (fd_needs_of K) ["schema", "kind", "entry"] [] := T.f_needs_of.bindsN fun _ _ _ _ _ _ us hl => match us, hl with | [_, _, _], _ => rfl
abbrev a_strata (K : PySem.W.Frag) : Addr := He.fAd K ("strata", none)
abbrev fd_strata (K : PySem.W.Frag) : FuncData := fdA K ("strata", none)
theorem Tx.f_strata (T : Tx w K mg base) : FunD K "strata" "strata" (defArgs s_strata) (defBody s_strata) (defScope s_strata) [] [] (a_strata K) (fd_strata K) := T.fd 58 (d := d_strata) rfl
theorem Tx.b_strata (T : Tx w K mg base) : Binds K (fd_strata K) ["schema"] [] := T.f_strata.bindsN fun _ _ _ _ _ _ us hl => match us, hl with | [_], _ => rfl
abbrev a_read_schema (K : PySem.W.Frag) : Addr := He.fAd K ("read_schema", none)
abbrev fd_read_schema (K : PySem.W.Frag) : FuncData := fdA K ("read_schema", none)
theorem Tx.f_read_schema (T : Tx w K mg base) : FunD K "read_schema" "read_schema" (defArgs s_read_schema) (defBody s_read_schema) (defScope s_read_schema) [] [] (a_read_schema K) (fd_read_schema K) := T.fd 59 (d := d_read_schema) rfl
theorem Tx.b_read_schema (T : Tx w K mg base) : Binds K (fd_read_schema K) ["text"] [] := T.f_read_schema.bindsN fun _ _ _ _ _ _ us hl => match us, hl with | [_], _ => rfl
abbrev a_conforms (K : PySem.W.Frag) : Addr := He.fAd K ("conforms", none)
abbrev fd_conforms (K : PySem.W.Frag) : FuncData := fdA K ("conforms", none)
theorem Tx.f_conforms (T : Tx w K mg base) : FunD K "conforms" "conforms" (defArgs s_conforms) (defBody s_conforms) (defScope s_conforms) [] [] (a_conforms K) (fd_conforms K) := T.fd 60 (d := d_conforms) rfl
theorem Tx.b_conforms (T : Tx w K mg base) : Binds K (fd_conforms K) ["schema", "relationship"] [] := T.f_conforms.bindsN fun _ _ _ _ _ _ us hl => match us, hl with | [_, _], _ => rfl
abbrev a_check_relationships (K : PySem.W.Frag) : Addr := He.fAd K ("check_relationships", none)
abbrev fd_check_relationships (K : PySem.W.Frag) : FuncData := fdA K ("check_relationships", none)
theorem Tx.f_check_relationships (T : Tx w K mg base) : FunD K "check_relationships" "check_relationships" (defArgs s_check_relationships) (defBody s_check_relationships) (defScope s_check_relationships) [] [] (a_check_relationships K) (fd_check_relationships K) := T.fd 61 (d := d_check_relationships) rfl
theorem Tx.b_check_relationships (T : Tx w K mg base) : Binds K (fd_check_relationships K) ["schema", "relationships"] [] := T.f_check_relationships.bindsN fun _ _ _ _ _ _ us hl => match us, hl with | [_, _], _ => rfl
abbrev a_Graph_init (K : PySem.W.Frag) : Addr := He.fAd K ("Graph", some "__init__")
abbrev fd_Graph_init (K : PySem.W.Frag) : FuncData := fdA K ("Graph", some "__init__")
theorem Tx.f_Graph_init (T : Tx w K mg base) : FunD K "__init__" "Graph.__init__" (defArgs s_Graph_init) (defBody s_Graph_init) (defScope s_Graph_init) [] [] (a_Graph_init K) (fd_Graph_init K) := T.fd 62 (d := d_Graph_init) rfl
theorem Tx.b_Graph_init (T : Tx w K mg base) : Binds K (fd_Graph_init K) ["self", "schema", "relationships"] [] := T.f_Graph_init.bindsN fun _ _ _ _ _ _ us hl => match us, hl with | [_, _, _], _ => rfl
abbrev a_Graph_subjects_of (K : PySem.W.Frag) : Addr := He.fAd K ("Graph", some "subjects_of")
abbrev fd_Graph_subjects_of (K : PySem.W.Frag) : FuncData := fdA K ("Graph", some "subjects_of")
theorem Tx.f_Graph_subjects_of (T : Tx w K mg base) : FunD K "subjects_of" "Graph.subjects_of" (defArgs s_Graph_subjects_of) (defBody s_Graph_subjects_of) (defScope s_Graph_subjects_of) [] [] (a_Graph_subjects_of K) (fd_Graph_subjects_of K) := T.fd 63 (d := d_Graph_subjects_of) rfl
theorem Tx.b_Graph_subjects_of (T : Tx w K mg base) : Binds K (fd_Graph_subjects_of K) ["self", "target", "relation"] [] := T.f_Graph_subjects_of.bindsN fun _ _ _ _ _ _ us hl => match us, hl with | [_, _, _], _ => rfl
abbrev a_Graph_stratum_of (K : PySem.W.Frag) : Addr := He.fAd K ("Graph", some "stratum_of")
abbrev fd_Graph_stratum_of (K : PySem.W.Frag) : FuncData := fdA K ("Graph", some "stratum_of")
theorem Tx.f_Graph_stratum_of (T : Tx w K mg base) : FunD K "stratum_of" "Graph.stratum_of" (defArgs s_Graph_stratum_of) (defBody s_Graph_stratum_of) (defScope s_Graph_stratum_of) [] [] (a_Graph_stratum_of K) (fd_Graph_stratum_of K) := T.fd 64 (d := d_Graph_stratum_of) rfl
theorem Tx.b_Graph_stratum_of (T : Tx w K mg base) : Binds K (fd_Graph_stratum_of K) ["self", "target", "name"] [] := T.f_Graph_stratum_of.bindsN fun _ _ _ _ _ _ us hl => match us, hl with | [_, _, _], _ => rfl
abbrev a_Graph_pairs_of (K : PySem.W.Frag) : Addr := He.fAd K ("Graph", some "pairs_of")
abbrev fd_Graph_pairs_of (K : PySem.W.Frag) : FuncData := fdA K ("Graph", some "pairs_of")
theorem Tx.f_Graph_pairs_of (T : Tx w K mg base) : FunD K "pairs_of" "Graph.pairs_of" (defArgs s_Graph_pairs_of) (defBody s_Graph_pairs_of) (defScope s_Graph_pairs_of) [] [] (a_Graph_pairs_of K) (fd_Graph_pairs_of K) := T.fd 65 (d := d_Graph_pairs_of) rfl
theorem Tx.b_Graph_pairs_of (T : Tx w K mg base) : Binds K (fd_Graph_pairs_of K) ["self", "target", "part"] [] := T.f_Graph_pairs_of.bindsN fun _ _ _ _ _ _ us hl => match us, hl with | [_, _, _], _ => rfl
abbrev a_Graph_depends_on (K : PySem.W.Frag) : Addr := He.fAd K ("Graph", some "depends_on")
abbrev fd_Graph_depends_on (K : PySem.W.Frag) : FuncData := fdA K ("Graph", some "depends_on")
theorem Tx.f_Graph_depends_on (T : Tx w K mg base) : FunD K "depends_on" "Graph.depends_on" (defArgs s_Graph_depends_on) (defBody s_Graph_depends_on) (defScope s_Graph_depends_on) [] [] (a_Graph_depends_on K) (fd_Graph_depends_on K) := T.fd 66 (d := d_Graph_depends_on) rfl
theorem Tx.b_Graph_depends_on (T : Tx w K mg base) : Binds K (fd_Graph_depends_on K) ["self", "target", "name"] [] := T.f_Graph_depends_on.bindsN fun _ _ _ _ _ _ us hl => match us, hl with | [_, _, _], _ => rfl
abbrev a_count_of (K : PySem.W.Frag) : Addr := He.fAd K ("count_of", none)
abbrev fd_count_of (K : PySem.W.Frag) : FuncData := fdA K ("count_of", none)
theorem Tx.f_count_of (T : Tx w K mg base) : FunD K "count_of" "count_of" (defArgs s_count_of) (defBody s_count_of) (defScope s_count_of) [] [] (a_count_of K) (fd_count_of K) := T.fd 67 (d := d_count_of) rfl
theorem Tx.b_count_of (T : Tx w K mg base) : Binds K (fd_count_of K) ["graph", "target", "name", "pair", "ranks"] [] := T.f_count_of.bindsN fun _ _ _ _ _ _ us hl => match us, hl with | [_, _, _, _, _], _ => rfl
abbrev a_least (K : PySem.W.Frag) : Addr := He.fAd K ("least", none)
abbrev fd_least (K : PySem.W.Frag) : FuncData := fdA K ("least", none)
theorem Tx.f_least (T : Tx w K mg base) : FunD K "least" "least" (defArgs s_least) (defBody s_least) (defScope s_least) [] [] (a_least K) (fd_least K) := T.fd 68 (d := d_least) rfl
theorem Tx.b_least (T : Tx w K mg base) : Binds K (fd_least K) ["counts"] [] := T.f_least.bindsN fun _ _ _ _ _ _ us hl => match us, hl with | [_], _ => rfl
abbrev a_both (K : PySem.W.Frag) : Addr := He.fAd K ("both", none)
abbrev fd_both (K : PySem.W.Frag) : FuncData := fdA K ("both", none)
theorem Tx.f_both (T : Tx w K mg base) : FunD K "both" "both" (defArgs s_both) (defBody s_both) (defScope s_both) [] [] (a_both K) (fd_both K) := T.fd 69 (d := d_both) rfl
theorem Tx.b_both (T : Tx w K mg base) : Binds K (fd_both K) ["operator", "one", "other"] [] := T.f_both.bindsN fun _ _ _ _ _ _ us hl => match us, hl with | [_, _, _], _ => rfl
abbrev a_rule_count (K : PySem.W.Frag) : Addr := He.fAd K ("rule_count", none)
abbrev fd_rule_count (K : PySem.W.Frag) : FuncData := fdA K ("rule_count", none)
theorem Tx.f_rule_count (T : Tx w K mg base) : FunD K "rule_count" "rule_count" (defArgs s_rule_count) (defBody s_rule_count) (defScope s_rule_count) [] [] (a_rule_count K) (fd_rule_count K) := T.fd 70 (d := d_rule_count) rfl
theorem Tx.b_rule_count (T : Tx w K mg base) : Binds K (fd_rule_count K) ["graph", "target", "name", "subject", "ranks"] [] := T.f_rule_count.bindsN fun _ _ _ _ _ _ us hl => match us, hl with | [_, _, _, _, _], _ => rfl
abbrev a_names_by_stratum (K : PySem.W.Frag) : Addr := He.fAd K ("names_by_stratum", none)
abbrev fd_names_by_stratum (K : PySem.W.Frag) : FuncData := fdA K ("names_by_stratum", none)
theorem Tx.f_names_by_stratum (T : Tx w K mg base) : FunD K "names_by_stratum" "names_by_stratum" (defArgs s_names_by_stratum) (defBody s_names_by_stratum) (defScope s_names_by_stratum) [] [] (a_names_by_stratum K) (fd_names_by_stratum K) := T.fd 71 (d := d_names_by_stratum) rfl
theorem Tx.b_names_by_stratum (T : Tx w K mg base) : Binds K (fd_names_by_stratum K) ["graph"] [] := T.f_names_by_stratum.bindsN fun _ _ _ _ _ _ us hl => match us, hl with | [_], _ => rfl
abbrev a_ranks_for (K : PySem.W.Frag) : Addr := He.fAd K ("ranks_for", none)
abbrev fd_ranks_for (K : PySem.W.Frag) : FuncData := fdA K ("ranks_for", none)
theorem Tx.f_ranks_for (T : Tx w K mg base) : FunD K "ranks_for" "ranks_for" (defArgs s_ranks_for) (defBody s_ranks_for) (defScope s_ranks_for) [] [] (a_ranks_for K) (fd_ranks_for K) := T.fd 72 (d := d_ranks_for) rfl
theorem Tx.b_ranks_for (T : Tx w K mg base) : Binds K (fd_ranks_for K) ["graph", "subject"] [] := T.f_ranks_for.bindsN fun _ _ _ _ _ _ us hl => match us, hl with | [_, _], _ => rfl
abbrev a_ranked (K : PySem.W.Frag) : Addr := He.fAd K ("ranked", none)
abbrev fd_ranked (K : PySem.W.Frag) : FuncData := fdA K ("ranked", none)
theorem Tx.f_ranked (T : Tx w K mg base) : FunD K "ranked" "ranked" (defArgs s_ranked) (defBody s_ranked) (defScope s_ranked) [] [] (a_ranked K) (fd_ranked K) := T.fd 73 (d := d_ranked) rfl
theorem Tx.b_ranked (T : Tx w K mg base) : Binds K (fd_ranked K) ["schema", "relationships"] [] := T.f_ranked.bindsN fun _ _ _ _ _ _ us hl => match us, hl with | [_, _], _ => rfl
abbrev a_evaluate (K : PySem.W.Frag) : Addr := He.fAd K ("evaluate", none)
abbrev fd_evaluate (K : PySem.W.Frag) : FuncData := fdA K ("evaluate", none)
theorem Tx.f_evaluate (T : Tx w K mg base) : FunD K "evaluate" "evaluate" (defArgs s_evaluate) (defBody s_evaluate) (defScope s_evaluate) [] [] (a_evaluate K) (fd_evaluate K) := T.fd 74 (d := d_evaluate) rfl
theorem Tx.b_evaluate (T : Tx w K mg base) : Binds K (fd_evaluate K) ["schema", "relationships"] [] := T.f_evaluate.bindsN fun _ _ _ _ _ _ us hl => match us, hl with | [_, _], _ => rfl
abbrev a_Revision_init (K : PySem.W.Frag) : Addr := He.fAd K ("Revision", some "__init__")
abbrev fd_Revision_init (K : PySem.W.Frag) : FuncData := fdA K ("Revision", some "__init__")
theorem Tx.f_Revision_init (T : Tx w K mg base) : FunD K "__init__" "Revision.__init__" (defArgs s_Revision_init) (defBody s_Revision_init) (defScope s_Revision_init) [] [] (a_Revision_init K) (fd_Revision_init K) := T.fd 75 (d := d_Revision_init) rfl
theorem Tx.b_Revision_init (T : Tx w K mg base) : Binds K (fd_Revision_init K) ["self", "schema", "relationships"] [] := T.f_Revision_init.bindsN fun _ _ _ _ _ _ us hl => match us, hl with | [_, _, _], _ => rfl
abbrev a_Primary_init (K : PySem.W.Frag) : Addr := He.fAd K ("Primary", some "__init__")
abbrev fd_Primary_init (K : PySem.W.Frag) : FuncData := fdA K ("Primary", some "__init__")
theorem Tx.f_Primary_init (T : Tx w K mg base) : FunD K "__init__" "Primary.__init__" (defArgs s_Primary_init) (defBody s_Primary_init) (defScope s_Primary_init) [.ref (He.dflAt ("Primary", some "__init__") 0 K)] [] (a_Primary_init K) (fd_Primary_init K) := T.fd 76 (d := d_Primary_init) rfl
abbrev a_Primary_store_id (K : PySem.W.Frag) : Addr := He.fAd K ("Primary", some "store_id")
abbrev fd_Primary_store_id (K : PySem.W.Frag) : FuncData := fdA K ("Primary", some "store_id")
theorem Tx.f_Primary_store_id (T : Tx w K mg base) : FunD K "store_id" "Primary.store_id" (defArgs s_Primary_store_id) (defBody s_Primary_store_id) (defScope s_Primary_store_id) [] [] (a_Primary_store_id K) (fd_Primary_store_id K) := T.fd 77 (d := d_Primary_store_id) rfl
theorem Tx.b_Primary_store_id (T : Tx w K mg base) : Binds K (fd_Primary_store_id K) ["self"] [] := T.f_Primary_store_id.bindsN fun _ _ _ _ _ _ us hl => match us, hl with | [_], _ => rfl
abbrev a_Primary_revision (K : PySem.W.Frag) : Addr := He.fAd K ("Primary", some "revision")
abbrev fd_Primary_revision (K : PySem.W.Frag) : FuncData := fdA K ("Primary", some "revision")
theorem Tx.f_Primary_revision (T : Tx w K mg base) : FunD K "revision" "Primary.revision" (defArgs s_Primary_revision) (defBody s_Primary_revision) (defScope s_Primary_revision) [] [] (a_Primary_revision K) (fd_Primary_revision K) := T.fd 78 (d := d_Primary_revision) rfl
theorem Tx.b_Primary_revision (T : Tx w K mg base) : Binds K (fd_Primary_revision K) ["self"] [] := T.f_Primary_revision.bindsN fun _ _ _ _ _ _ us hl => match us, hl with | [_], _ => rfl
abbrev a_Primary_oldest (K : PySem.W.Frag) : Addr := He.fAd K ("Primary", some "oldest")
abbrev fd_Primary_oldest (K : PySem.W.Frag) : FuncData := fdA K ("Primary", some "oldest")
theorem Tx.f_Primary_oldest (T : Tx w K mg base) : FunD K "oldest" "Primary.oldest" (defArgs s_Primary_oldest) (defBody s_Primary_oldest) (defScope s_Primary_oldest) [] [] (a_Primary_oldest K) (fd_Primary_oldest K) := T.fd 79 (d := d_Primary_oldest) rfl
theorem Tx.b_Primary_oldest (T : Tx w K mg base) : Binds K (fd_Primary_oldest K) ["self"] [] := T.f_Primary_oldest.bindsN fun _ _ _ _ _ _ us hl => match us, hl with | [_], _ => rfl
abbrev a_Primary_token (K : PySem.W.Frag) : Addr := He.fAd K ("Primary", some "token")
abbrev fd_Primary_token (K : PySem.W.Frag) : FuncData := fdA K ("Primary", some "token")
theorem Tx.f_Primary_token (T : Tx w K mg base) : FunD K "token" "Primary.token" (defArgs s_Primary_token) (defBody s_Primary_token) (defScope s_Primary_token) [] [] (a_Primary_token K) (fd_Primary_token K) := T.fd 80 (d := d_Primary_token) rfl
theorem Tx.b_Primary_token (T : Tx w K mg base) : Binds K (fd_Primary_token K) ["self"] [] := T.f_Primary_token.bindsN fun _ _ _ _ _ _ us hl => match us, hl with | [_], _ => rfl
abbrev a_Primary_check_room (K : PySem.W.Frag) : Addr := He.fAd K ("Primary", some "check_room")
abbrev fd_Primary_check_room (K : PySem.W.Frag) : FuncData := fdA K ("Primary", some "check_room")
theorem Tx.f_Primary_check_room (T : Tx w K mg base) : FunD K "check_room" "Primary.check_room" (defArgs s_Primary_check_room) (defBody s_Primary_check_room) (defScope s_Primary_check_room) [] [] (a_Primary_check_room K) (fd_Primary_check_room K) := T.fd 81 (d := d_Primary_check_room) rfl
theorem Tx.b_Primary_check_room (T : Tx w K mg base) : Binds K (fd_Primary_check_room K) ["self"] [] := T.f_Primary_check_room.bindsN fun _ _ _ _ _ _ us hl => match us, hl with | [_], _ => rfl
abbrev a_Primary_check_update (K : PySem.W.Frag) : Addr := He.fAd K ("Primary", some "check_update")
abbrev fd_Primary_check_update (K : PySem.W.Frag) : FuncData := fdA K ("Primary", some "check_update")
theorem Tx.f_Primary_check_update (T : Tx w K mg base) : FunD K "check_update" "Primary.check_update" (defArgs s_Primary_check_update) (defBody s_Primary_check_update) (defScope s_Primary_check_update) [] [] (a_Primary_check_update K) (fd_Primary_check_update K) := T.fd 82 (d := d_Primary_check_update) rfl
theorem Tx.b_Primary_check_update (T : Tx w K mg base) : Binds K (fd_Primary_check_update K) ["self", "index", "updates", "known"] [] := T.f_Primary_check_update.bindsN fun _ _ _ _ _ _ us hl => match us, hl with | [_, _, _, _], _ => rfl
abbrev a_Primary_after_updates (K : PySem.W.Frag) : Addr := He.fAd K ("Primary", some "after_updates")
abbrev fd_Primary_after_updates (K : PySem.W.Frag) : FuncData := fdA K ("Primary", some "after_updates")
theorem Tx.f_Primary_after_updates (T : Tx w K mg base) : FunD K "after_updates" "Primary.after_updates" (defArgs s_Primary_after_updates) (defBody s_Primary_after_updates) (defScope s_Primary_after_updates) [] [] (a_Primary_after_updates K) (fd_Primary_after_updates K) := T.fd 83 (d := d_Primary_after_updates) rfl
theorem Tx.b_Primary_after_updates (T : Tx w K mg base) : Binds K (fd_Primary_after_updates K) ["self", "updates"] [] := T.f_Primary_after_updates.bindsN fun _ _ _ _ _ _ us hl => match us, hl with | [_, _], _ => rfl
abbrev a_Primary_write (K : PySem.W.Frag) : Addr := He.fAd K ("Primary", some "write")
abbrev fd_Primary_write (K : PySem.W.Frag) : FuncData := fdA K ("Primary", some "write")
theorem Tx.f_Primary_write (T : Tx w K mg base) : FunD K "write" "Primary.write" (defArgs s_Primary_write) (defBody s_Primary_write) (defScope s_Primary_write) [] [] (a_Primary_write K) (fd_Primary_write K) := T.fd 84 (d := d_Primary_write) rfl
theorem Tx.b_Primary_write (T : Tx w K mg base) : Binds K (fd_Primary_write K) ["self", "updates"] [] := T.f_Primary_write.bindsN fun _ _ _ _ _ _ us hl => match us, hl with | [_, _], _ => rfl
abbrev a_Primary_number_at (K : PySem.W.Frag) : Addr := He.fAd K ("Primary", some "number_at")
abbrev fd_Primary_number_at (K : PySem.W.Frag) : FuncData := fdA K ("Primary", some "number_at")
theorem Tx.f_Primary_number_at (T : Tx w K mg base) : FunD K "number_at" "Primary.number_at" (defArgs s_Primary_number_at) (defBody s_Primary_number_at) (defScope s_Primary_number_at) [] [] (a_Primary_number_at K) (fd_Primary_number_at K) := T.fd 85 (d := d_Primary_number_at) rfl
theorem Tx.b_Primary_number_at (T : Tx w K mg base) : Binds K (fd_Primary_number_at K) ["self", "at"] [] := T.f_Primary_number_at.bindsN fun _ _ _ _ _ _ us hl => match us, hl with | [_, _], _ => rfl
abbrev a_Primary_check_revision (K : PySem.W.Frag) : Addr := He.fAd K ("Primary", some "check_revision")
abbrev fd_Primary_check_revision (K : PySem.W.Frag) : FuncData := fdA K ("Primary", some "check_revision")
theorem Tx.f_Primary_check_revision (T : Tx w K mg base) : FunD K "check_revision" "Primary.check_revision" (defArgs s_Primary_check_revision) (defBody s_Primary_check_revision) (defScope s_Primary_check_revision) [] [] (a_Primary_check_revision K) (fd_Primary_check_revision K) := T.fd 86 (d := d_Primary_check_revision) rfl
theorem Tx.b_Primary_check_revision (T : Tx w K mg base) : Binds K (fd_Primary_check_revision K) ["self", "number", "least"] [] := T.f_Primary_check_revision.bindsN fun _ _ _ _ _ _ us hl => match us, hl with | [_, _, _], _ => rfl
abbrev a_Primary_at_number (K : PySem.W.Frag) : Addr := He.fAd K ("Primary", some "at_number")
abbrev fd_Primary_at_number (K : PySem.W.Frag) : FuncData := fdA K ("Primary", some "at_number")
theorem Tx.f_Primary_at_number (T : Tx w K mg base) : FunD K "at_number" "Primary.at_number" (defArgs s_Primary_at_number) (defBody s_Primary_at_number) (defScope s_Primary_at_number) [] [] (a_Primary_at_number K) (fd_Primary_at_number K) := T.fd 87 (d := d_Primary_at_number) rfl
theorem Tx.b_Primary_at_number (T : Tx w K mg base) : Binds K (fd_Primary_at_number K) ["self", "number"] [] := T.f_Primary_at_number.bindsN fun _ _ _ _ _ _ us hl => match us, hl with | [_, _], _ => rfl
abbrev a_Primary_relationships (K : PySem.W.Frag) : Addr := He.fAd K ("Primary", some "relationships")
abbrev fd_Primary_relationships (K : PySem.W.Frag) : FuncData := fdA K ("Primary", some "relationships")
theorem Tx.f_Primary_relationships (T : Tx w K mg base) : FunD K "relationships" "Primary.relationships" (defArgs s_Primary_relationships) (defBody s_Primary_relationships) (defScope s_Primary_relationships) [] [] (a_Primary_relationships K) (fd_Primary_relationships K) := T.fd 88 (d := d_Primary_relationships) rfl
theorem Tx.b_Primary_relationships (T : Tx w K mg base) : Binds K (fd_Primary_relationships K) ["self", "at"] [] := T.f_Primary_relationships.bindsN fun _ _ _ _ _ _ us hl => match us, hl with | [_, _], _ => rfl
abbrev a_Primary_grants (K : PySem.W.Frag) : Addr := He.fAd K ("Primary", some "grants")
abbrev fd_Primary_grants (K : PySem.W.Frag) : FuncData := fdA K ("Primary", some "grants")
theorem Tx.f_Primary_grants (T : Tx w K mg base) : FunD K "grants" "Primary.grants" (defArgs s_Primary_grants) (defBody s_Primary_grants) (defScope s_Primary_grants) [] [] (a_Primary_grants K) (fd_Primary_grants K) := T.fd 89 (d := d_Primary_grants) rfl
theorem Tx.b_Primary_grants (T : Tx w K mg base) : Binds K (fd_Primary_grants K) ["self", "at"] [] := T.f_Primary_grants.bindsN fun _ _ _ _ _ _ us hl => match us, hl with | [_, _], _ => rfl
abbrev a_Primary_snapshot (K : PySem.W.Frag) : Addr := He.fAd K ("Primary", some "snapshot")
abbrev fd_Primary_snapshot (K : PySem.W.Frag) : FuncData := fdA K ("Primary", some "snapshot")
theorem Tx.f_Primary_snapshot (T : Tx w K mg base) : FunD K "snapshot" "Primary.snapshot" (defArgs s_Primary_snapshot) (defBody s_Primary_snapshot) (defScope s_Primary_snapshot) [] [] (a_Primary_snapshot K) (fd_Primary_snapshot K) := T.fd 90 (d := d_Primary_snapshot) rfl
theorem Tx.b_Primary_snapshot (T : Tx w K mg base) : Binds K (fd_Primary_snapshot K) ["self", "at"] [] := T.f_Primary_snapshot.bindsN fun _ _ _ _ _ _ us hl => match us, hl with | [_, _], _ => rfl
abbrev a_Primary_entry (K : PySem.W.Frag) : Addr := He.fAd K ("Primary", some "entry")
abbrev fd_Primary_entry (K : PySem.W.Frag) : FuncData := fdA K ("Primary", some "entry")
theorem Tx.f_Primary_entry (T : Tx w K mg base) : FunD K "entry" "Primary.entry" (defArgs s_Primary_entry) (defBody s_Primary_entry) (defScope s_Primary_entry) [] [] (a_Primary_entry K) (fd_Primary_entry K) := T.fd 91 (d := d_Primary_entry) rfl
theorem Tx.b_Primary_entry (T : Tx w K mg base) : Binds K (fd_Primary_entry K) ["self", "number"] [] := T.f_Primary_entry.bindsN fun _ _ _ _ _ _ us hl => match us, hl with | [_, _], _ => rfl
abbrev a_Primary_compact (K : PySem.W.Frag) : Addr := He.fAd K ("Primary", some "compact")
abbrev fd_Primary_compact (K : PySem.W.Frag) : FuncData := fdA K ("Primary", some "compact")
theorem Tx.f_Primary_compact (T : Tx w K mg base) : FunD K "compact" "Primary.compact" (defArgs s_Primary_compact) (defBody s_Primary_compact) (defScope s_Primary_compact) [] [] (a_Primary_compact K) (fd_Primary_compact K) := T.fd 92 (d := d_Primary_compact) rfl
theorem Tx.b_Primary_compact (T : Tx w K mg base) : Binds K (fd_Primary_compact K) ["self", "number"] [] := T.f_Primary_compact.bindsN fun _ _ _ _ _ _ us hl => match us, hl with | [_, _], _ => rfl
abbrev a_law_cell (K : PySem.W.Frag) : Addr := He.fAd K ("_law_cell", none)
abbrev fd_law_cell (K : PySem.W.Frag) : FuncData := fdA K ("_law_cell", none)
theorem Tx.f_law_cell (T : Tx w K mg base) : FunD K "_law_cell" "_law_cell" (defArgs s_law_cell) (defBody s_law_cell) (defScope s_law_cell) [] [] (a_law_cell K) (fd_law_cell K) := T.fd 93 (d := d_law_cell) rfl
theorem Tx.b_law_cell (T : Tx w K mg base) : Binds K (fd_law_cell K) ["_law_script", "_law_k"] [] := T.f_law_cell.bindsN fun _ _ _ _ _ _ us hl => match us, hl with | [_, _], _ => rfl
abbrev a_law_draws (K : PySem.W.Frag) : Addr := He.fAd K ("_law_draws", none)
abbrev fd_law_draws (K : PySem.W.Frag) : FuncData := fdA K ("_law_draws", none)
theorem Tx.f_law_draws (T : Tx w K mg base) : FunD K "_law_draws" "_law_draws" (defArgs s_law_draws) (defBody s_law_draws) (defScope s_law_draws) [] [] (a_law_draws K) (fd_law_draws K) := T.fd 94 (d := d_law_draws) rfl
theorem Tx.b_law_draws (T : Tx w K mg base) : Binds K (fd_law_draws K) ["_law_cell_here", "_law_count"] [] := T.f_law_draws.bindsN fun _ _ _ _ _ _ us hl => match us, hl with | [_, _], _ => rfl
abbrev a_law_same (K : PySem.W.Frag) : Addr := He.fAd K ("_law_same", none)
abbrev fd_law_same (K : PySem.W.Frag) : FuncData := fdA K ("_law_same", none)
theorem Tx.f_law_same (T : Tx w K mg base) : FunD K "_law_same" "_law_same" (defArgs s_law_same) (defBody s_law_same) (defScope s_law_same) [] [] (a_law_same K) (fd_law_same K) := T.fd 95 (d := d_law_same) rfl
theorem Tx.b_law_same (T : Tx w K mg base) : Binds K (fd_law_same K) ["_law_actual", "_law_expected"] [] := T.f_law_same.bindsN fun _ _ _ _ _ _ us hl => match us, hl with | [_, _], _ => rfl
abbrev a_law_store (K : PySem.W.Frag) : Addr := He.fAd K ("_law_store", none)
abbrev fd_law_store (K : PySem.W.Frag) : FuncData := fdA K ("_law_store", none)
theorem Tx.f_law_store (T : Tx w K mg base) : FunD K "_law_store" "_law_store" (defArgs s_law_store) (defBody s_law_store) (defScope s_law_store) [] [] (a_law_store K) (fd_law_store K) := T.fd 96 (d := d_law_store) rfl
theorem Tx.b_law_store (T : Tx w K mg base) : Binds K (fd_law_store K) ["_law_script", "_law_start", "_law_many"] [] := T.f_law_store.bindsN fun _ _ _ _ _ _ us hl => match us, hl with | [_, _, _], _ => rfl
abbrev a_law_is_answer (K : PySem.W.Frag) : Addr := He.fAd K ("_law_is_answer", none)
abbrev fd_law_is_answer (K : PySem.W.Frag) : FuncData := fdA K ("_law_is_answer", none)
theorem Tx.f_law_is_answer (T : Tx w K mg base) : FunD K "_law_is_answer" "_law_is_answer" (defArgs s_law_is_answer) (defBody s_law_is_answer) (defScope s_law_is_answer) [] [] (a_law_is_answer K) (fd_law_is_answer K) := T.fd 97 (d := d_law_is_answer) rfl
theorem Tx.b_law_is_answer (T : Tx w K mg base) : Binds K (fd_law_is_answer K) ["_law_primary", "_law_request", "_law_text"] [] := T.f_law_is_answer.bindsN fun _ _ _ _ _ _ us hl => match us, hl with | [_, _, _], _ => rfl
abbrev a_law_taken (K : PySem.W.Frag) : Addr := He.fAd K ("_law_taken", none)
abbrev fd_law_taken (K : PySem.W.Frag) : FuncData := fdA K ("_law_taken", none)
theorem Tx.f_law_taken (T : Tx w K mg base) : FunD K "_law_taken" "_law_taken" (defArgs s_law_taken) (defBody s_law_taken) (defScope s_law_taken) [] [] (a_law_taken K) (fd_law_taken K) := T.fd 98 (d := d_law_taken) rfl
theorem Tx.b_law_taken (T : Tx w K mg base) : Binds K (fd_law_taken K) ["_law_follower", "_law_text"] [] := T.f_law_taken.bindsN fun _ _ _ _ _ _ us hl => match us, hl with | [_, _], _ => rfl
abbrev a_law_is_true (K : PySem.W.Frag) : Addr := He.fAd K ("_law_is_true", none)
abbrev fd_law_is_true (K : PySem.W.Frag) : FuncData := fdA K ("_law_is_true", none)
theorem Tx.f_law_is_true (T : Tx w K mg base) : FunD K "_law_is_true" "_law_is_true" (defArgs s_law_is_true) (defBody s_law_is_true) (defScope s_law_is_true) [] [] (a_law_is_true K) (fd_law_is_true K) := T.fd 99 (d := d_law_is_true) rfl
theorem Tx.b_law_is_true (T : Tx w K mg base) : Binds K (fd_law_is_true K) ["_law_follower", "_law_tables"] [] := T.f_law_is_true.bindsN fun _ _ _ _ _ _ us hl => match us, hl with | [_, _], _ => rfl
abbrev a_law (K : PySem.W.Frag) : Addr := He.fAd K ("law", none)
abbrev fd_law (K : PySem.W.Frag) : FuncData := fdA K ("law", none)
theorem Tx.f_law (T : Tx w K mg base) : FunD K "law" "law" (defArgs s_law) (defBody s_law) (defScope s_law) [] [] (a_law K) (fd_law K) := T.fd 100 (d := d_law) rfl
theorem Tx.b_law (T : Tx w K mg base) : Binds K (fd_law K) ["_law_script"] [] := T.f_law.bindsN fun _ _ _ _ _ _ us hl => match us, hl with | [_], _ => rfl
theorem Tx.g_is_sign (T : Tx w K mg base) : mg "is_sign" = some (.ref (He.ga K "is_sign")) := T.glo _ (List.mem_of_getElem? (i := 0) rfl)
theorem Tx.g_is_word (T : Tx w K mg base) : mg "is_word" = some (.ref (He.ga K "is_word")) := T.glo _ (List.mem_of_getElem? (i := 1) rfl)
theorem Tx.g_is_identifier (T : Tx w K mg base) : mg "is_identifier" = some (.ref (He.ga K "is_identifier")) := T.glo _ (List.mem_of_getElem? (i := 2) rfl)
theorem Tx.g_is_object (T : Tx w K mg base) : mg "is_object" = some (.ref (He.ga K "is_object")) := T.glo _ (List.mem_of_getElem? (i := 3) rfl)
theorem Tx.g_type_of (T : Tx w K mg base) : mg "type_of" = some (.ref (He.ga K "type_of")) := T.glo _ (List.mem_of_getElem? (i := 4) rfl)
theorem Tx.g_split_reference (T : Tx w K mg base) : mg "split_reference" = some (.ref (He.ga K "split_reference")) := T.glo _ (List.mem_of_getElem? (i := 5) rfl)
theorem Tx.g_token_of (T : Tx w K mg base) : mg "token_of" = some (.ref (He.ga K "token_of")) := T.glo _ (List.mem_of_getElem? (i := 6) rfl)
theorem Tx.g_split_token (T : Tx w K mg base) : mg "split_token" = some (.ref (He.ga K "split_token")) := T.glo _ (List.mem_of_getElem? (i := 7) rfl)
theorem Tx.g_grant_line (T : Tx w K mg base) : mg "grant_line" = some (.ref (He.ga K "grant_line")) := T.glo _ (List.mem_of_getElem? (i := 8) rfl)
theorem Tx.g_write_snapshot (T : Tx w K mg base) : mg "write_snapshot" = some (.ref (He.ga K "write_snapshot")) := T.glo _ (List.mem_of_getElem? (i := 9) rfl)
theorem Tx.g_write_feed (T : Tx w K mg base) : mg "write_feed" = some (.ref (He.ga K "write_feed")) := T.glo _ (List.mem_of_getElem? (i := 10) rfl)
theorem Tx.g_head_of (T : Tx w K mg base) : mg "head_of" = some (.ref (He.ga K "head_of")) := T.glo _ (List.mem_of_getElem? (i := 11) rfl)
theorem Tx.g_grant_of (T : Tx w K mg base) : mg "grant_of" = some (.ref (He.ga K "grant_of")) := T.glo _ (List.mem_of_getElem? (i := 12) rfl)
theorem Tx.g_read_snapshot (T : Tx w K mg base) : mg "read_snapshot" = some (.ref (He.ga K "read_snapshot")) := T.glo _ (List.mem_of_getElem? (i := 13) rfl)
theorem Tx.g_put_grant (T : Tx w K mg base) : mg "put_grant" = some (.ref (He.ga K "put_grant")) := T.glo _ (List.mem_of_getElem? (i := 14) rfl)
theorem Tx.g_read_feed (T : Tx w K mg base) : mg "read_feed" = some (.ref (He.ga K "read_feed")) := T.glo _ (List.mem_of_getElem? (i := 15) rfl)
theorem Tx.g_difference (T : Tx w K mg base) : mg "difference" = some (.ref (He.ga K "difference")) := T.glo _ (List.mem_of_getElem? (i := 16) rfl)
theorem Tx.g_applies (T : Tx w K mg base) : mg "applies" = some (.ref (He.ga K "applies")) := T.glo _ (List.mem_of_getElem? (i := 17) rfl)
theorem Tx.g_apply_change (T : Tx w K mg base) : mg "apply_change" = some (.ref (He.ga K "apply_change")) := T.glo _ (List.mem_of_getElem? (i := 18) rfl)
theorem Tx.g_revisions_of (T : Tx w K mg base) : mg "revisions_of" = some (.ref (He.ga K "revisions_of")) := T.glo _ (List.mem_of_getElem? (i := 19) rfl)
theorem Tx.g_read_request (T : Tx w K mg base) : mg "read_request" = some (.ref (He.ga K "read_request")) := T.glo _ (List.mem_of_getElem? (i := 20) rfl)
theorem Tx.g_answer_to (T : Tx w K mg base) : mg "answer_to" = some (.ref (He.ga K "answer_to")) := T.glo _ (List.mem_of_getElem? (i := 21) rfl)
theorem Tx.g_parts_of_line (T : Tx w K mg base) : mg "parts_of_line" = some (.ref (He.ga K "parts_of_line")) := T.glo _ (List.mem_of_getElem? (i := 22) rfl)
theorem Tx.g_read_subject (T : Tx w K mg base) : mg "read_subject" = some (.ref (He.ga K "read_subject")) := T.glo _ (List.mem_of_getElem? (i := 23) rfl)
theorem Tx.g_read_relation (T : Tx w K mg base) : mg "read_relation" = some (.ref (He.ga K "read_relation")) := T.glo _ (List.mem_of_getElem? (i := 24) rfl)
theorem Tx.g_read_term (T : Tx w K mg base) : mg "read_term" = some (.ref (He.ga K "read_term")) := T.glo _ (List.mem_of_getElem? (i := 25) rfl)
theorem Tx.g_read_permission (T : Tx w K mg base) : mg "read_permission" = some (.ref (He.ga K "read_permission")) := T.glo _ (List.mem_of_getElem? (i := 26) rfl)
theorem Tx.g_read_line (T : Tx w K mg base) : mg "read_line" = some (.ref (He.ga K "read_line")) := T.glo _ (List.mem_of_getElem? (i := 27) rfl)
theorem Tx.g_check_duplicates (T : Tx w K mg base) : mg "check_duplicates" = some (.ref (He.ga K "check_duplicates")) := T.glo _ (List.mem_of_getElem? (i := 28) rfl)
theorem Tx.g_entry_of (T : Tx w K mg base) : mg "entry_of" = some (.ref (He.ga K "entry_of")) := T.glo _ (List.mem_of_getElem? (i := 29) rfl)
theorem Tx.g_definition (T : Tx w K mg base) : mg "definition" = some (.ref (He.ga K "definition")) := T.glo _ (List.mem_of_getElem? (i := 30) rfl)
theorem Tx.g_led_types (T : Tx w K mg base) : mg "led_types" = some (.ref (He.ga K "led_types")) := T.glo _ (List.mem_of_getElem? (i := 31) rfl)
theorem Tx.g_is_known (T : Tx w K mg base) : mg "is_known" = some (.ref (He.ga K "is_known")) := T.glo _ (List.mem_of_getElem? (i := 32) rfl)
theorem Tx.g_needs_of (T : Tx w K mg base) : mg "needs_of" = some (.ref (He.ga K "needs_of")) := T.glo _ (List.mem_of_getElem? (i := 33) rfl)
theorem Tx.g_strata (T : Tx w K mg base) : mg "strata" = some (.ref (He.ga K "strata")) := T.glo _ (List.mem_of_getElem? (i := 34) rfl)
theorem Tx.g_read_schema (T : Tx w K mg base) : mg "read_schema" = some (.ref (He.ga K "read_schema")) := T.glo _ (List.mem_of_getElem? (i := 35) rfl)
theorem Tx.g_conforms (T : Tx w K mg base) : mg "conforms" = some (.ref (He.ga K "conforms")) := T.glo _ (List.mem_of_getElem? (i := 36) rfl)
theorem Tx.g_check_relationships (T : Tx w K mg base) : mg "check_relationships" = some (.ref (He.ga K "check_relationships")) := T.glo _ (List.mem_of_getElem? (i := 37) rfl)
theorem Tx.g_count_of (T : Tx w K mg base) : mg "count_of" = some (.ref (He.ga K "count_of")) := T.glo _ (List.mem_of_getElem? (i := 38) rfl)
theorem Tx.g_least (T : Tx w K mg base) : mg "least" = some (.ref (He.ga K "least")) := T.glo _ (List.mem_of_getElem? (i := 39) rfl)
theorem Tx.g_both (T : Tx w K mg base) : mg "both" = some (.ref (He.ga K "both")) := T.glo _ (List.mem_of_getElem? (i := 40) rfl)
theorem Tx.g_rule_count (T : Tx w K mg base) : mg "rule_count" = some (.ref (He.ga K "rule_count")) := T.glo _ (List.mem_of_getElem? (i := 41) rfl)
theorem Tx.g_names_by_stratum (T : Tx w K mg base) : mg "names_by_stratum" = some (.ref (He.ga K "names_by_stratum")) := T.glo _ (List.mem_of_getElem? (i := 42) rfl)
theorem Tx.g_ranks_for (T : Tx w K mg base) : mg "ranks_for" = some (.ref (He.ga K "ranks_for")) := T.glo _ (List.mem_of_getElem? (i := 43) rfl)
theorem Tx.g_ranked (T : Tx w K mg base) : mg "ranked" = some (.ref (He.ga K "ranked")) := T.glo _ (List.mem_of_getElem? (i := 44) rfl)
theorem Tx.g_evaluate (T : Tx w K mg base) : mg "evaluate" = some (.ref (He.ga K "evaluate")) := T.glo _ (List.mem_of_getElem? (i := 45) rfl)
theorem Tx.g_law_cell (T : Tx w K mg base) : mg "_law_cell" = some (.ref (He.ga K "_law_cell")) := T.glo _ (List.mem_of_getElem? (i := 46) rfl)
theorem Tx.g_law_draws (T : Tx w K mg base) : mg "_law_draws" = some (.ref (He.ga K "_law_draws")) := T.glo _ (List.mem_of_getElem? (i := 47) rfl)
theorem Tx.g_law_same (T : Tx w K mg base) : mg "_law_same" = some (.ref (He.ga K "_law_same")) := T.glo _ (List.mem_of_getElem? (i := 48) rfl)
theorem Tx.g_law_store (T : Tx w K mg base) : mg "_law_store" = some (.ref (He.ga K "_law_store")) := T.glo _ (List.mem_of_getElem? (i := 49) rfl)
theorem Tx.g_law_is_answer (T : Tx w K mg base) : mg "_law_is_answer" = some (.ref (He.ga K "_law_is_answer")) := T.glo _ (List.mem_of_getElem? (i := 50) rfl)
theorem Tx.g_law_taken (T : Tx w K mg base) : mg "_law_taken" = some (.ref (He.ga K "_law_taken")) := T.glo _ (List.mem_of_getElem? (i := 51) rfl)
theorem Tx.g_law_is_true (T : Tx w K mg base) : mg "_law_is_true" = some (.ref (He.ga K "_law_is_true")) := T.glo _ (List.mem_of_getElem? (i := 52) rfl)
theorem Tx.g_law (T : Tx w K mg base) : mg "law" = some (.ref (He.ga K "law")) := T.glo _ (List.mem_of_getElem? (i := 53) rfl)
theorem Tx.g_Replica (T : Tx w K mg base) : mg "Replica" = some (.ref (He.ga K "Replica")) := T.glo _ (List.mem_of_getElem? (i := 54) rfl)
theorem Tx.c_Replica (T : Tx w K mg base) : Cls K (He.ga K "Replica") := He.cls_ok (T.c.fact 55 rfl)
theorem Tx.k_Replica (T : Tx w K mg base) : Mk K (He.ga K "Replica") (a_Replica_init K) := He.mkr_ok (T.c.fact 56 rfl)
theorem Tx.n_Replica_name (T : Tx w K mg base) : NoAttr K (He.ga K "Replica") "name" := He.noat_ok (T.c.fact 57 rfl)
theorem Tx.n_Replica_number (T : Tx w K mg base) : NoAttr K (He.ga K "Replica") "number" := He.noat_ok (T.c.fact 58 rfl)
theorem Tx.n_Replica_table (T : Tx w K mg base) : NoAttr K (He.ga K "Replica") "table" := He.noat_ok (T.c.fact 59 rfl)
theorem Tx.n_Replica_later (T : Tx w K mg base) : NoAttr K (He.ga K "Replica") "later" := He.noat_ok (T.c.fact 60 rfl)
theorem Tx.m_Replica_store_id (T : Tx w K mg base) : Meth K (He.ga K "Replica") "store_id" (a_Replica_store_id K) := He.meth_ok (T.c.fact 61 rfl)
theorem Tx.m_Replica_revision (T : Tx w K mg base) : Meth K (He.ga K "Replica") "revision" (a_Replica_revision K) := He.meth_ok (T.c.fact 62 rfl)
theorem Tx.m_Replica_fits (T : Tx w K mg base) : Meth K (He.ga K "Replica") "fits" (a_Replica_fits K) := He.meth_ok (T.c.fact 63 rfl)
theorem Tx.m_Replica_check_entry (T : Tx w K mg base) : Meth K (He.ga K "Replica") "check_entry" (a_Replica_check_entry K) := He.meth_ok (T.c.fact 64 rfl)
theorem Tx.m_Replica_receive (T : Tx w K mg base) : Meth K (He.ga K "Replica") "receive" (a_Replica_receive K) := He.meth_ok (T.c.fact 65 rfl)
theorem Tx.m_Replica_take_waiting (T : Tx w K mg base) : Meth K (He.ga K "Replica") "take_waiting" (a_Replica_take_waiting K) := He.meth_ok (T.c.fact 66 rfl)
theorem Tx.m_Replica_waiting (T : Tx w K mg base) : Meth K (He.ga K "Replica") "waiting" (a_Replica_waiting K) := He.meth_ok (T.c.fact 67 rfl)
theorem Tx.m_Replica_waiting_entries (T : Tx w K mg base) : Meth K (He.ga K "Replica") "waiting_entries" (a_Replica_waiting_entries K) := He.meth_ok (T.c.fact 68 rfl)
theorem Tx.m_Replica_check (T : Tx w K mg base) : Meth K (He.ga K "Replica") "check" (a_Replica_check K) := He.meth_ok (T.c.fact 69 rfl)
theorem Tx.g_Follower (T : Tx w K mg base) : mg "Follower" = some (.ref (He.ga K "Follower")) := T.glo _ (List.mem_of_getElem? (i := 70) rfl)
theorem Tx.c_Follower (T : Tx w K mg base) : Cls K (He.ga K "Follower") := He.cls_ok (T.c.fact 71 rfl)
theorem Tx.k_Follower (T : Tx w K mg base) : Mk K (He.ga K "Follower") (a_Follower_init K) := He.mkr_ok (T.c.fact 72 rfl)
theorem Tx.n_Follower_replica (T : Tx w K mg base) : NoAttr K (He.ga K "Follower") "replica" := He.noat_ok (T.c.fact 73 rfl)
theorem Tx.m_Follower_store_id (T : Tx w K mg base) : Meth K (He.ga K "Follower") "store_id" (a_Follower_store_id K) := He.meth_ok (T.c.fact 74 rfl)
theorem Tx.m_Follower_revision (T : Tx w K mg base) : Meth K (He.ga K "Follower") "revision" (a_Follower_revision K) := He.meth_ok (T.c.fact 75 rfl)
theorem Tx.m_Follower_check (T : Tx w K mg base) : Meth K (He.ga K "Follower") "check" (a_Follower_check K) := He.meth_ok (T.c.fact 76 rfl)
theorem Tx.m_Follower_ask (T : Tx w K mg base) : Meth K (He.ga K "Follower") "ask" (a_Follower_ask K) := He.meth_ok (T.c.fact 77 rfl)
theorem Tx.m_Follower_take (T : Tx w K mg base) : Meth K (He.ga K "Follower") "take" (a_Follower_take K) := He.meth_ok (T.c.fact 78 rfl)
theorem Tx.m_Follower_take_snapshot (T : Tx w K mg base) : Meth K (He.ga K "Follower") "take_snapshot" (a_Follower_take_snapshot K) := He.meth_ok (T.c.fact 79 rfl)
theorem Tx.g_Line (T : Tx w K mg base) : mg "Line" = some (.ref (He.ga K "Line")) := T.glo _ (List.mem_of_getElem? (i := 80) rfl)
theorem Tx.c_Line (T : Tx w K mg base) : Cls K (He.ga K "Line") := He.cls_ok (T.c.fact 81 rfl)
theorem Tx.k_Line (T : Tx w K mg base) : Mk K (He.ga K "Line") (a_Line_init K) := He.mkr_ok (T.c.fact 82 rfl)
theorem Tx.n_Line_number (T : Tx w K mg base) : NoAttr K (He.ga K "Line") "number" := He.noat_ok (T.c.fact 83 rfl)
theorem Tx.n_Line_parts (T : Tx w K mg base) : NoAttr K (He.ga K "Line") "parts" := He.noat_ok (T.c.fact 84 rfl)
theorem Tx.n_Line_at (T : Tx w K mg base) : NoAttr K (He.ga K "Line") "at" := He.noat_ok (T.c.fact 85 rfl)
theorem Tx.m_Line_next_part (T : Tx w K mg base) : Meth K (He.ga K "Line") "next_part" (a_Line_next_part K) := He.meth_ok (T.c.fact 86 rfl)
theorem Tx.m_Line_take (T : Tx w K mg base) : Meth K (He.ga K "Line") "take" (a_Line_take K) := He.meth_ok (T.c.fact 87 rfl)
theorem Tx.m_Line_expect (T : Tx w K mg base) : Meth K (He.ga K "Line") "expect" (a_Line_expect K) := He.meth_ok (T.c.fact 88 rfl)
theorem Tx.m_Line_name (T : Tx w K mg base) : Meth K (He.ga K "Line") "name" (a_Line_name K) := He.meth_ok (T.c.fact 89 rfl)
theorem Tx.m_Line_accepts (T : Tx w K mg base) : Meth K (He.ga K "Line") "accepts" (a_Line_accepts K) := He.meth_ok (T.c.fact 90 rfl)
theorem Tx.m_Line_finish (T : Tx w K mg base) : Meth K (He.ga K "Line") "finish" (a_Line_finish K) := He.meth_ok (T.c.fact 91 rfl)
theorem Tx.g_Graph (T : Tx w K mg base) : mg "Graph" = some (.ref (He.ga K "Graph")) := T.glo _ (List.mem_of_getElem? (i := 92) rfl)
theorem Tx.c_Graph (T : Tx w K mg base) : Cls K (He.ga K "Graph") := He.cls_ok (T.c.fact 93 rfl)
theorem Tx.k_Graph (T : Tx w K mg base) : Mk K (He.ga K "Graph") (a_Graph_init K) := He.mkr_ok (T.c.fact 94 rfl)
theorem Tx.n_Graph_schema (T : Tx w K mg base) : NoAttr K (He.ga K "Graph") "schema" := He.noat_ok (T.c.fact 95 rfl)
theorem Tx.n_Graph_strata (T : Tx w K mg base) : NoAttr K (He.ga K "Graph") "strata" := He.noat_ok (T.c.fact 96 rfl)
theorem Tx.n_Graph_subjects (T : Tx w K mg base) : NoAttr K (He.ga K "Graph") "subjects" := He.noat_ok (T.c.fact 97 rfl)
theorem Tx.n_Graph_objects (T : Tx w K mg base) : NoAttr K (He.ga K "Graph") "objects" := He.noat_ok (T.c.fact 98 rfl)
theorem Tx.n_Graph_people (T : Tx w K mg base) : NoAttr K (He.ga K "Graph") "people" := He.noat_ok (T.c.fact 99 rfl)
theorem Tx.m_Graph_subjects_of (T : Tx w K mg base) : Meth K (He.ga K "Graph") "subjects_of" (a_Graph_subjects_of K) := He.meth_ok (T.c.fact 100 rfl)
theorem Tx.m_Graph_stratum_of (T : Tx w K mg base) : Meth K (He.ga K "Graph") "stratum_of" (a_Graph_stratum_of K) := He.meth_ok (T.c.fact 101 rfl)
theorem Tx.m_Graph_pairs_of (T : Tx w K mg base) : Meth K (He.ga K "Graph") "pairs_of" (a_Graph_pairs_of K) := He.meth_ok (T.c.fact 102 rfl)
theorem Tx.m_Graph_depends_on (T : Tx w K mg base) : Meth K (He.ga K "Graph") "depends_on" (a_Graph_depends_on K) := He.meth_ok (T.c.fact 103 rfl)
theorem Tx.g_Revision (T : Tx w K mg base) : mg "Revision" = some (.ref (He.ga K "Revision")) := T.glo _ (List.mem_of_getElem? (i := 104) rfl)
theorem Tx.c_Revision (T : Tx w K mg base) : Cls K (He.ga K "Revision") := He.cls_ok (T.c.fact 105 rfl)
theorem Tx.k_Revision (T : Tx w K mg base) : Mk K (He.ga K "Revision") (a_Revision_init K) := He.mkr_ok (T.c.fact 106 rfl)
theorem Tx.n_Revision_schema (T : Tx w K mg base) : NoAttr K (He.ga K "Revision") "schema" := He.noat_ok (T.c.fact 107 rfl)
theorem Tx.n_Revision_relationships (T : Tx w K mg base) : NoAttr K (He.ga K "Revision") "relationships" := He.noat_ok (T.c.fact 108 rfl)
theorem Tx.n_Revision_table (T : Tx w K mg base) : NoAttr K (He.ga K "Revision") "table" := He.noat_ok (T.c.fact 109 rfl)
theorem Tx.g_Primary (T : Tx w K mg base) : mg "Primary" = some (.ref (He.ga K "Primary")) := T.glo _ (List.mem_of_getElem? (i := 110) rfl)
theorem Tx.c_Primary (T : Tx w K mg base) : Cls K (He.ga K "Primary") := He.cls_ok (T.c.fact 111 rfl)
theorem Tx.k_Primary (T : Tx w K mg base) : Mk K (He.ga K "Primary") (a_Primary_init K) := He.mkr_ok (T.c.fact 112 rfl)
theorem Tx.n_Primary_name (T : Tx w K mg base) : NoAttr K (He.ga K "Primary") "name" := He.noat_ok (T.c.fact 113 rfl)
theorem Tx.n_Primary_first (T : Tx w K mg base) : NoAttr K (He.ga K "Primary") "first" := He.noat_ok (T.c.fact 114 rfl)
theorem Tx.n_Primary_revisions (T : Tx w K mg base) : NoAttr K (He.ga K "Primary") "revisions" := He.noat_ok (T.c.fact 115 rfl)
theorem Tx.m_Primary_store_id (T : Tx w K mg base) : Meth K (He.ga K "Primary") "store_id" (a_Primary_store_id K) := He.meth_ok (T.c.fact 116 rfl)
theorem Tx.m_Primary_revision (T : Tx w K mg base) : Meth K (He.ga K "Primary") "revision" (a_Primary_revision K) := He.meth_ok (T.c.fact 117 rfl)
theorem Tx.m_Primary_oldest (T : Tx w K mg base) : Meth K (He.ga K "Primary") "oldest" (a_Primary_oldest K) := He.meth_ok (T.c.fact 118 rfl)
theorem Tx.m_Primary_token (T : Tx w K mg base) : Meth K (He.ga K "Primary") "token" (a_Primary_token K) := He.meth_ok (T.c.fact 119 rfl)
theorem Tx.m_Primary_check_room (T : Tx w K mg base) : Meth K (He.ga K "Primary") "check_room" (a_Primary_check_room K) := He.meth_ok (T.c.fact 120 rfl)
theorem Tx.m_Primary_check_update (T : Tx w K mg base) : Meth K (He.ga K "Primary") "check_update" (a_Primary_check_update K) := He.meth_ok (T.c.fact 121 rfl)
theorem Tx.m_Primary_after_updates (T : Tx w K mg base) : Meth K (He.ga K "Primary") "after_updates" (a_Primary_after_updates K) := He.meth_ok (T.c.fact 122 rfl)
theorem Tx.m_Primary_write (T : Tx w K mg base) : Meth K (He.ga K "Primary") "write" (a_Primary_write K) := He.meth_ok (T.c.fact 123 rfl)
theorem Tx.m_Primary_number_at (T : Tx w K mg base) : Meth K (He.ga K "Primary") "number_at" (a_Primary_number_at K) := He.meth_ok (T.c.fact 124 rfl)
theorem Tx.m_Primary_check_revision (T : Tx w K mg base) : Meth K (He.ga K "Primary") "check_revision" (a_Primary_check_revision K) := He.meth_ok (T.c.fact 125 rfl)
theorem Tx.m_Primary_at_number (T : Tx w K mg base) : Meth K (He.ga K "Primary") "at_number" (a_Primary_at_number K) := He.meth_ok (T.c.fact 126 rfl)
theorem Tx.m_Primary_relationships (T : Tx w K mg base) : Meth K (He.ga K "Primary") "relationships" (a_Primary_relationships K) := He.meth_ok (T.c.fact 127 rfl)
theorem Tx.m_Primary_grants (T : Tx w K mg base) : Meth K (He.ga K "Primary") "grants" (a_Primary_grants K) := He.meth_ok (T.c.fact 128 rfl)
theorem Tx.m_Primary_snapshot (T : Tx w K mg base) : Meth K (He.ga K "Primary") "snapshot" (a_Primary_snapshot K) := He.meth_ok (T.c.fact 129 rfl)
theorem Tx.m_Primary_entry (T : Tx w K mg base) : Meth K (He.ga K "Primary") "entry" (a_Primary_entry K) := He.meth_ok (T.c.fact 130 rfl)
theorem Tx.m_Primary_compact (T : Tx w K mg base) : Meth K (He.ga K "Primary") "compact" (a_Primary_compact K) := He.meth_ok (T.c.fact 131 rfl)
theorem Tx.n_len (T : Tx w K mg base) : mg "len" = none := T.free _ (List.mem_of_getElem? (i := 132) rfl)
theorem Tx.n_sorted (T : Tx w K mg base) : mg "sorted" = none := T.free _ (List.mem_of_getElem? (i := 133) rfl)
theorem Tx.n_range (T : Tx w K mg base) : mg "range" = none := T.free _ (List.mem_of_getElem? (i := 134) rfl)
theorem Tx.n_all (T : Tx w K mg base) : mg "all" = none := T.free _ (List.mem_of_getElem? (i := 135) rfl)
theorem Tx.n_any (T : Tx w K mg base) : mg "any" = none := T.free _ (List.mem_of_getElem? (i := 136) rfl)
theorem Tx.n_enumerate (T : Tx w K mg base) : mg "enumerate" = none := T.free _ (List.mem_of_getElem? (i := 137) rfl)
theorem Tx.n_tuple (T : Tx w K mg base) : mg "tuple" = none := T.free _ (List.mem_of_getElem? (i := 138) rfl)
theorem Tx.n_list (T : Tx w K mg base) : mg "list" = none := T.free _ (List.mem_of_getElem? (i := 139) rfl)
theorem Tx.n_str (T : Tx w K mg base) : mg "str" = none := T.free _ (List.mem_of_getElem? (i := 140) rfl)
theorem Tx.n_int (T : Tx w K mg base) : mg "int" = none := T.free _ (List.mem_of_getElem? (i := 141) rfl)
theorem Tx.n_min (T : Tx w K mg base) : mg "min" = none := T.free _ (List.mem_of_getElem? (i := 142) rfl)
theorem Tx.n_max (T : Tx w K mg base) : mg "max" = none := T.free _ (List.mem_of_getElem? (i := 143) rfl)
theorem Tx.n_isinstance (T : Tx w K mg base) : mg "isinstance" = none := T.free _ (List.mem_of_getElem? (i := 144) rfl)
theorem Tx.n_bool (T : Tx w K mg base) : mg "bool" = none := T.free _ (List.mem_of_getElem? (i := 145) rfl)
theorem Tx.i_MOST (T : Tx w K mg base) : ∃ t, mg "MOST" = some (.int 20 t) := T.int _ _ (List.mem_of_getElem? (i := 146) rfl)
theorem Tx.i_REVISION_MOST (T : Tx w K mg base) : ∃ t, mg "REVISION_MOST" = some (.int 1000 t) := T.int _ _ (List.mem_of_getElem? (i := 147) rfl)
theorem Tx.i_MOST_GRANTS (T : Tx w K mg base) : ∃ t, mg "MOST_GRANTS" = some (.int 12800 t) := T.int _ _ (List.mem_of_getElem? (i := 148) rfl)
theorem Tx.i_MOST_AHEAD (T : Tx w K mg base) : ∃ t, mg "MOST_AHEAD" = some (.int 40 t) := T.int _ _ (List.mem_of_getElem? (i := 149) rfl)
theorem Tx.i_ENTRIES_MOST (T : Tx w K mg base) : ∃ t, mg "ENTRIES_MOST" = some (.int 10 t) := T.int _ _ (List.mem_of_getElem? (i := 150) rfl)
theorem Tx.i_TYPES_MOST (T : Tx w K mg base) : ∃ t, mg "TYPES_MOST" = some (.int 8 t) := T.int _ _ (List.mem_of_getElem? (i := 151) rfl)
theorem Tx.i_NAMES_MOST (T : Tx w K mg base) : ∃ t, mg "NAMES_MOST" = some (.int 8 t) := T.int _ _ (List.mem_of_getElem? (i := 152) rfl)
theorem Tx.i_SUBJECTS_MOST (T : Tx w K mg base) : ∃ t, mg "SUBJECTS_MOST" = some (.int 8 t) := T.int _ _ (List.mem_of_getElem? (i := 153) rfl)
theorem Tx.i_TERMS_MOST (T : Tx w K mg base) : ∃ t, mg "TERMS_MOST" = some (.int 16 t) := T.int _ _ (List.mem_of_getElem? (i := 154) rfl)
theorem Tx.i_MOST_REVISIONS (T : Tx w K mg base) : ∃ t, mg "MOST_REVISIONS" = some (.int 40 t) := T.int _ _ (List.mem_of_getElem? (i := 155) rfl)
theorem Tx.i_MOST_RELATIONSHIPS (T : Tx w K mg base) : ∃ t, mg "MOST_RELATIONSHIPS" = some (.int 40 t) := T.int _ _ (List.mem_of_getElem? (i := 156) rfl)
theorem Tx.g_Refused (T : Tx w K mg base) : mg "Refused" = some (.ref (He.ga K "Refused")) := T.glo _ (List.mem_of_getElem? (i := 157) rfl)
theorem Tx.g_OPERATORS (T : Tx w K mg base) : mg "OPERATORS" = some (.ref (He.ga K "OPERATORS")) := T.glo _ (List.mem_of_getElem? (i := 158) rfl)
end
end Z
set_option Elab.async false
set_option linter.all false
set_option maxRecDepth 100000
set_option maxHeartbeats 0
namespace Z
open PySem PySem.Spec PyProof.Rows L2 PySem.W PySem.Calls
/-! ### the head: the top's run, what it leaves -/
def names0 : List Str := ["_wall", "__name__", "AuthError", "BadSchema", "Refused", "BadFeed", "MOST", "REVISION_MOST", "is_sign", "is_word", "is_identifier", "is_object", "type_of", "split_reference", "token_of", "split_token", "grant_line", "write_snapshot", "write_feed", "head_of", "grant_of", "read_snapshot", "put_grant", "read_feed", "difference", "applies", "apply_change", "MOST_GRANTS", "MOST_AHEAD", "Replica"]
def names1 : List Str := ["ENTRIES_MOST", "revisions_of", "read_request", "answer_to", "Follower", "TYPES_MOST", "NAMES_MOST", "SUBJECTS_MOST", "TERMS_MOST", "OPERATORS", "Line", "parts_of_line", "read_subject", "read_relation", "read_term", "read_permission", "read_line", "check_duplicates", "entry_of", "definition", "led_types", "is_known", "needs_of", "strata", "read_schema", "conforms", "check_relationships", "check_question", "Graph", "count_of"]
def names2 : List Str := ["least", "both", "rule_count", "names_by_stratum", "ranks_for", "ranked", "evaluate", "MOST_REVISIONS", "MOST_RELATIONSHIPS", "Revision", "Primary", "_law_cell", "_law_draws", "_law_same", "_law_store", "_law_question", "_law_at", "_law_is_answer", "_law_taken", "_law_is_true"]
def names : List Str := names0 ++ names1 ++ names2
abbrev RR : PySem.W.OpenRow := PySem.W.OpenLaw.row PySem.Challenge.rw_authsync_k60_whole_followers
def adrs : List Addr := List.range 1200
def seenK (g : Addr → Option Obj) : He.AlX := (He.obsT fa fn [] (He.frT g adrs), exB (He.frT g adrs) && He.tabsB g tf (He.frT g adrs))
theorem says_of {w : World} {h : Heap} (e : seenK h.get? = He.valX fn [] w) : He.SaysX fa fn [] tf exB w h (He.frT h.get? adrs) := by
  have e1 : He.obsT fa fn [] (He.frT h.get? adrs) = He.valT fn [] w := congrArg Prod.fst e
  have e2 : (exB (He.frT h.get? adrs) && He.tabsB h.get? tf (He.frT h.get? adrs)) = true := congrArg Prod.snd e
  obtain ⟨hex, htb⟩ := Bool.and_eq_true_iff.mp e2
  have tab : ∀ p ∈ tf, PySem.W.codeHdIn (He.frT h.get? adrs) (He.cT (He.frT h.get? adrs) p).1 (He.cT (He.frT h.get? adrs) p).2 = true ∧
      ∃ o, h.get? (He.cT (He.frT h.get? adrs) p).2 = some o ∧ He.emptyTab o = true := by
    intro p hp
    obtain ⟨c1, c2⟩ := Bool.and_eq_true_iff.mp (List.all_eq_true.mp htb p hp)
    cases q : h.get? (He.cT (He.frT h.get? adrs) p).2 with
    | none => rw [q] at c2; cases c2
    | some o => rw [q] at c2; exact ⟨c1, o, rfl, c2⟩
  refine ⟨e1, hex, fun p hp => (tab p hp).1, fun p hp => ?_, fun p hp => ?_⟩ <;> obtain ⟨_, o, q, z⟩ := tab p hp
  · exact He.frT_none q z
  · exact q.trans (congrArg some (He.emptyTab_eq z))
abbrev hk : PySem.W.Hook where
  α := He.AlX
  obs := fun s => seenK s.heap.get?
  val := fun w => He.valX fn [] w
  says := fun w h => ∃ K : PySem.W.Frag, K.In h ∧ He.SaysX fa fn [] tf exB w h K
  of := fun w s e => ⟨_, He.frT_in, says_of e⟩
  keeps := fun w h h' c k => by
    obtain ⟨K, hK, c⟩ := c
    exact ⟨K, PySem.W.Frag.In.keeps hK k, c.t, c.more, c.hd, c.out, fun p hp => k _ _ (c.empty p hp)⟩
def ob (s : PySem.W.SharedT) : He.AlX := seenK (HandSHeadRun.getT s)
theorem ob_eq (s : PySem.W.SharedT) : ob s = hk.obs s.abs := congrArg seenK (funext (HandSHeadRun.getT_eq s))
abbrev qv : PySem.Program := PySem.W.view RR.prog [89]
noncomputable abbrev fin0 (w : World) (os : OsState) : Option PySem.W.SharedT := HandSHeadRun.endF (HandSHeadRun.stepQ (HandSHeadRun.denQ HandSHeadRun.tabQ) RR.prog w) 40000 RR.prog w os
open HandSHeadRun PySem.W in
theorem run_a (w : World) (os : OsState) : (fin0 w os).map (fun s => ((looksF RR.prog (boot_heap w.params) s.abs, seenQ qv names (importedModules RR.prog.main.body) (fun s => xlAt qv [] s && recOk RR.toRowW.records s) s.abs), (fa.all fun f => f.ok (He.frT (HandSHeadRun.getT s) adrs)), ((fn.take 36).all fun d => d.ok (He.frT (HandSHeadRun.getT s) adrs)), exB (He.frT (HandSHeadRun.getT s) adrs) && He.tabsB (HandSHeadRun.getT s) tf (He.frT (HandSHeadRun.getT s) adrs))) = some ((true, openGood qv names), true, true, true) := by kernel_rfl
theorem run_b (w : World) (os : OsState) : (fin0 w os).map (fun s => (fn.drop 36).all fun d => d.ok (He.frT (HandSHeadRun.getT s) adrs)) = some true := by kernel_rfl
theorem run_c (w : World) (os : OsState) : (fin0 w os).map (fun s => fn.map fun d => He.fnW (He.frT (HandSHeadRun.getT s) adrs) d.at_) = some (fn.map He.DefD.val) := by kernel_rfl
theorem run (w : World) : HandSHeadRun.RunEq RR qv hk ob 40000 names w := by
  intro os
  obtain ⟨s, hs, e0⟩ := Option.map_eq_some_iff.mp (run_a w os)
  obtain ⟨e1, e2⟩ := Prod.mk.inj e0
  obtain ⟨fal, e3⟩ := Prod.mk.inj e2
  obtain ⟨g1a, tb⟩ := Prod.mk.inj e3
  have get : ∀ {β : Type} {g : PySem.W.SharedT → β} {b : β}, (fin0 w os).map g = some b → g s = b := fun {β g b} h => by
    obtain ⟨s', hs', e⟩ := Option.map_eq_some_iff.mp h
    rw [hs] at hs'
    cases hs'
    exact e
  have g1b := get (run_b w os)
  have g2 := get (run_c w os)
  have g1 : (fn.all fun d => d.ok (He.frT (HandSHeadRun.getT s) adrs)) = true := by
    rw [← List.take_append_drop 36 fn, List.all_append, g1a, g1b]
    rfl
  have eo : ob s = hk.val w := by
    show (((((fa.all fun f => f.ok (He.frT (HandSHeadRun.getT s) adrs)) && fn.all fun d => d.ok (He.frT (HandSHeadRun.getT s) adrs)), fn.map fun d => He.fnW (He.frT (HandSHeadRun.getT s) adrs) d.at_), []), exB (He.frT (HandSHeadRun.getT s) adrs) && He.tabsB (HandSHeadRun.getT s) tf (He.frT (HandSHeadRun.getT s) adrs)) = (((true, fn.map He.DefD.val), []), true)
    rw [fal, g1, g2, tb]
    rfl
  show (fin0 w os).map _ = _
  rw [hs]
  obtain ⟨a1, a2⟩ := Prod.mk.inj e1
  show some (_, _, ob s) = _
  rw [a1, a2, eo]
abbrev dv : DefRec := HandSHeadRun.topDef RR.prog 89
theorem h_open : opening RR.prog = plainProg RR.prog.main.scope.names := by kernel_rfl
theorem h_fence (s : Shared) : fenceModules? RR.prog s = some s := by kernel_rfl
theorem h_def : PySem.W.defOf qv RR.name = some (dv, []) := by kernel_rfl
theorem h_par : RR.prog.theDef RR.name = some (dv.params, dv.body, dv.scope) := by kernel_rfl
theorem h_kw : kwWritten? dv.params.kwonlyargs dv.params.kw_defaults = some [] := by kernel_rfl
theorem h_wr : (!RR.writes || RR.records.isEmpty) = true := by rfl
theorem h_said : RR.wellSaid = true := by
  unfold OpenRow.wellSaid OpenRow.partSaid looksOpen
  simp only [Bool.and_eq_true]
  and_intros <;> decide +kernel
theorem h_ok1 : chainsOk qv = true := by decide +kernel
theorem h_ok2 : (opening RR.prog).tameTopW = true := by decide +kernel
theorem h_ok3 : (!bearImports (behindTheImports RR.prog)) = true := by decide +kernel
theorem h_ok4 : (frees RR.toRowW && RR.within.isEmpty) = true := by decide +kernel
theorem h_ok : (chainsOk qv && opensWell RR.prog && (frees RR.toRowW && RR.within.isEmpty)) = true :=
  Bool.and_eq_true_iff.mpr ⟨Bool.and_eq_true_iff.mpr ⟨h_ok1, Bool.and_eq_true_iff.mpr ⟨h_ok2, h_ok3⟩⟩, h_ok4⟩
theorem h_bare : RR.prog.bare := ⟨rfl, rfl, rfl, rfl, rfl, by decide +kernel⟩
theorem h_w1 : RR.toRowW.claim.pre [.list []] = true := by decide +kernel
theorem h_w2 : WData.layableAll [.list []] = true := by decide +kernel
theorem h_w3 : RR.toRowW.returnsAt [.list []] = true := by decide +kernel
theorem h_wit : RR.toRowW.promised := ⟨_, h_w1, Bool.and_eq_true_iff.mpr ⟨h_w2, h_w3⟩⟩
end Z
set_option Elab.async false
set_option linter.all false
set_option maxRecDepth 100000
set_option maxHeartbeats 4000000
namespace Z
open PySem PySem.Spec PyProof.Rows L2
/-! ### what a piece of code leaves -/
/-- no table of code objects -/
def NT : HO → Prop
  | .tbl _ => False
  | _ => True
/-- no table, no tuple -/
def Mu : HO → Prop
  | .tbl _ => False
  | .tup _ => False
  | _ => True
theorem Mu.nt {u : HO} (h : Mu u) : NT u := by cases u <;> first | trivial | exact h
/-- all that was tracked stands, but for what is at S; tuples stand; tables grow -/
structure Ch (S : List Addr) (H H' : Hp) : Prop where
  keep : ∀ b o, H b = some o → NT o → b ∉ S → H' b = some o
  tup : ∀ b xs, H b = some (.tup xs) → H' b = some (.tup xs)
  tab : ∀ b ps, H b = some (.tbl ps) → ∃ ps', H' b = some (.tbl ps') ∧ (TriplesOk ps.toList → TriplesOk ps'.toList)
  there : ∀ b o, H b = some o → ∃ o', H' b = some o'
abbrev Ex (H H' : Hp) : Prop := Ch [] H H'
theorem nmem (b : Addr) : b ∉ ([] : List Addr) := fun h => nomatch h
theorem Ch.refl (S : List Addr) (H : Hp) : Ch S H H := ⟨fun _ _ h _ _ => h, fun _ _ h => h, fun _ ps h => ⟨ps, h, id⟩, fun _ o h => ⟨o, h⟩⟩
theorem Ch.trans {S : List Addr} {H H1 H2 : Hp} (a : Ch S H H1) (b : Ch S H1 H2) : Ch S H H2 where
  keep := fun c o h n hs => b.keep c o (a.keep c o h n hs) n hs
  tup := fun c xs h => b.tup c xs (a.tup c xs h)
  tab := fun c ps h => by
    obtain ⟨p1, e1, t1⟩ := a.tab c ps h
    obtain ⟨p2, e2, t2⟩ := b.tab c p1 e1
    exact ⟨p2, e2, fun x => t2 (t1 x)⟩
  there := fun c o h => by
    obtain ⟨o1, e1⟩ := a.there c o h
    exact b.there c o1 e1
theorem Ch.mono {S S' : List Addr} {H H' : Hp} (a : Ch S H H') (h : ∀ x ∈ S, x ∈ S') : Ch S' H H' := ⟨fun b o e n hs => a.keep b o e n fun z => hs (h b z), a.tup, a.tab, a.there⟩
theorem Ch.wk {S : List Addr} {H H' : Hp} (a : Ex H H') : Ch S H H' := a.mono fun _ h => nomatch h
/-- what was not tracked may change -/
theorem Ch.drop {S S' : List Addr} {H H' : Hp} (a : Ch S H H') (h : ∀ x ∈ S, x ∈ S' ∨ H x = none) : Ch S' H H' where
  keep := fun b o e n hs => a.keep b o e n fun z => by
    rcases h b z with q | q
    · exact hs q
    · rw [e] at q
      cases q
  tup := a.tup
  tab := a.tab
  there := a.there
theorem Ch.free {S : List Addr} {H H' : Hp} {p : Addr} (e : Ch S H H') (h : H' p = none) : H p = none := by
  cases q : H p with
  | none => rfl
  | some o =>
    obtain ⟨o', e'⟩ := e.there p o q
    rw [h] at e'
    cases e'
theorem Ex.at {H H' : Hp} {b : Addr} {o : HO} (e : Ex H H') (h : H b = some o) (n : NT o := by trivial) : H' b = some o := e.keep b o h n (nmem b)
theorem Ch.to {S : List Addr} {H H' : Hp} {b : Addr} {o : HO} (e : Ch S H H') (h : H b = some o) (hs : b ∉ S) (n : NT o := by trivial) : H' b = some o := e.keep b o h n hs
/-- a new object -/
theorem Ex.new {H : Hp} {p : Addr} {o : HO} (h : H p = none) : Ex H (upd H p o) where
  keep := fun b u e _ _ => by
    rw [upd_ne (ne_of_none e h)]
    exact e
  tup := fun b u e => by
    rw [upd_ne (ne_of_none e h)]
    exact e
  tab := fun b ps e => ⟨ps, by rw [upd_ne (ne_of_none e h)]; exact e, id⟩
  there := fun b u e => ⟨u, by rw [upd_ne (ne_of_none e h)]; exact e⟩
/-- an object is written -/
theorem Ch.put {H : Hp} {p : Addr} {o u : HO} (h : H p = some u) (n : Mu u := by trivial) : Ch [p] H (upd H p o) where
  keep := fun b v e _ hs => by
    rw [upd_ne (fun z => hs (by rw [z]; exact List.mem_singleton.mpr rfl))]
    exact e
  tup := fun b xs e => by
    have hb : b ≠ p := fun z => by
      rw [z, h] at e
      cases e
      exact n
    rw [upd_ne hb]
    exact e
  tab := fun b ps e => by
    refine ⟨ps, ?_, id⟩
    have hb : b ≠ p := fun z => by
      rw [z, h] at e
      cases e
      exact n
    rw [upd_ne hb]
    exact e
  there := fun b v e => by
    by_cases hb : b = p
    · rw [hb]
      exact ⟨o, upd_same⟩
    · exact ⟨v, by rw [upd_ne hb]; exact e⟩
theorem Ch.rd {S : List Addr} {H H' : Hp} {a : Addr} {o : HO} (e : Ch S H H') (hs : a ∉ S) (n : NT o) (h : Rd H a o) : Rd H' a o := by
  rcases h with h | ⟨u, h⟩
  · exact .inl (e.keep _ _ h n hs)
  · exact .inr ⟨u, e.keep _ _ h trivial hs⟩
theorem Ch.sqL {S : List Addr} {K : PySem.W.Frag} {H H' : Hp} {a : Addr} {xs : List V} (e : Ch S H H') (hs : a ∉ S) (h : SqL K H a xs) : SqL K H' a xs := by
  rcases h with h | h
  · exact .inl (e.rd hs trivial h)
  · exact .inr h
theorem Ch.sqT {S : List Addr} {K : PySem.W.Frag} {H H' : Hp} {a : Addr} {xs : List V} (e : Ch S H H') (hs : a ∉ S) (h : SqT K H a xs) : SqT K H' a xs := by
  rcases h with h | h
  · exact .inl (e.rd hs trivial h)
  · exact .inr h
theorem Ex.sqL {K : PySem.W.Frag} {H H' : Hp} {a : Addr} {xs : List V} (e : Ex H H') (h : SqL K H a xs) : SqL K H' a xs := Ch.sqL e (nmem a) h
theorem Ex.sqT {K : PySem.W.Frag} {H H' : Hp} {a : Addr} {xs : List V} (e : Ex H H') (h : SqT K H a xs) : SqT K H' a xs := Ch.sqT e (nmem a) h
/-! ### data -/
mutual
theorem Ex.dp {K : PySem.W.Frag} {H H' : Hp} (e : Ex H H') : ∀ (d : PyData) (v : V), Dp K H v d → Dp K H' v d
  | .none, _, h => by cases h; exact .non
  | .bool b, _, h => by cases h; exact .bl b
  | .int i, _, h => by cases h; exact .int i
  | .str x, _, h => by cases h; exact .str x
  | .list ds, _, h => by
    cases h with
    | lst hs ha => exact .lst (e.sqL hs) (Ex.dpAll e ds _ ha)
  | .tuple ds, _, h => by
    cases h with
    | tup hs ha => exact .tup (e.sqT hs) (Ex.dpAll e ds _ ha)
  | .dict _, _, h => by cases h
theorem Ex.dpAll {K : PySem.W.Frag} {H H' : Hp} (e : Ex H H') : ∀ (ds : List PyData) (vs : List V), DpAll K H vs ds → DpAll K H' vs ds
  | [], _, h => by cases h; exact .nil
  | d :: ds, _, h => by
    cases h with
    | cons h1 h2 => exact .cons (Ex.dp e d _ h1) (Ex.dpAll e ds _ h2)
end
theorem Ex.d {K : PySem.W.Frag} {H H' : Hp} {v : V} {d : PyData} (e : Ex H H') (h : Dp K H v d) : Dp K H' v d := Ex.dp e d v h
theorem Ex.ds {K : PySem.W.Frag} {H H' : Hp} {vs : List V} {ds : List PyData} (e : Ex H H') (h : DpAll K H vs ds) : DpAll K H' vs ds := Ex.dpAll e ds vs h
/-! ### tables -/
def Tabs (K : PySem.W.Frag) (H : Hp) : Prop := ∀ p ∈ tf, ∃ ps, H (He.cT K p).2 = some (.tbl ps) ∧ TriplesOk ps.toList
theorem Ch.tabs {S : List Addr} {K : PySem.W.Frag} {H H' : Hp} (e : Ch S H H') (t : Tabs K H) : Tabs K H' := fun p hp => by
  obtain ⟨ps, h, ok⟩ := t p hp
  obtain ⟨ps', h', ok'⟩ := e.tab _ _ h
  exact ⟨ps', h', ok' ok⟩
/-! ### a def whose code object is told -/
theorem codeOf_at {K : PySem.W.Frag} {x qual : Str} {params : Arguments} {body : List Stmt} {scope : Scope} {dvs : List V} {kws : List (Str × V)} {p : Str × Option Str} {fd : FuncData} (F : FunD K x qual params body scope dvs kws (He.fAd K p) fd) :
    ∃ (oc : Value) (od : Option Addr) (dV kV doc pm : Value) (an : Option Addr) (ct : Value) (osl : Array (Option Value)),
      fd = PySem.W.fnOf x qual params body scope dV kV doc pm an (.ref (He.codeOf K p)) ct ∧ K.lookup (He.fAd K p) = some ⟨oc, od, .func fd, osl⟩ ∧ PySem.W.codeIn K (.ref (He.codeOf K p)) qual = true := by
  obtain ⟨oc, od, dV, kV, doc, pm, an, cdv, ct, osl, e, lk, hcd, _, _⟩ := F.ex
  obtain ⟨c, rfl⟩ := He.codeIn_ref hcd
  have q : He.codeOf K p = c := He.codeOf_eq lk (by rw [e])
  rw [q]
  exact ⟨oc, od, dV, kV, doc, pm, an, ct, osl, e, lk, hcd⟩
theorem _root_.L2.FunD.okC {P : Program} {w : World} {K : PySem.W.Frag} {mg : Str → Option Value} {base : Heap} {x qual : Str} {params : Arguments} {body : List Stmt} {scope : Scope} {dvs : List V} {kws : List (Str × V)} {p : Str × Option Str} {fd : FuncData}
    {CX : CXT} {N ps : List Str} {k : Nat} {sp : Sp} (F : FunD K x qual params body scope dvs kws (He.fAd K p) fd) (S : FnScope N ps scope) (len : ∀ vs H Q E, sp vs H Q E → vs.length = ps.length)
    (hbody : ∀ (cdv : Value) (A : Around) (outer : List Env) (s : Shared) (H : Hp) (vs : List V) (Q : VK) (E : XK), cdv = .ref (He.codeOf K p) → Room k (A.deeper (envOfC qual scope s.heap.objs.size (He.fAd K p) cdv)) → sp vs H Q E →
      ∃ t, PSs (cxOf CX P w K mg base N qual scope (He.fAd K p) cdv A outer s H E) body t ∧ t { nx := fun _ H' => Q .non H', rt := Q } (start N vs) H) : FnOk P w K mg base CX (k + 1) (He.fAd K p) fd ps sp := by
  obtain ⟨oc, od, dV, kV, doc, pm, an, ct, osl, rfl, lk, hcd⟩ := codeOf_at F
  exact fn_of lk hcd S len fun A outer s H vs Q E hr hsp => hbody _ A outer s H vs Q E rfl hr hsp
theorem hu_w {A : Around} {k : Nat} (hr : Room k A) : A.units + 65 < cLine := by
  have h := hr.un
  omega
/-! ### readings, one rule a combinator -/
section
variable {K : PySem.W.Frag} {σ : L2.St} {H : Hp} {D : Ends} {t u : TS} {te ta tb tc : TE} {tt uu : TT} {Q : VK} {QT : Bool → Hp → Prop} {QA : List V → Hp → Prop} {tr : TA} {g : TG} {i : Nat} {v : V} {r r' : R2}
theorem gSeq (h : t { D with nx := u D } σ H) : tSeq t u D σ H := h
theorem gNext (h : D.nx σ H) : tNext D σ H := h
theorem gAsg (h : te σ H (fun x H1 => g x σ H1 D.nx)) : tAsg te g D σ H := h
theorem gName_ {x : V} {QS : L2.St → Hp → Prop} (h : QS (σ.set i (some x)) H) : gName i x σ H QS := h
theorem gDrop (h : te σ H (fun _ H1 => D.nx σ H1)) : tDrop te D σ H := h
theorem gRet (h : te σ H D.rt) : tRet te D σ H := h
theorem gRetN (h : D.rt .non H) : tRetN D σ H := h
theorem gVar (e : σ[i]? = some (some v)) (h : Q v H) : tVar i σ H Q := ⟨v, e, h⟩
theorem gC (h : Q v H) : tC v σ H Q := h
theorem gOp (h : ta σ H (fun x H1 => tb σ H1 fun y H2 => r x y H2 Q)) : tOp r ta tb σ H Q := h
theorem gChain (h : ta σ H fun x H1 => tb σ H1 fun y H2 => r x y H2 fun z H3 => ∃ k, z = .bl k ∧ (if k = true then tc σ H3 fun w' H4 => r' y w' H4 Q else Q (.bl false) H3)) : tChain r r' ta tb tc σ H Q := h
theorem gTest (h : te σ H (fun x H' => ∃ k, x = .bl k ∧ QT k H')) : tTest te σ H QT := h
theorem gB (h : te σ H (fun x H' => ∃ k, x = .bl k ∧ QT k H')) : tB te σ H QT := h
theorem gNot (h : tt σ H fun c H1 => QT (!c) H1) : tNot tt σ H QT := h
theorem gAnd (h : tt σ H fun c H1 => if c = true then uu σ H1 QT else QT false H1) : tAnd tt uu σ H QT := h
theorem gOr (h : tt σ H fun c H1 => if c = true then QT true H1 else uu σ H1 QT) : tOr tt uu σ H QT := h
theorem gAndV (h : ta σ H fun x H1 => ∃ c, x = .bl c ∧ if c = true then tb σ H1 Q else Q (.bl false) H1) : tAndV ta tb σ H Q := h
theorem gOrV (h : ta σ H fun x H1 => ∃ c, x = .bl c ∧ if c = true then Q (.bl true) H1 else tb σ H1 Q) : tOrV ta tb σ H Q := h
theorem gNotV (h : ta σ H fun x H1 => ∃ c, x = .bl c ∧ Q (.bl (!c)) H1) : tNotV ta σ H Q := h
theorem gIf (h : tt σ H fun c H1 => if c = true then ta σ H1 Q else tb σ H1 Q) : tIf tt ta tb σ H Q := h
theorem gIfS (h : tt σ H fun b H1 => if b = true then t D σ H1 else u D σ H1) : tIfS tt t u D σ H := h
theorem gNil (h : QA [] H) : tNil σ H QA := h
theorem gCons (h : ta σ H fun x H1 => tr σ H1 fun xs H2 => QA (x :: xs) H2) : tCons ta tr σ H QA := h
theorem gIsN (h : ta σ H fun x H1 => Q (.bl (decide (x = .non))) H1) : tIsN ta σ H Q := h
theorem gNotN (h : ta σ H fun x H1 => Q (.bl (!decide (x = .non))) H1) : tNotN ta σ H Q := h
theorem gCall {sp : Sp} {dvs : List V} {E : XK} (h : tr σ H fun vs H1 => sp (vs ++ dvs) H1 Q E) : tCall sp dvs E tr σ H Q := h
theorem gCB {rc : List V → Hp → VK → Prop} (h : tr σ H fun vs H1 => rc vs H1 Q) : tCB rc tr σ H Q := h
theorem gTup (h : tr σ H fun xs H1 => xs.length ≤ sizeLine ∧ ∀ p, H1 p = none → Q (.ref p) (upd H1 p (.tup xs))) : tTup tr σ H Q := h
theorem gLst (h : tr σ H fun xs H1 => xs.length ≤ sizeLine ∧ ∀ p, H1 p = none → Q (.ref p) (upd H1 p (.lst xs))) : tLst tr σ H Q := h
theorem gM1 {rm : V → List V → Hp → VK → Prop} (h : ta σ H fun x H1 => (∃ a, x = .str a) ∧ tb σ H1 fun y H2 => rm x [y] H2 Q) : tM1 rm ta tb σ H Q := h
theorem gBM {ty : String} {rm : V → List V → Hp → VK → Prop} (h : ta σ H fun x H1 => tyV K ty x H1 ∧ tr σ H1 fun xs H2 => rm x xs H2 Q) : tBM K ty rm ta tr σ H Q := h
theorem ifb {b : Bool} {A B : Prop} (h1 : b = true → A) (h2 : b = false → B) : if b = true then A else B := by
  cases b with
  | true => exact h1 rfl
  | false => exact h2 rfl
theorem ifd {c : Prop} [Decidable c] {A B : Prop} (h1 : c → A) (h2 : ¬ c → B) : if decide c = true then A else B := by
  by_cases h : c
  · rw [if_pos (decide_eq_true h)]
    exact h1 h
  · rw [if_neg (by rw [decide_eq_false h]; exact Bool.false_ne_true)]
    exact h2 h
/-! a new object, told by what stands there -/
theorem newO {o : HO} {p : Addr} (hp : H p = none) (h : ∀ H2, Ex H H2 → H2 p = some o → Q (.ref p) H2) : Q (.ref p) (upd H p o) := h _ (Ex.new hp) upd_same
/-! values -/
theorem gEqS {a b : Str} (h : Q (.bl (decide (a = b))) H) : rEq (.str a) (.str b) H Q := by
  refine ⟨rfl, ?_⟩
  have e : decide (V.str a = V.str b) = decide (a = b) := by simp
  rw [e]
  exact h
theorem gNeS {a b : Str} (h : Q (.bl (!decide (a = b))) H) : rNe (.str a) (.str b) H Q := by
  refine ⟨rfl, ?_⟩
  have e : decide (V.str a = V.str b) = decide (a = b) := by simp
  rw [e]
  exact h
theorem gEqI {a b : Int} (h : Q (.bl (decide (a = b))) H) : rEq (.int a) (.int b) H Q := by
  refine ⟨rfl, ?_⟩
  have e : decide (V.int a = V.int b) = decide (a = b) := by simp
  rw [e]
  exact h
theorem gI0 {f : Int → Int → V} {a b : Int} (h : Q (f a b) H) : rI0 f (.int a) (.int b) H Q := ⟨a, b, rfl, rfl, h⟩
theorem gNeI {a b : Int} (h : Q (.bl (!decide (a = b))) H) : rNe (.int a) (.int b) H Q := by
  refine ⟨rfl, ?_⟩
  have e : decide (V.int a = V.int b) = decide (a = b) := by simp
  rw [e]
  exact h
end
section
variable {X : Cx}
/-- a module's int -/
theorem pe_gint {x : Str} {i : Int} {pos : Pos} (h : ∃ t, X.mg x = some (.int i t)) (hg : Gl X x := by rfl) (hd : (x == ("__debug__" : Str)) = false := by decide) : PE X (.Name x pos) (tC (.int i)) := by
  obtain ⟨t, h⟩ := h
  exact pe_glob hg h ⟨t, rfl⟩ hd
end
end Z
set_option Elab.async false
set_option linter.all false
set_option maxRecDepth 100000
set_option maxHeartbeats 4000000
/-! all, any of a generator expression over whatever a for walks; its element a term of the hand layer, read in the generator's own frame -/
namespace Z
open PySem PySem.Spec PyProof.Rows L2
/-- the frame of a generator expression: A' around it, begun at s, H; the walked thing's objects at fp; its own object pinned -/
abbrev genX (X : Cx) (A' : Around) (s : Shared) (H : Hp) (scope : Scope) (ge : Env) (fp : List Addr) (pn : List (Addr × Obj)) : Cx :=
  { X with A := A', s_0 := s, H_0 := H, env := ge, outer := X.stack, stack := ge :: X.stack, ex := fp, fn := fun x => scope.names.lookup x == some .cell, pn := pn, xe := fun _ _ => False }
abbrev genE (X : Cx) (s : Shared) (scope : Scope) (code : Value) : Env := genEnv scope (cloFrom X.env.cells scope.names []) s.heap.objs.size code builtinsNs X.env
section
variable {X : Cx} {pins : List (Addr × Obj)} {σ : L2.St} {H : Hp} {s : Shared}
theorem gen_start {scope : Scope} {own : List (Str × Nat)} {fp : List Addr} {A' : Around} {code itv : Value} {h' : Heap} {gobj : Obj} {G : Array GenState} {tk : Nat} (I : Inv X pins σ H s) (ok : BlkOk X.N X.env.scope scope own) (hN : X.N.Nodup) (hcell : ∀ y ∈ scope.names, y.2 ≠ .cell)
    (hfp : ∀ b ∈ fp, FpOk X pins H b ∧ b < s.heap.objs.size) (hn' : h'.Ns s.heap.objs.size (fun y => if y = ".0" then some itv else none)) (hs' : Heap.SameBut s.heap.objs.size (s.heap.push { cls := .type "frame", data := .dict #[] }) h')
    (hgd : ∀ v, gobj.data ≠ .cell v) (hgf : gobj.isFreed = false) (hG : AllBare G) (hhd : A'.handled = none) (hfr : A'.frames = some (genE X s scope code :: X.stack)) :
    Inv (genX X A' s H scope (genE X s scope code) fp [(h'.objs.size, gobj)]) [] (wipe σ (own.map (·.2))) H { s with gens := G, toks := tk, heap := h'.push gobj } := by
  have sz : h'.objs.size = s.heap.objs.size + 1 := by rw [hs'.1, Heap.size_push]
  have kp : ∀ b o, s.heap.get? b = some o → (h'.push gobj).get? b = some o := fun b o e =>
    Heap.get?_push_of_some _ (hs'.extBut b o (Nat.ne_of_lt (Heap.lt_size e)) (Heap.get?_push_of_some _ e))
  have hfree : ∀ y ∈ scope.names, y.2 = .free → ∃ c, X.env.cells.lookup y.1 = some c := fun y hy e => by
    rcases ok.free y hy e with k | k
    · exact I.ok.has _ (.inl k)
    · exact I.ok.has _ (.inr k)
  have cm : ∀ {y : Str} {c : Addr}, (cloFrom X.env.cells scope.names []).lookup y = some c → X.env.cells.lookup y = some c ∧ c < s.heap.objs.size := fun {y c} hl => by
    rcases cloFrom_mem (PySem.mem_of_lookup hl) with hm | ⟨h1, rfl⟩
    · cases hm
    · obtain ⟨c, hc⟩ := hfree _ h1 rfl
      rw [hc]
      obtain ⟨_, z⟩ := I.cell _ _ hc
      exact ⟨rfl, z.lt⟩
  have look : ∀ {y : Str}, scope.names.lookup y = some .free → ∃ c, (cloFrom X.env.cells scope.names []).lookup y = some c := fun {y} hl =>
    mem_lookup (cloFrom_has (cells := X.env.cells) (acc := []) (PySem.mem_of_lookup hl))
  have noCell : ∀ {y : Str}, scope.names.lookup y ≠ some .cell := fun {y} hl => hcell _ (PySem.mem_of_lookup hl) rfl
  have okG : (genX X A' s H scope (genE X s scope code) fp [(h'.objs.size, gobj)]).Ok := by
    refine ⟨I.ok.mod, ok.kind, I.ok.glob, rfl, Nat.le_refl _, fun y z c e1 e2 => I.ok.inj y z c (cm e1).1 (cm e2).1, fun y hy => ?_, fun y c z e => ?_, fun _ => hhd, hfr, .inr ⟨rfl, rfl⟩, fun b hb => ⟨Nat.ne_of_lt (hfp b hb).2, fun y c e z => (hfp b hb).1.2.2.2.2.1 y c (cm e).1 z⟩,
      I.bs, Nat.le_trans I.ok.bsz I.sz, fun b o e hb => ?_, fun b hb z => ?_, I.stack, I.stkFree⟩
    · rcases hy with hy | hy
      · exact absurd hy noCell
      · exact look hy
    · have z : (scope.names.lookup y == some NameKind.cell) = true := z
      exact absurd (by simpa using z) (noCell (y := y))
    · rcases (hfp b hb).1.2.2.2.1 with z | z
      · exact I.ok.noex b o e z
      · exact absurd (Nat.lt_of_lt_of_le (Heap.lt_size e) (Nat.le_trans I.ok.bsz z)) (Nat.lt_irrefl _)
    · rcases List.mem_cons.mp (I.stkSub b z) with z | z
      · exact (hfp b hb).1.2.1 z
      · exact (hfp b hb).1.2.2.1 z
  refine ⟨okG, rfl, hG, Un.kept kp, ⟨_, hn'.push _, fun i y av e1 e2 e3 => ?_⟩, fun y c e => ?_, I.hok.fresh (Nat.le_refl _), fun y c e => I.freeC y c (cm e).1, fun p hp => ?_, I.hok.kept kp, by rw [wipe_length]; exact I.len⟩
  · obtain ⟨e2, hne⟩ := wipe_some e2
    have no : ∀ k : NameKind, scope.names.lookup y = some k → ¬ (k = .local ∨ k = .cell) := fun k e hh => by
      rcases ok.own _ (PySem.mem_of_lookup e) hh with e' | e'
      · obtain ⟨p, hp, hpy⟩ := List.mem_map.mp e'
        have e3 := ok.ix p hp
        have q : p.1 = y := hpy
        rw [q] at e3
        exact hne (List.mem_map.mpr ⟨p, hp, nodup_ix hN e3 e1⟩)
      · exact e' (List.mem_of_getElem? e1)
    have e3 : Vis scope y := e3
    have hf : scope.names.lookup y = some .free := by
      rcases e3 with e3 | e3 | e3
      · exact absurd (.inl rfl) (no _ e3)
      · exact absurd (.inr rfl) (no _ e3)
      · exact e3
    obtain ⟨m, hn, hl⟩ := I.loc
    have hvis : Vis X.env.scope y := (ok.free _ (PySem.mem_of_lookup hf) rfl).elim (fun k => .inr (.inl k)) (fun k => .inr (.inr k))
    obtain ⟨w, r, q⟩ := hl i y av e1 e2 hvis
    obtain ⟨c, hc⟩ := look hf
    refine ⟨w, r, .inr ⟨.inr hf, c, hc, ?_⟩⟩
    rcases q with ⟨k, _⟩ | ⟨_, c', e', z⟩
    · have k : X.env.scope.names.lookup y = some .local := k
      rcases ok.free _ (PySem.mem_of_lookup hf) rfl with k' | k' <;> rw [show X.env.scope.names.lookup y = _ from k'] at k <;> cases k
    · rw [(cm hc).1] at e'
      cases e'
      exact z.keeps kp
  · obtain ⟨w, z⟩ := I.cell y c (cm e).1
    exact ⟨w, z.keeps kp⟩
  · have e : p = (h'.objs.size, gobj) := by simpa using hp
    subst e
    refine ⟨Heap.get?_push_size _ hgf, I.hok.fresh (by rw [sz]; exact Nat.le_succ _), by show h'.objs.size ≠ s.heap.objs.size; omega, fun hm => ?_, hgd⟩
    rcases List.mem_cons.mp (I.stkSub _ hm) with z | z
    · have h1 : X.env.locals < s.heap.objs.size := I.lt
      have h2 : h'.objs.size = X.env.locals := z
      rw [← h2, sz] at h1
      exact absurd h1 (Nat.not_lt.mpr (Nat.le_succ _))
    · exact I.nofs (by rw [sz]; exact Nat.le_succ _) z
/-- the generators' states alone have changed -/
theorem inv_gens {s' : Shared} (I : Inv X pins σ H s) (ho : s'.os = s.os) (hh : s'.heap = s.heap) (hb : AllBare s'.gens) : Inv X pins σ H s' := by
  obtain ⟨h', g', d', t', o'⟩ := s'
  have e1 : o' = s.os := ho
  have e2 : h' = s.heap := hh
  subst e1 e2
  exact ⟨I.ok, I.os, hb, I.base, I.loc, I.cell, I.free, I.freeC, I.pin, I.hok, I.len⟩
end
/-- a generator's code runs one frame deeper -/
theorem over_gen {A : Around} {elt tg iter : Expr} {ifs : List Expr} {scope : Scope} {pos : Pos} {it acc : Value} {ge : Env} (hf : ge.frame = some ge.locals) :
    A.over (.compLoop (.GeneratorExp elt [⟨tg, iter, ifs, 0⟩] scope pos) 0 it acc ge) [] = A.deeper ge := by
  obtain ⟨hd, d, fr, gs, u⟩ := A
  first
    | rfl
    | simp [Around.over, Around.deeper, marksOver, frameCount, unitsOf, envsOf, guardsOf, pushEnvs, pushGuards, Code.envs, Code.env?, Code.isFrame, Code.guards, Code.isGuard, Code.weight, Code.frames, Code.isCreation, Code.isCaller, Code.cUnits]
theorem over_genS {A : Around} {elt tg iter : Expr} {ifs : List Expr} {scope : Scope} {pos : Pos} {it acc : Value} {ge : Env} (hf : ge.frame = some ge.locals) :
    A.over (.compStart (.GeneratorExp elt [⟨tg, iter, ifs, 0⟩] scope pos) 0 it acc ge) [] = A.deeper ge := by
  obtain ⟨hd, d, fr, gs, u⟩ := A
  first
    | rfl
    | simp [Around.over, Around.deeper, marksOver, frameCount, unitsOf, envsOf, guardsOf, pushEnvs, pushGuards, Code.envs, Code.env?, Code.isFrame, Code.guards, Code.isGuard, Code.weight, Code.frames, Code.isCreation, Code.isCaller, Code.cUnits]
section
variable {X : Cx}
/-- where a generator stands between two items: the turn i, the measure m -/
def GSt (Y : Cx) (fp : List Addr) (tn : Nat → Heap → Prop) (W : Nat → Nat → Hp → Prop) (σ0 : L2.St) (i m : Nat) (s : Shared) : Prop :=
  ∃ H', Inv Y [] σ0 H' s ∧ tn i s.heap ∧ (∀ b ∈ fp, H' b = none) ∧ W i m H'
def Wk (s s' : Shared) : Prop := s'.os = s.os ∧ s'.heap = s.heap ∧ AllBare s'.gens
theorem GSt.wk {Y : Cx} {fp : List Addr} {tn : Nat → Heap → Prop} {W : Nat → Nat → Hp → Prop} {σ0 : L2.St} {i m : Nat} {s s' : Shared} (h : GSt Y fp tn W σ0 i m s) (k : Wk s s') : GSt Y fp tn W σ0 i m s' := by
  obtain ⟨H', I, t, n, w⟩ := h
  exact ⟨H', inv_gens I k.1 k.2.1 k.2.2, by rw [k.2.1]; exact t, n, w⟩
/-- it has ended: the word qd holds -/
def GDone (Y : Cx) (qd : Hp → Prop) (s : Shared) : Prop := ∃ σ' H' pl, Inv Y pl σ' H' s ∧ qd H'
/-- an item: the one that stops the consumer, or another one -/
def GItem (Y : Cx) (fp : List Addr) (tn : Nat → Heap → Prop) (W : Nat → Nat → Hp → Prop) (σ0 : L2.St) (sb : Bool) (qs : Hp → Prop) : Protocol := fun n _ v s kap =>
  (v = .bool sb ∧ GDone Y qs s) ∨ (v = .bool (!sb) ∧ ∃ i m, m + 1 ≤ n ∧ GSt Y fp tn W σ0 i m s ∧ ∀ s'', Wk s s'' → kap (.send .none) s'')
/-- one turn's word -/
def GTurn (J : It) (W : Nat → Nat → Hp → Prop) (g : TG) (te : TE) (σ0 : L2.St) (vs : List Nat) (sb : Bool) (qs qd : Hp → Prop) : Prop := ∀ i m H, W i m H →
  (J.stop i H ∧ qd H) ∨ (J.go i H ∧ ∃ Nx : Hp → Prop, (∀ H', Nx H' → ∃ m', m' < m ∧ W (i + 1) m' H') ∧ ∀ x H', J.yld i H x H' → g x σ0 H' fun σ2 H2 => wipe σ2 vs = σ0 ∧ te σ2 H2 fun y H3 => ∃ b, y = .bl b ∧ if b = sb then qs H3 else Nx H3)
theorem seg_q {A A' : Around} {s0 : Shared} {H0 : Hp} {scope : Scope} {ge : Env} {fp : List Addr} {pn : List (Addr × Obj)} {elt tg iter : Expr} {pos : Pos} {it : Addr} {J : It} {tn : Nat → Heap → Prop} {W : Nat → Nat → Hp → Prop} {g : TG} {te : TE} {σ0 : L2.St} {vs : List Nat} {sb : Bool} {qs qd : Hp → Prop}
    (hA : A.deeper ge = A') (hf : ge.frame = some ge.locals) (hco : ge.scope.isCoroutine = false) (hc : X.calm = true) (T : Turn X.prog X.w X.K tg J fp it tn) (hpn : ∀ p ∈ pn, p.1 ∉ fp) (hvs : wipe σ0 vs = σ0)
    (pg : PG (genX X A' s0 H0 scope ge fp pn) tg g) (pe : PE (genX X A' s0 H0 scope ge fp pn) elt te) (turn : GTurn J W g te σ0 vs sb qs qd) :
    ∀ (m n i : Nat) (s s₀ : Shared), m + 1 ≤ n → GSt (genX X A' s0 H0 scope ge fp pn) fp tn W σ0 i m s →
      Seg (model X.prog X.w) A (fun _ _ r s₁ => r = .ok .next ∧ GDone (genX X A' s0 H0 scope ge fp pn) qd s₁) (GItem (genX X A' s0 H0 scope ge fp pn) fp tn W σ0 sb qs) n s₀
        (.compLoop (.GeneratorExp elt [⟨tg, iter, [], 0⟩] scope pos) 0 (.ref it) .none ge) ((model X.prog X.w).den (.compLoop (.GeneratorExp elt [⟨tg, iter, [], 0⟩] scope pos) 0 (.ref it) .none ge)) [] s := by
  have stat : ∀ {σ' : L2.St} {H' : Hp} {s' : Shared}, Inv (genX X A' s0 H0 scope ge fp pn) [] σ' H' s' → (∀ b ∈ fp, H' b = none) → ∀ b ∈ fp, FpOk (genX X A' s0 H0 scope ge fp pn) [] H' b := fun {σ' H' s'} I' hn b hb =>
    ⟨hn b hb, (I'.ok.exf b hb).1, I'.ok.exfs b hb, .inl hb, fun x c e => (I'.ok.exf b hb).2 x c e, fun p hp z => by
      rcases List.mem_append.mp hp with hp | hp
      · exact hpn p hp (by rw [z]; exact hb)
      · cases hp⟩
  intro m
  induction m using Nat.strongRecOn with
  | ind m ih =>
    intro n i s s₀ hn st
    obtain ⟨n', rfl⟩ : ∃ n', n = n' + 1 := ⟨n - 1, by omega⟩
    obtain ⟨H, I, ht, hnf, w⟩ := st
    show Seg _ A _ _ _ s₀ _ ((compTurn (.GeneratorExp elt [⟨tg, iter, [], 0⟩] scope pos) 0 (.ref it) .none ge).onRaise (leaving ge)) [] s
    rw [compTurn_gen, Sem.onRaise_eq_wrap]
    refine seg_bind_wrap (wpAny_standAt ?_)
    rcases turn i m H w with ⟨stop, qq⟩ | ⟨go, Nx, hNx, step⟩
    · have td := T.done (genX X A' s0 H0 scope ge fp pn) rfl rfl rfl hc i [] s _ H (fun _ _ => False) I (stat I hnf) ht stop
      refine seg_bind_wrap ?_
      rw [over_gen hf, hA]
      refine thnF td fun r s6 ⟨hr, I6⟩ => ?_
      subst hr
      exact seg_end (.ok .next) ⟨rfl, _, H, [], I6, qq⟩
    · have ti := T.item (genX X A' s0 H0 scope ge fp pn) rfl rfl rfl hc i [] s _ H (fun _ _ => False) I (stat I hnf) ht go
      refine seg_bind_wrap ?_
      rw [over_gen hf, hA]
      refine thnF ti fun r s6 ⟨u, hr, h6⟩ => ?_
      subst hr
      refine seg_bind_wrap ?_
      rw [over_gen hf, hA]
      refine thnF h6 fun _ s7 ⟨x, H7, I7, r7, y7, st7, n7⟩ => ?_
      have I7' := I7.pinned (stat I7 n7) (T.obj _ _ st7)
      refine seg_bind_wrap ?_
      rw [over_gen hf, hA]
      refine thnF (pg.run _ s7 _ H7 x u _ I7' r7 (step x H7 y7)) fun _ s8 ⟨σ8, H8, I8, hw8, q8⟩ => ?_
      simp only [List.forIn_nil]
      refine seg_bind_wrap (wpAny_pure ?_)
      simp only [if_true]
      have hy : ∀ v, yieldOut ge v = yieldValue v := fun v => by simp only [yieldOut, hco, Bool.false_eq_true, if_false]
      simp only [hy]
      rw [Sem.bind_eq_wrap', Sem.bind_eq_wrap', Sem.wrap_wrap, Sem.wrap_wrap]
      refine seg_wrap ?_
      rw [over_gen hf, hA]
      refine thnF (pe.run _ s8 σ8 H8 _ I8 q8) fun z s9 ⟨y, H9, I9, r9, b, eb, q9⟩ => ?_
      subst eb
      cases r9
      refine seg_at (seg_yield rfl rfl rfl ?_)
      by_cases hb : b = sb
      · rw [if_pos hb] at q9
        exact .inl ⟨by rw [hb], _, H9, _, I9, q9⟩
      · rw [if_neg hb] at q9
        obtain ⟨m', hm, w'⟩ := hNx H9 q9
        have pin' : ∀ c ∈ fp, ∀ o, s7.heap.get? c = some o → s9.heap.get? c = some o ∧ H9 c = none := fun c hc o e =>
          let z := I9.pin (c, o) (List.mem_append_right _ (List.mem_append_right _ (mem_pinsAt hc e)))
          ⟨z.1, z.2.1⟩
        have hl : σ0.length = σ8.length := by rw [← hw8, wipe_length]
        have st' : GSt (genX X A' s0 H0 scope ge fp pn) fp tn W σ0 (i + 1) m' s9 := by
          refine ⟨H9, (I9.unpinned (pins := [])).weak hl (fun j v e => ?_), T.keep _ _ _ st7 fun c hc o e => (pin' c hc o e).1, fun c hc => ?_, w'⟩
          · rw [← hw8] at e
            exact (wipe_some e).1
          · obtain ⟨o, e, _⟩ := T.obj _ _ st7 c hc
            exact (pin' c hc o e).2
        refine .inr ⟨by cases b <;> cases sb <;> first | rfl | exact absurd rfl hb, i + 1, m', by omega, st', fun s'' k => ?_⟩
        exact seg_again rfl (ih m' hm n' (i + 1) s'' s'' (by omega) (st'.wk k))

/-- the generator at a, ready to hand out (n items at most) -/
def GRdy (X : Cx) (Y : Cx) (fp : List Addr) (tn : Nat → Heap → Prop) (W : Nat → Nat → Hp → Prop) (σ0 : L2.St) (sb : Bool) (qs qd : Hp → Prop) (A : Around) (a : Addr) (g n : Nat) (s : Shared) : Prop :=
  s.heap.IsGen a g ∧ s.heap.NoLimit ∧ AllBare s.gens ∧ ∃ gs, s.gens[g]? = some gs ∧ gs.Goes (model X.prog X.w) A (fun _ _ r s₁ => r = .ok .next ∧ GDone Y qd s₁) (GItem Y fp tn W σ0 sb qs) n (.send .none) (s.setGen g .running)
/-- the word at the end, seen from the def that holds the generator -/
def GEnd (X Y : Cx) (pins : List (Addr × Obj)) (σ : L2.St) (q : Hp → Prop) : Prop := ∀ σ' H' pl s', Inv Y pl σ' H' s' → q H' → Inv X pins σ H' s'
variable {Y : Cx} {pins : List (Addr × Obj)} {σ σ0 : L2.St} {fp : List Addr} {tn : Nat → Heap → Prop} {W : Nat → Nat → Hp → Prop} {qs qd : Hp → Prop}
theorem inv_keep {Z : Cx} {pl : List (Addr × Obj)} {σ' : L2.St} {H' : Hp} {s s' : Shared} (I : Inv Z pl σ' H' s) (ho : s'.os = s.os) (hb : AllBare s'.gens) (k : ∀ b o, s.heap.get? b = some o → s'.heap.get? b = some o) : Inv Z pl σ' H' s' := by
  obtain ⟨h', g', d', t', o'⟩ := s'
  have e1 : o' = s.os := ho
  subst e1
  have I2 : Inv Z pl σ' H' { s with heap := h', toks := t' } := I.kept k
  exact inv_gens I2 rfl rfl hb
theorem setGen_at {s : Shared} {g : Nat} {x : GenState} (h : g < s.gens.size) : (s.setGen g x).gens[g]? = some x := by
  simp [Shared.setGen, h]
theorem next_gen {A : Around} {a : Addr} {g n : Nat} {s : Shared} {sb : Bool} {Q : Option Value → Shared → Prop} {E : Value → Shared → Prop} (hpn : ∀ i m s, GSt Y fp tn W σ0 i m s → s.heap.IsGen a g ∧ s.heap.NoLimit) (hh : A.handled = none) (hroom : A.depth < recursionLimit)
    (h : GRdy X Y fp tn W σ0 sb qs qd A.in1 a g n s) (hS : ∀ s', GDone Y qs s' → Q (some (.bool sb)) s') (hC : ∀ n' s', n = n' + 1 → GRdy X Y fp tn W σ0 sb qs qd A.in1 a g n' s' → Q (some (.bool (!sb))) s') (hD : ∀ s', GDone Y qd s' → Q none s') :
    wpAny (model X.prog X.w) A (pyNext (.ref a)) Q E s := by
  obtain ⟨hg, hl, hb, gs, hgs, hgo⟩ := h
  have hlt : g + 1 ≤ s.gens.size := by
    rcases Nat.lt_or_ge g s.gens.size with h' | h'
    · exact h'
    · rw [Array.getElem?_eq_none h'] at hgs
      cases hgs
  refine GenW.wpAny_gsz hlt (wpAny_pyNext_genexpQ (P := fun _ _ s₁ => GDone Y qd s₁) hh hl hroom hg hgs hgo (fun v s₁ gs' hb' hv hz => ?_) (fun s₁ hp h' hk hz => ?_))
  · rw [GenW.setGen_size] at hz
    rcases hv with ⟨rfl, σ', H', pl, I, q⟩ | ⟨rfl, i, m, hm, st, hkap⟩
    · exact hS _ ⟨σ', H', pl, inv_gens I rfl rfl (allBare_setGen I.bare hb'), q⟩
    · cases n with
      | zero => exact absurd hm (by omega)
      | succ n' =>
        obtain ⟨k1, k2⟩ := hpn i m s₁ st
        have bare : AllBare s₁.gens := by
          obtain ⟨_, I, _⟩ := st
          exact I.bare
        refine hC n' _ rfl ⟨k1, k2, allBare_setGen bare hb', gs', setGen_at hz, hkap _ ⟨rfl, rfl, ?_⟩⟩
        exact allBare_setGen (s := s₁.setGen g gs') (allBare_setGen bare hb') rfl
  · obtain ⟨σ', H', pl, I, q⟩ := hp
    exact hD _ ⟨σ', H', pl, inv_keep I rfl (allBare_setGen I.bare rfl) hk, q⟩
/-- the loops of all and any over such a generator -/
theorem loop_all {A : Around} {a : Addr} {g : Nat} {R : Result → Shared → Prop} (hpn : ∀ i m s, GSt Y fp tn W σ0 i m s → s.heap.IsGen a g ∧ s.heap.NoLimit) (hh : A.handled = none) (hroom : A.depth < recursionLimit)
    (hs : ∀ s', GDone Y qs s' → R (.ok (.ret (.bool false))) s') (hd : ∀ s', GDone Y qd s' → R (.ok (.ret (.bool true))) s') :
    ∀ (n : Nat) (s : Shared), GRdy X Y fp tn W σ0 false qs qd A.in1.in1 a g n s → codeAny (model X.prog X.w) A (.builtin "all.loop" ⟨[.ref a], []⟩) R s := by
  intro n
  induction n with
  | zero =>
    intro s h
    refine codeAny_builtin F.entry_all_loop ?_
    rw [Around.under_plainId F.plain_all_loop _]
    show wpAny _ A.in1 (pyNext (.ref a) >>= _) _ _ s
    refine wpAny_bind (next_gen hpn hh hroom h (fun s' q => ?_) (fun n' s' e _ => by omega) fun s' q => ?_)
    · refine wpAny_bind (wpAny_holding (wpAny_truthy_bool (wpAny_bind (wpAny_letGo ?_))))
      simp only [Bool.false_eq_true, if_false]
      exact wpAny_bind (wpAny_rule (wpAny_pure (hs s' q)))
    · exact wpAny_bind (wpAny_rule (wpAny_pure (hd s' q)))
  | succ n ih =>
    intro s h
    refine codeAny_builtin F.entry_all_loop ?_
    rw [Around.under_plainId F.plain_all_loop _]
    show wpAny _ A.in1 (pyNext (.ref a) >>= _) _ _ s
    refine wpAny_bind (next_gen hpn hh hroom h (fun s' q => ?_) (fun n' s' e h' => ?_) fun s' q => ?_)
    · refine wpAny_bind (wpAny_holding (wpAny_truthy_bool (wpAny_bind (wpAny_letGo ?_))))
      simp only [Bool.false_eq_true, if_false]
      exact wpAny_bind (wpAny_rule (wpAny_pure (hs s' q)))
    · have e' : n' = n := by omega
      subst e'
      refine wpAny_bind (wpAny_holding (wpAny_truthy_bool (wpAny_bind (wpAny_letGo ?_))))
      exact wpAny_pure ⟨plainId_quiet F.plain_all_loop _, ih s' h'⟩
    · exact wpAny_bind (wpAny_rule (wpAny_pure (hd s' q)))
theorem loop_any {A : Around} {a : Addr} {g : Nat} {R : Result → Shared → Prop} (hpn : ∀ i m s, GSt Y fp tn W σ0 i m s → s.heap.IsGen a g ∧ s.heap.NoLimit) (hh : A.handled = none) (hroom : A.depth < recursionLimit)
    (hs : ∀ s', GDone Y qs s' → R (.ok (.ret (.bool true))) s') (hd : ∀ s', GDone Y qd s' → R (.ok (.ret (.bool false))) s') :
    ∀ (n : Nat) (s : Shared), GRdy X Y fp tn W σ0 true qs qd A.in1.in1 a g n s → codeAny (model X.prog X.w) A (.builtin "any.loop" ⟨[.ref a], []⟩) R s := by
  intro n
  induction n with
  | zero =>
    intro s h
    refine codeAny_builtin F.entry_any_loop ?_
    rw [Around.under_plainId F.plain_any_loop _]
    show wpAny _ A.in1 (pyNext (.ref a) >>= _) _ _ s
    refine wpAny_bind (next_gen hpn hh hroom h (fun s' q => ?_) (fun n' s' e _ => by omega) fun s' q => ?_)
    · refine wpAny_bind (wpAny_holding (wpAny_truthy_bool (wpAny_bind (wpAny_letGo ?_))))
      simp only [if_true]
      exact wpAny_bind (wpAny_rule (wpAny_pure (hs s' q)))
    · exact wpAny_bind (wpAny_rule (wpAny_pure (hd s' q)))
  | succ n ih =>
    intro s h
    refine codeAny_builtin F.entry_any_loop ?_
    rw [Around.under_plainId F.plain_any_loop _]
    show wpAny _ A.in1 (pyNext (.ref a) >>= _) _ _ s
    refine wpAny_bind (next_gen hpn hh hroom h (fun s' q => ?_) (fun n' s' e h' => ?_) fun s' q => ?_)
    · refine wpAny_bind (wpAny_holding (wpAny_truthy_bool (wpAny_bind (wpAny_letGo ?_))))
      simp only [if_true]
      exact wpAny_bind (wpAny_rule (wpAny_pure (hs s' q)))
    · have e' : n' = n := by omega
      subst e'
      refine wpAny_bind (wpAny_holding (wpAny_truthy_bool (wpAny_bind (wpAny_letGo ?_))))
      exact wpAny_pure ⟨plainId_quiet F.plain_any_loop _, ih s' h'⟩
    · exact wpAny_bind (wpAny_rule (wpAny_pure (hd s' q)))
end
section
variable {X : Cx} {pins : List (Addr × Obj)} {σ : L2.St} {H : Hp} {s : Shared}
/-- from the generator's start to its loop -/
theorem seg_begin {A : Around} {R : GenEnd} {Y : Protocol} {elt tg iter : Expr} {scope : Scope} {pos : Pos} {it : Addr} {ge : Env} {n : Nat} {s₀ : Shared} {J : It} {fp : List Addr} {tn : Nat → Heap → Prop} (T : Turn X.prog X.w X.K tg J fp it tn) (st : tn 0 s.heap)
    (loop : Seg (model X.prog X.w) A R Y n s₀ (.compLoop (.GeneratorExp elt [⟨tg, iter, [], 0⟩] scope pos) 0 (.ref it) .none ge) ((model X.prog X.w).den (.compLoop (.GeneratorExp elt [⟨tg, iter, [], 0⟩] scope pos) 0 (.ref it) .none ge)) [] s) :
    Seg (model X.prog X.w) A R Y n s₀ (.compStart (.GeneratorExp elt [⟨tg, iter, [], 0⟩] scope pos) 0 (.ref it) .none ge) ((model X.prog X.w).den (.compStart (.GeneratorExp elt [⟨tg, iter, [], 0⟩] scope pos) 0 (.ref it) .none ge)) [] s := by
  show Seg _ A _ _ _ s₀ _ ((compStart (.GeneratorExp elt [⟨tg, iter, [], 0⟩] scope pos) 0 (.ref it) .none ge).onRaise (leaving ge)) [] s
  unfold compStart
  rw [Sem.onRaise_eq_wrap]
  show Seg _ A _ _ _ s₀ _ ((ask >>= _).wrap _ _ _ _) [] s
  refine seg_bind_wrap (wpAny_askSetting ?_)
  split
  · exact seg_again rfl loop
  · first
      | exact seg_bind_wrap (wpAny_rule (seg_bind_wrap (wpAny_standAt (seg_bind_wrap (T.self _ 0 s _ _ st (seg_again rfl loop))))))
      | (refine seg_bind_wrap (wpAny_rule ?_); show Seg _ A _ _ _ s₀ _ ((standAt iter.pos >>= _).wrap _ _ _ _) [] s; exact seg_bind_wrap (wpAny_standAt (seg_bind_wrap (T.self _ 0 s _ _ st (seg_again rfl loop)))))
/-- what is asked: P the def's table; sb: the answer that stops the walk -/
def tQ (P : Addr) (sb : Bool) (wi : TI) (g : TG) (te : TE) (vs : List Nat) : TE := fun σ H Q => wi σ H fun J H1 => (∃ ps, H1 P = some (.tbl ps) ∧ TriplesOk ps.toList) ∧ ∀ H2, Ex H1 H2 → (∀ b, b ≠ P → H2 b = H1 b) →
  ∃ (W : Nat → Nat → Hp → Prop) (m : Nat), W 0 m H2 ∧ GTurn J W g te (wipe σ vs) vs sb (fun H' => Q (.bl sb) H') (fun H' => Q (.bl (!sb)) H')
theorem wipe_idem (σ : L2.St) : ∀ vs : List Nat, wipe (wipe σ vs) vs = wipe σ vs := by
  have key : ∀ (vs us : List Nat) (τ : L2.St), (∀ v ∈ vs, v ∈ us) → wipe (wipe τ us) vs = wipe τ us := by
    intro vs
    induction vs with
    | nil => intro us τ _; rfl
    | cons v vs ih =>
      intro us τ h
      show (wipe (wipe τ us) vs).set v none = wipe τ us
      rw [ih us τ fun x hx => h x (List.mem_cons_of_mem _ hx)]
      have mem : ∀ (us : List Nat) (τ : L2.St), v ∈ us → (wipe τ us).set v none = wipe τ us := by
        intro us
        induction us with
        | nil => intro τ h; cases h
        | cons u us ih2 =>
          intro τ h
          show ((wipe τ us).set u none).set v none = (wipe τ us).set u none
          by_cases e : u = v
          · subst e
            rw [List.set_set]
          · rcases List.mem_cons.mp h with z | z
            · exact absurd z.symm e
            · rw [List.set_comm _ _ e, ih2 τ z]
      exact mem us τ (h v List.mem_cons_self)
  intro vs
  exact key vs vs σ fun _ h => h
theorem gen_run {sb : Bool} {id : String} {x : Str} {c P : Addr} {elt tg iter : Expr} {p pos gpos : Pos} {scope : Scope} {own : List (Str × Nat)} {wi : TI} {g : TG} {te : TE} {k : Nat} {Q : VK}
    (loop : ∀ {Y : Cx} {σ0 : L2.St} {fp : List Addr} {tn : Nat → Heap → Prop} {W : Nat → Nat → Hp → Prop} {qs qd : Hp → Prop} {a : Addr} {gi : Nat} (n : Nat) (s5 : Shared), (∀ i m s, GSt Y fp tn W σ0 i m s → s.heap.IsGen a gi ∧ s.heap.NoLimit) →
      (∀ s', GDone Y qs s' → EP X pins σ Q (.bool sb) s') → (∀ s', GDone Y qd s' → EP X pins σ Q (.bool (!sb)) s') → GRdy X Y fp tn W σ0 sb qs qd X.A.in1.in1 a gi n s5 → wpAny (model X.prog X.w) X.A (call (.builtin id) [.ref a]) (EP X pins σ Q) X.xe s5)
    (hr : Room (k + 1) X.A) (hgl : Gl X x) (hm : X.mg x = none) (hv : bootBuiltins x = some (.builtin id)) (hn : x ≠ "__name__") (hdb : (x == ("__debug__" : Str)) = false) (TB : LamX.TabB X.base X.mg c P) (hcode : X.env.code = .ref c) (hc : X.calm = true) (hN : X.N.Nodup) (hi : PI X tg iter wi)
    (ok : BlkOk X.N X.env.scope scope own) (hg : ∀ (A' : Around) (s0 : Shared) (H0 : Hp) (code : Value) (fp : List Addr) (pn : List (Addr × Obj)), Room k A' → PG (genX X A' s0 H0 scope (genE X s0 scope code) fp pn) tg g)
    (he : ∀ (A' : Around) (s0 : Shared) (H0 : Hp) (code : Value) (fp : List Addr) (pn : List (Addr × Obj)), Room k A' → PE (genX X A' s0 H0 scope (genE X s0 scope code) fp pn) elt te)
    (hco : scope.isCoroutine = false) (hcell : ∀ y ∈ scope.names, y.2 ≠ .cell) (h0 : scope.names.lookup (".0" : Str) = some NameKind.local) (hs : ∀ v, genFold iter X.env v = pure v)
    (hst : starEach [.GeneratorExp elt [⟨tg, iter, [], 0⟩] scope gpos] X.env = (false, eval (.GeneratorExp elt [⟨tg, iter, [], 0⟩] scope gpos) X.env) :: starEach [] X.env)
    (I : Inv X pins σ H s) (h : tQ P sb wi g te (own.map (·.2)) σ H Q) :
    wpAny (model X.prog X.w) X.A (eval (.Call (.Name x p) [.GeneratorExp elt [⟨tg, iter, [], 0⟩] scope gpos] [] pos) X.env) (EP X pins σ Q) X.xe s := by
  have hfree : ∀ y ∈ scope.names, y.2 = .free → ∃ c, X.env.cells.lookup y.1 = some c := fun y hy e => by
    rcases ok.free y hy e with k | k
    · exact I.ok.has _ (.inl k)
    · exact I.ok.has _ (.inr k)
  refine wpAny_Call_Name_kw (ld_blt I hgl hm hv ?_ hn hdb)
  refine PyProof.Rows.callWith_builtin1 ?_ hst (by rfl)
  rw [hst]
  show wpAny _ _ (spliced ((false, eval (.GeneratorExp elt [⟨tg, iter, [], 0⟩] scope gpos) X.env) :: backTo pos (starEach [] X.env))) _ _ s
  refine Calls.spliced_cons ?_
  refine wpAny_GeneratorExp_make hco (closure_ok hfree) hcell h0 ok.kind (by have := hr.dp; omega) ?_ hs
  refine thn (hi.run pins s σ H _ I h) fun xv s1 h1 => thn h1 fun itv s2 h2 => ?_
  obtain ⟨it, fp, tn, J, H1, e, I1, T, st, ff, ⟨ps, hP, ht⟩, q⟩ := h2
  subst e
  refine ⟨I1.nolimit, ?_⟩
  have hPs : s2.heap.get? P = some { cls := .none, data := .fields ps } := I1.hok P _ hP
  have cd : PySem.W.CodeHd s2.heap c P := TB.code.keeps fun b u e => I1.bk b u e
  have cont : ∀ (code : Value) (h3 : Heap) (tk : Nat) (ps' : Array Value), Heap.ExtBut P s2.heap h3 → s2.heap.objs.size ≤ h3.objs.size → h3.get? P = some { cls := .none, data := .fields ps' } → (∃ more, ps' = ps ++ more) → TriplesOk ps'.toList →
      wpAny (model X.prog X.w) X.A (builtinsFor X.env.globals X.env.builtins) (fun bi s₄ => ∀ h', h'.Ns s₄.heap.objs.size (fun y => if y = ".0" then some (Value.ref it) else none) → Heap.SameBut s₄.heap.objs.size (s₄.heap.push { cls := .type "frame", data := .dict #[] }) h' →
          wpAny (model X.prog X.w) X.A (spliced (backTo pos (starEach [] X.env))) (fun vs s' => wpAny (model X.prog X.w) X.A (call (.builtin id) (Value.ref h'.objs.size :: vs)) (EP X pins σ Q) X.xe s') X.xe { s₄ with
            gens := s₄.gens.push (.fresh (.compStart (.GeneratorExp elt [⟨tg, iter, [], 0⟩] scope gpos) 0 (.ref it) .none (genEnv scope (cloFrom X.env.cells scope.names []) s₄.heap.objs.size code bi X.env))),
            toks := s₄.toks + 1 + 1 + 1,
            heap := h'.push { cls := .type "generator", data := .fields #[.int s₄.gens.size 0, .str "<genexpr>" (s₄.toks + 1), .str (X.env.qual ++ "<genexpr>") (s₄.toks + 1 + 1)] } }) X.xe { s2 with heap := h3, toks := tk } := by
    intro code h3 tk ps' hx hsz hP3 hmore ht3
    obtain ⟨more, em⟩ := hmore
    obtain ⟨bm, ob, e1, e2, e3, e4, e5, e6, e7, e8⟩ := TB.bm
    have keep3 : ∀ b u, b ≠ P → s2.heap.get? b = some u → h3.get? b = some u := fun b u hb e => hx b u hb e
    refine wpAny_builtinsFor (m := X.mg) (by rw [I1.ok.glob]; exact (I1.mod.glob.keeps I1.bk).extBut hx TB.gP) e1 e2 (keep3 _ _ e4 (I1.bk _ _ e5)) e6 e7 e8 ?_
    intro h' hn' hs'
    refine Calls.spliced_nil ?_
    have I3 : Inv X pins σ (upd H1 P (.tbl (ps ++ more))) { s2 with heap := h3, toks := tk } := GxR.inv_tab (more := more) (h' := h3) (g' := s2.gens) (d' := s2.drawn) (t' := tk) I1 hP keep3 (by rw [← em]; exact hP3) I1.bare
    have hex : Ex H1 (upd H1 P (.tbl (ps ++ more))) := by
      refine ⟨fun b o e n _ => ?_, fun b xs e => ?_, fun b qs e => ?_, fun b o e => ?_⟩
      · have hb : b ≠ P := fun z => by
          rw [z, hP] at e
          cases e
          exact n
        rw [upd_ne hb]
        exact e
      · have hb : b ≠ P := fun z => by
          rw [z, hP] at e
          cases e
        rw [upd_ne hb]
        exact e
      · by_cases hb : b = P
        · rw [hb, hP] at e
          cases e
          exact ⟨_, by rw [hb]; exact upd_same, fun _ => by rw [← em]; exact ht3⟩
        · exact ⟨qs, by rw [upd_ne hb]; exact e, fun t => t⟩
      · by_cases hb : b = P
        · exact ⟨_, by rw [hb]; exact upd_same⟩
        · exact ⟨o, by rw [upd_ne hb]; exact e⟩
    obtain ⟨W, m, w0, turn⟩ := q _ hex fun b hb => upd_ne hb
    have szfp : ∀ b ∈ fp, b < s2.heap.objs.size := fun b hb => by
      obtain ⟨o, e, _⟩ := T.obj _ _ st b hb
      exact Heap.lt_size e
    have nP : ∀ b ∈ fp, b ≠ P := fun b hb z => by
      have q := (ff b hb).1
      rw [z, hP] at q
      cases q
    have f3 : ∀ b ∈ fp, FpOk X pins (upd H1 P (.tbl (ps ++ more))) b ∧ b < h3.objs.size := fun b hb =>
      ⟨⟨by rw [upd_ne (nP b hb)]; exact (ff b hb).1, (ff b hb).2⟩, Nat.lt_of_lt_of_le (szfp b hb) hsz⟩
    have hfrm : (X.A.in1.in1.deeper (genE X { s2 with heap := h3, toks := tk } scope code)).frames = some (genE X { s2 with heap := h3, toks := tk } scope code :: X.stack) := Around.frames_deeper I1.ok.frames
    have hroom : Room k (X.A.in1.in1.deeper (genE X { s2 with heap := h3, toks := tk } scope code)) := ⟨hr.hd, by
      have h1 := hr.dp
      show X.A.depth + 1 + 3 * k + 5 < _
      omega, by
      have h1 := hr.un
      show X.A.units + 1 + 1 + 3 + 16 * k + 200 < _
      omega⟩
    have I5 := gen_start (own := own) (fp := fp) (A' := X.A.in1.in1.deeper (genE X { s2 with heap := h3, toks := tk } scope code)) (code := code) (itv := .ref it) (h' := h') (gobj := { cls := .type "generator", data := .fields #[.int s2.gens.size 0, .str "<genexpr>" (tk + 1), .str (X.env.qual ++ "<genexpr>") (tk + 1 + 1)] })
      (G := s2.gens.push (.fresh (.compStart (.GeneratorExp elt [⟨tg, iter, [], 0⟩] scope gpos) 0 (.ref it) .none (genEnv scope (cloFrom X.env.cells scope.names []) h3.objs.size code builtinsNs X.env)))) (tk := tk + 1 + 1 + 1)
      I3 ok hN hcell f3 hn' hs' (fun v z => by cases z) rfl (I1.bare.push rfl) hr.hd hfrm
    have sz' : h'.objs.size = h3.objs.size + 1 := by rw [hs'.1, Heap.size_push]
    have st5 : tn 0 (h'.push { cls := .type "generator", data := .fields #[.int s2.gens.size 0, .str "<genexpr>" (tk + 1), .str (X.env.qual ++ "<genexpr>") (tk + 1 + 1)] }) := T.keep _ _ _ st fun b hb o e =>
      Heap.get?_push_of_some _ (hs'.extBut b o (Nat.ne_of_lt (f3 b hb).2) (Heap.get?_push_of_some _ (keep3 b o (nP b hb) e)))
    generalize hgo : ({ cls := .type "generator", data := .fields #[.int s2.gens.size 0, .str "<genexpr>" (tk + 1), .str (X.env.qual ++ "<genexpr>") (tk + 1 + 1)] } : Obj) = gobj at I5 st5 ⊢
    have hpnfp : ∀ q ∈ [(h'.objs.size, gobj)], q.1 ∉ fp := fun q hq hb => by
      have e : q = (h'.objs.size, gobj) := by simpa using hq
      rw [e] at hb
      have h1 := (f3 _ hb).2
      have h2 : h'.objs.size < h3.objs.size := h1
      omega
    have isg : ∀ (hh : Heap), hh.get? h'.objs.size = some gobj → hh.IsGen h'.objs.size s2.gens.size := fun hh e => by
      rw [← hgo] at e
      exact ⟨_, _, _, e, rfl, rfl, rfl⟩
    have at5 := (I5.pin (h'.objs.size, gobj) (List.mem_append_left _ (List.mem_singleton.mpr rfl))).1
    have hpnG : ∀ i m s, GSt (genX X (X.A.in1.in1.deeper (genE X { s2 with heap := h3, toks := tk } scope code)) { s2 with heap := h3, toks := tk } (upd H1 P (.tbl (ps ++ more))) scope (genE X { s2 with heap := h3, toks := tk } scope code) fp [(h'.objs.size, gobj)]) fp tn W (wipe σ (own.map (·.2))) i m s →
        s.heap.IsGen h'.objs.size s2.gens.size ∧ s.heap.NoLimit := fun i m s ⟨H', I', _⟩ =>
      ⟨isg _ (I'.pin (h'.objs.size, gobj) (List.mem_append_left _ (List.mem_singleton.mpr rfl))).1, I'.nolimit⟩
    have fin : ∀ (b : Bool) (s' : Shared), GDone (genX X (X.A.in1.in1.deeper (genE X { s2 with heap := h3, toks := tk } scope code)) { s2 with heap := h3, toks := tk } (upd H1 P (.tbl (ps ++ more))) scope (genE X { s2 with heap := h3, toks := tk } scope code) fp [(h'.objs.size, gobj)]) (fun H' => Q (.bl b) H') s' → EP X pins σ Q (.bool b) s' := fun b s' ⟨σ', H', pl, I', q'⟩ =>
      ⟨.bl b, H', I3.call' (ch := fp) I'.os I'.base I'.hok I'.bare fun b hb => ⟨(f3 b hb).1.2.2.2.1, (f3 b hb).1.2.1, (f3 b hb).1.2.2.2.2.1, (f3 b hb).1.2.2.2.2.2⟩, rfl, q'⟩
    refine loop (m + 1) _ hpnG (fin sb) (fin (!sb)) ⟨isg _ at5, I5.nolimit, I1.bare.push rfl, _, Array.getElem?_push_size .., rfl, ?_⟩
    refine seg_begin (X := X) T (by show tn 0 _; exact st5) ?_
    exact seg_q (X := X) (A := X.A.in1.in1) rfl rfl hco hc T hpnfp (wipe_idem σ _) (hg _ _ _ _ _ _ hroom) (he _ _ _ _ _ _ hroom) turn m (m + 1) 0 _ _ (Nat.le_refl _)
      ⟨_, inv_gens I5 rfl rfl (allBare_setGen (s := { s2 with gens := s2.gens.push _, toks := tk + 1 + 1 + 1, heap := h'.push gobj }) (I1.bare.push rfl) rfl), st5, fun b hb => (f3 b hb).1.1, w0⟩
  cases hf : codeAmong gpos ps.toList with
  | none =>
    refine wpAny_genexprCodeX hcode (cd.code hPs ht) (cd.tab hPs) hf fun c' h' tk hx hge hlt hco' _ htab' _ => ?_
    obtain ⟨o1, vs, f1, tf, fl, tg', inF, tx, tt, op, _, _, _, _, _, _, _, _, _, htr, _⟩ := hco'
    exact cont _ h' tk _ hx (Nat.le_trans hge (Nat.le_of_lt hlt)) htab'.2 ⟨_, rfl⟩ htr
  | some cv =>
    refine wpAny_genexprCode_hit hcode (cd.code hPs ht) hf ?_
    exact cont cv s2.heap s2.toks ps (Heap.ExtBut.refl _ _) (Nat.le_refl _) hPs ⟨#[], by simp⟩ ht
/-- all(..), any(..) of a generator expression -/
theorem pe_allG {c P : Addr} {elt tg iter : Expr} {p pos gpos : Pos} {scope : Scope} {own : List (Str × Nat)} {wi : TI} {g : TG} {te : TE} {k : Nat}
    (hr : Room (k + 1) X.A) (hm : X.mg "all" = none) (TB : LamX.TabB X.base X.mg c P) (hcode : X.env.code = .ref c) (hc : X.calm = true) (hN : X.N.Nodup) (hi : PI X tg iter wi) (ok : BlkOk X.N X.env.scope scope own)
    (hg : ∀ (A' : Around) (s0 : Shared) (H0 : Hp) (code : Value) (fp : List Addr) (pn : List (Addr × Obj)), Room k A' → PG (genX X A' s0 H0 scope (genE X s0 scope code) fp pn) tg g)
    (he : ∀ (A' : Around) (s0 : Shared) (H0 : Hp) (code : Value) (fp : List Addr) (pn : List (Addr × Obj)), Room k A' → PE (genX X A' s0 H0 scope (genE X s0 scope code) fp pn) elt te)
    (hgl : Gl X "all" := by rfl) (hco : scope.isCoroutine = false := by rfl) (hcell : ∀ y ∈ scope.names, y.2 ≠ .cell := by decide +kernel) (h0 : scope.names.lookup (".0" : Str) = some NameKind.local := by rfl) (hs : ∀ v, genFold iter X.env v = pure v := by intro _; rfl)
    (hst : starEach [.GeneratorExp elt [⟨tg, iter, [], 0⟩] scope gpos] X.env = (false, eval (.GeneratorExp elt [⟨tg, iter, [], 0⟩] scope gpos) X.env) :: starEach [] X.env := by rfl) :
    PE X (.Call (.Name "all" p) [.GeneratorExp elt [⟨tg, iter, [], 0⟩] scope gpos] [] pos) (tQ P false wi g te (own.map (·.2))) := by
  refine ⟨fun pins s σ H Q I h => ?_⟩
  refine gen_run (sb := false) (id := "all") (fun {Y σ0 fp tn W qs qd a gi} n s5 hpn hqs hqd rd => ?_) hr hgl hm (by decide +kernel) (by decide) (by decide) TB hcode hc hN hi ok hg he hco hcell h0 hs hst I h
  refine call_function_tree F.kind_all F.plain_all F.entry_all (F.args_all1 _) ?_
  unfold Builtin.«all»
  refine wpAny_bind (m := oneArg "all" _) (wpAny_pure ?_)
  refine wpAny_bind (wpAny_pyIter_gen rd.1 ?_)
  exact wpAny_pure ⟨plainId_quiet F.plain_all_loop _, loop_all hpn hr.hd (by have := hr.dp; show X.A.depth < _; omega) hqs hqd n s5 rd⟩
theorem pe_anyG {c P : Addr} {elt tg iter : Expr} {p pos gpos : Pos} {scope : Scope} {own : List (Str × Nat)} {wi : TI} {g : TG} {te : TE} {k : Nat}
    (hr : Room (k + 1) X.A) (hm : X.mg "any" = none) (TB : LamX.TabB X.base X.mg c P) (hcode : X.env.code = .ref c) (hc : X.calm = true) (hN : X.N.Nodup) (hi : PI X tg iter wi) (ok : BlkOk X.N X.env.scope scope own)
    (hg : ∀ (A' : Around) (s0 : Shared) (H0 : Hp) (code : Value) (fp : List Addr) (pn : List (Addr × Obj)), Room k A' → PG (genX X A' s0 H0 scope (genE X s0 scope code) fp pn) tg g)
    (he : ∀ (A' : Around) (s0 : Shared) (H0 : Hp) (code : Value) (fp : List Addr) (pn : List (Addr × Obj)), Room k A' → PE (genX X A' s0 H0 scope (genE X s0 scope code) fp pn) elt te)
    (hgl : Gl X "any" := by rfl) (hco : scope.isCoroutine = false := by rfl) (hcell : ∀ y ∈ scope.names, y.2 ≠ .cell := by decide +kernel) (h0 : scope.names.lookup (".0" : Str) = some NameKind.local := by rfl) (hs : ∀ v, genFold iter X.env v = pure v := by intro _; rfl)
    (hst : starEach [.GeneratorExp elt [⟨tg, iter, [], 0⟩] scope gpos] X.env = (false, eval (.GeneratorExp elt [⟨tg, iter, [], 0⟩] scope gpos) X.env) :: starEach [] X.env := by rfl) :
    PE X (.Call (.Name "any" p) [.GeneratorExp elt [⟨tg, iter, [], 0⟩] scope gpos] [] pos) (tQ P true wi g te (own.map (·.2))) := by
  refine ⟨fun pins s σ H Q I h => ?_⟩
  refine gen_run (sb := true) (id := "any") (fun {Y σ0 fp tn W qs qd a gi} n s5 hpn hqs hqd rd => ?_) hr hgl hm (by decide +kernel) (by decide) (by decide) TB hcode hc hN hi ok hg he hco hcell h0 hs hst I h
  refine call_function_tree F.kind_any F.plain_any F.entry_any (F.args_any1 _) ?_
  unfold Builtin.«any»
  refine wpAny_bind (m := oneArg "any" _) (wpAny_pure ?_)
  refine wpAny_bind (wpAny_pyIter_gen rd.1 ?_)
  exact wpAny_pure ⟨plainId_quiet F.plain_any_loop _, loop_any hpn hr.hd (by have := hr.dp; show X.A.depth < _; omega) hqs hqd n s5 rd⟩
end
/-- the answer of all, any: the first item whose test is the stopping one -/
theorem tQ_walk {J : It} {n : Nat} {G : Hp → Prop} {Y : Nat → Hp → V → Hp → Prop} (w : Walk J n G Y) {g : TG} {te : TE} {σ0 : L2.St} {vs : List Nat} {sb : Bool} {H2 : Hp} {Q : VK} (f : Nat → Bool) (hG : ∀ H', Ex H2 H' → G H')
    (he : ∀ i x H' H'', i < n → Ex H2 H' → Y i H' x H'' → ∀ R : Bool → Hp → Prop, (∀ b H3, b = f i → Ex H2 H3 → R b H3) → g x σ0 H'' fun σ2 H3 => wipe σ2 vs = σ0 ∧ te σ2 H3 fun y H4 => ∃ b, y = .bl b ∧ R b H4)
    (k : ∀ H', Ex H2 H' → Q (.bl (if (List.range n).any (fun i => f i == sb) = true then sb else !sb)) H') :
    ∃ (W : Nat → Nat → Hp → Prop) (m : Nat), W 0 m H2 ∧ GTurn J W g te σ0 vs sb (fun H' => Q (.bl sb) H') (fun H' => Q (.bl (!sb)) H') := by
  refine ⟨fun i m H' => m = n - i ∧ i ≤ n ∧ Ex H2 H' ∧ ∀ j, j < i → (f j == sb) = false, n, ⟨by simp, Nat.zero_le _, Ch.refl _ _, fun j hj => absurd hj (Nat.not_lt_zero j)⟩, ?_⟩
  rintro i m H' ⟨rfl, hi, e, hf⟩
  by_cases hlt : i < n
  · refine .inr ⟨w.goes i H' hlt (hG H' e), fun H3 => Ex H2 H3 ∧ (f i == sb) = false, fun H3 ⟨e3, hfi⟩ => ⟨n - (i + 1), by omega, rfl, hlt, e3, fun j hj => ?_⟩, fun x H3 y => ?_⟩
    · by_cases z : j = i
      · rw [z]
        exact hfi
      · exact hf j (by omega)
    · refine he i x H' H3 hlt e (w.yields i H' x H3 hlt (hG H' e) y) (fun b H4 => if b = sb then Q (.bl sb) H4 else Ex H2 H4 ∧ (f i == sb) = false) fun b H4 eb e4 => ?_
      subst eb
      by_cases z : f i = sb
      · rw [if_pos z]
        have q := k H4 e4
        have hany : (List.range n).any (fun i => f i == sb) = true := List.any_eq_true.mpr ⟨i, List.mem_range.mpr hlt, by simp [z]⟩
        rw [if_pos hany] at q
        exact q
      · rw [if_neg z]
        exact ⟨e4, by simp [z]⟩
  · have e0 : i = n := by omega
    subst e0
    refine .inl ⟨w.stops H' (hG H' e), ?_⟩
    have q := k H' e
    have hany : (List.range i).any (fun j => f j == sb) = false := by
      rw [List.any_eq_false]
      intro j hj
      rw [hf j (List.mem_range.mp hj)]
      exact Bool.false_ne_true
    rw [if_neg (by rw [hany]; exact Bool.false_ne_true)] at q
    exact q
theorem any_stop (n : Nat) (f : Nat → Bool) : (if (List.range n).any (fun i => f i == true) = true then true else !true) = (List.range n).any f := by
  have e : (fun i => f i == true) = f := by
    funext i
    cases f i <;> rfl
  rw [e]
  cases (List.range n).any f <;> rfl
theorem all_stop (n : Nat) (f : Nat → Bool) : (if (List.range n).any (fun i => f i == false) = true then false else !false) = (List.range n).all f := by
  have e : (List.range n).any (fun i => f i == false) = !(List.range n).all f := by
    rw [List.all_eq_not_any_not, Bool.not_not]
    congr 1
    funext i
    cases f i <;> rfl
  rw [e]
  cases (List.range n).all f <;> rfl
theorem range_all {α : Type} (l : List α) (p : α → Bool) (f : Nat → Bool) (h : ∀ i x, l[i]? = some x → f i = p x) : (List.range l.length).all f = l.all p := by
  rw [Bool.eq_iff_iff, List.all_eq_true, List.all_eq_true]
  constructor
  · intro q x hx
    obtain ⟨i, hi, e⟩ := List.getElem_of_mem hx
    rw [← h i x (by rw [List.getElem?_eq_getElem hi, e])]
    exact q i (List.mem_range.mpr hi)
  · intro q i hi
    have hi := List.mem_range.mp hi
    rw [h i _ (List.getElem?_eq_getElem hi)]
    exact q _ (List.getElem_mem hi)
theorem range_any {α : Type} (l : List α) (p : α → Bool) (f : Nat → Bool) (h : ∀ i x, l[i]? = some x → f i = p x) : (List.range l.length).any f = l.any p := by
  rw [Bool.eq_iff_iff, List.any_eq_true, List.any_eq_true]
  constructor
  · rintro ⟨i, hi, q⟩
    have hi := List.mem_range.mp hi
    rw [h i _ (List.getElem?_eq_getElem hi)] at q
    exact ⟨_, List.getElem_mem hi, q⟩
  · rintro ⟨x, hx, q⟩
    obtain ⟨i, hi, e⟩ := List.getElem_of_mem hx
    exact ⟨i, List.mem_range.mpr hi, by rw [h i x (by rw [List.getElem?_eq_getElem hi, e])]; exact q⟩
/-- the table of the def at the i-th place -/
theorem Tabs.at {K : PySem.W.Frag} {H : Hp} (t : Tabs K H) (i : Nat) {p : He.Defn} (h : tf[i]? = some p) : ∃ ps, H (He.cT K p).2 = some (.tbl ps) ∧ TriplesOk ps.toList := t p (List.mem_of_getElem? h)
end Z
set_option Elab.async false
set_option linter.all false
set_option maxRecDepth 100000
set_option maxHeartbeats 4000000
namespace Z
open PySem PySem.Spec PyProof.Rows L2
/-! ### data, told strictly: lists only where A allows -/
mutual
inductive TD (A : Addr → Prop) (H : Hp) : V → PyData → Prop
  | non : TD A H .non .none
  | bl (b : Bool) : TD A H (.bl b) (.bool b)
  | int (i : Int) : TD A H (.int i) (.int i)
  | str (x : Str) : TD A H (.str x) (.str x)
  | lst {a : Addr} {vs : List V} {ds : List PyData} : H a = some (.lst vs) → A a → TDs A H vs ds → TD A H (.ref a) (.list ds)
  | tup {a : Addr} {vs : List V} {ds : List PyData} : H a = some (.tup vs) → TDs A H vs ds → TD A H (.ref a) (.tuple ds)
inductive TDs (A : Addr → Prop) (H : Hp) : List V → List PyData → Prop
  | nil : TDs A H [] []
  | cons {v : V} {d : PyData} {vs : List V} {ds : List PyData} : TD A H v d → TDs A H vs ds → TDs A H (v :: vs) (d :: ds)
end
abbrev NoL : Addr → Prop := fun _ => False
abbrev AnyL : Addr → Prop := fun _ => True
section
variable {A B : Addr → Prop} {H H' : Hp} {S : List Addr} {K : PySem.W.Frag}
mutual
theorem TD.ch (e : Ch S H H') (hS : ∀ x ∈ S, ¬ A x) (hAB : ∀ x, A x → B x) : ∀ (d : PyData) (v : V), TD A H v d → TD B H' v d
  | .none, _, h => by cases h; exact .non
  | .bool b, _, h => by cases h; exact .bl b
  | .int i, _, h => by cases h; exact .int i
  | .str x, _, h => by cases h; exact .str x
  | .list ds, _, h => by
    cases h with
    | lst hs ha hd => exact .lst (e.keep _ _ hs trivial fun z => hS _ z ha) (hAB _ ha) (TDs.ch e hS hAB ds _ hd)
  | .tuple ds, _, h => by
    cases h with
    | tup hs hd => exact .tup (e.tup _ _ hs) (TDs.ch e hS hAB ds _ hd)
  | .dict _, _, h => by cases h
theorem TDs.ch (e : Ch S H H') (hS : ∀ x ∈ S, ¬ A x) (hAB : ∀ x, A x → B x) : ∀ (ds : List PyData) (vs : List V), TDs A H vs ds → TDs B H' vs ds
  | [], _, h => by cases h; exact .nil
  | d :: ds, _, h => by
    cases h with
    | cons h1 h2 => exact .cons (TD.ch e hS hAB d _ h1) (TDs.ch e hS hAB ds _ h2)
end
theorem TD.c {v : V} {d : PyData} (h : TD A H v d) (e : Ch S H H') (hS : ∀ x ∈ S, ¬ A x) : TD A H' v d := TD.ch e hS (fun _ h => h) d v h
theorem TDs.c {v : List V} {d : List PyData} (h : TDs A H v d) (e : Ch S H H') (hS : ∀ x ∈ S, ¬ A x) : TDs A H' v d := TDs.ch e hS (fun _ h => h) d v h
theorem TD.e {v : V} {d : PyData} (h : TD A H v d) (e : Ex H H') : TD A H' v d := h.c e fun x z => nomatch z
theorem TDs.e {v : List V} {d : List PyData} (h : TDs A H v d) (e : Ex H H') : TDs A H' v d := h.c e fun x z => nomatch z
theorem TD.p {v : V} {d : PyData} (h : TD NoL H v d) (e : Ch S H H') : TD NoL H' v d := h.c e fun x _ z => z
theorem TDs.p {v : List V} {d : List PyData} (h : TDs NoL H v d) (e : Ch S H H') : TDs NoL H' v d := h.c e fun x _ z => z
theorem TD.w {v : V} {d : PyData} (h : TD A H v d) (hAB : ∀ x, A x → B x) : TD B H v d := TD.ch (S := []) (Ch.refl _ H) (fun x z => nomatch z) hAB d v h
theorem TDs.w {v : List V} {d : List PyData} (h : TDs A H v d) (hAB : ∀ x, A x → B x) : TDs B H v d := TDs.ch (S := []) (Ch.refl _ H) (fun x z => nomatch z) hAB d v h
theorem TD.any {v : V} {d : PyData} (h : TD A H v d) : TD AnyL H v d := h.w fun _ _ => trivial
theorem TD.no {v : V} {d : PyData} (h : TD NoL H v d) : TD A H v d := h.w fun _ z => z.elim
theorem TDs.no {v : List V} {d : List PyData} (h : TDs NoL H v d) : TDs A H v d := h.w fun _ z => z.elim
mutual
/-- lists only where they are tracked: a smaller set does -/
theorem TD.on : ∀ (d : PyData) (v : V), TD A H v d → TD (fun x => A x ∧ ∃ xs, H x = some (.lst xs)) H v d
  | .none, _, h => by cases h; exact .non
  | .bool b, _, h => by cases h; exact .bl b
  | .int i, _, h => by cases h; exact .int i
  | .str x, _, h => by cases h; exact .str x
  | .list ds, _, h => by
    cases h with
    | lst hs ha hd => exact .lst hs ⟨ha, _, hs⟩ (TDs.on ds _ hd)
  | .tuple ds, _, h => by
    cases h with
    | tup hs hd => exact .tup hs (TDs.on ds _ hd)
  | .dict _, _, h => by cases h
theorem TDs.on : ∀ (ds : List PyData) (vs : List V), TDs A H vs ds → TDs (fun x => A x ∧ ∃ xs, H x = some (.lst xs)) H vs ds
  | [], _, h => by cases h; exact .nil
  | d :: ds, _, h => by
    cases h with
    | cons h1 h2 => exact .cons (TD.on d _ h1) (TDs.on ds _ h2)
end
mutual
theorem TD.dp' : ∀ (d : PyData) (v : V), TD A H v d → Dp K H v d
  | .none, _, h => by cases h; exact .non
  | .bool b, _, h => by cases h; exact .bl b
  | .int i, _, h => by cases h; exact .int i
  | .str x, _, h => by cases h; exact .str x
  | .list ds, _, h => by
    cases h with
    | lst hs ha hd => exact .lst (.inl (.inl hs)) (TDs.dp' ds _ hd)
  | .tuple ds, _, h => by
    cases h with
    | tup hs hd => exact .tup (.inl (.inl hs)) (TDs.dp' ds _ hd)
  | .dict _, _, h => by cases h
theorem TDs.dp' : ∀ (ds : List PyData) (vs : List V), TDs A H vs ds → DpAll K H vs ds
  | [], _, h => by cases h; exact .nil
  | d :: ds, _, h => by
    cases h with
    | cons h1 h2 => exact .cons (TD.dp' d _ h1) (TDs.dp' ds _ h2)
end
theorem TD.dp {v : V} {d : PyData} (h : TD A H v d) : Dp K H v d := TD.dp' d v h
theorem TDs.dp {v : List V} {d : List PyData} (h : TDs A H v d) : DpAll K H v d := TDs.dp' d v h
/-! inversions -/
theorem TD.str_ {v : V} {x : Str} (h : TD A H v (.str x)) : v = .str x := by cases h; rfl
theorem TD.int_ {v : V} {x : Int} (h : TD A H v (.int x)) : v = .int x := by cases h; rfl
theorem TD.bl_ {v : V} {x : Bool} (h : TD A H v (.bool x)) : v = .bl x := by cases h; rfl
theorem TD.tup_ {v : V} {ds : List PyData} (h : TD A H v (.tuple ds)) : ∃ a vs, v = .ref a ∧ H a = some (.tup vs) ∧ TDs A H vs ds := by cases h with | tup h1 h2 => exact ⟨_, _, rfl, h1, h2⟩
theorem TD.lst_ {v : V} {ds : List PyData} (h : TD A H v (.list ds)) : ∃ a vs, v = .ref a ∧ H a = some (.lst vs) ∧ A a ∧ TDs A H vs ds := by cases h with | lst h1 h0 h2 => exact ⟨_, _, rfl, h1, h0, h2⟩
theorem TDs.nil_ {vs : List V} (h : TDs A H vs []) : vs = [] := by cases h; rfl
theorem TDs.cons_ {vs : List V} {d : PyData} {ds : List PyData} (h : TDs A H vs (d :: ds)) : ∃ v ws, vs = v :: ws ∧ TD A H v d ∧ TDs A H ws ds := by cases h with | cons h1 h2 => exact ⟨_, _, rfl, h1, h2⟩
theorem TDs.len : ∀ {ds : List PyData} {vs : List V}, TDs A H vs ds → vs.length = ds.length
  | [], _, h => by cases h; rfl
  | _ :: _, _, h => by cases h with | cons _ h2 => exact congrArg (· + 1) (TDs.len h2)
theorem TDs.at_ : ∀ {ds : List PyData} {vs : List V} {i : Nat} {v : V}, TDs A H vs ds → vs[i]? = some v → ∃ d, ds[i]? = some d ∧ TD A H v d
  | [], _, _, _, h, e => by cases h; cases e
  | d :: _, _, 0, _, h, e => by
    cases h with
    | cons h1 h2 =>
      cases e
      exact ⟨d, rfl, h1⟩
  | _ :: _, _, i + 1, _, h, e => by
    cases h with
    | cons _ h2 =>
      rw [List.getElem?_cons_succ] at e
      simp only [List.getElem?_cons_succ]
      exact TDs.at_ h2 e
theorem TDs.atD : ∀ {ds : List PyData} {vs : List V} {i : Nat} {d : PyData}, TDs A H vs ds → ds[i]? = some d → ∃ v, vs[i]? = some v ∧ TD A H v d
  | [], _, _, _, _, e => nomatch e
  | _ :: _, _, 0, _, h, e => by
    cases h with
    | cons h1 h2 =>
      cases e
      exact ⟨_, rfl, h1⟩
  | _ :: _, _, i + 1, _, h, e => by
    cases h with
    | cons _ h2 =>
      rw [List.getElem?_cons_succ] at e
      simp only [List.getElem?_cons_succ]
      exact TDs.atD h2 e
theorem TDs.atM {α : Type} {f : α → PyData} {xs : List α} {vs : List V} {i : Nat} {v : V} (h : TDs A H vs (xs.map f)) (e : vs[i]? = some v) : ∃ x, xs[i]? = some x ∧ TD A H v (f x) := by
  obtain ⟨d, e1, t⟩ := h.at_ e
  rw [List.getElem?_map] at e1
  cases q : xs[i]? with
  | none => rw [q] at e1; cases e1
  | some x =>
    rw [q] at e1
    cases e1
    exact ⟨x, rfl, t⟩
theorem TDs.app : ∀ {ds ds' : List PyData} {vs vs' : List V}, TDs A H vs ds → TDs A H vs' ds' → TDs A H (vs ++ vs') (ds ++ ds')
  | [], _, _, _, h, h' => by cases h; exact h'
  | _ :: _, _, _, _, h, h' => by cases h with | cons h1 h2 => exact .cons h1 (TDs.app h2 h')
theorem TDs.one {v : V} {d : PyData} (h : TD A H v d) : TDs A H [v] [d] := .cons h .nil
theorem TDs.strs : ∀ (xs : List Str), TDs A H (xs.map V.str) (xs.map PyData.str)
  | [] => .nil
  | x :: xs => .cons (.str x) (TDs.strs xs)
theorem TDs.strs_ : ∀ {xs : List Str} {vs : List V}, TDs A H vs (xs.map PyData.str) → vs = xs.map V.str
  | [], _, h => h.nil_
  | x :: xs, _, h => by
    obtain ⟨v, ws, rfl, h1, h2⟩ := TDs.cons_ h
    rw [h1.str_, TDs.strs_ h2]
    rfl
theorem TDs.ints : ∀ (xs : List Int), TDs A H (xs.map V.int) (xs.map PyData.int)
  | [] => .nil
  | x :: xs => .cons (.int x) (TDs.ints xs)
theorem TDs.ints_ : ∀ {xs : List Int} {vs : List V}, TDs A H vs (xs.map PyData.int) → vs = xs.map V.int
  | [], _, h => h.nil_
  | x :: xs, _, h => by
    obtain ⟨v, ws, rfl, h1, h2⟩ := TDs.cons_ h
    rw [h1.int_, TDs.ints_ h2]
    rfl
end
/-! ### comprehensions -/
/-- lists that H does not know -/
abbrev Fr (H : Hp) : Addr → Prop := fun x => H x = none
section
variable {K : PySem.W.Frag} {J : It} {n : Nat} {Y : Nat → Hp → V → Hp → Prop} {G : Hp → Prop} {g : TG} {tt : TT} {te : TE} {vs : List Nat} {σ : L2.St} {H1 : Hp} {D : Addr} {Qd : Hp → Prop}
theorem Ex.fr {H H' : Hp} (e : Ex H H') {x : Addr} (h : H' x = none) : H x = none := e.free h
/-- a list comprehension over a walk whose items are told by ds: ds i, what was made of the first i -/
theorem lcW (w : Walk J n G Y) (hn : n ≤ sizeLine) (hD : H1 D = none) (hG : ∀ H', Ex H1 H' → G H') (ds : Nat → List PyData) (d0 : ds 0 = []) (hl : ∀ i, (ds i).length ≤ i)
    (hs : ∀ i v H H' (P : V → Hp → Prop) (P0 : Hp → Prop), i < n → Ex H1 H → Y i H v H' → (∀ y H4 d, Ex H H4 → TD (Fr H) H4 y d → ds (i + 1) = ds i ++ [d] → P y H4) → (∀ H3, Ex H H3 → ds (i + 1) = ds i → P0 H3) →
      g v (wipe σ vs) H' fun σ2 H2 => wipe σ2 vs = wipe σ vs ∧ tt σ2 H2 fun b H3 => if b = true then te σ2 H3 P else P0 H3)
    (hd : ∀ H' xs, Ex H1 H' → H' D = some (.lst xs) → TDs (fun x => H1 x = none ∧ x ≠ D) H' xs (ds n) → Qd H') :
    ∃ W : Nat → Nat → Hp → Prop, (∃ m, W 0 m (upd H1 D (.lst []))) ∧ ∀ i m H, W i m H →
      (J.stop i H ∧ Qd H) ∨ (J.go i H ∧ ∃ Nx : Hp → Prop, (∀ H', Nx H' → ∃ m', m' < m ∧ W (i + 1) m' H') ∧ ∀ x H', J.yld i H x H' → g x (wipe σ vs) H' fun σ2 H2 => wipe σ2 vs = wipe σ vs ∧ tt σ2 H2 fun b H3 =>
        if b = true then te σ2 H3 fun y H4 => ∃ acc, H4 D = some (.lst acc) ∧ acc.length < sizeLine ∧ Nx (upd H4 D (.lst (acc ++ [y]))) else Nx H3) := by
  refine lc_it w (fun i H => Ex H1 H ∧ ∃ xs, H D = some (.lst xs) ∧ TDs (fun x => H1 x = none ∧ x ≠ D) H xs (ds i)) ?_ ?_ ?_ ?_
  · refine ⟨Ex.new hD, [], upd_same, ?_⟩
    rw [d0]
    exact .nil
  · exact fun i H _ p => hG H p.1
  · rintro i x H H' hi ⟨e, xs, hx, ht⟩ hy
    refine hs i x H H' _ _ hi e hy (fun y H4 d e4 td ed => ?_) (fun H3 e3 ed => ?_)
    · have h4 : H4 D = some (.lst xs) := e4.at hx
      have c4 : Ch [D] H4 (upd H4 D (.lst (xs ++ [y]))) := Ch.put h4
      have nD : ∀ z ∈ [D], ¬ (H1 z = none ∧ z ≠ D) := fun z hz k => k.2 (List.mem_singleton.mp hz)
      refine ⟨xs, h4, by rw [ht.len]; have := hl i; omega, ?_, xs ++ [y], upd_same, ?_⟩
      · refine ((e.trans e4).wk.trans c4).drop fun z hz => .inr ?_
        rw [List.mem_singleton.mp hz]
        exact hD
      · rw [ed]
        refine TDs.app ((ht.e e4).c c4 nD) (.one ?_)
        refine TD.c (td.w fun z hz => ⟨e.free hz, fun k => ?_⟩) c4 nD
        have hz' : H z = none := hz
        rw [k, hx] at hz'
        cases hz'
    · refine ⟨e.trans e3, xs, e3.at hx, ?_⟩
      rw [ed]
      exact ht.e e3
  · rintro H ⟨e, xs, hx, ht⟩
    exact hd H xs e hx ht
end
theorem take_next {α : Type} {xs : List α} {i : Nat} {x : α} (h : xs[i]? = some x) : xs.take (i + 1) = xs.take i ++ [x] := by
  rw [List.take_succ, h]
  rfl
end Z
set_option Elab.async false
set_option linter.all false
set_option maxRecDepth 100000
set_option maxHeartbeats 4000000
namespace Z
open PySem PySem.Spec PyProof.Rows L2
/-! ### what is told of a heap, later -/
theorem exO {H H2 : Hp} {p : Addr} {o : HO} (hp : H p = none) (h : upd H p o = H2) : Ex H H2 ∧ H2 p = some o := by
  subst h
  exact ⟨Ex.new hp, upd_same⟩
theorem chO {H H2 : Hp} {p : Addr} {o u : HO} (hp : H p = some u) (n : Mu u) (h : upd H p o = H2) : Ch [p] H H2 ∧ H2 p = some o := by
  subst h
  exact ⟨Ch.put hp n, upd_same⟩
theorem exO2 {H H2 : Hp} {x dx : Addr} {o u : HO} (hx : H x = none) (hd : H dx = none) (n : dx ≠ x) (h : upd (upd H dx u) x o = H2) : Ex H H2 ∧ H2 x = some o := by
  subst h
  refine ⟨(Ex.new hd).trans (Ex.new ?_), upd_same⟩
  rw [upd_ne (Ne.symm n)]
  exact hx
theorem at_ {H H' : Hp} {b : Addr} {o : HO} (h : H b = some o) (e : Ex H H') (n : NT o := by trivial) : H' b = some o := e.at h n
theorem atL_ {H H' : Hp} {b : Addr} {xs : List V} (h : H b = some (.lst xs)) (e : Ex H H') : H' b = some (.lst xs) := e.at h
theorem atN_ {H H' : Hp} {b C d : Addr} {xs : List (Str × V)} (h : H b = some (.ins C d xs)) (e : Ex H H') : H' b = some (.ins C d xs) := e.at h
theorem atK_ {H H' : Hp} {b : Addr} {xs : List (Key × V)} (h : H b = some (.dK xs)) (e : Ex H H') : H' b = some (.dK xs) := e.at h
theorem atD_ {H H' : Hp} {b : Addr} {xs : List (List Key × V)} (h : H b = some (.dT xs)) (e : Ex H H') : H' b = some (.dT xs) := e.at h
theorem atF_ {H H' : Hp} {b : Addr} {o : Obj} {u : HO} (h : H b = some (.frz o u)) (e : Ex H H') : H' b = some (.frz o u) := e.at h
theorem tabs_ {K : PySem.W.Frag} {S : List Addr} {H H' : Hp} (t : Tabs K H) (e : Ch S H H') : Tabs K H' := e.tabs t
theorem atT_ {S : List Addr} {H H' : Hp} {b : Addr} {xs : List V} (h : H b = some (.tup xs)) (e : Ch S H H') : H' b = some (.tup xs) := e.tup b xs h
/-- a loop's turns -/
def FW (J : It) (g : TG) (tb : TS) (D : Ends) (σ : L2.St) (H1 : Hp) : Prop := ∃ W : Nat → Nat → L2.St → Hp → Prop, (∃ m, W 0 m σ H1) ∧ ∀ i m σ H, W i m σ H →
  (J.stop i H ∧ D.nx σ H) ∨ (J.go i H ∧ ∃ N : L2.St → Hp → Prop, (∀ σ' H', N σ' H' → ∃ m', m' < m ∧ W (i + 1) m' σ' H') ∧ ∀ x H', J.yld i H x H' → g x σ H' fun σ2 H2 => tb { D with nx := N, ct := N, bk := D.nx } σ2 H2)
/-! ### more rules of readings -/
section
variable {K : PySem.W.Frag} {σ : L2.St} {H : Hp} {D : Ends} {te ta tb td ty tv tx tl : TE} {tt : TT} {t : TS} {Q : VK} {R : It → Hp → Prop} {tr : TA} {v : V} {g : TG} {i : Nat}
theorem gIxS {z : Str} {i : Int} {c : Nat} (hz : z.length ≤ sizeLine) (hc : atI z.cps.toList i = some c) (q : Q (.str ⟨#[c]⟩) H) : rIxS (.str z) (.int i) H Q := ⟨z, i, c, rfl, rfl, hz, hc, q⟩
theorem gIxL {p : Addr} {xs : List V} {i : Int} (h : H p = some (.lst xs)) (hi : atI xs i = some v) (q : Q v H) : rIxL K (.ref p) (.int i) H Q := ⟨p, xs, i, v, rfl, rfl, .inl (.inl h), hi, q⟩
theorem gIxT {p : Addr} {xs : List V} {i : Int} (h : H p = some (.tup xs)) (hi : atI xs i = some v) (q : Q v H) : rIxT K (.ref p) (.int i) H Q := ⟨p, xs, i, v, rfl, rfl, .inl (.inl h), hi, q⟩
theorem gTgT {n : Nat} {ts : TGs} {p : Addr} {xs : List V} {QS : L2.St → Hp → Prop} (h : H p = some (.tup xs)) (hl : xs.length = n) (q : ts xs σ H QS) : L2.gTup K n ts (.ref p) σ H QS := ⟨p, xs, rfl, .inl (.inl h), hl, q⟩
theorem gFldR {f : Str} (h : ta σ H fun x H1 => ∃ a C dx fs v, x = .ref a ∧ H1 a = some (.ins C dx fs) ∧ Cls K C ∧ NoAttr K C f ∧ fs.lookup f = some v ∧ Q v H1) : tFld K ta f σ H Q := h
theorem gFldS {f : Str} (h : tv σ H fun y H1 => ta σ H1 fun x H2 => ∃ a C dx fs, x = .ref a ∧ H2 a = some (.ins C dx fs) ∧ Cls K C ∧ NoAttr K C f ∧ fs.length < 1000 ∧ D.nx σ (upd H2 a (.ins C dx (putF f y fs)))) : sFld K ta tv f D σ H := h
theorem gFldA {f : Str} {rd : V → V → Hp → VK → Prop} (h : ta σ H fun x H1 => ∃ a C dx fs v, x = .ref a ∧ H1 a = some (.ins C dx fs) ∧ Cls K C ∧ NoAttr K C f ∧ fs.lookup f = some v ∧
  tv σ H1 fun y H2 => rd v y H2 fun z H3 => ∃ dx' fs', H3 a = some (.ins C dx' fs') ∧ fs'.length < 1000 ∧ D.nx σ (upd H3 a (.ins C dx' (putF f z fs')))) : sFldAug K ta tv rd f D σ H := h
theorem gMeth {C : Addr} {m : Str} {sp : Sp} {dvs : List V} {E : XK} (h : ta σ H fun x H1 => ∃ a dx fs, x = .ref a ∧ H1 a = some (.ins C dx fs) ∧ fs.lookup m = none ∧ tr σ H1 fun vs H2 => sp (x :: (vs ++ dvs)) H2 Q E) : tMeth C m sp dvs E ta tr σ H Q := h
theorem gMake {C : Addr} {sp : Sp} {dvs : List V} {E : XK} (h : tr σ H fun vs H1 => ∀ x dx, H1 x = none → H1 dx = none → dx ≠ x → sp (.ref x :: (vs ++ dvs)) (upd (upd H1 dx (.own x)) x (.ins C dx [])) (fun v H2 => v = .non ∧ Q (.ref x) H2) E) : tMake C sp dvs E tr σ H Q := h
theorem gAddI {a b : Int} (h : Q (.int (a + b)) H) : rAdd (.int a) (.int b) H Q := ⟨a, b, rfl, rfl, h⟩
theorem gSubI {a b : Int} (h : Q (.int (a - b)) H) : rSub (.int a) (.int b) H Q := ⟨a, b, rfl, rfl, h⟩
theorem gUn {r : V → Hp → VK → Prop} (h : ta σ H fun x H1 => r x H1 Q) : tUn r ta σ H Q := h
theorem gU {f : Int → V} {a : Int} (h : Q (f a) H) : rU f (.int a) H Q := ⟨a, rfl, h⟩
theorem gIsN1 {x : V} (h : Q (.bl (decide (x = .non))) H) : rIsN x .non H Q := ⟨rfl, h⟩
theorem gNotN1 {x : V} (h : Q (.bl (!decide (x = .non))) H) : rNotN x .non H Q := ⟨rfl, h⟩
theorem gIsNr {a : Addr} (h : Q (.bl false) H) : rIsN (.ref a) .non H Q := ⟨rfl, by rw [decide_eq_false (fun z => nomatch z)]; exact h⟩
theorem gNotNr {a : Addr} (h : Q (.bl true) H) : rNotN (.ref a) .non H Q := ⟨rfl, by rw [decide_eq_false (fun z => nomatch z)]; exact h⟩
theorem gIsNi {a : Int} (h : Q (.bl false) H) : rIsN (.int a) .non H Q := ⟨rfl, by rw [decide_eq_false (fun z => nomatch z)]; exact h⟩
theorem gNotNi {a : Int} (h : Q (.bl true) H) : rNotN (.int a) .non H Q := ⟨rfl, by rw [decide_eq_false (fun z => nomatch z)]; exact h⟩
theorem gIsNn (h : Q (.bl true) H) : rIsN .non .non H Q := ⟨rfl, by rw [decide_eq_true rfl]; exact h⟩
theorem gNotNn (h : Q (.bl false) H) : rNotN .non .non H Q := ⟨rfl, by rw [decide_eq_true rfl]; exact h⟩
theorem gApp {l : Addr} {xs : List V} {y : V} (h : H l = some (.lst xs)) (hl : xs.length < sizeLine) (q : ∀ H2, Ch [l] H H2 → H2 l = some (.lst (xs ++ [y])) → Q .non H2) : rAppend (.ref l) [y] H Q := ⟨l, xs, y, rfl, rfl, h, hl, q _ (Ch.put h) upd_same⟩
theorem gExt {l b : Addr} {xs zs : List V} (h : H l = some (.lst xs)) (hb : H b = some (.lst zs)) (hl : xs.length + zs.length ≤ sizeLine) (q : ∀ H2, Ch [l] H H2 → H2 l = some (.lst (xs ++ zs)) → Q .non H2) : rExtend (.ref l) [.ref b] H Q :=
  ⟨l, b, xs, zs, rfl, rfl, h, hb, hl, q _ (Ch.put h) upd_same⟩
theorem gCatL {l b : Addr} {xs zs : List V} (h : H l = some (.lst xs)) (hb : H b = some (.lst zs)) (hl : xs.length + zs.length ≤ sizeLine) (q : ∀ p H2, Ex H H2 → H2 p = some (.lst (xs ++ zs)) → Q (.ref p) H2) : rCat (.ref l) (.ref b) H Q :=
  ⟨l, b, xs, zs, rfl, rfl, h, hb, hl, fun p hp => q p _ (Ex.new hp) upd_same⟩
theorem gInL {p : Addr} {xs : List V} {x : V} (h : H p = some (.lst xs)) (fx : flatV x = true) (fs : xs.all flatV = true) (q : Q (.bl (inV x xs)) H) : rIn K false x (.ref p) H Q := ⟨p, xs, rfl, .inl (.inl (.inl h)), fx, fs, q⟩
theorem gInT {p : Addr} {xs : List V} {x : V} (h : H p = some (.tup xs)) (fx : flatV x = true) (fs : xs.all flatV = true) (q : Q (.bl (inV x xs)) H) : rIn K false x (.ref p) H Q := ⟨p, xs, rfl, .inr (.inl (.inl h)), fx, fs, q⟩
theorem gNotInL {p : Addr} {xs : List V} {x : V} (h : H p = some (.lst xs)) (fx : flatV x = true) (fs : xs.all flatV = true) (q : Q (.bl (!inV x xs)) H) : rIn K true x (.ref p) H Q := ⟨p, xs, rfl, .inl (.inl (.inl h)), fx, fs, q⟩
theorem gNotInT {p : Addr} {xs : List V} {x : V} (h : H p = some (.tup xs)) (fx : flatV x = true) (fs : xs.all flatV = true) (q : Q (.bl (!inV x xs)) H) : rIn K true x (.ref p) H Q := ⟨p, xs, rfl, .inr (.inl (.inl h)), fx, fs, q⟩
theorem gSl {r : V → Option Int → Option Int → Hp → VK → Prop} {tl th : TO} (h : te σ H fun x H1 => tl σ H1 fun l H2 => th σ H2 fun u H3 => r x l u H3 Q) : tSl r te tl th σ H Q := h
theorem gPartN {Qo : Option Int → Hp → Prop} {e : TE} (h : e σ H fun x H1 => ∃ i, x = .int i ∧ Qo (some i) H1) : tPart e σ H Qo := h
theorem gSlL {a : Addr} {xs : List V} {lo hi : Option Int} (h : H a = some (.lst xs)) (q : ∀ p H2, H p = none → Ex H H2 → H2 p = some (.lst (cutV xs lo hi)) → Q (.ref p) H2) : rSlL K (.ref a) lo hi H Q := ⟨a, xs, rfl, .inl (.inl h), fun p hp => q p _ hp (Ex.new hp) upd_same⟩
theorem gFmtS (h : te σ H fun x H1 => (∃ y : Str, x = .str y ∧ y.length ≤ sizeLine ∧ Q (.str y) H1) ∨ ∃ i : Int, x = .int i ∧ i.natAbs.log2 < 1920 ∧ Q (.str (toString i)) H1) : tFmt te σ H Q := h
theorem gJsN {acc : Str} {Q : Str → Hp → Prop} (h : Q acc H) : tJs [] acc σ H Q := h
theorem gJsC {t : TE} {ts : List TE} {acc : Str} {Q : Str → Hp → Prop} (h : t σ H fun x H1 => ∃ y : Str, x = .str y ∧ (acc ++ y).length ≤ sizeLine ∧ tJs ts (acc ++ y) σ H1 Q) : tJs (t :: ts) acc σ H Q := h
theorem gIL (h : tl σ H fun x H1 => ∃ a, x = .ref a ∧ (∃ xs, SqL K H1 a xs) ∧ R (Itl K a) H1) : iList K tl σ H R := h
theorem gIT (h : tl σ H fun x H1 => ∃ a, x = .ref a ∧ (∃ xs, SqT K H1 a xs) ∧ R (Itt K a) H1) : iTup K tl σ H R := h
theorem gIE {ta : TA} (h : ta σ H fun vs H1 => ∃ a xs, vs = [.ref a] ∧ SqL K H1 a xs ∧ R (Ite K a) H1) : iEnum K ta σ H R := h
theorem gIS (h : te σ H fun v H1 => ∃ x, v = .str x ∧ R (Its x) H1) : iStr te σ H R := h
theorem gFor {wi : TI} {tb : TS} (h : wi σ H fun J H1 => FW J g tb D σ H1) : tFor wi g tb D σ H := h
theorem gLc {wi : TI} {vs : List Nat} (h : wi σ H fun J H1 => ∀ D, H1 D = none → ∃ W : Nat → Nat → Hp → Prop, (∃ m, W 0 m (upd H1 D (.lst []))) ∧ ∀ i m H, W i m H →
  (J.stop i H ∧ Q (.ref D) H) ∨ (J.go i H ∧ ∃ Nx : Hp → Prop, (∀ H', Nx H' → ∃ m', m' < m ∧ W (i + 1) m' H') ∧ ∀ x H', J.yld i H x H' → g x (wipe σ vs) H' fun σ2 H2 => wipe σ2 vs = wipe σ vs ∧ tt σ2 H2 fun b H3 =>
    if b = true then te σ2 H3 fun y H4 => ∃ acc, H4 D = some (.lst acc) ∧ acc.length < sizeLine ∧ Nx (upd H4 D (.lst (acc ++ [y]))) else Nx H3)) : tLc wi g tt te vs σ H Q := h
theorem gYes {QT : Bool → Hp → Prop} (h : QT true H) : tYes σ H QT := h
end
theorem cxK {CX : CXT} {P : Program} {w : World} {K : PySem.W.Frag} {mg : Str → Option Value} {base : Heap} {N : List Str} {x : Str} {sc : Scope} {a : Addr} {cdv : Value} {A : Around} {o : List Env} {s : Shared} {H : Hp} {E : XK} : (cxOf CX P w K mg base N x sc a cdv A o s H E).K = K := rfl
theorem gGN {QS : L2.St → Hp → Prop} {σ : L2.St} {H : Hp} (h : QS σ H) : L2.gNil [] σ H QS := ⟨rfl, h⟩
theorem gGC {t : TG} {u : TGs} {v : V} {r : List V} {QS : L2.St → Hp → Prop} {σ : L2.St} {H : Hp} (h : t v σ H fun σ' H' => u r σ' H' QS) : L2.gCons t u (v :: r) σ H QS := ⟨v, r, rfl, h⟩
theorem atI_0 {α : Type} {c : α} {r : List α} : atI (c :: r) 0 = some c := by simp [atI, ixN]
theorem atI_last {α : Type} {xs : List α} {x : α} : atI (xs ++ [x]) (-1) = some x := by
  have q : ixN (xs ++ [x]).length (-1) = some xs.length := by
    unfold ixN
    rw [if_neg (by decide), List.length_append, List.length_singleton, if_pos (by omega)]
    congr 1
    omega
  unfold atI
  rw [q]
  simp
theorem atI_nat {α : Type} {xs : List α} {i : Nat} {x : α} (h : xs[i]? = some x) : atI xs (i : Int) = some x := by
  have hi : i < xs.length := by
    rcases Nat.lt_or_ge i xs.length with q | q
    · exact q
    · rw [List.getElem?_eq_none q] at h
      cases h
  have q : ixN xs.length (i : Int) = some i := by simp [ixN, hi]
  unfold atI
  rw [q]
  exact h
theorem len_le {xs : List V} (h : Nat.ble xs.length sizeLine = true) : xs.length ≤ sizeLine := Nat.le_of_ble_eq_true h
theorem ifT {p q : Prop} (h : p) : if true = true then p else q := by rw [if_pos rfl]; exact h
theorem ifF {p q : Prop} (h : q) : if false = true then p else q := by rw [if_neg Bool.false_ne_true]; exact h
theorem ifTn {p q : Prop} (h : q) : if (!true) = true then p else q := by simpa using h
theorem ifFn {p q : Prop} (h : p) : if (!false) = true then p else q := by simpa using h
theorem ifn {b : Bool} {A B : Prop} (h1 : b = false → A) (h2 : b = true → B) : if (!b) = true then A else B := by
  cases b with
  | true => exact ifTn (h2 rfl)
  | false => exact ifFn (h1 rfl)
theorem tyL {K : PySem.W.Frag} {H : Hp} {l : Addr} {xs : List V} (h : H l = some (.lst xs)) : tyV K "list" (.ref l) H := .inl ⟨rfl, _, .inl (.inl h)⟩
theorem exD {H H' H3 : Hp} {L : Addr} (e : Ex H H') (hL : H L = none) (e3 : Ch [L] H' H3) : Ex H H3 := (e.wk.trans e3).drop fun z hz => .inr (by rw [List.mem_singleton.mp hz]; exact hL)
theorem sqOrL {K : PySem.W.Frag} {H : Hp} {p : Addr} {xs : List V} (h : H p = some (.lst xs)) : SqL K H p xs ∨ SqT K H p xs := .inl (.inl (.inl h))
theorem sqOrT {K : PySem.W.Frag} {H : Hp} {p : Addr} {xs : List V} (h : H p = some (.tup xs)) : SqL K H p xs ∨ SqT K H p xs := .inr (.inl (.inl h))
theorem gNoPart {σ : L2.St} {H : Hp} {Q : Option Int → Hp → Prop} (h : Q none H) : tNoPart σ H Q := h
theorem truL {K : PySem.W.Frag} {H : Hp} {l : Addr} {xs : List V} (h : H l = some (.lst xs)) : TruV K (.ref l) H (!xs.isEmpty) := .inl ⟨xs, .inl (.inl h), rfl⟩
theorem sqL_ {K : PySem.W.Frag} {H : Hp} {l : Addr} {xs : List V} (h : H l = some (.lst xs)) : SqL K H l xs := .inl (.inl h)
theorem sqT_ {K : PySem.W.Frag} {H : Hp} {l : Addr} {xs : List V} (h : H l = some (.tup xs)) : SqT K H l xs := .inl (.inl h)
theorem Ch.at1 {L : Addr} {H H' : Hp} (e : Ch [L] H H') {b : Addr} {o : HO} (h : H b = some o) (hne : b ≠ L) (n : NT o := by trivial) : H' b = some o := e.keep b o h n fun z => hne (List.mem_singleton.mp z)
theorem gSlT {K : PySem.W.Frag} {H : Hp} {Q : VK} {a : Addr} {xs : List V} {lo hi : Option Int} (h : H a = some (.tup xs)) (hne : ¬ (HT.sIx xs.length 0 lo = 0 ∧ HT.sIx xs.length xs.length hi = xs.length))
    (q : ∀ p H2, H p = none → Ex H H2 → H2 p = some (.tup (cutV xs lo hi)) → Q (.ref p) H2) : rSlA K (.ref a) lo hi H Q := ⟨a, xs, rfl, .inl (.inl h), fun z => absurd z hne, fun _ p hp => q p _ hp (Ex.new hp) upd_same⟩
theorem exI {H : Hp} {P : Hp → Prop} (h : ∀ H', Ex H H' → P H') : ∀ H', Ex H H' → P H' := h
theorem exT {H : Hp} {o : HO} {P : Addr → Hp → Prop} (h : ∀ p H', Ex H H' → H p = none → H' p = some o → P p H') : ∀ p H', Ex H H' → H p = none → H' p = some o → P p H' := h
theorem exV {H : Hp} {A : Addr → Prop} {d : PyData} {P : V → Hp → Prop} (h : ∀ v H', Ex H H' → TD A H' v d → P v H') : ∀ v H', Ex H H' → TD A H' v d → P v H' := h
theorem gPartition {H : Hp} {x b : Str} {Q : VK} (hb : (b.length == 0) = false) (hx : x.length ≤ sizeLine)
    (q : ∀ p H2, H p = none → Ex H H2 → H2 p = some (.tup [.str (Txt.partition x b).1, .str (Txt.partition x b).2.1, .str (Txt.partition x b).2.2]) → Q (.ref p) H2) :
    ∃ a b', V.str x = .str a ∧ [V.str b] = [.str b'] ∧ (b'.length == 0) = false ∧ a.length ≤ sizeLine ∧
      ∀ p, H p = none → Q (.ref p) (upd H p (.tup [.str (Txt.partition a b').1, .str (Txt.partition a b').2.1, .str (Txt.partition a b').2.2])) :=
  ⟨x, b, rfl, rfl, hb, hx, fun p hp => q p _ hp (Ex.new hp) upd_same⟩
theorem blT {b : Bool} {p q : Prop} (h : b = true) (k : p) : if b = true then p else q := by rw [if_pos h]; exact k
theorem blF {b : Bool} {p q : Prop} (h : b = false) (k : q) : if b = true then p else q := by rw [if_neg (by rw [h]; exact Bool.false_ne_true)]; exact k
/-! ### any, all -/
section
variable {K : PySem.W.Frag} {g : TG} {te : TE} {σ0 : L2.St} {vs : List Nat} {H H2 : Hp} {Q : VK}
/-- a turn of any, all; what is wanted told once -/
def GT (J : It) (W : Nat → Nat → Hp → Prop) (g : TG) (te : TE) (σ0 : L2.St) (vs : List Nat) (sb : Bool) (Q : VK) : Prop := GTurn J W g te σ0 vs sb (fun H' => Q (.bl sb) H') (fun H' => Q (.bl (!sb)) H')
theorem gTQ {P : Addr} {sb : Bool} {wi : TI} {σ : L2.St} (h : wi σ H fun J H1 => (∃ ps, H1 P = some (.tbl ps) ∧ TriplesOk ps.toList) ∧ ∀ H2, Ex H1 H2 → (∀ b, b ≠ P → H2 b = H1 b) →
    ∃ (W : Nat → Nat → Hp → Prop) (m : Nat), W 0 m H2 ∧ GT J W g te (wipe σ vs) vs sb Q) : tQ P sb wi g te vs σ H Q := h
theorem tQ_ {P : Addr} {sb : Bool} {wi : TI} {σ : L2.St} (h : wi σ H fun J H1 => (∃ ps, H1 P = some (.tbl ps) ∧ TriplesOk ps.toList) ∧ ∀ H2, Ex H1 H2 →
    ∃ (W : Nat → Nat → Hp → Prop) (m : Nat), W 0 m H2 ∧ GTurn J W g te (wipe σ vs) vs sb (fun H' => Q (.bl sb) H') (fun H' => Q (.bl (!sb)) H'))
  (mono : ∀ R R' : It → Hp → Prop, (∀ J H1, R J H1 → R' J H1) → wi σ H R → wi σ H R') : tQ P sb wi g te vs σ H Q := mono _ _ (fun J H1 q => ⟨q.1, fun H2 e _ => q.2 H2 e⟩) h
theorem all_strW {z : Str} (p : Nat → Bool)
    (he : ∀ c H', c ∈ z.cps.toList → Ex H2 H' → ∀ R : Bool → Hp → Prop, (∀ H3, Ex H' H3 → R (p c) H3) → g (.str ⟨#[c]⟩) σ0 H' fun σ2 H3 => wipe σ2 vs = σ0 ∧ te σ2 H3 fun y H4 => ∃ b, y = .bl b ∧ R b H4)
    (k : ∀ H', Ex H2 H' → Q (.bl (z.cps.toList.all p)) H') :
    ∃ (W : Nat → Nat → Hp → Prop) (m : Nat), W 0 m H2 ∧ GT (Its z) W g te σ0 vs false Q := by
  refine tQ_walk walk_str (fun i => match z.cps[i]? with | some c => p c | none => true) (fun _ _ => trivial) ?_ ?_
  · rintro i x H' H'' hi e ⟨rfl, c, hc, rfl⟩ R hR
    refine he c H'' (by rw [← Array.getElem?_toList] at hc; exact List.mem_of_getElem? hc) e R fun H3 e3 => hR _ H3 ?_ (e.trans e3)
    rw [hc]
  · intro H' e
    rw [all_stop, ← Array.length_toList, range_all z.cps.toList p _ (fun i x hx => ?_)]
    · exact k H' e
    · rw [Array.getElem?_toList] at hx
      show (match z.cps[i]? with | some c => p c | none => true) = p x
      rw [hx]
theorem any_strW {z : Str} (p : Nat → Bool)
    (he : ∀ c H', c ∈ z.cps.toList → Ex H2 H' → ∀ R : Bool → Hp → Prop, (∀ H3, Ex H' H3 → R (p c) H3) → g (.str ⟨#[c]⟩) σ0 H' fun σ2 H3 => wipe σ2 vs = σ0 ∧ te σ2 H3 fun y H4 => ∃ b, y = .bl b ∧ R b H4)
    (k : ∀ H', Ex H2 H' → Q (.bl (z.cps.toList.any p)) H') :
    ∃ (W : Nat → Nat → Hp → Prop) (m : Nat), W 0 m H2 ∧ GT (Its z) W g te σ0 vs true Q := by
  refine tQ_walk walk_str (fun i => match z.cps[i]? with | some c => p c | none => true) (fun _ _ => trivial) ?_ ?_
  · rintro i x H' H'' hi e ⟨rfl, c, hc, rfl⟩ R hR
    refine he c H'' (by rw [← Array.getElem?_toList] at hc; exact List.mem_of_getElem? hc) e R fun H3 e3 => hR _ H3 ?_ (e.trans e3)
    rw [hc]
  · intro H' e
    rw [any_stop, ← Array.length_toList, range_any z.cps.toList p _ (fun i x hx => ?_)]
    · exact k H' e
    · rw [Array.getElem?_toList] at hx
      show (match z.cps[i]? with | some c => p c | none => true) = p x
      rw [hx]
section
variable {α : Type} {xs : List α} {ws : List V} {a : Addr}
theorem fmatch (p : α → Bool) (i : Nat) (x : α) (h : xs[i]? = some x) : (match xs[i]? with | some c => p c | none => true) = p x := by rw [h]
theorem all_W {J : It} {G : Hp → Prop} (p : α → Bool) (w : Walk J ws.length G (YAt ws)) (hl : ws.length = xs.length) (hG : ∀ H', Ex H2 H' → G H')
    (he : ∀ (i : Nat) x v H', xs[i]? = some x → ws[i]? = some v → Ex H2 H' → ∀ R : Bool → Hp → Prop, (∀ H3, Ex H' H3 → R (p x) H3) → g v σ0 H' fun σ2 H3 => wipe σ2 vs = σ0 ∧ te σ2 H3 fun y H4 => ∃ b, y = .bl b ∧ R b H4)
    (k : ∀ H', Ex H2 H' → Q (.bl (xs.all p)) H') :
    ∃ (W : Nat → Nat → Hp → Prop) (m : Nat), W 0 m H2 ∧ GT J W g te σ0 vs false Q := by
  refine tQ_walk w (fun i => match xs[i]? with | some c => p c | none => true) hG ?_ ?_
  · rintro i v H' H'' hi e ⟨rfl, hv⟩ R hR
    obtain ⟨x, hx⟩ : ∃ x, xs[i]? = some x := ⟨xs[i]'(by rw [← hl]; exact hi), List.getElem?_eq_getElem _⟩
    exact he i x v H'' hx hv e R fun H3 e3 => hR _ H3 (fmatch p i x hx).symm (e.trans e3)
  · intro H' e
    rw [all_stop, hl, range_all xs p _ (fun i x hx => fmatch p i x hx)]
    exact k H' e
theorem any_W {J : It} {G : Hp → Prop} (p : α → Bool) (w : Walk J ws.length G (YAt ws)) (hl : ws.length = xs.length) (hG : ∀ H', Ex H2 H' → G H')
    (he : ∀ (i : Nat) x v H', xs[i]? = some x → ws[i]? = some v → Ex H2 H' → ∀ R : Bool → Hp → Prop, (∀ H3, Ex H' H3 → R (p x) H3) → g v σ0 H' fun σ2 H3 => wipe σ2 vs = σ0 ∧ te σ2 H3 fun y H4 => ∃ b, y = .bl b ∧ R b H4)
    (k : ∀ H', Ex H2 H' → Q (.bl (xs.any p)) H') :
    ∃ (W : Nat → Nat → Hp → Prop) (m : Nat), W 0 m H2 ∧ GT J W g te σ0 vs true Q := by
  refine tQ_walk w (fun i => match xs[i]? with | some c => p c | none => true) hG ?_ ?_
  · rintro i v H' H'' hi e ⟨rfl, hv⟩ R hR
    obtain ⟨x, hx⟩ : ∃ x, xs[i]? = some x := ⟨xs[i]'(by rw [← hl]; exact hi), List.getElem?_eq_getElem _⟩
    exact he i x v H'' hx hv e R fun H3 e3 => hR _ H3 (fmatch p i x hx).symm (e.trans e3)
  · intro H' e
    rw [any_stop, hl, range_any xs p _ (fun i x hx => fmatch p i x hx)]
    exact k H' e
end
end
end Z
set_option Elab.async false
set_option linter.all false
set_option maxRecDepth 100000
set_option maxHeartbeats 4000000
namespace Z
open PySem PySem.Spec PyProof.Rows L2
/-! ### steps found by the goal's head -/
class Stp (P : Prop) (R : outParam Prop) : Prop where
  go : R → P
theorem isEx {α : Type} {p : α → Prop} (h : ∃ x, p x) : ∃ x, p x := h
theorem isAnd {a b : Prop} (h : a ∧ b) : a ∧ b := h
theorem isOr {a b : Prop} (h : a ∨ b) : a ∨ b := h
theorem isAll {α : Type} {p : α → Prop} (h : ∀ x, p x) : ∀ x, p x := h
section
variable {K : PySem.W.Frag} {σ : L2.St} {H : Hp} {D : Ends} {t u : TS} {te ta tb tc : TE} {tt uu : TT} {Q : VK} {QT : Bool → Hp → Prop} {QA : List V → Hp → Prop} {tr : TA} {g : TG} {i : Nat} {v : V} {r r' : R2}
instance : Stp (tSeq t u D σ H) (t { D with nx := u D } σ H) := ⟨gSeq⟩
instance : Stp (tAsg te g D σ H) (te σ H (fun x H1 => g x σ H1 D.nx)) := ⟨gAsg⟩
instance {x : V} {QS : L2.St → Hp → Prop} : Stp (gName i x σ H QS) (QS (σ.set i (some x)) H) := ⟨gName_⟩
instance : Stp (tC v σ H Q) (Q v H) := ⟨gC⟩
instance : Stp (tOp r ta tb σ H Q) (ta σ H (fun x H1 => tb σ H1 fun y H2 => r x y H2 Q)) := ⟨gOp⟩
instance : Stp (tCons ta tr σ H QA) (ta σ H fun x H1 => tr σ H1 fun xs H2 => QA (x :: xs) H2) := ⟨gCons⟩
instance : Stp (tNil σ H QA) (QA [] H) := ⟨gNil⟩
instance {sp : Sp} {dvs : List V} {E : XK} : Stp (tCall sp dvs E tr σ H Q) (tr σ H fun vs H1 => sp (vs ++ dvs) H1 Q E) := ⟨gCall⟩
instance {rc : List V → Hp → VK → Prop} : Stp (tCB rc tr σ H Q) (tr σ H fun vs H1 => rc vs H1 Q) := ⟨gCB⟩
instance : Stp (tIfS tt t u D σ H) (tt σ H fun b H1 => if b = true then t D σ H1 else u D σ H1) := ⟨gIfS⟩
instance : Stp (tTest te σ H QT) (te σ H (fun x H' => ∃ k, x = .bl k ∧ QT k H')) := ⟨gTest⟩
instance : Stp (tRet te D σ H) (te σ H D.rt) := ⟨gRet⟩
instance : Stp (tNext D σ H) (D.nx σ H) := ⟨gNext⟩
instance : Stp (tDrop te D σ H) (te σ H (fun _ H1 => D.nx σ H1)) := ⟨gDrop⟩
instance : Stp (tAndV ta tb σ H Q) (ta σ H fun x H1 => ∃ c, x = .bl c ∧ if c = true then tb σ H1 Q else Q (.bl false) H1) := ⟨gAndV⟩
instance : Stp (tOrV ta tb σ H Q) (ta σ H fun x H1 => ∃ c, x = .bl c ∧ if c = true then Q (.bl true) H1 else tb σ H1 Q) := ⟨gOrV⟩
instance : Stp (tNotV ta σ H Q) (ta σ H fun x H1 => ∃ c, x = .bl c ∧ Q (.bl (!c)) H1) := ⟨gNotV⟩
instance : Stp (tAnd tt uu σ H QT) (tt σ H fun c H1 => if c = true then uu σ H1 QT else QT false H1) := ⟨gAnd⟩
instance : Stp (tOr tt uu σ H QT) (tt σ H fun c H1 => if c = true then QT true H1 else uu σ H1 QT) := ⟨gOr⟩
instance : Stp (tNot tt σ H QT) (tt σ H fun c H1 => QT (!c) H1) := ⟨gNot⟩
instance : Stp (tB te σ H QT) (te σ H (fun x H' => ∃ k, x = .bl k ∧ QT k H')) := ⟨gB⟩
instance : Stp (tIf tt ta tb σ H Q) (tt σ H fun c H1 => if c = true then ta σ H1 Q else tb σ H1 Q) := ⟨gIf⟩
instance : Stp (tChain r r' ta tb tc σ H Q) (ta σ H fun x H1 => tb σ H1 fun y H2 => r x y H2 fun z H3 => ∃ k, z = .bl k ∧ (if k = true then tc σ H3 fun w' H4 => r' y w' H4 Q else Q (.bl false) H3)) := ⟨gChain⟩
instance : Stp (tIsN ta σ H Q) (ta σ H fun x H1 => Q (.bl (decide (x = .non))) H1) := ⟨gIsN⟩
instance : Stp (tNotN ta σ H Q) (ta σ H fun x H1 => Q (.bl (!decide (x = .non))) H1) := ⟨gNotN⟩
instance : Stp (tRetN D σ H) (D.rt .non H) := ⟨gRetN⟩
instance : Stp (tTup tr σ H Q) (tr σ H fun xs H1 => xs.length ≤ sizeLine ∧ ∀ p, H1 p = none → Q (.ref p) (upd H1 p (.tup xs))) := ⟨gTup⟩
instance : Stp (tLst tr σ H Q) (tr σ H fun xs H1 => xs.length ≤ sizeLine ∧ ∀ p, H1 p = none → Q (.ref p) (upd H1 p (.lst xs))) := ⟨gLst⟩
instance {rm : V → List V → Hp → VK → Prop} : Stp (tM1 rm ta tb σ H Q) (ta σ H fun x H1 => (∃ a, x = .str a) ∧ tb σ H1 fun y H2 => rm x [y] H2 Q) := ⟨gM1⟩
instance {ty : String} {rm : V → List V → Hp → VK → Prop} : Stp (tBM K ty rm ta tr σ H Q) (ta σ H fun x H1 => tyV K ty x H1 ∧ tr σ H1 fun xs H2 => rm x xs H2 Q) := ⟨gBM⟩
instance {a b : Str} : Stp (rEq (.str a) (.str b) H Q) (Q (.bl (decide (a = b))) H) := ⟨gEqS⟩
instance {a b : Str} : Stp (rNe (.str a) (.str b) H Q) (Q (.bl (!decide (a = b))) H) := ⟨gNeS⟩
instance {a b : Int} : Stp (rEq (.int a) (.int b) H Q) (Q (.bl (decide (a = b))) H) := ⟨gEqI⟩
instance {a b : Int} : Stp (rNe (.int a) (.int b) H Q) (Q (.bl (!decide (a = b))) H) := ⟨gNeI⟩
instance {f : Int → Int → V} {a b : Int} : Stp (rI0 f (.int a) (.int b) H Q) (Q (f a b) H) := ⟨gI0⟩
end
section
variable {K : PySem.W.Frag} {σ : L2.St} {H : Hp} {D : Ends} {te ta tb td ty tv tx tl : TE} {tt : TT} {t : TS} {Q : VK} {R : It → Hp → Prop} {tr : TA} {v : V} {g : TG} {i : Nat}
instance {a b : Int} : Stp (rAdd (.int a) (.int b) H Q) (Q (.int (a + b)) H) := ⟨gAddI⟩
instance {a b : Int} : Stp (rSub (.int a) (.int b) H Q) (Q (.int (a - b)) H) := ⟨gSubI⟩
instance {r : V → Hp → VK → Prop} : Stp (tUn r ta σ H Q) (ta σ H fun x H1 => r x H1 Q) := ⟨gUn⟩
instance {f : Int → V} {a : Int} : Stp (rU f (.int a) H Q) (Q (f a) H) := ⟨gU⟩
instance {a : Addr} : Stp (rIsN (.ref a) .non H Q) (Q (.bl false) H) := ⟨gIsNr⟩
instance {a : Addr} : Stp (rNotN (.ref a) .non H Q) (Q (.bl true) H) := ⟨gNotNr⟩
instance {a : Int} : Stp (rIsN (.int a) .non H Q) (Q (.bl false) H) := ⟨gIsNi⟩
instance {a : Int} : Stp (rNotN (.int a) .non H Q) (Q (.bl true) H) := ⟨gNotNi⟩
instance : Stp (rIsN .non .non H Q) (Q (.bl true) H) := ⟨gIsNn⟩
instance : Stp (rNotN .non .non H Q) (Q (.bl false) H) := ⟨gNotNn⟩
instance {f : Str} : Stp (tFld K ta f σ H Q) (ta σ H fun x H1 => ∃ a C dx fs v, x = .ref a ∧ H1 a = some (.ins C dx fs) ∧ Cls K C ∧ NoAttr K C f ∧ fs.lookup f = some v ∧ Q v H1) := ⟨gFldR⟩
instance {f : Str} : Stp (sFld K ta tv f D σ H) (tv σ H fun y H1 => ta σ H1 fun x H2 => ∃ a C dx fs, x = .ref a ∧ H2 a = some (.ins C dx fs) ∧ Cls K C ∧ NoAttr K C f ∧ fs.length < 1000 ∧ D.nx σ (upd H2 a (.ins C dx (putF f y fs)))) := ⟨gFldS⟩
instance {f : Str} {rd : V → V → Hp → VK → Prop} : Stp (sFldAug K ta tv rd f D σ H) (ta σ H fun x H1 => ∃ a C dx fs v, x = .ref a ∧ H1 a = some (.ins C dx fs) ∧ Cls K C ∧ NoAttr K C f ∧ fs.lookup f = some v ∧
  tv σ H1 fun y H2 => rd v y H2 fun z H3 => ∃ dx' fs', H3 a = some (.ins C dx' fs') ∧ fs'.length < 1000 ∧ D.nx σ (upd H3 a (.ins C dx' (putF f z fs')))) := ⟨gFldA⟩
instance {C : Addr} {m : Str} {sp : Sp} {dvs : List V} {E : XK} : Stp (tMeth C m sp dvs E ta tr σ H Q) (ta σ H fun x H1 => ∃ a dx fs, x = .ref a ∧ H1 a = some (.ins C dx fs) ∧ fs.lookup m = none ∧ tr σ H1 fun vs H2 => sp (x :: (vs ++ dvs)) H2 Q E) := ⟨gMeth⟩
instance {C : Addr} {sp : Sp} {dvs : List V} {E : XK} : Stp (tMake C sp dvs E tr σ H Q) (tr σ H fun vs H1 => ∀ x dx, H1 x = none → H1 dx = none → dx ≠ x → sp (.ref x :: (vs ++ dvs)) (upd (upd H1 dx (.own x)) x (.ins C dx [])) (fun v H2 => v = .non ∧ Q (.ref x) H2) E) := ⟨gMake⟩
instance {r : V → Option Int → Option Int → Hp → VK → Prop} {tl th : TO} : Stp (tSl r te tl th σ H Q) (te σ H fun x H1 => tl σ H1 fun l H2 => th σ H2 fun u H3 => r x l u H3 Q) := ⟨gSl⟩
instance {Qo : Option Int → Hp → Prop} {e : TE} : Stp (tPart e σ H Qo) (e σ H fun x H1 => ∃ i, x = .int i ∧ Qo (some i) H1) := ⟨gPartN⟩
instance : Stp (tFmt te σ H Q) (te σ H fun x H1 => (∃ y : Str, x = .str y ∧ y.length ≤ sizeLine ∧ Q (.str y) H1) ∨ ∃ i : Int, x = .int i ∧ i.natAbs.log2 < 1920 ∧ Q (.str (toString i)) H1) := ⟨gFmtS⟩
instance {acc : Str} {Q : Str → Hp → Prop} : Stp (tJs [] acc σ H Q) (Q acc H) := ⟨gJsN⟩
instance {t : TE} {ts : List TE} {acc : Str} {Q : Str → Hp → Prop} : Stp (tJs (t :: ts) acc σ H Q) (t σ H fun x H1 => ∃ y : Str, x = .str y ∧ (acc ++ y).length ≤ sizeLine ∧ tJs ts (acc ++ y) σ H1 Q) := ⟨gJsC⟩
instance : Stp (iList K tl σ H R) (tl σ H fun x H1 => ∃ a, x = .ref a ∧ (∃ xs, SqL K H1 a xs) ∧ R (Itl K a) H1) := ⟨gIL⟩
instance : Stp (iTup K tl σ H R) (tl σ H fun x H1 => ∃ a, x = .ref a ∧ (∃ xs, SqT K H1 a xs) ∧ R (Itt K a) H1) := ⟨gIT⟩
instance {ta : TA} : Stp (iEnum K ta σ H R) (ta σ H fun vs H1 => ∃ a xs, vs = [.ref a] ∧ SqL K H1 a xs ∧ R (Ite K a) H1) := ⟨gIE⟩
instance : Stp (iStr te σ H R) (te σ H fun v H1 => ∃ x, v = .str x ∧ R (Its x) H1) := ⟨gIS⟩
instance {wi : TI} {tb : TS} : Stp (tFor wi g tb D σ H) (wi σ H fun J H1 => FW J g tb D σ H1) := ⟨gFor⟩
instance {QT : Bool → Hp → Prop} : Stp (tYes σ H QT) (QT true H) := ⟨gYes⟩
instance {t : TG} {u : TGs} {v : V} {r : List V} {QS : L2.St → Hp → Prop} {σ : L2.St} {H : Hp} : Stp (L2.gCons t u (v :: r) σ H QS) (t v σ H fun σ' H' => u r σ' H' QS) := ⟨gGC⟩
instance {QS : L2.St → Hp → Prop} {σ : L2.St} {H : Hp} : Stp (L2.gNil [] σ H QS) (QS σ H) := ⟨gGN⟩
instance {σ : L2.St} {H : Hp} {Q : Option Int → Hp → Prop} : Stp (tNoPart σ H Q) (Q none H) := ⟨gNoPart⟩
instance {p q : Prop} : Stp (if true = true then p else q) (p) := ⟨ifT⟩
instance {p q : Prop} : Stp (if false = true then p else q) (q) := ⟨ifF⟩
instance {p q : Prop} : Stp (if (!true) = true then p else q) (q) := ⟨ifTn⟩
instance {p q : Prop} : Stp (if (!false) = true then p else q) (p) := ⟨ifFn⟩
end
end Z
set_option Elab.async false
set_option linter.all false
set_option maxRecDepth 100000
set_option maxHeartbeats 4000000
namespace Z
open PySem PySem.Spec PyProof.Rows L2 SrtO Srt
/-! ### tuples of texts, in order -/
def cpsL (xs : List Str) : List (List Nat) := xs.map fun x => x.cps.toList
def ltL (xs ys : List Str) : Bool := decide (cpsL xs < cpsL ys)
theorem swo_ltL {α : Type} (k : α → List Str) : Swo fun v u => ltL (k v) (k u) := by
  refine ⟨fun x y h => ?_, fun x y z h1 h2 => ?_⟩
  · have a := of_decide_eq_true h
    exact decide_eq_false (List.lt_asymm a)
  · have a := of_decide_eq_false h1
    have b := of_decide_eq_false h2
    exact decide_eq_false (List.le_trans (α := List Nat) a b)
theorem ltL_cons (x y : Str) (xs ys : List Str) : ltL (x :: xs) (y :: ys) = if x = y then ltL xs ys else decide (x.cps.toList < y.cps.toList) := by
  unfold ltL cpsL
  rw [List.map_cons, List.map_cons]
  by_cases e : x = y
  · subst e
    rw [if_pos rfl]
    refine decide_eq_decide.mpr ?_
    rw [List.cons_lt_cons_iff]
    exact ⟨fun h => h.elim (fun z => absurd z (List.lt_irrefl _)) fun z => z.2, fun h => .inr ⟨rfl, h⟩⟩
  · rw [if_neg e]
    refine decide_eq_decide.mpr ?_
    rw [List.cons_lt_cons_iff]
    refine ⟨fun h => h.elim id fun z => absurd ?_ e, .inl⟩
    have q : x.cps = y.cps := Array.toList_inj.mp z.1
    cases x
    cases y
    cases q
    rfl
section
variable {prog : Program} {w : World} {A : Around} {E : Value → Shared → Prop} {s : Shared} {Q : Bool → Shared → Prop}
theorem oneLt_strs (c : Bool) {p q : Str} {t u : Tok} (h : Q (decide (p.cps.toList < q.cps.toList)) s) : wpAny (model prog w) A (oneLt' c (.str p t) (.str q u)) Q E s := by
  cases c with
  | true => exact oneLt_str h
  | false => exact PySem.W.kat_one _ _ (PyProof.Rows.lt_str (Q := PySem.W.BoolBack Q) h)
theorem lex_strs {b : Bool} {us ws : List Value} {xs ys : List Str} (i : Nat) (hx : StrsAre us xs) (hy : StrsAre ws ys) (hl : xs.length = ys.length)
    (h : Q (ltL xs ys) s) : PySem.W.KatLex prog w A b false Q (us.zip ws) i s := by
  induction hx generalizing ws ys i with
  | nil =>
    cases hy with
    | nil => exact PySem.W.kat_nil h
    | cons q u hy => simp at hl
  | cons p t xs ih =>
    cases hy with
    | nil => simp at hl
    | cons q u hy =>
      rw [ltL_cons] at h
      refine PySem.W.kat_cons (SeqAt.EqAt.str_str p _ q _ prog w _ _ ?_)
      refine PySem.W.kat_go (fun e1 => ?_) (fun e1 => ?_)
      · have ex : p = q := by simpa using e1
        rw [if_pos ex] at h
        exact PySem.W.kat_yes (ih _ hy (by simpa using hl) h)
      · have ex : ¬ p = q := by simpa using e1
        rw [if_neg ex] at h
        exact PySem.W.kat_no (oneLt_strs _ h)
end
/-- v is a tuple of the texts xs -/
def IsTS (h : Heap) (v : Value) (xs : List Str) : Prop := ∃ a o its n, v = .ref a ∧ h.get? a = some o ∧ o.cls = .type "tuple" ∧ o.data = .seq its n ∧ StrsAre its.toList xs
theorem IsTS.keeps {h h' : Heap} {v : Value} {xs : List Str} (p : IsTS h v xs) (k : ∀ b o, h.get? b = some o → o.cls = .type "tuple" → h'.get? b = some o) : IsTS h' v xs := by
  obtain ⟨a, o, t, n, e, ho, hc, hd, r⟩ := p
  exact ⟨a, o, t, n, e, k _ _ ho hc, hc, hd, r⟩
theorem strsAre_len : ∀ {us : List Value} {xs : List Str}, StrsAre us xs → us.length = xs.length
  | _, _, .nil => rfl
  | _, _, .cons _ _ r => congrArg (· + 1) (strsAre_len r)
theorem ts_firsts {h : Heap} {d : Nat} {k : Value → List Str} (hd : 1 ≤ d) : ∀ {vs : List Value}, (∀ v ∈ vs, IsTS h v (k v) ∧ (k v).length = d) → ∃ fs : List Value, PySem.W.KatTups h vs fs ∧ fs.length = vs.length ∧ ∀ f ∈ fs, ∃ x t, f = Value.str x t
  | [], _ => ⟨[], PySem.W.KatTups.nil, rfl, fun _ hm => by simp at hm⟩
  | v :: vs, hp => by
    obtain ⟨fs, h1, h2, h3⟩ := ts_firsts hd (vs := vs) fun v' hm => hp v' (List.mem_cons_of_mem _ hm)
    obtain ⟨⟨a, o, its, n, e, ho, hc, hdt, r⟩, hk⟩ := hp v (List.mem_cons_self ..)
    subst e
    obtain ⟨us⟩ := its
    cases r' : us with
    | nil =>
      have q := strsAre_len r
      rw [r'] at q
      simp only [List.length_nil] at q
      omega
    | cons u us' =>
      have r2 : StrsAre us (k (Value.ref a)) := r
      rw [r'] at r2
      generalize k (Value.ref a) = kk at r2
      cases r2 with
      | cons y t r3 =>
        refine ⟨.str y t :: fs, PySem.W.KatTups.cons ho hc hdt (by rw [r']; rfl) h1, by rw [List.length_cons, List.length_cons, h2], fun f hm => ?_⟩
        rcases List.mem_cons.mp hm with rfl | hm
        · exact ⟨y, t, rfl⟩
        · exact h3 f hm
section
variable {prog : Program} {w : World} {A : Around} {E : Value → Shared → Prop} {s : Shared}
theorem ts_cmp {vs : List Value} {k : Value → List Str} {d : Nat} (hp : ∀ v ∈ vs, IsTS s.heap v (k v) ∧ (k v).length = d) : SrtO.Cmp prog w A s (tuples' true) (fun p => p.1 ∈ vs) (lt2 fun v u => ltL (k v) (k u)) := by
  intro p q hm hm'
  obtain ⟨h1, l1⟩ := hp _ hm
  obtain ⟨h2, l2⟩ := hp _ hm'
  show wpAny (model prog w) A (keyLt' (tuples' true) p.1 q.1) (fun r s' => s' = s ∧ r = ltL (k p.1) (k q.1)) (fun _ _ => False) s
  generalize k p.1 = x at h1 l1 ⊢
  generalize k q.1 = y at h2 l2 ⊢
  obtain ⟨a, o, its, n, e, ho, hc, hd, r⟩ := h1
  obtain ⟨a', o', its', n', e', ho', hc', hd', r'⟩ := h2
  rw [e, e']
  refine PySem.W.kat_lt ho hd ho' hd' ?_
  have hz : decide (its.size < its'.size) = false := by
    have q1 := strsAre_len r
    have q2 := strsAre_len r'
    rw [Array.length_toList] at q1 q2
    exact decide_eq_false (by omega)
  rw [hz]
  exact lex_strs 0 r r' (by omega) ⟨rfl, rfl⟩
theorem ts_sortable {a : Addr} {vs : List Value} {k : Value → List Str} {d : Nat} (hd : 1 ≤ d) (h0 : 0 < vs.length) (hp : ∀ v ∈ vs, IsTS s.heap v (k v) ∧ (k v).length = d) (ha : ∀ o, s.heap.get? a = some o → o.cls ≠ .type "tuple") : SortableO prog w A s a vs fun v u => ltL (k v) (k u) := by
  intro h' keep
  have hp' : ∀ v ∈ vs, IsTS h' v (k v) ∧ (k v).length = d := fun v hm => ⟨(hp v hm).1.keeps fun b o e c => keep b o (fun z => by subst z; exact ha o e c) e, (hp v hm).2⟩
  obtain ⟨fs, h1, h2, h3⟩ := ts_firsts hd hp'
  refine ⟨tuples' true, fun Q E hq => ?_, ts_cmp hp'⟩
  refine PySem.W.kat_kind (T := .type "str") h1 (by omega) (fun f hm => ?_) (by rfl) ?_
  · obtain ⟨x, t, rfl⟩ := h3 f hm
    exact PySem.W.Looks.now
  · have e : (Value.type "str" != Value.type "tuple") = true := by first | decide +kernel | rfl | decide
    rw [e]
    exact hq
/-- sorted(l) of tuples of texts -/
theorem sorted_ts {l : Addr} {vs : List Value} {k : Value → List Str} {d : Nat} {Q : Value → Shared → Prop} (hd : 1 ≤ d) (hl : s.heap.IsList l vs.toArray) (hz : vs.length ≤ sizeLine) (hp : ∀ v ∈ vs, IsTS s.heap v (k v) ∧ (k v).length = d)
    (h : ∀ (h' : Heap) (D : Addr) (out : List Value), Srtd (fun v u => ltL (k v) (k u)) out → Stb (fun v u => ltL (k v) (k u)) out vs → (∀ b o, s.heap.get? b = some o → h'.get? b = some o) → s.heap.objs.size ≤ D → (∃ n, h'.get? D = some (seqObj "list" out.toArray n)) → Q (.ref D) { s with heap := h' }) :
    wpAny (model prog w) A (call (.builtin "sorted") [.ref l]) Q E s := by
  refine sorted_ord (swo_ltL k) hl hz (fun h2 h₁ a ha kk => ?_) fun out hs hb => ?_
  · refine ts_sortable (s := { s with heap := h₁ }) hd (by omega) (fun v hm => ⟨(hp v hm).1.keeps fun b o e _ => (kk b o e).2, (hp v hm).2⟩) fun o e => ?_
    have e' : some o = some (seqObj "list" vs.toArray 0) := e.symm.trans ha
    cases e'
    intro c
    exact absurd (Value.type.inj c) (by decide)
  · exact h _ _ out hs hb (fun b o e => sortedAll_old e) (Nat.le_succ _) (sortedAll_at s.heap vs out.toArray)
end
/-- x before y -/
abbrev ltK (k : V → List Str) (x y : V) : Bool := ltL (k x) (k y)
/-- sorted(xs), xs a list of tuples of d texts each -/
def rSortTS (K : PySem.W.Frag) : List V → Hp → VK → Prop := fun vs H Q => ∃ (a : Addr) (xs : List V) (k : V → List Str) (d : Nat), vs = [V.ref a] ∧ SqL K H a xs ∧ 1 ≤ d ∧ (∀ x ∈ xs, (k x).length = d ∧ ∃ t, x = V.ref t ∧ H t = some (.tup ((k x).map V.str))) ∧
  ∀ ys p, Srtd (ltK k) ys → Stb (ltK k) ys xs → H p = none → Q (.ref p) (upd H p (.lst ys))
section
variable {X : Cx}
theorem isTS_of {pins : List (Addr × Obj)} {σ : L2.St} {H : Hp} {s : Shared} (I : Inv X pins σ H s) {t : Addr} {xs : List Str} (ht : H t = some (.tup (xs.map V.str))) : IsTS s.heap (.ref t) xs := by
  obtain ⟨_, its2, r2, o, ho, hc, n, hd⟩ := I.hok _ _ ht
  exact ⟨t, o, its2.toArray, n, rfl, ho, hc, hd, r2.strs⟩
theorem cr_sortedTS {kk : Nat} {A : Around} (hr : Room kk A) : CallR X (.builtin "sorted") (rSortTS X.K) := by
  intro pins s σ H vs us Q I r h
  obtain ⟨a, xs, k, d, rfl, hs, h1, hx, q⟩ := h
  obtain ⟨its, rv, hl, hz⟩ := I.list hs
  obtain ⟨u, rfl, ru⟩ := vals1 r
  obtain rfl : u = Value.ref a := ru
  obtain ⟨e1, e2⟩ := refs_back rv fun x m => by
    obtain ⟨_, t, e, _⟩ := hx x m
    exact ⟨t, e⟩
  refine sorted_ts (k := fun u => k (backV u)) h1 hl.isList (by rw [← rv.length]; exact hz) (fun v hv => ?_) fun h' D out h1 h2 kp hd hn => ?_
  · obtain ⟨t, rfl⟩ := e2 v hv
    have hm : V.ref t ∈ xs := by rw [e1]; exact List.mem_map.mpr ⟨_, hv, rfl⟩
    obtain ⟨l, t', e, ht⟩ := hx _ hm
    cases e
    exact ⟨isTS_of I ht, l⟩
  · have h3 : ∀ u ∈ out, ∃ a, u = Value.ref a := fun u hu => e2 u (h2.perm.mem_iff.mp hu)
    obtain ⟨n, hn⟩ := hn
    have hb : Stb (ltK k) (out.map backV) xs := by
      rw [e1]
      exact Stb.map (swo_ltL k) backV h2
    refine ⟨.ref D, upd H D (.lst (out.map backV)), I.laid (t' := s.toks) kp hd ⟨?_, out, n, vals_back h3, hn⟩, rfl, q _ D (srtd_map h1) hb (I.hok.fresh hd)⟩
    rw [hb.len]
    exact hz
end
end Z
set_option Elab.async false
set_option linter.all false
set_option maxRecDepth 100000
set_option maxHeartbeats 4000000
namespace Z
open PySem PySem.Spec PyProof.Rows L2
/-! ### dict comprehensions with tuple keys -/
/-- d[k] = v by a comprehension -/
theorem d_dictSetT {X : Cx} {pins : List (Addr × Obj)} {σ : L2.St} {H : Hp} {s : Shared} {E : Value → Shared → Prop} {A : Around} {D b : Addr} {kvs : List (List Key × V)} {k : List Key} {v : V} {r : Value} {Q : Unit → Shared → Prop} (hu : A.units + 1 < cLine) (I : Inv X pins σ H s) (hD : H D = some (.dT kvs))
    (eb : H b = some (.tup (k.map kV))) (l : kvs.length < sizeLine) (rv : RelV v r) (h : ∀ s', Inv X pins σ (upd H D (.dT (putK kvs k v))) s' → Q () s') : wpAny (model X.prog X.w) A (dictSet D (.ref b) r) Q E s := by
  obtain ⟨z, hd, xs, rel, dd⟩ := dt_of I.hok hD
  have hz : xs.length ≤ sizeLine := by rw [← Paired.length rel]; exact z
  have hl : (putK kvs k v).length ≤ sizeLine := by have := length_putK kvs k v; omega
  refine wpAny_dictSet_heap (hsz := hz) (show (tupleKind (mixKind X.prog X.w)).room A from Nat.lt_of_succ_lt hu) (key_of I.hok eb) dd fun h' dd' hs => h _ ?_
  obtain ⟨q, es, ep, hq, h2, h3, h4, _, h5⟩ := dd'
  refine d_write I (by rw [hD]; exact True.intro) hs ⟨q, hq⟩ ⟨hl, hd, _, (rel.put k eb rv).keeps fun c ys ec => ?_, q, es, ep, hq, h2, h3, h4, h5⟩
  rw [upd_ne (ne_of ec hD (fun z => nomatch z))]
  exact ec
section
variable {X : Cx}
/-- {k: v for target in iter if ..}, keys tuples: D the new dict -/
def tDcT (wi : TI) (g : TG) (tt : TT) (tk tv : TE) (vs : List Nat) : TE := fun σ H Q => wi σ H fun J H1 => ∀ D, H1 D = none → ∃ W : Nat → Nat → Hp → Prop, (∃ m, W 0 m (upd H1 D (.dT []))) ∧ ∀ i m H, W i m H →
  (J.stop i H ∧ Q (.ref D) H) ∨ (J.go i H ∧ ∃ Nx : Hp → Prop, (∀ H', Nx H' → ∃ m', m' < m ∧ W (i + 1) m' H') ∧ ∀ x H', J.yld i H x H' → g x (wipe σ vs) H' fun σ2 H2 => wipe σ2 vs = wipe σ vs ∧ tt σ2 H2 fun b H3 =>
    if b = true then tk σ2 H3 fun y H4 => tv σ2 H4 fun z H5 => ∃ kvs k kb, y = .ref kb ∧ H5 kb = some (.tup (k.map kV)) ∧ H5 D = some (.dT kvs) ∧ kvs.length < sizeLine ∧ Nx (upd H5 D (.dT (putK kvs k z))) else Nx H3)
theorem dcT_core {pins : List (Addr × Obj)} {s : Shared} {σ : L2.St} {H : Hp} {Q : VK} {kx vx tg iter : Expr} {ifs : List Expr} {scope : Scope} {own : List (Str × Nat)} {pos pos' : Pos} {wi : TI} {g : TG} {tt : TT} {tk tv : TE} {use : Option (Value → Sem Unit)} {Qf : Value → Shared → Prop}
    (hc : X.calm = true) (hu : X.A.units + 1 < cLine) (hN : X.N.Nodup) (I : Inv X pins σ H s) (hi : PI X tg iter wi) (ok : BlkOk X.N X.env.scope scope own)
    (hg : ∀ (s : Shared) (H : Hp) (C : Addr) (cl : List (Str × Addr)) (fp : List Addr), PG (X.blk s H scope (compEnvC scope cl C X.env) fp) tg g) (ht : ∀ (s : Shared) (H : Hp) (C : Addr) (cl : List (Str × Addr)) (fp : List Addr), PTs (X.blk s H scope (compEnvC scope cl C X.env) fp) ifs tt)
    (hk : ∀ (s : Shared) (H : Hp) (C : Addr) (cl : List (Str × Addr)) (fp : List Addr), PE (X.blk s H scope (compEnvC scope cl C X.env) fp) kx tk)
    (he : ∀ (s : Shared) (H : Hp) (C : Addr) (cl : List (Str × Addr)) (fp : List Addr), PE (X.blk s H scope (compEnvC scope cl C X.env) fp) vx tv) (hs : ∀ x, foldedSetIterable iter X.env x = pure x)
    (h : tDcT wi g tt tk tv (own.map (·.2)) σ H Q)
    (hRR : ∀ D C s' m H', Inv X pins σ H' s' → Q (.ref D) H' → s'.heap.Ns C m → FpOk X pins H' C → compPost (model X.prog X.w) X.A X.xe use Qf (.ref D) C (.ok .next) s') :
    wpAny (model X.prog X.w) X.A (comprehension (.DictComp kx vx [⟨tg, iter, ifs, 0⟩] scope pos) scope X.env pos' newDict false (eval iter X.env) use) Qf X.xe s := by
  have hfree : ∀ y ∈ scope.names, y.2 = .free → ∃ c, X.env.cells.lookup y.1 = some c := fun y hy e => by
    rcases ok.free y hy e with k | k
    · exact I.ok.has _ (.inl k)
    · exact I.ok.has _ (.inr k)
  refine wpAny_comprehension_free (use := use) rfl hs (closure_ok hfree) ok.kind (fun y hy e => by rw [ok.uniq y hy, e])
    (thn (hi.run pins s σ H _ I h) fun xv s1 hx => thn hx fun itv s2 h2 => ?_)
  obtain ⟨it, fp, tn, J, H2, e, I2, T, st2, f2, q⟩ := h2
  subst e
  refine wpAny_newObj_type (newEnv_comp ?_)
  generalize hD : s2.heap.objs.size = D
  have hDn : H2 D = none := I2.hok.fresh (Nat.le_of_eq hD)
  obtain ⟨W, ⟨m0, w0⟩, turn⟩ := q D hDn
  -- the new list
  generalize hs3 : ({ s2 with heap := s2.heap.push { cls := .type "dict", data := .dict #[] } } : Shared) = s3
  have I3 : Inv X pins σ (upd H2 D (.dT [])) s3 := by
    rw [← hs3]
    refine I2.laid (t' := s2.toks) (fun b o e => Heap.get?_push_of_some _ e) (Nat.le_of_eq hD) ?_
    rw [← hD]
    exact dt_empty s2.heap I2.big
  have h3 : s3.heap = s2.heap.push { cls := .type "dict", data := .dict #[] } := by rw [← hs3]
  have sz : ∀ b ∈ fp, b < s2.heap.objs.size := fun b hb => by
    obtain ⟨o, e, _⟩ := T.obj _ _ st2 b hb
    exact Heap.lt_size e
  have f3 : ∀ b ∈ fp, FpOk X pins (upd H2 D (.dT [])) b ∧ b < s3.heap.objs.size := fun b hb => by
    have hlt := sz b hb
    refine ⟨⟨?_, (f2 b hb).2⟩, by rw [h3, Heap.size_push]; exact Nat.lt_succ_of_lt hlt⟩
    rw [upd_ne (by rw [← hD]; exact Nat.ne_of_lt hlt)]
    exact (f2 b hb).1
  have st3 : tn 0 s3.heap := T.keep _ _ _ st2 fun b _ o e => by rw [h3]; exact Heap.get?_push_of_some _ e
  have I4 := block_start I3 ok hN f3
  have pg := hg s3 (upd H2 D (.dT [])) s3.heap.objs.size (cellsFrom (s3.heap.objs.size + 1) scope.names (cloFrom X.env.cells scope.names [])) fp
  have pt := ht s3 (upd H2 D (.dT [])) s3.heap.objs.size (cellsFrom (s3.heap.objs.size + 1) scope.names (cloFrom X.env.cells scope.names [])) fp
  have pk := hk s3 (upd H2 D (.dT [])) s3.heap.objs.size (cellsFrom (s3.heap.objs.size + 1) scope.names (cloFrom X.env.cells scope.names [])) fp
  have pe := he s3 (upd H2 D (.dT [])) s3.heap.objs.size (cellsFrom (s3.heap.objs.size + 1) scope.names (cloFrom X.env.cells scope.names [])) fp
  show codeAny _ _ (.compStart (.DictComp kx vx [⟨tg, iter, ifs, 0⟩] scope pos) 0 (.ref it) (.ref D) (compEnvC scope (cellsFrom (s3.heap.objs.size + 1) scope.names (cloFrom X.env.cells scope.names [])) s3.heap.objs.size X.env)) (compPost (model X.prog X.w) X.A X.xe use Qf (.ref D) s3.heap.objs.size) { s3 with heap := pushCells (s3.heap.push { cls := .type "dict", data := .dict #[] }) scope.names }
  have nfp : ∀ b ∈ fp, (upd H2 D (.dT [])) b = none := fun b hb => (f3 b hb).1.1
  generalize hce : compEnvC scope (cellsFrom (s3.heap.objs.size + 1) scope.names (cloFrom X.env.cells scope.names [])) s3.heap.objs.size X.env = ce at I4 pg pt pk pe ⊢
  have cL : ce.locals = s3.heap.objs.size := by subst hce; rfl
  generalize hH3 : upd H2 D (.dT []) = H3 at I3 I4 pg pt pk pe w0 nfp f3
  generalize hs4 : ({ s3 with heap := pushCells (s3.heap.push { cls := .type "dict", data := .dict #[] }) scope.names } : Shared) = s4 at I4 ⊢
  have st4 : tn 0 s4.heap := T.keep _ _ _ st3 fun b _ o e => by rw [← hs4]; exact pushCells_keeps _ _ _ _ (Heap.get?_push_of_some _ e)
  have stat : ∀ {σ' : L2.St} {H' : Hp} {s' : Shared}, Inv (X.blk s3 H3 scope ce fp) [] σ' H' s' → (∀ b ∈ fp, H' b = none) → ∀ b ∈ fp, FpOk (X.blk s3 H3 scope ce fp) [] H' b := fun {σ' H' s'} I' hn b hb =>
    ⟨hn b hb, (I'.ok.exf b hb).1, I'.ok.exfs b hb, .inl hb, fun x c e => (I'.ok.exf b hb).2 x c e, fun p hp => absurd (show p ∈ ([] : List (Addr × Obj)) ++ [] from hp) (by simp)⟩
  have loop : codeAny (model X.prog X.w) X.A (.compLoop (.DictComp kx vx [⟨tg, iter, ifs, 0⟩] scope pos) 0 (.ref it) (.ref D) ce) (compPost (model X.prog X.w) X.A X.xe use Qf (.ref D) s3.heap.objs.size) s4 := by
    refine L2.compLoop_anyD (fun n s' => ∃ i H', Inv (X.blk s3 H3 scope ce fp) [] (wipe σ (own.map (·.2))) H' s' ∧ tn i s'.heap ∧ (∀ b ∈ fp, H' b = none) ∧ W i n H') ?_ m0 ⟨0, H3, I4, st4, nfp, w0⟩
    rintro n s5 ⟨i, H5, I5, st5, n5, w5⟩
    rcases turn i n H5 w5 with ⟨stop, qq⟩ | ⟨go, Nx, hNx, step⟩
    · have td := T.done (X.blk s3 H3 scope ce fp) rfl rfl rfl hc i [] s5 _ H5 (fun _ _ => False) I5 (stat I5 n5) st5 stop
      refine thnF td fun r s6 ⟨hr, I6⟩ => ?_
      subst hr
      -- back in the def's context
      have I7 : Inv X pins σ H5 s6 := I3.call' (ch := fp) I6.os I6.base I6.hok I6.bare fun b hb => ⟨(f3 b hb).1.2.2.2.1, (f3 b hb).1.2.1, (f3 b hb).1.2.2.2.2.1, (f3 b hb).1.2.2.2.2.2⟩
      have nC : H5 s3.heap.objs.size = none := by
        have z : H5 ce.locals = none := I6.free
        rw [cL] at z
        exact z
      obtain ⟨m, hn, _⟩ := I6.loc
      have hn : s6.heap.Ns ce.locals m := hn
      rw [cL] at hn
      exact hRR D s3.heap.objs.size s6 m H5 I7 qq hn (I3.fpOk (Nat.le_refl _) nC)
    · have ti := T.item (X.blk s3 H3 scope ce fp) rfl rfl rfl hc i [] s5 _ H5 (fun _ _ => False) I5 (stat I5 n5) st5 go
      refine thnF ti fun r s6 ⟨u, hr, h6⟩ => ?_
      subst hr
      refine thnF h6 fun _ s7 ⟨x, H7, I7, r7, y7, st7, n7⟩ => ?_
      have I7' := I7.pinned (stat I7 n7) (T.obj _ _ st7)
      refine thnF (pg.run _ s7 _ H7 x u _ I7' r7 (step x H7 y7)) fun _ s8 ⟨σ8, H8, I8, hw8, q8⟩ => ?_
      refine thnF (pt.run _ s8 σ8 H8 _ I8 q8) fun b s9 ⟨H9, I9, q9⟩ => ?_
      -- the turn's end
      have fin : ∀ {s' : Shared} {H' : Hp}, Inv (X.blk s3 H3 scope ce fp) ([] ++ pinsAt fp s7.heap) σ8 H' s' → Nx H' → ∃ m, m < n ∧ ∃ i H', Inv (X.blk s3 H3 scope ce fp) [] (wipe σ (own.map (·.2))) H' s' ∧ tn i s'.heap ∧ (∀ b ∈ fp, H' b = none) ∧ W i m H' := fun {s' H'} I' nx => by
        obtain ⟨m', hm, w'⟩ := hNx H' nx
        have pin' : ∀ b ∈ fp, ∀ o, s7.heap.get? b = some o → s'.heap.get? b = some o ∧ H' b = none := fun b hb o e =>
          let z := I'.pin (b, o) (List.mem_append_right _ (List.mem_append_right _ (mem_pinsAt hb e)))
          ⟨z.1, z.2.1⟩
        have hl : (wipe σ (own.map (·.2))).length = σ8.length := by rw [← hw8, wipe_length]
        refine ⟨m', hm, i + 1, H', (I'.unpinned (pins := [])).weak hl (fun j v e => ?_), T.keep _ _ _ st7 fun b hb o e => (pin' b hb o e).1, fun b hb => ?_, w'⟩
        · rw [← hw8] at e
          exact (wipe_some e).1
        · obtain ⟨o, e, _⟩ := T.obj _ _ st7 b hb
          exact (pin' b hb o e).2
      cases b with
      | false =>
        simp only [Bool.false_eq_true, if_false] at q9 ⊢
        exact fin I9 q9
      | true =>
        simp only [if_true] at q9 ⊢
        refine thnF (pk.run _ s9 σ8 H9 _ I9 q9) fun z s10 ⟨yk, H10, I10, r10, q10⟩ => ?_
        refine thnF (pe.run _ s10 σ8 H10 _ I10 q10) fun z2 s11 ⟨yv, H11, I11, r11, kvs, k, kb, ek, hkb, hD11, hz11, nx⟩ => ?_
        subst ek
        obtain rfl : z = Value.ref kb := r10
        exact d_dictSetT (X := X.blk s3 H3 scope ce fp) hu I11 hD11 hkb hz11 r11 fun s12 I12 => fin I12 nx
  exact codeAny_compStart_dict loop (T.self X.A 0 _ _ _ st4 loop)
/-- as a value -/
theorem pe_dcT {kx vx tg iter : Expr} {ifs : List Expr} {scope : Scope} {own : List (Str × Nat)} {pos : Pos} {wi : TI} {g : TG} {tt : TT} {tk tv : TE} (hc : X.calm = true) (hu : X.A.units + 1 < cLine) (hN : X.N.Nodup) (hi : PI X tg iter wi) (ok : BlkOk X.N X.env.scope scope own)
    (hg : ∀ (s : Shared) (H : Hp) (C : Addr) (cl : List (Str × Addr)) (fp : List Addr), PG (X.blk s H scope (compEnvC scope cl C X.env) fp) tg g) (ht : ∀ (s : Shared) (H : Hp) (C : Addr) (cl : List (Str × Addr)) (fp : List Addr), PTs (X.blk s H scope (compEnvC scope cl C X.env) fp) ifs tt)
    (hk : ∀ (s : Shared) (H : Hp) (C : Addr) (cl : List (Str × Addr)) (fp : List Addr), PE (X.blk s H scope (compEnvC scope cl C X.env) fp) kx tk)
    (he : ∀ (s : Shared) (H : Hp) (C : Addr) (cl : List (Str × Addr)) (fp : List Addr), PE (X.blk s H scope (compEnvC scope cl C X.env) fp) vx tv) (hs : ∀ x, foldedSetIterable iter X.env x = pure x := by intro _; rfl) :
    PE X (.DictComp kx vx [⟨tg, iter, ifs, 0⟩] scope pos) (tDcT wi g tt tk tv (own.map (·.2))) := by
  refine ⟨fun pins s σ H Q I h => ?_⟩
  rw [arm_eval_DictComp]
  refine dcT_core hc hu hN I hi ok hg ht hk he hs h fun D C s' m H' I' q hn f => ⟨m, hn, fun h'' sb => ?_⟩
  obtain ⟨f0, f1, f2, f3, f4, f5⟩ := f
  exact ⟨.ref D, H', I'.turned (t' := s'.toks) (fun b o hb e => (sb.2 b hb).trans e) f0 f1 f3 f4 f5, rfl, q⟩
theorem op_inTD (hu : X.A.units + 65 < cLine) : OpR X (compareOp .In) (fun x y H Q => ∃ d ds, Dp X.K H x d ∧ Dp X.K H y (.tuple ds) ∧ SeqAt.shaped d = true ∧ SeqAt.shaped (.list ds) = true ∧ Q (.bl (ds.any fun z => PyData.eqv z d)) H) := by
  intro pins s σ H x y v u Q I rx ry h
  obtain ⟨d, ds, hd, he, sd, se, q⟩ := h
  obtain ⟨as, r1⟩ := Dp.reads I d x v hd rx
  obtain ⟨bs, r2⟩ := Dp.reads I (.tuple ds) y u he ry
  exact SeqAt.in_tuple_reads r2 r1 (SeqAt.canLay_of_shaped se) (SeqAt.canLay_of_shaped sd) (room_in_shaped sd hu) ⟨.bl _, H, I, rfl, q⟩
/-- t <= u of tuples of texts -/
def leTv (xs ys : List Str) : Bool := Ob.lexAt (fun j => decide (xs.getD j "" = ys.getD j "")) (fun j => !decide ((ys.getD j "").cps.toList < (xs.getD j "").cps.toList)) (decide (xs.length ≤ ys.length)) 0 (min xs.length ys.length)
theorem strs_get : ∀ {us : List Value} {xs : List Str}, StrsAre us xs → ∀ j (h : j < us.length), ∃ t, us[j] = .str (xs.getD j "") t
  | _, _, .cons y t r, 0, _ => ⟨t, rfl⟩
  | _, _, .cons _ _ r, j + 1, h => by
    obtain ⟨t, e⟩ := strs_get r j (Nat.lt_of_succ_lt_succ h)
    exact ⟨t, by simpa using e⟩
theorem op_leTS (hu : X.A.units + 65 < cLine) : OpR X (compareOp .LtE) (fun x y H Q => ∃ (a b : Addr) (xs ys : List Str), x = .ref a ∧ y = .ref b ∧ H a = some (.tup (xs.map V.str)) ∧ H b = some (.tup (ys.map V.str)) ∧ Q (.bl (leTv xs ys)) H) := by
  intro pins s σ H x y v u Q I rx ry h
  obtain ⟨a, b, ns, ms, rfl, rfl, ha, hb, q⟩ := h
  cases rx
  cases ry
  obtain ⟨its, r1, p1, _⟩ := I.tuple (.inl (.inl ha))
  obtain ⟨its2, r2, p2, _⟩ := I.tuple (.inl (.inl hb))
  have i1 : StrsAre its ns := r1.strs
  have i2 : StrsAre its2 ms := r2.strs
  have e1 : its.toArray.size = ns.length := by rw [List.size_toArray]; exact strsAre_len i1
  have e2 : its2.toArray.size = ms.length := by rw [List.size_toArray]; exact strsAre_len i2
  have at1 : ∀ j (h1 : j < its.toArray.size), ∃ t, its.toArray[j] = .str (ns.getD j "") t := fun j h1 => by
    obtain ⟨t, e⟩ := strs_get i1 j (by simpa using h1)
    exact ⟨t, by simpa using e⟩
  have at2 : ∀ j (h1 : j < its2.toArray.size), ∃ t, its2.toArray[j] = .str (ms.getD j "") t := fun j h1 => by
    obtain ⟨t, e⟩ := strs_get i2 j (by simpa using h1)
    exact ⟨t, by simpa using e⟩
  have R := Ob.RcOp.tuples_le (A := X.A) (s := s) (e := fun j => decide (ns.getD j "" = ms.getD j "")) (r := fun j => !decide ((ms.getD j "").cps.toList < (ns.getD j "").cps.toList)) p1 p2 (by omega) (fun j h1 h2 => by
    obtain ⟨t, et⟩ := at1 j h1
    obtain ⟨t', et'⟩ := at2 j h2
    rw [et, et']
    have z : (ns.getD j "" == ms.getD j "") = decide (ns.getD j "" = ms.getD j "") := by
      by_cases q : ns.getD j "" = ms.getD j ""
      · rw [decide_eq_true q]; exact beq_iff_eq.mpr q
      · rw [decide_eq_false q]; exact beq_eq_false_iff_ne.mpr q
    rw [← z]
    exact SeqAt.EqAt.str_str _ _ _ _) (fun j h1 h2 _ => by
    obtain ⟨t, et⟩ := at1 j h1
    obtain ⟨t', et'⟩ := at2 j h2
    rw [et, et']
    exact fun _ _ _ _ h => PySem.P.le_str h)
  rw [e1, e2] at R
  have z : wpAny (model X.prog X.w) X.A (compareOp .LtE (.ref a) (.ref b)) (EP X pins σ Q) X.xe s := R X.prog X.w X.xe (EP X pins σ Q) ⟨.bl _, H, I, rfl, q⟩
  exact z
/-! ### max, min with default -/
theorem reads_ints {h : Heap} : ∀ {us : List Value} {ns : List Int}, IntsAre us ns → ReadsAll h us (ns.map .int) []
  | _, _, .nil => .nil
  | _, _, .cons n t r => by
    exact ReadsAll.cons (h := h) (as := []) (bs := []) (Reads.int n t) (reads_ints r)
theorem alike_ints (ns : List Int) : PySem.W.AlikeAll (ns.map .int) := by
  refine ⟨fun x hx y hy => ?_, fun x hx => ?_⟩
  · obtain ⟨a, _, rfl⟩ := List.mem_map.mp hx
    obtain ⟨b, _, rfl⟩ := List.mem_map.mp hy
    rfl
  · obtain ⟨a, _, rfl⟩ := List.mem_map.mp hx
    exact fun z => nomatch z
theorem depth_ints : ∀ ns : List Int, PyData.depthAll (ns.map .int) ≤ 1
  | [] => by decide
  | n :: ns => by
    have h := depth_ints ns
    rw [List.map_cons]
    exact Nat.max_le.mpr ⟨by simp [PyData.depth], h⟩
def rMaxd (K : PySem.W.Frag) : List V → List V → Hp → VK → Prop := fun vs zs H Q => ∃ (a : Addr) (ns : List Int) (d : V), vs = [V.ref a] ∧ zs = [d] ∧ SqL K H a (ns.map V.int) ∧ (ns = [] → Q d H) ∧ (∀ n ns', ns = n :: ns' → Q (.int (ns'.foldl max n)) H)
def rMind (K : PySem.W.Frag) : List V → List V → Hp → VK → Prop := fun vs zs H Q => ∃ (a : Addr) (ns : List Int) (d : V), vs = [V.ref a] ∧ zs = [d] ∧ SqL K H a (ns.map V.int) ∧ (ns = [] → Q d H) ∧ (∀ n ns', ns = n :: ns' → Q (.int (ns'.foldl min n)) H)
theorem map_int_inj {ns : List Int} {y : PyData} {ys : List PyData} (e : ns.map PyData.int = y :: ys) : ∃ n ns', ns = n :: ns' ∧ y = .int n ∧ ys = ns'.map .int := by
  cases ns with
  | nil => cases e
  | cons n ns' => cases e; exact ⟨n, ns', rfl, rfl, rfl⟩
theorem cr_maxd (hc : X.calm = true) (hu : X.A.units + 65 < cLine) : CallRK X (.builtin "max") [Str.ofString "default"] (rMaxd X.K) := by
  intro pins s σ H xs zs us ws Q I r1 r2 h
  obtain ⟨a, ns, d, rfl, rfl, hs, h0, h1⟩ := h
  obtain ⟨its, rv, hl, _⟩ := I.list hs
  obtain ⟨u, rfl, rx⟩ := vals1 r1
  obtain rfl : u = Value.ref a := rx
  obtain ⟨u, rfl, ru⟩ := vals1 r2
  have hd := depth_ints ns
  refine PySem.W.max_list_default (I.ok.hd hc) hl.isList (reads_ints rv.ints) (alike_ints ns) (by omega) (fun e h' tk k => ?_) fun y ys i v h' tk bs e _ rd k => ?_
  · have e' : ns = [] := by
      cases ns with
      | nil => rfl
      | cons _ _ => cases e
    exact ⟨d, H, I.kept k, ru, h0 e'⟩
  · obtain ⟨n, ns', e1, rfl, rfl⟩ := map_int_inj e
    rw [PySem.W.maxD_ints] at rd
    cases rd
    exact ⟨.int _, H, I.kept k, ⟨_, rfl⟩, h1 n ns' e1⟩
theorem cr_mind (hc : X.calm = true) (hu : X.A.units + 65 < cLine) : CallRK X (.builtin "min") [Str.ofString "default"] (rMind X.K) := by
  intro pins s σ H xs zs us ws Q I r1 r2 h
  obtain ⟨a, ns, d, rfl, rfl, hs, h0, h1⟩ := h
  obtain ⟨its, rv, hl, _⟩ := I.list hs
  obtain ⟨u, rfl, rx⟩ := vals1 r1
  obtain rfl : u = Value.ref a := rx
  obtain ⟨u, rfl, ru⟩ := vals1 r2
  have hd := depth_ints ns
  refine PySem.W.min_list_default (I.ok.hd hc) hl.isList (reads_ints rv.ints) (alike_ints ns) (by omega) (fun e h' tk k => ?_) fun y ys i v h' tk bs e _ rd k => ?_
  · have e' : ns = [] := by
      cases ns with
      | nil => rfl
      | cons _ _ => cases e
    exact ⟨d, H, I.kept k, ru, h0 e'⟩
  · obtain ⟨n, ns', e1, rfl, rfl⟩ := map_int_inj e
    rw [PySem.W.minD_ints] at rd
    cases rd
    exact ⟨.int _, H, I.kept k, ⟨_, rfl⟩, h1 n ns' e1⟩
/-- the texts of a tuple -/
def strOf : V → Str
  | .str x => x
  | _ => ""
def kOf (H : Hp) : V → List Str
  | .ref a => match H a with
    | some (.tup vs) => vs.map strOf
    | _ => []
  | _ => []
theorem kOf_at {H : Hp} {a : Addr} {xs : List Str} (h : H a = some (.tup (xs.map V.str))) : kOf H (.ref a) = xs := by
  have e : kOf H (.ref a) = (match H a with | some (.tup vs) => vs.map strOf | _ => []) := rfl
  rw [e, h]
  show (xs.map V.str).map strOf = xs
  rw [List.map_map]
  exact List.map_id'' (fun _ => rfl) xs
/-- sorted(d), d's keys tuples of d texts -/
def rSortDT : List V → Hp → VK → Prop := fun vs H Q => ∃ (a : Addr) (kvs : List (List Key × V)) (ks : List (List Str)) (d : Nat), vs = [V.ref a] ∧ Rd H a (.dT kvs) ∧ kvs.map (·.1) = ks.map (fun xs => xs.map Sum.inr) ∧ 1 ≤ d ∧ (∀ x ∈ ks, x.length = d) ∧
  ∀ bs ys p, IsKeys H kvs bs → SrtO.Srtd (ltK (kOf H)) ys → SrtO.Stb (ltK (kOf H)) ys (bs.map V.ref) → H p = none → Q (.ref p) (upd H p (.lst ys))
theorem cr_sortedDT (hc : X.calm = true) : CallR X (.builtin "sorted") rSortDT := by
  intro pins s σ H vs us Q I r h
  obtain ⟨d, kvs, kk, dd, rfl, hd, hkk, h1, hlen, q⟩ := h
  obtain ⟨u, rfl, rx⟩ := vals1 r
  cases rx
  obtain ⟨z, hs, ks, pr, o, es, ep, ho, hx, hdt, he, hn⟩ := (show ObjOk X.prog X.w H s.heap d (.dT kvs) from hd.ok I.hok)
  have l1 : es.size = ks.length := size_of_entries he
  have l2 : kvs.length = ks.length := Paired.length pr
  refine Calls.call_function_entry PyProof.Rows.kind_sorted PyProof.Rows.plain_sorted PyProof.Rows.entry_sorted (PyProof.Rows.args_sorted1 _) ?_
  unfold Builtin.«sorted»
  refine wpAny_bind (m := checkCount "sorted" 1 1 _) (wpAny_pure ?_)
  refine wpAny_bind (PySem.W.kdu_collect (A := X.A.in1) (kdl_raw hs hx hdt) (I.ok.hd hc) ho (by omega) fun h' tk acc kp it => ?_)
  have ea : acc.toList = (ks.map fun x => x.2.1).map Value.ref := by
    rw [List.map_map]
    have hl : acc.toList.length = ks.length := by rw [Array.length_toList, it.1]; exact l1
    apply List.ext_getElem?
    intro j
    rw [List.getElem?_map]
    cases hj : acc.toList[j]? with
    | none =>
      have h1 := List.getElem?_eq_none_iff.mp hj
      rw [List.getElem?_eq_none (by omega)]
      all_goals rfl
    | some v =>
      obtain ⟨en, hen, hv⟩ := it.2 j v (by rw [← Array.getElem?_toList]; exact hj)
      have qe := entry_at he j
      rw [hen] at qe
      cases hb : ks[j]? with
      | none =>
        rw [hb] at qe
        exact nomatch (show some en = none from qe)
      | some b =>
        rw [hb] at qe
        have e2 : en = entryOfKey (tupleKind (mixKind X.prog X.w)) b := Option.some.inj qe
        rw [hv, e2]
        all_goals rfl
  have ik : IsKeys H kvs (ks.map fun x => x.2.1) := isKeys_of pr
  generalize hbs : (ks.map fun x => x.2.1) = bs at ea ik
  have I1 : Inv X pins σ H { s with heap := h', toks := tk } := I.kept kp
  have hz : acc.toList.length ≤ sizeLine := by rw [ea, List.length_map, ← hbs, List.length_map]; omega
  have hts : ∀ v ∈ acc.toList, ∃ (b : Addr) (xs : List Str), v = Value.ref b ∧ H b = some (.tup (xs.map V.str)) ∧ xs.length = dd := fun v hv => by
    rw [ea] at hv
    obtain ⟨b, hb, rfl⟩ := List.mem_map.mp hv
    have : ∀ {kvs : List (List Key × V)} {bs : List Addr} {kk : List (List Str)}, IsKeys H kvs bs → kvs.map (·.1) = kk.map (fun xs => xs.map Sum.inr) → b ∈ bs → ∃ xs : List Str, xs ∈ kk ∧ H b = some (.tup (xs.map V.str)) := by
      intro kvs bs kk ik
      unfold IsKeys at ik
      induction ik generalizing kk with
      | nil => intro _ hb; cases hb
      | @cons p c ps cs h t ih =>
        intro e hb
        cases kk with
        | nil => cases e
        | cons k1 kk =>
          rw [List.map_cons, List.map_cons, List.cons.injEq] at e
          rcases List.mem_cons.mp hb with rfl | hb
          · refine ⟨k1, List.mem_cons_self, ?_⟩
            rw [h, e.1, List.map_map]
            all_goals rfl
          · obtain ⟨xs, hx, e2⟩ := ih e.2 hb
            exact ⟨xs, List.mem_cons_of_mem _ hx, e2⟩
    obtain ⟨xs, hx, e⟩ := this ik hkk hb
    exact ⟨b, xs, rfl, e, hlen _ hx⟩
  refine wpAny_bind (wpAny_newList ?_ hz)
  have hoL : (h'.push (seqObj "list" acc.toList.toArray 0)).get? h'.objs.size = some (seqObj "list" acc.toList.toArray 0) := Heap.get?_push_size _ rfl
  show wpAny _ _ _ _ _ { s with heap := h'.push (seqObj "list" acc.toList.toArray 0), toks := tk }
  refine wpAny_bind (wpAny_holding (wpAny_call_entry PyProof.Rows.slot_list_sort ⟨_, hoL, rfl⟩ PyProof.Rows.entry_list_sort
    (SrtO.list_sort_ord (s := { s with heap := h'.push (seqObj "list" acc.toList.toArray 0), toks := tk }) (swo_ltL fun u => kOf H (backV u)) hoL hz (fun h2 => ts_sortable (d := dd) h1 (by omega) (fun v hv => ?_) fun o' e => ?_) fun out hs hb => ⟨_, rfl, ?_⟩) (PyProof.Rows.args_list_sort _)))
  · obtain ⟨b, xs, rfl, hb, hl⟩ := hts v hv
    have e : kOf H (backV (Value.ref b)) = xs := kOf_at hb
    rw [e]
    exact ⟨(isTS_of I1 hb).keeps fun b o e _ => Heap.get?_push_of_some _ e, hl⟩
  · have e' : some o' = some (seqObj "list" acc.toList.toArray 0) := e.symm.trans hoL
    cases e'
    intro c
    exact absurd (Value.type.inj c) (by decide)
  · obtain ⟨e', he'⟩ := PyProof.Rows.sortedHeap_at (vs := acc.toList) (out := out.toArray) hoL
    have h3 : ∀ u ∈ out, ∃ a, u = Value.ref a := fun u hu => by
      obtain ⟨b, xs, e, _⟩ := hts u (hb.perm.mem_iff.mp hu)
      exact ⟨b, e⟩
    have hb2 : SrtO.Stb (ltK (kOf H)) (out.map backV) (bs.map V.ref) := by
      have e : bs.map V.ref = acc.toList.map backV := by
        rw [ea, List.map_map]
        rfl
      rw [e]
      exact SrtO.Stb.map (swo_ltL (kOf H)) backV hb
    refine wpAny_pure ⟨_, rfl, .ref h'.objs.size, upd H h'.objs.size (.lst (out.map backV)), I1.laid (t' := tk) (fun b u e => ?_) (Nat.le_refl _)
      (show ObjOk X.prog X.w _ _ _ (.lst (out.map backV)) from ⟨?_, out, e', vals_back h3, by simpa using he'⟩), rfl, q _ _ _ ik (SrtO.srtd_map hs) hb2 (I1.hok.fresh (Nat.le_refl _))⟩
    · have hb : b < h'.objs.size := Heap.lt_size e
      rw [PyProof.Rows.sortedHeap_old (Nat.ne_of_lt hb) (by rw [size_push']; exact Nat.lt_succ_of_lt hb)]
      exact Heap.get?_push_of_some _ e
    · rw [hb2.len, List.length_map, ← hbs, List.length_map]
      omega
/-- d.setdefault(y, z), y a tuple -/
def tDSetT (td ty tx : TE) : TE := fun σ H Q => td σ H fun x H1 => ∃ a, x = .ref a ∧ IsD H1 a ∧ ty σ H1 fun y H2 => tx σ H2 fun z H3 => ∃ (kvs : List (List Key × V)) (k : List Key) (b : Addr), H3 a = some (.dT kvs) ∧ y = .ref b ∧ H3 b = some (.tup (k.map kV)) ∧ kvs.length < sizeLine ∧
  (∀ v, valV kvs k = some v → Q v H3) ∧ (valV kvs k = none → Q z (upd H3 a (.dT (putK kvs k z))))
theorem pe_dsetT {o e f : Expr} {td ty tx : TE} {apos cpos : Pos} (hu : X.A.units + 1 < cLine) (ho : PE X o td) (he : PE X e ty) (hf : PE X f tx) (m : M2 X o "setdefault" apos e f cpos) : PE X (.Call (.Attribute o "setdefault" apos) [e, f] [] cpos) (tDSetT td ty tx) := by
  refine ⟨fun pins s σ H Q I h => ?_⟩
  refine wpAny_Call_method m.base m.few m.line PySem.F.plainAttrs_dict PySem.F.slot_dict_setdefault PySem.F.type_dict_setdefault (thn (ho.run pins s σ H _ I h) fun u s1 ⟨x, H1, I1, rx, a, ex, d, q1⟩ => ?_)
  subst ex
  obtain rfl : u = Value.ref a := rx
  obtain ⟨t1, t2, _⟩ := isD_at I1 d
  refine ⟨t1, t2, ?_⟩
  rw [m.trees]
  refine Calls.callWith_builtin rfl (Calls.evalArgs_plain (Calls.spliced_cons (thn (he.run pins s1 σ H1 _ I1 q1) fun iv s2 ⟨y, H2, I2, ry, q2⟩ =>
    Calls.spliced_cons (thn (hf.run pins s2 σ H2 _ I2 q2) fun fv s3 ⟨z, H3, I3, rz, kvs, k, b, ea, ey, eb, hl, q3, q4⟩ => Calls.spliced_nil ?_))))
  subst ey
  obtain rfl : iv = Value.ref b := ry
  obtain ⟨hz, hd, xs, rel, dd⟩ := dt_of I3.hok ea
  have hzx : xs.length ≤ sizeLine := by rw [← Paired.length rel]; exact hz
  refine call_setdefault_heap (hsz := hzx) (tupleKind_room_in1 hu) (key_of I3.hok eb) hd dd (fun p hp => ?_) fun hn h' dd' hs => ?_
  · have rv := rel.val k
    rw [hp] at rv
    cases hv : valV kvs k with
    | none =>
      rw [hv] at rv
      exact (show False from rv).elim
    | some v =>
      rw [hv] at rv
      exact ⟨v, H3, I3.tok _, rv, q3 v hv⟩
  · have rv := rel.val k
    rw [hn] at rv
    cases hv : valV kvs k with
    | some v =>
      rw [hv] at rv
      exact (show False from rv).elim
    | none =>
      have hl2 : (putK kvs k z).length ≤ sizeLine := by
        have := length_putK kvs k z
        omega
      obtain ⟨q, es, ep, hq, h2, h3, h4, _, h5⟩ := dd'
      refine ⟨z, upd H3 a (.dT (putK kvs k z)), d_write I3 (by rw [ea]; exact True.intro) hs ⟨q, hq⟩ ⟨hl2, hd, _, (rel.put k eb rz).keeps fun c ys ec => ?_, q, es, ep, hq, h2, h3, h4, h5⟩, rz, q4 hv⟩
      rw [upd_ne (ne_of ec ea (fun z => nomatch z))]
      exact ec
end
end Z
set_option Elab.async false
set_option linter.all false
set_option maxRecDepth 100000
set_option maxHeartbeats 4000000
namespace Z
open PySem PySem.Spec PyProof.Rows L2
/-! ### grants, relationships: triples of texts out of a fixed universe -/
abbrev Gr := Str × Str × Str
def gL (g : Gr) : List Str := [g.1, g.2.1, g.2.2]
def gD (g : Gr) : PyData := .tuple [.str g.1, .str g.2.1, .str g.2.2]
def ltG (x y : Gr) : Bool := ltL (gL x) (gL y)
def us3 : List Str := ["u:a", "u:b", "u:c"]
def Uni : List Gr := ((["d:p", "d:q"] : List Str).flatMap fun d => (["b", "o", "v", "w"] : List Str).flatMap fun n => us3.map fun u => ((d, n, u) : Gr)) ++ us3.map fun u => (("g:x", "m", u) : Gr)
def URel : List Gr := ((["d:p", "d:q"] : List Str).flatMap fun d => ((["b", "o"] : List Str).flatMap fun n => us3.map fun u => ((d, n, u) : Gr)) ++ ((["g:x#m"] : List Str) ++ us3).map fun u => ((d, "w", u) : Gr)) ++ us3.map fun u => (("g:x", "m", u) : Gr)
theorem uni_len : Uni.length = 27 := by decide +kernel
theorem urel_len : URel.length = 23 := by decide +kernel
def sortedB : List Gr → Bool
  | [] => true
  | x :: r => (r.all fun y => ltG x y) && sortedB r
theorem sortedB_pw : ∀ {l : List Gr}, sortedB l = true → l.Pairwise fun x y => ltG x y = true
  | [], _ => .nil
  | x :: r, h => by
    simp only [sortedB, Bool.and_eq_true, List.all_eq_true] at h
    exact .cons h.1 (sortedB_pw h.2)
theorem uni_sorted : Uni.Pairwise fun x y => ltG x y = true := sortedB_pw (by decide +kernel)
theorem urel_sorted : URel.Pairwise fun x y => ltG x y = true := sortedB_pw (by decide +kernel)
theorem ltG_irr (x : Gr) : ltG x x = false := (swo_ltL gL).refl x
theorem ltG_asym {x y : Gr} (h : ltG x y = true) : ltG y x = false := (swo_ltL gL).asym x y h
theorem ltG_total {x y : Gr} (h1 : ltG x y = false) (h2 : ltG y x = false) : x = y := by
  obtain ⟨a, b, c⟩ := x
  obtain ⟨a', b', c'⟩ := y
  have ht : ∀ {u v : Str}, decide (u.cps.toList < v.cps.toList) = false → decide (v.cps.toList < u.cps.toList) = false → u = v := fun {u v} q1 q2 => by
    have h := List.le_antisymm (α := Nat) (of_decide_eq_false q2) (of_decide_eq_false q1)
    have q : u.cps = v.cps := Array.toList_inj.mp h
    cases u
    cases v
    cases q
    rfl
  unfold ltG gL at h1 h2
  simp only [ltL_cons] at h1 h2
  by_cases e1 : a = a'
  · subst e1
    rw [if_pos rfl] at h1 h2
    by_cases e2 : b = b'
    · subst e2
      rw [if_pos rfl] at h1 h2
      by_cases e3 : c = c'
      · subst e3
        rfl
      · rw [if_neg e3] at h1
        rw [if_neg (Ne.symm e3)] at h2
        exact absurd (ht h1 h2) e3
    · rw [if_neg e2] at h1
      rw [if_neg (Ne.symm e2)] at h2
      exact absurd (ht h1 h2) e2
  · rw [if_neg e1] at h1
    rw [if_neg (Ne.symm e1)] at h2
    exact absurd (ht h1 h2) e1
/-- two lists in strict order with the same members are one -/
theorem sorted_ext : ∀ {l m : List Gr}, (l.Pairwise fun x y => ltG x y = true) → (m.Pairwise fun x y => ltG x y = true) → (∀ g, g ∈ l ↔ g ∈ m) → l = m
  | [], [], _, _, _ => rfl
  | [], y :: m, _, _, h => absurd ((h y).mpr List.mem_cons_self) (by simp)
  | x :: l, [], _, _, h => absurd ((h x).mp List.mem_cons_self) (by simp)
  | x :: l, y :: m, hl, hm, h => by
    obtain ⟨hl1, hl2⟩ := List.pairwise_cons.mp hl
    obtain ⟨hm1, hm2⟩ := List.pairwise_cons.mp hm
    have e : x = y := by
      rcases List.mem_cons.mp ((h x).mp List.mem_cons_self) with e | q
      · exact e
      · rcases List.mem_cons.mp ((h y).mpr List.mem_cons_self) with e | q'
        · exact e.symm
        · have a := hm1 x q
          have b := hl1 y q'
          rw [ltG_asym a] at b
          cases b
    subst e
    have nl : ∀ {k : List Gr}, (∀ z ∈ k, ltG x z = true) → x ∉ k := fun hk hx => by
      have q := hk x hx
      rw [ltG_irr] at q
      cases q
    have e2 : l = m := sorted_ext hl2 hm2 fun g => by
      constructor
      · intro hg
        rcases List.mem_cons.mp ((h g).mp (List.mem_cons_of_mem _ hg)) with e | q
        · subst e; exact absurd hg (nl hl1)
        · exact q
      · intro hg
        rcases List.mem_cons.mp ((h g).mpr (List.mem_cons_of_mem _ hg)) with e | q
        · subst e; exact absurd hg (nl hm1)
        · exact q
    rw [e2]
/-- the members of S, in order -/
def tb (S : Gr → Bool) : List Gr := Uni.filter S
def rb (S : Gr → Bool) : List Gr := URel.filter S
theorem tb_sorted (S : Gr → Bool) : (tb S).Pairwise fun x y => ltG x y = true := uni_sorted.filter S
theorem rb_sorted (S : Gr → Bool) : (rb S).Pairwise fun x y => ltG x y = true := urel_sorted.filter S
theorem nodup_of {l : List Gr} (h : l.Pairwise fun x y => ltG x y = true) : l.Nodup := h.imp fun {x y} q e => by
  subst e
  rw [ltG_irr] at q
  cases q
theorem tb_nodup (S : Gr → Bool) : (tb S).Nodup := nodup_of (tb_sorted S)
theorem rb_nodup (S : Gr → Bool) : (rb S).Nodup := nodup_of (rb_sorted S)
theorem tb_len (S : Gr → Bool) : (tb S).length ≤ 27 := Nat.le_trans (List.length_filter_le _ _) (Nat.le_of_eq uni_len)
theorem rb_len (S : Gr → Bool) : (rb S).length ≤ 23 := Nat.le_trans (List.length_filter_le _ _) (Nat.le_of_eq urel_len)
theorem mem_tb {S : Gr → Bool} {g : Gr} : g ∈ tb S ↔ g ∈ Uni ∧ S g = true := List.mem_filter
theorem mem_rb {S : Gr → Bool} {g : Gr} : g ∈ rb S ↔ g ∈ URel ∧ S g = true := List.mem_filter
/-- strictly sorted: of a sorted list without doubles -/
theorem strict_of {l : List Gr} (h : l.Pairwise fun x y => ltG y x = false) (n : l.Nodup) : l.Pairwise fun x y => ltG x y = true := by
  refine (h.and n).imp fun {x y} q => ?_
  cases e : ltG x y with
  | true => rfl
  | false => exact absurd (ltG_total e q.1) q.2
/-- what is sorted, without doubles, and holds what S does -/
theorem eq_tb {l : List Gr} {S : Gr → Bool} (h : l.Pairwise fun x y => ltG y x = false) (n : l.Nodup) (m : ∀ g, g ∈ l ↔ g ∈ Uni ∧ S g = true) : l = tb S :=
  sorted_ext (strict_of h n) (tb_sorted S) fun g => (m g).trans mem_tb.symm
theorem eq_rb {l : List Gr} {S : Gr → Bool} (h : l.Pairwise fun x y => ltG y x = false) (n : l.Nodup) (m : ∀ g, g ∈ l ↔ g ∈ URel ∧ S g = true) : l = rb S :=
  sorted_ext (strict_of h n) (rb_sorted S) fun g => (m g).trans mem_rb.symm
/-! ### in the heap -/
section
variable {A : Addr → Prop} {H : Hp}
theorem TD.g_ {v : V} {g : Gr} (h : TD A H v (gD g)) : ∃ a, v = .ref a ∧ H a = some (.tup [.str g.1, .str g.2.1, .str g.2.2]) := by
  obtain ⟨a, vs, rfl, ha, ht⟩ := h.tup_
  obtain ⟨v1, w1, rfl, h1, ht⟩ := ht.cons_
  obtain ⟨v2, w2, rfl, h2, ht⟩ := ht.cons_
  obtain ⟨v3, w3, rfl, h3, ht⟩ := ht.cons_
  rw [ht.nil_, h1.str_, h2.str_, h3.str_] at ha
  exact ⟨a, rfl, ha⟩
theorem TD.g {a : Addr} {x y z : Str} (h : H a = some (.tup [.str x, .str y, .str z])) : TD A H (.ref a) (gD (x, y, z)) := .tup h (.cons (.str _) (.cons (.str _) (.cons (.str _) .nil)))
theorem kOf_g {v : V} {g : Gr} (h : TD A H v (gD g)) : kOf H v = gL g := by
  obtain ⟨a, rfl, ha⟩ := h.g_
  exact kOf_at (xs := gL g) ha
def unL : List Str → Gr
  | [a, b, c] => (a, b, c)
  | _ => ("", "", "")
theorem un_gL (g : Gr) : unL (gL g) = g := rfl
theorem TDs.kOfs : ∀ {gs : List Gr} {vs : List V}, TDs A H vs (gs.map gD) → vs.map (fun v => unL (kOf H v)) = gs
  | [], _, h => by rw [h.nil_]; rfl
  | g :: gs, _, h => by
    obtain ⟨v, ws, rfl, h1, h2⟩ := TDs.cons_ h
    rw [List.map_cons, TDs.kOfs h2, kOf_g h1, un_gL]
theorem TDs.all_ : ∀ {gs : List Gr} {vs : List V}, TDs A H vs (gs.map gD) → ∀ v ∈ vs, ∃ g ∈ gs, TD A H v (gD g)
  | [], _, h, v, hv => by rw [h.nil_] at hv; cases hv
  | g :: gs, _, h, v, hv => by
    obtain ⟨u, ws, rfl, h1, h2⟩ := TDs.cons_ h
    rcases List.mem_cons.mp hv with rfl | hv
    · exact ⟨g, List.mem_cons_self, h1⟩
    · obtain ⟨g', hg, q⟩ := TDs.all_ h2 v hv
      exact ⟨g', List.mem_cons_of_mem _ hg, q⟩
theorem TDs.of_all : ∀ {vs : List V}, (∀ v ∈ vs, ∃ g, TD A H v (gD g)) → TDs A H vs ((vs.map fun v => unL (kOf H v)).map gD)
  | [], _ => .nil
  | v :: vs, h => by
    obtain ⟨g, hg⟩ := h v List.mem_cons_self
    rw [List.map_cons, List.map_cons]
    refine .cons ?_ (TDs.of_all fun u hu => h u (List.mem_cons_of_mem _ hu))
    rw [kOf_g hg, un_gL]
    exact hg
/-- a list of triples, reordered and sorted -/
theorem sorted_gs {gs : List Gr} {vs ys : List V} (h : TDs A H vs (gs.map gD)) (hs : SrtO.Srtd (ltK (kOf H)) ys) (hp : ys.Perm vs) :
    ∃ gs' : List Gr, gs'.Perm gs ∧ (gs'.Pairwise fun x y => ltG y x = false) ∧ TDs A H ys (gs'.map gD) := by
  have hall : ∀ v ∈ ys, ∃ g, TD A H v (gD g) := fun v hv => by
    obtain ⟨g, _, q⟩ := h.all_ v (hp.mem_iff.mp hv)
    exact ⟨g, q⟩
  refine ⟨ys.map fun v => unL (kOf H v), ?_, ?_, TDs.of_all hall⟩
  · have q := hp.map fun v => unL (kOf H v)
    rw [h.kOfs] at q
    exact q
  · refine List.pairwise_map.mpr ?_
    refine (List.Pairwise.and_mem.mp hs).imp fun {x y} q => ?_
    obtain ⟨gx, hx⟩ := hall x q.1
    obtain ⟨gy, hy⟩ := hall y q.2.1
    have z := q.2.2
    show ltL (gL (unL (kOf H y))) (gL (unL (kOf H x))) = false
    rw [kOf_g hx, kOf_g hy, un_gL, un_gL]
    unfold ltK at z
    rw [kOf_g hx, kOf_g hy] at z
    exact z
theorem eqv_g (x y : Gr) : PyData.eqv (gD x) (gD y) = decide (x = y) := by
  obtain ⟨a, b, c⟩ := x
  obtain ⟨a', b', c'⟩ := y
  rw [Bool.eq_iff_iff]
  simp [gD, PyData.eqv, PyData.eqvAll]
end
/-! ### the notation's lines -/
def lineOf (s : Str) (g : Gr) : Str := s ++ " " ++ Txt.join " " (gL g)
def snapHead (n : Nat) : Str := Str.empty ++ "snapshot " ++ "main" ++ " " ++ toString (n : Int)
def entHead (n : Nat) : Str := Str.empty ++ "entry " ++ "main" ++ " " ++ toString (n : Int)
def signs : List Str := ["+", "-", "="]
theorem line_len : (signs.all fun s => Uni.all fun g => decide ((lineOf s g).length ≤ 30)) = true := by decide +kernel
theorem line_le {s : Str} {g : Gr} (hs : s ∈ signs) (hg : g ∈ Uni) : (lineOf s g).length ≤ 30 := of_decide_eq_true (List.all_eq_true.mp (List.all_eq_true.mp line_len s hs) g hg)
theorem gr_len : (Uni.all fun g => (gL g).all fun x => decide (x.length ≤ 5)) = true := by decide +kernel
theorem gr_le {g : Gr} (hg : g ∈ Uni) : g.1.length ≤ 5 ∧ g.2.1.length ≤ 5 ∧ g.2.2.length ≤ 5 := by
  have h := List.all_eq_true.mp (List.all_eq_true.mp gr_len g hg)
  exact ⟨of_decide_eq_true (h _ (by simp [gL])), of_decide_eq_true (h _ (by simp [gL])), of_decide_eq_true (h _ (by simp [gL]))⟩
theorem head_len : ∀ n : Fin 101, (snapHead n).length ≤ 30 ∧ (entHead n).length ≤ 30 := by decide +kernel
def snapLines (n : Nat) (gs : List Gr) : List Str := snapHead n :: gs.map (lineOf "=")
abbrev En := Nat × List Gr × List Gr
def entLines (e : En) : List Str := entHead e.1 :: (e.2.1.map (lineOf "+") ++ e.2.2.map (lineOf "-"))
def snapText (n : Nat) (gs : List Gr) : Str := Txt.join "\n" (snapLines n gs)
def feedText (es : List En) : Str := Txt.join "\n" (es.flatMap entLines)
def gsD (gs : List Gr) : PyData := .list (gs.map gD)
def enD (e : En) : PyData := .tuple [.str "main", .int e.1, gsD e.2.1, gsD e.2.2]
def snD (n : Nat) (gs : List Gr) : PyData := .tuple [.str "main", .int n, gsD gs]
/-- an entry of the store: its grants are of the universe -/
def EnOk (e : En) : Prop := e.1 ≤ 100 ∧ (∀ g ∈ e.2.1, g ∈ Uni) ∧ (∀ g ∈ e.2.2, g ∈ Uni) ∧ e.2.1.length ≤ 27 ∧ e.2.2.length ≤ 27
/-! ### comprehensions over told items -/
section
variable {K : PySem.W.Frag} {J : It} {G : Hp → Prop} {g : TG} {tt : TT} {te : TE} {us : List Nat} {σ : L2.St} {H1 : Hp} {D : Addr} {Qd : Hp → Prop} {A0 : Addr → Prop} {α : Type} {enc : α → PyData} {xs : List α} {vs : List V}
theorem lcA (w : Walk J vs.length G (YAt vs)) (ht : TDs A0 H1 vs (xs.map enc)) (hn : vs.length ≤ sizeLine) (hD : H1 D = none) (hG : ∀ H', Ex H1 H' → G H') (p : α → Bool) (f : α → PyData)
    (hs : ∀ (i : Nat) (x : α) v H (P : V → Hp → Prop) (P0 : Hp → Prop), xs[i]? = some x → TD A0 H v (enc x) → Ex H1 H → (∀ y H4, Ex H H4 → TD (Fr H) H4 y (f x) → p x = true → P y H4) → (∀ H3, Ex H H3 → p x = false → P0 H3) →
      g v (wipe σ us) H fun σ2 H2 => wipe σ2 us = wipe σ us ∧ tt σ2 H2 fun b H3 => if b = true then te σ2 H3 P else P0 H3)
    (hd : ∀ H' ys, Ex H1 H' → H' D = some (.lst ys) → TDs (fun x => H1 x = none ∧ x ≠ D) H' ys ((xs.filter p).map f) → Qd H') :
    ∃ W : Nat → Nat → Hp → Prop, (∃ m, W 0 m (upd H1 D (.lst []))) ∧ ∀ i m H, W i m H →
      (J.stop i H ∧ Qd H) ∨ (J.go i H ∧ ∃ Nx : Hp → Prop, (∀ H', Nx H' → ∃ m', m' < m ∧ W (i + 1) m' H') ∧ ∀ x H', J.yld i H x H' → g x (wipe σ us) H' fun σ2 H2 => wipe σ2 us = wipe σ us ∧ tt σ2 H2 fun b H3 =>
        if b = true then te σ2 H3 fun y H4 => ∃ acc, H4 D = some (.lst acc) ∧ acc.length < sizeLine ∧ Nx (upd H4 D (.lst (acc ++ [y]))) else Nx H3) := by
  have hl : vs.length = xs.length := by rw [ht.len, List.length_map]
  refine lcW w hn hD hG (fun i => ((xs.take i).filter p).map f) rfl (fun i => ?_) ?_ ?_
  · rw [List.length_map]
    exact Nat.le_trans (List.length_filter_le _ _) (by rw [List.length_take]; exact Nat.min_le_left _ _)
  · rintro i v H H' P P0 hi e ⟨rfl, hv⟩ k1 k0
    obtain ⟨x, hx, tx⟩ := ht.atM hv
    have et : ((xs.take (i + 1)).filter p).map f = ((xs.take i).filter p).map f ++ (if p x then [f x] else []) := by
      rw [take_next hx, List.filter_append, List.map_append]
      congr 1
      cases q : p x <;> simp [q]
    refine hs i x v H' P P0 hx (tx.e e) e (fun y H4 e4 t4 hp => k1 y H4 (f x) e4 t4 ?_) fun H3 e3 hp => k0 H3 e3 ?_
    · rw [et, hp, if_pos rfl]
    · rw [et, hp, if_neg Bool.false_ne_true, List.append_nil]
  · intro H' ys e h t
    refine hd H' ys e h ?_
    have t : TDs _ H' ys (((xs.take vs.length).filter p).map f) := t
    rw [hl, List.take_length] at t
    exact t
end
section
variable {A : Addr → Prop} {H : Hp}
theorem TD.gno {v : V} {g : Gr} (h : TD A H v (gD g)) : TD NoL H v (gD g) := by
  obtain ⟨a, rfl, ha⟩ := h.g_
  exact TD.g ha
theorem TDs.gno : ∀ {gs : List Gr} {vs : List V}, TDs A H vs (gs.map gD) → TDs NoL H vs (gs.map gD)
  | [], _, h => by rw [h.nil_]; exact .nil
  | g :: gs, _, h => by
    obtain ⟨v, ws, rfl, h1, h2⟩ := TDs.cons_ h
    exact .cons h1.gno (TDs.gno h2)
theorem TD.gs_ {v : V} {gs : List Gr} (h : TD A H v (gsD gs)) : ∃ l vs, v = .ref l ∧ H l = some (.lst vs) ∧ A l ∧ TDs NoL H vs (gs.map gD) := by
  obtain ⟨l, vs, rfl, hl, ha, t⟩ := h.lst_
  exact ⟨l, vs, rfl, hl, ha, t.gno⟩
theorem TD.gs {l : Addr} {vs : List V} {gs : List Gr} (hl : H l = some (.lst vs)) (ha : A l) (h : TDs NoL H vs (gs.map gD)) : TD A H (.ref l) (gsD gs) := .lst hl ha h.no
theorem TD.sn_ {v : V} {n : Nat} {gs : List Gr} (h : TD A H v (snD n gs)) : ∃ a l vs, v = .ref a ∧ H a = some (.tup [.str "main", .int n, .ref l]) ∧ H l = some (.lst vs) ∧ A l ∧ TDs NoL H vs (gs.map gD) := by
  obtain ⟨a, vs, rfl, ha, t0⟩ := h.tup_
  obtain ⟨v1, w1, rfl, h1, t1⟩ := t0.cons_
  obtain ⟨v2, w2, rfl, h2, t2⟩ := t1.cons_
  obtain ⟨v3, w3, rfl, h3, t3⟩ := t2.cons_
  obtain ⟨l, gv, rfl, hl, al, tl⟩ := TD.gs_ h3
  obtain rfl := t3.nil_
  obtain rfl := h1.str_
  obtain rfl := h2.int_
  exact ⟨a, l, gv, rfl, ha, hl, al, tl⟩
theorem TD.sn {a l : Addr} {n : Nat} {gs : List Gr} {vs : List V} (ha : H a = some (.tup [.str "main", .int n, .ref l])) (hl : H l = some (.lst vs)) (al : A l) (t : TDs NoL H vs (gs.map gD)) : TD A H (.ref a) (snD n gs) :=
  .tup ha (.cons (.str _) (.cons (.int _) (.cons (.gs hl al t) .nil)))
theorem TD.en_ {v : V} {e : En} (h : TD A H v (enD e)) : ∃ a l vs l' vs', v = .ref a ∧ H a = some (.tup [.str "main", .int e.1, .ref l, .ref l']) ∧ H l = some (.lst vs) ∧ A l ∧ TDs NoL H vs (e.2.1.map gD) ∧ H l' = some (.lst vs') ∧ A l' ∧ TDs NoL H vs' (e.2.2.map gD) := by
  obtain ⟨a, vs, rfl, ha, t0⟩ := h.tup_
  obtain ⟨v1, w1, rfl, h1, t1⟩ := t0.cons_
  obtain ⟨v2, w2, rfl, h2, t2⟩ := t1.cons_
  obtain ⟨v3, w3, rfl, h3, t3⟩ := t2.cons_
  obtain ⟨v4, w4, rfl, h4, t4⟩ := t3.cons_
  obtain ⟨l, gv, rfl, hl, al, tl⟩ := TD.gs_ h3
  obtain ⟨l', gv', rfl, hl', al', tl'⟩ := TD.gs_ h4
  obtain rfl := t4.nil_
  obtain rfl := h1.str_
  obtain rfl := h2.int_
  exact ⟨a, l, gv, l', gv', rfl, ha, hl, al, tl, hl', al', tl'⟩
theorem TD.en {a l l' : Addr} {e : En} {vs vs' : List V} (ha : H a = some (.tup [.str "main", .int e.1, .ref l, .ref l'])) (hl : H l = some (.lst vs)) (al : A l) (t : TDs NoL H vs (e.2.1.map gD)) (hl' : H l' = some (.lst vs')) (al' : A l') (t' : TDs NoL H vs' (e.2.2.map gD)) :
    TD A H (.ref a) (enD e) := .tup ha (.cons (.str _) (.cons (.int _) (.cons (.gs hl al t) (.cons (.gs hl' al' t') .nil))))
end
/-! ### loops over told items -/
section
variable {J : It} {G : Hp → Prop} {g : TG} {tb : TS} {D : Ends} {σ : L2.St} {H1 : Hp} {A0 : Addr → Prop} {α : Type} {enc : α → PyData} {xs : List α} {vs : List V}
theorem forA {H0 : Hp} (w : Walk J vs.length G (YAt vs)) (ht : TDs A0 H0 vs (xs.map enc)) (Pv : List α → L2.St → Hp → Prop) (h0 : Pv [] σ H1) (hG : ∀ d σ H, Pv d σ H → G H)
    (hs : ∀ (d : List α) (x : α) (r : List α) v σ H, xs = d ++ x :: r → TD A0 H0 v (enc x) → Pv d σ H → g v σ H fun σ2 H2 => tb { D with nx := Pv (d ++ [x]), ct := Pv (d ++ [x]), bk := D.nx } σ2 H2) (hd : ∀ σ H, Pv xs σ H → D.nx σ H) :
    FW J g tb D σ H1 := by
  have hl : vs.length = xs.length := by rw [ht.len, List.length_map]
  refine for_it w (fun i => Pv (xs.take i)) h0 (fun i σ H _ p => hG _ σ H p) ?_ ?_
  · rintro i v σ H H' hi p ⟨rfl, hv⟩
    obtain ⟨x, hx, tx⟩ := ht.atM hv
    have e : xs = xs.take i ++ x :: xs.drop (i + 1) := by
      have hi' : i < xs.length := by omega
      have ex : xs[i] = x := by
        rw [List.getElem?_eq_getElem hi'] at hx
        exact Option.some.inj hx
      rw [← ex, List.getElem_cons_drop, List.take_append_drop]
    have q := hs (xs.take i) x _ v σ H' e tx p
    rw [← take_next hx] at q
    exact q
  · intro σ H p
    refine hd σ H ?_
    have p : Pv (xs.take vs.length) σ H := p
    rw [hl, List.take_length] at p
    exact p
end
section
variable {K : PySem.W.Frag} {g : TG} {tb : TS} {D : Ends} {σ : L2.St} {H1 : Hp} {A0 : Addr → Prop} {α : Type} {enc : α → PyData} {xs : List α} {vs : List V} {a : Addr}
theorem split_at {α : Type} {xs : List α} {i : Nat} {x : α} (hx : xs[i]? = some x) : xs = xs.take i ++ x :: xs.drop (i + 1) ∧ (xs.take i).length = i := by
  have hi' : i < xs.length := by
    rcases Nat.lt_or_ge i xs.length with q | q
    · exact q
    · rw [List.getElem?_eq_none q] at hx
      cases hx
  have ex : xs[i] = x := by
    rw [List.getElem?_eq_getElem hi'] at hx
    exact Option.some.inj hx
  exact ⟨by rw [← ex, List.getElem_cons_drop, List.take_append_drop], by rw [List.length_take]; omega⟩
/-- enumerate(list) -/
theorem forE {H0 : Hp} (ht : TDs A0 H0 vs (xs.map enc)) (Pv : List α → L2.St → Hp → Prop) (h0 : Pv [] σ H1) (hG : ∀ d σ H, Pv d σ H → SqL K H a vs)
    (hs : ∀ (d : List α) (x : α) (r : List α) v T σ H H2, xs = d ++ x :: r → TD A0 H0 v (enc x) → Pv d σ H → H T = none → Ex H H2 → H2 T = some (.tup [.int (d.length : Nat), v]) → g (.ref T) σ H2 fun σ2 H2 => tb { D with nx := Pv (d ++ [x]), ct := Pv (d ++ [x]), bk := D.nx } σ2 H2)
    (hd : ∀ σ H, Pv xs σ H → D.nx σ H) : FW (Ite K a) g tb D σ H1 := by
  have hl : vs.length = xs.length := by rw [ht.len, List.length_map]
  refine for_it (walk_enum (xs := vs)) (fun i => Pv (xs.take i)) h0 (fun i σ H _ p => hG _ σ H p) ?_ ?_
  · rintro i v σ H H' hi p ⟨T, u, y, rfl, hT, rfl, e1, e2⟩
    obtain ⟨x, hx, tx⟩ := ht.atM e2
    cases e1
    obtain ⟨e, el⟩ := split_at hx
    have q := hs (xs.take i) x _ y T σ H _ e tx p hT (Ex.new hT) (by rw [el]; exact upd_same)
    rw [← take_next hx] at q
    exact q
  · intro σ H p
    refine hd σ H ?_
    have p : Pv (xs.take vs.length) σ H := p
    rw [hl, List.take_length] at p
    exact p
end
theorem cut_from {xs : List V} (k : Nat) (h : k ≤ xs.length) : cutV xs (some (k : Int)) none = xs.drop k := by
  unfold cutV
  rw [HT.sIx_nat, HT.sIx_none, Nat.min_eq_left h]
  exact List.take_of_length_le (by rw [List.length_drop]; omega)
theorem cut_to {xs : List V} (k : Nat) : cutV xs none (some (k : Int)) = xs.take k := by
  unfold cutV
  rw [HT.sIx_nat, HT.sIx_none, List.drop_zero, Nat.sub_zero, List.take_eq_take_iff]
  omega
theorem cut_all {xs : List V} : cutV xs none none = xs := by
  unfold cutV
  rw [HT.sIx_none, HT.sIx_none, List.drop_zero, Nat.sub_zero, List.take_length]
/-! ### the texts, read back -/
theorem line_nl : (signs.all fun s => Uni.all fun g => decide (10 ∉ TL.tl (lineOf s g))) = true := by decide +kernel
theorem head_nl : ∀ n : Fin 101, 10 ∉ TL.tl (snapHead n) ∧ 10 ∉ TL.tl (entHead n) := by decide +kernel
theorem line_no {s : Str} {g : Gr} (hs : s ∈ signs) (hg : g ∈ Uni) : 10 ∉ TL.tl (lineOf s g) := of_decide_eq_true (List.all_eq_true.mp (List.all_eq_true.mp line_nl s hs) g hg)
theorem snap_split {n : Nat} {gs : List Gr} (hn : n ≤ 100) (hg : ∀ g ∈ gs, g ∈ Uni) : Txt.split (snapText n gs) "\n" = snapLines n gs := by
  refine TL.split_join (s := 10) (S := []) rfl (by decide +kernel) (by simp [snapLines]) fun p hp => ?_
  rcases List.mem_cons.mp hp with rfl | hp
  · exact (head_nl ⟨n, by omega⟩).1
  · obtain ⟨g, q, rfl⟩ := List.mem_map.mp hp
    exact line_no (by decide) (hg g q)
theorem feed_split {es : List En} (hok : ∀ e ∈ es, EnOk e) (hne : es ≠ []) : Txt.split (feedText es) "\n" = es.flatMap entLines := by
  refine TL.split_join (s := 10) (S := []) rfl (by decide +kernel) ?_ fun p hp => ?_
  · cases es with
    | nil => exact absurd rfl hne
    | cons e r => simp [entLines]
  · obtain ⟨e, he, hp⟩ := List.mem_flatMap.mp hp
    obtain ⟨h1, h2, h3, _, _⟩ := hok e he
    rcases List.mem_cons.mp hp with rfl | hp
    · exact (head_nl ⟨e.1, by omega⟩).2
    · rcases List.mem_append.mp hp with hp | hp
      · obtain ⟨g, q, rfl⟩ := List.mem_map.mp hp
        exact line_no (by decide) (h2 g q)
      · obtain ⟨g, q, rfl⟩ := List.mem_map.mp hp
        exact line_no (by decide) (h3 g q)
theorem joinL_len {c : Nat} : ∀ {ls : List (List Nat)}, (∀ l ∈ ls, l.length ≤ c) → (TL.joinL [10] ls).length ≤ ls.length * (c + 1)
  | [], _ => by simp [TL.joinL]
  | [p], h => by
    have := h p List.mem_cons_self
    simp [TL.joinL]
    omega
  | p :: q :: r, h => by
    have h1 := h p List.mem_cons_self
    have h2 := joinL_len (ls := q :: r) fun l hl => h l (List.mem_cons_of_mem _ hl)
    rw [TL.joinL, List.length_append, List.length_append, List.length_cons (a := p), Nat.add_mul]
    simp only [List.length_cons, List.length_nil] at h2 ⊢
    omega
theorem join_len {c : Nat} {ys : List Str} (h : ∀ y ∈ ys, y.length ≤ c) : (Txt.join "\n" ys).length ≤ ys.length * (c + 1) := by
  have e : TL.tl ("\n" : Str) = [10] := rfl
  rw [TL.join_eq, TL.len_tl, TL.tl_join, e]
  have q := joinL_len (c := c) (ls := ys.map TL.tl) fun l hl => by
    obtain ⟨y, hy, rfl⟩ := List.mem_map.mp hl
    rw [← TL.len_tl]
    exact h y hy
  rw [List.length_map] at q
  exact q
theorem leT_gL (x y : Gr) : leTv (gL x) (gL y) = !ltL (gL y) (gL x) := by
  obtain ⟨a, b, c⟩ := x
  obtain ⟨a', b', c'⟩ := y
  simp only [leTv, gL, Ob.lexAt, ltL_cons, List.length_cons, List.length_nil, List.getD_cons_zero, List.getD_cons_succ, Nat.min_self, decide_eq_true_eq]
  by_cases h1 : a = a'
  · subst h1
    simp only [if_true]
    by_cases h2 : b = b'
    · subst h2
      simp only [if_true]
      by_cases h3 : c = c'
      · subst h3
        simp [Ob.lexAt, ltL, cpsL]
      · simp [h3, Ne.symm h3]
    · simp [h2, Ne.symm h2]
  · simp [h1, Ne.symm h1]
/-! ### data that can be compared -/
def Fine (n : Nat) (d : PyData) : Prop := d.canLay0 = true ∧ d.depth ≤ n
theorem Fine.mono {n m : Nat} {d : PyData} (h : Fine n d) (hm : n ≤ m) : Fine m d := ⟨h.1, Nat.le_trans h.2 hm⟩
theorem fine_all {n : Nat} : ∀ {ds : List PyData}, (∀ d ∈ ds, Fine n d) → PyData.canLayAll0 ds = true ∧ PyData.depthAll ds ≤ n
  | [], _ => ⟨by simp [PyData.canLayAll0], by simp [PyData.depthAll]⟩
  | d :: ds, h => by
    obtain ⟨a, b⟩ := h d List.mem_cons_self
    obtain ⟨c, e⟩ := fine_all (ds := ds) fun x hx => h x (List.mem_cons_of_mem _ hx)
    exact ⟨by simp [PyData.canLayAll0, a, c], by simp only [PyData.depthAll]; exact Nat.max_le.mpr ⟨b, e⟩⟩
theorem fine_lst {n : Nat} {ds : List PyData} (h : ∀ d ∈ ds, Fine n d) : Fine (n + 1) (.list ds) := by
  obtain ⟨a, b⟩ := fine_all h
  exact ⟨by simp only [PyData.canLay0]; exact a, by simp only [PyData.depth]; omega⟩
theorem fine_tup {n : Nat} {ds : List PyData} (h : ∀ d ∈ ds, Fine n d) : Fine (n + 1) (.tuple ds) := by
  obtain ⟨a, b⟩ := fine_all h
  exact ⟨by simp only [PyData.canLay0]; exact a, by simp only [PyData.depth]; omega⟩
theorem Fine.shaped {n : Nat} {d : PyData} (h : Fine n d) (hn : n ≤ 64) : SeqAt.shaped d = true := by
  unfold SeqAt.shaped
  rw [h.1, decide_eq_true (Nat.le_trans h.2 hn)]
  rfl
theorem fine_int (i : Int) : Fine 0 (.int i) := ⟨by simp [PyData.canLay0], by simp [PyData.depth]⟩
theorem fine_bool (i : Bool) : Fine 0 (.bool i) := ⟨by simp [PyData.canLay0], by simp [PyData.depth]⟩
theorem uni_fine_ : ((Uni ++ URel).all fun g => (gD g).canLay0) = true := by decide +kernel
theorem gD_depth (g : Gr) : (gD g).depth ≤ 1 := by simp [gD, PyData.depth, PyData.depthAll]
theorem fine_g {g : Gr} (h : g ∈ Uni) : Fine 1 (gD g) := ⟨List.all_eq_true.mp uni_fine_ g (List.mem_append_left _ h), gD_depth g⟩
theorem fine_r {g : Gr} (h : g ∈ URel) : Fine 1 (gD g) := ⟨List.all_eq_true.mp uni_fine_ g (List.mem_append_right _ h), gD_depth g⟩
theorem fine_gs {gs : List Gr} (h : ∀ g ∈ gs, g ∈ Uni) : Fine 2 (.list (gs.map gD)) := fine_lst fun d hd => by
  obtain ⟨g, hg, rfl⟩ := List.mem_map.mp hd
  exact fine_g (h g hg)
theorem fine_rs {gs : List Gr} (h : ∀ g ∈ gs, g ∈ URel) : Fine 2 (.list (gs.map gD)) := fine_lst fun d hd => by
  obtain ⟨g, hg, rfl⟩ := List.mem_map.mp hd
  exact fine_r (h g hg)
theorem any_gs (gs : List Gr) (g : Gr) : ((gs.map gD).any fun z => PyData.eqv z (gD g)) = decide (g ∈ gs) := by
  rw [List.any_map, Bool.eq_iff_iff]
  simp [eqv_g]
end Z
set_option Elab.async false
set_option linter.all false
set_option maxRecDepth 100000
set_option maxHeartbeats 4000000
namespace Z
open PySem PySem.Spec PyProof.Rows L2

local macro_rules | `(tactic| wtm_at "ex") => `(tactic| first | assumption | exact Ch.refl _ _ | (refine Ch.trans ?_ (by assumption); wtm_at "ex"))
local macro_rules | `(tactic| wtm_at "no") => `(tactic| first | assumption | (refine Ch.free (S := []) (p := _) ?_ (by assumption); wtm_at "ex"))
local macro_rules | `(tactic| wtm_at "tr") => `(tactic| first | assumption | (with_reducible refine tabs_ (S := []) (by assumption) ?_; wtm_at "ex") | (with_reducible refine atT_ (S := []) (by assumption) ?_; wtm_at "ex") | (with_reducible refine atL_ (by assumption) ?_; wtm_at "ex") | (with_reducible refine atN_ (by assumption) ?_; wtm_at "ex") | (with_reducible refine atK_ (by assumption) ?_; wtm_at "ex") | (with_reducible refine atD_ (by assumption) ?_; wtm_at "ex") | (with_reducible refine atF_ (by assumption) ?_; wtm_at "ex") | (with_reducible refine TD.e (by assumption) ?_; wtm_at "ex") | (with_reducible refine TDs.e (by assumption) ?_; wtm_at "ex") | wtm_at "ex")
local macro_rules | `(tactic| wtm_at "nw") => `(tactic| (intro p hp; generalize hH : upd _ _ _ = H2; have e := exO hp hH; have ⟨e1, e2⟩ := e; clear e hH))
local macro_rules | `(tactic| wtm_at "mk") => `(tactic| (intro x dx hx hd hn; generalize hH : upd (upd _ _ _) _ _ = H2; have e := exO2 hx hd hn hH; have ⟨e1, e2⟩ := e; clear e hH))
local macro_rules | `(tactic| wtm_at "pu") => `(tactic| (generalize hH : upd _ _ _ = H2; have e := chO (by wtm_at "tr") trivial hH; have ⟨e1, e2⟩ := e; clear e hH))
local macro_rules | `(tactic| wtm_at "cl") => `(tactic| first | exact Tx.c_Replica (by assumption) | exact Tx.c_Follower (by assumption) | exact Tx.c_Line (by assumption) | exact Tx.c_Graph (by assumption) | exact Tx.c_Revision (by assumption) | exact Tx.c_Primary (by assumption))
local macro_rules | `(tactic| wtm_at "na") => `(tactic| first | exact Tx.n_Replica_name (by assumption) | exact Tx.n_Replica_number (by assumption) | exact Tx.n_Replica_table (by assumption) | exact Tx.n_Replica_later (by assumption) | exact Tx.n_Follower_replica (by assumption) | exact Tx.n_Line_number (by assumption) | exact Tx.n_Line_parts (by assumption) | exact Tx.n_Line_at (by assumption) | exact Tx.n_Graph_schema (by assumption) | exact Tx.n_Graph_strata (by assumption) | exact Tx.n_Graph_subjects (by assumption) | exact Tx.n_Graph_objects (by assumption) | exact Tx.n_Graph_people (by assumption) | exact Tx.n_Revision_schema (by assumption) | exact Tx.n_Revision_relationships (by assumption) | exact Tx.n_Revision_table (by assumption) | exact Tx.n_Primary_name (by assumption) | exact Tx.n_Primary_first (by assumption) | exact Tx.n_Primary_revisions (by assumption))
local macro_rules | `(tactic| wtm_at "gex") => `(tactic| (with_reducible refine ⟨_, _, _, _, rfl, ?_⟩))
local macro_rules | `(tactic| wtm_at "gex") => `(tactic| (with_reducible refine ⟨_, _, _, rfl, ?_⟩))
local macro_rules | `(tactic| wtm_at "gex") => `(tactic| (with_reducible refine ⟨_, _, rfl, ?_⟩))
local macro_rules | `(tactic| wtm_at "gex") => `(tactic| (with_reducible refine ⟨_, _, rfl, rfl, ?_⟩))
local macro_rules | `(tactic| wtm_at "gex") => `(tactic| (with_reducible refine ⟨_, rfl, ?_⟩))
local macro_rules | `(tactic| wtm_at "gex") => `(tactic| (with_reducible refine ⟨_, _, _, rfl, by wtm_at "tr", by rfl, ?_⟩))
local macro_rules | `(tactic| wtm_at "gex") => `(tactic| (with_reducible refine ⟨_, _, _, _, rfl, by wtm_at "tr", by wtm_at "cl", by wtm_at "na", by (with_unfolding_all decide), ?_⟩))
local macro_rules | `(tactic| wtm_at "gex") => `(tactic| (with_reducible refine ⟨_, _, _, _, _, rfl, by wtm_at "tr", by wtm_at "cl", by wtm_at "na", by rfl, ?_⟩))
local macro_rules | `(tactic| wtm_at "gex") => `(tactic| (with_reducible refine ⟨_, _, rfl, by assumption, by assumption, ?_⟩))
local macro_rules | `(tactic| wtm_at "gex") => `(tactic| (with_reducible refine ⟨_, rfl, ⟨_, sqT_ (by wtm_at "tr")⟩, ?_⟩))
local macro_rules | `(tactic| wtm_at "gex") => `(tactic| (with_reducible refine ⟨_, rfl, ⟨_, sqL_ (by wtm_at "tr")⟩, ?_⟩))
local macro_rules | `(tactic| wtm_at "gex") => `(tactic| (with_reducible refine ⟨_, _, rfl, sqL_ (by wtm_at "tr"), ?_⟩))
local macro_rules | `(tactic| wtm_at "gex") => `(tactic| (with_reducible refine ⟨_, truL (by wtm_at "tr"), ?_⟩))
local macro_rules | `(tactic| wtm_at "gex") => `(tactic| (with_reducible refine ⟨_, _, rfl, sqOrT (by wtm_at "tr"), ?_⟩))
local macro_rules | `(tactic| wtm_at "gex") => `(tactic| (with_reducible refine ⟨_, _, rfl, sqOrL (by wtm_at "tr"), ?_⟩))
local macro_rules | `(tactic| wtm_at "gan") => `(tactic| (with_reducible refine And.intro (by wtm_at "tr") ?_))
local macro_rules | `(tactic| wtm_at "gan") => `(tactic| (with_reducible refine And.intro (by (with_unfolding_all decide)) ?_))
local macro_rules | `(tactic| wtm_at "gan") => `(tactic| (with_reducible refine And.intro (len_le (by with_unfolding_all rfl)) ?_))
local macro_rules | `(tactic| wtm_at "gan") => `(tactic| (with_reducible refine And.intro (tyL (by wtm_at "tr")) ?_))
local macro_rules | `(tactic| wtm_at "gan") => `(tactic| (with_reducible refine ⟨⟨_, rfl⟩, ?_⟩))
local macro_rules | `(tactic| wtm_at "gal") => `(tactic| wtm_at "mk")
local macro_rules | `(tactic| wtm_at "gal") => `(tactic| wtm_at "nw")
local macro_rules | `(tactic| wtm_at "gal") => `(tactic| (with_reducible refine exV (fun p H' e h1 => ?_)))
local macro_rules | `(tactic| wtm_at "gal") => `(tactic| (with_reducible refine exT (fun p H' e h0 h1 => ?_)))
local macro_rules | `(tactic| wtm_at "gal") => `(tactic| (with_reducible refine exI (fun H' e => ?_)))
local macro_rules | `(tactic| wtm_at "gre") => `(tactic| (with_reducible refine gTQ ?_))
local macro_rules | `(tactic| wtm_at "gre") => `(tactic| (with_reducible refine gSlL (by wtm_at "tr") (fun q H2 hq e h => ?_)))
local macro_rules | `(tactic| wtm_at "gre") => `(tactic| (with_reducible refine gPartition rfl (by wtm_at "tr") (fun p H2 hp e h => ?_)))
local macro_rules | `(tactic| wtm_at "gre") => `(tactic| (with_reducible refine gTgT (by wtm_at "tr") (by with_unfolding_all rfl) ?_))
local macro_rules | `(tactic| wtm_at "gre") => `(tactic| (with_reducible refine gIxL (by wtm_at "tr") (by with_unfolding_all rfl) ?_))
local macro_rules | `(tactic| wtm_at "gre") => `(tactic| (with_reducible refine gIxT (by wtm_at "tr") (by with_unfolding_all rfl) ?_))
local macro_rules | `(tactic| wtm_at "gor") => `(tactic| (with_reducible refine Or.inr ⟨_, rfl, ?_⟩))
local macro_rules | `(tactic| wtm_at "gor") => `(tactic| (with_reducible refine Or.inl ⟨_, rfl, ?_⟩))
local macro_rules | `(tactic| wtm_at "go1") => `(tactic| wtm_at "mk")
local macro_rules | `(tactic| wtm_at "go1") => `(tactic| wtm_at "nw")
local macro_rules | `(tactic| wtm_at "go1") => `(tactic| ((with_reducible refine isOr ?_); wtm_at "gor"))
local macro_rules | `(tactic| wtm_at "go1") => `(tactic| wtm_at "gre")
local macro_rules | `(tactic| wtm_at "go1") => `(tactic| ((with_reducible refine isAll ?_); wtm_at "gal"))
local macro_rules | `(tactic| wtm_at "go1") => `(tactic| ((with_reducible refine isAnd ?_); wtm_at "gan"))
local macro_rules | `(tactic| wtm_at "go1") => `(tactic| ((with_reducible refine isEx ?_); wtm_at "gex"))
local macro_rules | `(tactic| wtm_at "go1") => `(tactic| with_reducible refine gVar rfl ?_)
local macro_rules | `(tactic| wtm_at "go1") => `(tactic| with_reducible refine Stp.go ?_)
local macro_rules | `(tactic| wtm_at "go") => `(tactic| repeat (first | wtm_at "go1" | (with_reducible dsimp only) | (dsimp only [cxK, List.cons_append, List.nil_append, List.append_nil])))
local macro_rules | `(tactic| wtm_at "gos") => `(tactic| repeat' (first | wtm_at "go1" | (with_reducible dsimp only) | (dsimp only [cxK, List.cons_append, List.nil_append, List.append_nil]) | (with_reducible refine ifd (fun _ => ?_) (fun _ => ?_)) | (with_reducible refine ifb (fun _ => ?_) (fun _ => ?_))))

section
variable {P : Program} {w : World} {K : PySem.W.Frag} {mg : Str → Option Value} {base : Heap}
/-! ### names.py -/
def leS (a b : Str) : Bool := !decide (b.cps.toList < a.cps.toList)
def isSign (x : Str) : Bool := (leS "a" x && leS x "z") || ((leS "0" x && leS x "9") || decide (x = "_"))
abbrev sp_is_sign : Sp := fun vs H Q _ => ∃ x : Str, vs = [.str x] ∧ Q (.bl (isSign x)) H
abbrev N_is_sign : List Str := ["sign"]
theorem sc_is_sign : FnScope N_is_sign ["sign"] (defScope s_is_sign) := ⟨rfl, rfl, rfl, by decide +kernel, rfl, by decide +kernel, by decide +kernel⟩
theorem ok_is_sign (T : Tx w K mg base) : FnOk P w K mg base CX0 1 (a_is_sign K) (fd_is_sign K) ["sign"] sp_is_sign := by
  refine T.f_is_sign.ok sc_is_sign (fun vs H Q E h => ?_) (fun cdv A outer s H vs Q E hr h => ?_)
  · obtain ⟨x, rfl, _⟩ := h
    rfl
  obtain ⟨x, rfl, k⟩ := h
  refine ⟨_, PSs.nox (pss_one (ps_ret (pe_or (pe_chain (op_le_str) (op_le_str) pe_str (pv 0) pe_str) (pe_or (pe_chain (op_le_str) (op_le_str) pe_str (pv 0) pe_str) (pe_one (pe_cmpR (op_eq) (pv 0) pe_str (nomark _))))))), ?_⟩
  wtm_at "gos"
  all_goals first
    | (have e : isSign x = true := by simp_all [isSign, leS]
       rw [e] at k
       exact k)
    | (have e : isSign x = false := by simp_all [isSign, leS]
       rw [e] at k
       exact k)
    | (have e : isSign x = decide (x = "_") := by simp_all [isSign, leS]
       rw [e] at k
       exact k)
def isWord (x : Str) : Bool := (decide (1 ≤ x.length) && decide (x.length ≤ 20)) && x.cps.toList.all fun c => isSign ⟨#[c]⟩
abbrev sp_is_word (K : PySem.W.Frag) : Sp := fun vs H Q _ => ∃ x : Str, vs = [.str x] ∧ Tabs K H ∧ x.length ≤ sizeLine ∧ ∀ H', Ex H H' → Q (.bl (isWord x)) H'
abbrev N_is_word : List Str := ["text", "sign"]
theorem sc_is_word : FnScope N_is_word ["text"] (defScope s_is_word) := ⟨rfl, rfl, rfl, by decide +kernel, rfl, by decide +kernel, by decide +kernel⟩
theorem ok_is_word (T : Tx w K mg base) : FnOk P w K mg base CX0 3 (a_is_word K) (fd_is_word K) ["text"] (sp_is_word K) := by
  refine T.f_is_word.okC sc_is_word (fun vs H Q E h => ?_) (fun cdv A outer s H vs Q E hcd hr h => ?_)
  · obtain ⟨x, rfl, _⟩ := h
    rfl
  obtain ⟨x, rfl, tb, hz, k⟩ := h
  refine ⟨_, PSs.nox (pss_one (ps_ret (pe_and (pe_chain (op_le) (op_le) pe_int (pe_callB call_len_str (by rfl) T.n_len (by decide +kernel) (pa_cons (pv 0) pa_nil)) (pe_gint T.i_MOST)) (pe_one (pe_allG (own := [("sign", 1)]) hr T.n_all (T.tb _ (List.mem_of_getElem? (i := 0) rfl)) hcd rfl sc_is_word.nd (pi_str (pv 0)) (blkOk_by (own := [("sign", 1)]) (N := N_is_word) (sc := defScope s_is_word) (by decide +kernel)) (fun _ _ _ _ _ _ hr => (pg_name (i := 1) sc_is_word.nd rfl (Or.inl rfl))) (fun _ _ _ _ _ _ hr => (pe_call (ok_is_sign T) (hr.mono (by decide)) rfl T.g_is_sign T.f_is_sign.kp T.b_is_sign .nil pass0 (pa_cons (pv 1) pa_nil)))))))), ?_⟩
  wtm_at "go"
  have fin : ∀ b, b = isWord x → ∀ H', Ex H H' → Q (.bl b) H' := fun b e H' h => by rw [e]; exact k H' h
  refine ifd (fun h1 => ?_) (fun h1 => ?_)
  · wtm_at "go"
    refine ifd (fun h2 => ?_) (fun h2 => ?_)
    · refine ⟨_, rfl, _, rfl, tb.at 0 rfl, fun H2 e2 _ => all_strW (fun c => isSign ⟨#[c]⟩) (fun c H' hc e R hR => ?_) fun H' e => fin _ ?_ _ (e2.trans e)⟩
      · wtm_at "go"
        refine ⟨rfl, ?_⟩
        wtm_at "go"
        exact hR _ (Ch.refl _ _)
      · have h1' : 1 ≤ x.length := by omega
        have h2' : x.length ≤ 20 := by omega
        simp [isWord, h1', h2']
    · refine fin _ ?_ _ (Ch.refl _ _)
      have h2' : ¬ x.length ≤ 20 := by omega
      simp [isWord, h2']
  · wtm_at "go"
    refine fin _ ?_ _ (Ch.refl _ _)
    have h1' : ¬ 1 ≤ x.length := by omega
    simp [isWord, h1']

abbrev spB (K : PySem.W.Frag) (f : Str → Bool) : Sp := fun vs H Q _ => ∃ x : Str, vs = [.str x] ∧ Tabs K H ∧ x.length ≤ sizeLine ∧ ∀ H', Ex H H' → Q (.bl (f x)) H'
def isIdent (x : Str) : Bool := isWord x && (leS "a" ⟨#[x.cps.toList.headD 0]⟩ && leS ⟨#[x.cps.toList.headD 0]⟩ "z")
abbrev N_is_identifier : List Str := ["text"]
theorem sc_is_identifier : FnScope N_is_identifier ["text"] (defScope s_is_identifier) := ⟨rfl, rfl, rfl, by decide +kernel, rfl, by decide +kernel, by decide +kernel⟩
theorem ok_is_identifier (T : Tx w K mg base) : FnOk P w K mg base CX0 4 (a_is_identifier K) (fd_is_identifier K) ["text"] (spB K isIdent) := by
  refine T.f_is_identifier.ok sc_is_identifier (fun vs H Q E h => ?_) (fun cdv A outer s H vs Q E hr h => ?_)
  · obtain ⟨x, rfl, _⟩ := h
    rfl
  obtain ⟨x, rfl, tb, hz, k⟩ := h
  refine ⟨_, PSs.nox (pss_one (ps_ret (pe_and (pe_call (ok_is_word T) (hr.mono (by decide)) rfl T.g_is_word T.f_is_word.kp T.b_is_word .nil pass0 (pa_cons (pv 0) pa_nil)) (pe_one (pe_chain (op_le_str) (op_le_str) pe_str (pe_ix ix_str (pv 0) pe_int (fun _ _ => rfl)) pe_str))))), ?_⟩
  wtm_at "go"
  have fin : ∀ b, b = isIdent x → ∀ H', Ex H H' → Q (.bl b) H' := fun b e H' h => by rw [e]; exact k H' h
  refine ifb (fun h1 => ?_) (fun h1 => ?_)
  · have e : atI x.cps.toList 0 = some (x.cps.toList.headD 0) := by
      have : 1 ≤ x.length := by
        have h : isWord x = true := h1
        simp only [isWord, Bool.and_eq_true, decide_eq_true_eq] at h
        exact h.1.1
      have hl : 1 ≤ x.cps.toList.length := by rw [Array.length_toList]; exact this
      cases q : x.cps.toList with
      | nil => rw [q] at hl; cases hl
      | cons c r => exact atI_0
    wtm_at "go"
    refine gIxS hz e ?_
    wtm_at "go"
    refine ifb (fun h2 => ?_) (fun h2 => ?_)
    · wtm_at "go"
      refine fin _ ?_ _ (by wtm_at "ex")
      unfold isIdent leS
      rw [h1, h2]
      rfl
    · refine fin _ ?_ _ (by wtm_at "ex")
      unfold isIdent leS
      rw [h1, h2]
      rfl
  · refine fin _ ?_ _ (by wtm_at "ex")
    unfold isIdent
    rw [h1]
    rfl
def isObj (x : Str) : Bool := isIdent (Txt.partition x ":").1 && isWord (Txt.partition x ":").2.2
theorem par_len {S : List Nat} : ∀ (l acc a b : List Nat), TL.par S acc l = some (a, b) → a.length ≤ acc.length + l.length ∧ b.length ≤ l.length
  | [], _, _, _, h => by cases h
  | c :: r, acc, a, b, h => by
    cases hp : TL.pre S (c :: r) with
    | true =>
      rw [TL.par_hit hp] at h
      cases h
      simp only [List.length_drop, List.length_cons]
      omega
    | false =>
      rw [TL.par_miss hp] at h
      have q := par_len r _ _ _ h
      simp only [List.length_append, List.length_cons, List.length_nil] at q ⊢
      omega
/-- what a text's partition holds is not longer than it -/
theorem part_len (x b : Str) (hb : TL.tl b ≠ []) : (Txt.partition x b).1.length ≤ x.length ∧ (Txt.partition x b).2.2.length ≤ x.length := by
  rw [TL.partition_par x b hb]
  cases q : TL.par (TL.tl b) [] (TL.tl x) with
  | none =>
    refine ⟨Nat.le_refl _, ?_⟩
    exact Nat.zero_le _
  | some p =>
    obtain ⟨a, c⟩ := p
    have h := par_len _ _ _ _ q
    have e : x.length = (TL.tl x).length := TL.len_tl x
    rw [e]
    constructor
    · show (Str.mk a.toArray).length ≤ _
      rw [TL.len_tl, TL.tl_mk]
      simpa using h.1
    · show (Str.mk c.toArray).length ≤ _
      rw [TL.len_tl, TL.tl_mk]
      exact h.2
abbrev N_is_object : List Str := ["text", "kind", "colon", "own"]
theorem sc_is_object : FnScope N_is_object ["text"] (defScope s_is_object) := ⟨rfl, rfl, rfl, by decide +kernel, rfl, by decide +kernel, by decide +kernel⟩
theorem ok_is_object (T : Tx w K mg base) : FnOk P w K mg base CX0 5 (a_is_object K) (fd_is_object K) ["text"] (spB K isObj) := by
  refine T.f_is_object.ok sc_is_object (fun vs H Q E h => ?_) (fun cdv A outer s H vs Q E hr h => ?_)
  · obtain ⟨x, rfl, _⟩ := h
    rfl
  obtain ⟨x, rfl, tb, hz, k⟩ := h
  refine ⟨_, PSs.nox (pss_cons (ps_asg (pe_partition (pv 0) pe_str) (pg_tup rfl (pgs_cons (pg_name (i := 1) sc_is_object.nd rfl (Or.inl rfl)) (pgs_cons (pg_name (i := 2) sc_is_object.nd rfl (Or.inl rfl)) (pgs_cons (pg_name (i := 3) sc_is_object.nd rfl (Or.inl rfl)) pgs_nil))))) (pss_one (ps_ret (pe_and (pe_call (ok_is_identifier T) (hr.mono (by decide)) rfl T.g_is_identifier T.f_is_identifier.kp T.b_is_identifier .nil pass0 (pa_cons (pv 1) pa_nil)) (pe_one (pe_call (ok_is_word T) (hr.mono (by decide)) rfl T.g_is_word T.f_is_word.kp T.b_is_word .nil pass0 (pa_cons (pv 3) pa_nil))))))), ?_⟩
  have hp := part_len x ":" (by decide)
  wtm_at "go"
  refine ⟨by omega, ?_⟩
  wtm_at "go"
  refine ifb (fun h1 => ?_) (fun h1 => ?_)
  · wtm_at "go"
    refine ⟨by omega, ?_⟩
    wtm_at "go"
    refine cast (congrArg (fun b => Q (.bl b) _) ?_) (k _ ?_)
    · unfold isObj
      rw [h1]
      rfl
    · wtm_at "ex"
  · refine cast (congrArg (fun b => Q (.bl b) _) ?_) (k _ ?_)
    · unfold isObj
      rw [h1]
      rfl
    · wtm_at "ex"
def typeOf (x : Str) : Str := (Txt.partition x ":").1
abbrev spT (f : Str → Str) : Sp := fun vs H Q _ => ∃ x : Str, vs = [.str x] ∧ x.length ≤ sizeLine ∧ ∀ H', Ex H H' → Q (.str (f x)) H'
abbrev N_type_of : List Str := ["thing"]
theorem sc_type_of : FnScope N_type_of ["thing"] (defScope s_type_of) := ⟨rfl, rfl, rfl, by decide +kernel, rfl, by decide +kernel, by decide +kernel⟩
theorem ok_type_of (T : Tx w K mg base) : FnOk P w K mg base CX0 1 (a_type_of K) (fd_type_of K) ["thing"] (spT typeOf) := by
  refine T.f_type_of.ok sc_type_of (fun vs H Q E h => ?_) (fun cdv A outer s H vs Q E hr h => ?_)
  · obtain ⟨x, rfl, _⟩ := h
    rfl
  obtain ⟨x, rfl, hz, k⟩ := h
  refine ⟨_, PSs.nox (pss_one (ps_ret (pe_ix ix_tup (pe_partition (pv 0) pe_str) pe_int (fun _ _ => rfl)))), ?_⟩
  wtm_at "go"
  exact k _ (by wtm_at "ex")
abbrev sp_split_reference : Sp := fun vs H Q _ => ∃ x : Str, vs = [.str x] ∧ x.length ≤ sizeLine ∧ ∀ p H', Ex H H' → H p = none → H' p = some (.tup [.str (Txt.partition x "#").1, .str (Txt.partition x "#").2.2]) → Q (.ref p) H'
abbrev N_split_reference : List Str := ["reference", "thing", "sign", "name"]
theorem sc_split_reference : FnScope N_split_reference ["reference"] (defScope s_split_reference) := ⟨rfl, rfl, rfl, by decide +kernel, rfl, by decide +kernel, by decide +kernel⟩
theorem ok_split_reference (T : Tx w K mg base) : FnOk P w K mg base CX0 1 (a_split_reference K) (fd_split_reference K) ["reference"] sp_split_reference := by
  refine T.f_split_reference.ok sc_split_reference (fun vs H Q E h => ?_) (fun cdv A outer s H vs Q E hr h => ?_)
  · obtain ⟨x, rfl, _⟩ := h
    rfl
  obtain ⟨x, rfl, hz, k⟩ := h
  refine ⟨_, PSs.nox (pss_cons (ps_asg (pe_partition (pv 0) pe_str) (pg_tup rfl (pgs_cons (pg_name (i := 1) sc_split_reference.nd rfl (Or.inl rfl)) (pgs_cons (pg_name (i := 2) sc_split_reference.nd rfl (Or.inl rfl)) (pgs_cons (pg_name (i := 3) sc_split_reference.nd rfl (Or.inl rfl)) pgs_nil))))) (pss_one (ps_ret (pe_tup (pa_cons (pv 1) (pa_cons (pv 3) pa_nil)))))), ?_⟩
  wtm_at "go"
  exact k _ _ (by wtm_at "ex") (by wtm_at "no") (by assumption)
def tokOf (x : Str) (n : Nat) : Str := Str.empty ++ x ++ "@" ++ toString (n : Int)
theorem num_len : ∀ n : Fin 1001, ((toString ((n.val : Nat) : Int) : String) : Str).length ≤ 4 := by decide +kernel
theorem str_len (x y : Str) : (x ++ y).length = x.length + y.length := by
  rw [TL.len_tl, TL.tl_append, List.length_append, ← TL.len_tl, ← TL.len_tl]
theorem log_le {n : Nat} (h : n ≤ 1000) : ((n : Nat) : Int).natAbs.log2 < 1920 := by
  rw [Int.natAbs_natCast]
  by_cases z : n = 0
  · subst z
    decide
  · have : n.log2 < 10 := (Nat.log2_lt z).mpr (by omega)
    omega
theorem sl_big {n : Nat} (h : n ≤ 100000) : n ≤ sizeLine := Nat.le_trans h (Nat.le_of_ble_eq_true rfl)
theorem tok_len {x : Str} {n : Nat} (hx : x.length ≤ 1000) (hn : n ≤ 1000) : (tokOf x n).length ≤ 1005 := by
  have h := num_len ⟨n, by omega⟩
  have e0 : Str.empty.length = 0 := rfl
  have e1 : ("@" : Str).length = 1 := rfl
  unfold tokOf
  rw [str_len, str_len, str_len, e0, e1]
  have h' : ((toString ((n : Nat) : Int) : String) : Str).length ≤ 4 := h
  omega
abbrev sp_token_of : Sp := fun vs H Q _ => ∃ (x : Str) (n : Nat), vs = [.str x, .int n] ∧ x.length ≤ 1000 ∧ n ≤ 1000 ∧ Q (.str (tokOf x n)) H
abbrev N_token_of : List Str := ["store", "revision"]
theorem sc_token_of : FnScope N_token_of ["store", "revision"] (defScope s_token_of) := ⟨rfl, rfl, rfl, by decide +kernel, rfl, by decide +kernel, by decide +kernel⟩
theorem ok_token_of (T : Tx w K mg base) : FnOk P w K mg base CX0 1 (a_token_of K) (fd_token_of K) ["store", "revision"] sp_token_of := by
  refine T.f_token_of.ok sc_token_of (fun vs H Q E h => ?_) (fun cdv A outer s H vs Q E hr h => ?_)
  · obtain ⟨x, n, rfl, _⟩ := h
    rfl
  obtain ⟨x, n, rfl, hz, hn, k⟩ := h
  refine ⟨_, PSs.nox (pss_one (ps_ret (pe_joined (.cons (pe_fmt (pv 0)) (.cons pe_str (.cons (pe_fmt (pv 1)) .nil)))))), ?_⟩
  wtm_at "go"
  have h := num_len ⟨n, by omega⟩
  have e0 : Str.empty.length = 0 := rfl
  have e1 : ("@" : Str).length = 1 := rfl
  have h' : ((toString ((n : Nat) : Int) : String) : Str).length ≤ 4 := h
  refine ⟨sl_big (by omega), ?_⟩
  wtm_at "go"
  refine ⟨sl_big (by rw [str_len]; omega), ?_⟩
  wtm_at "go"
  refine ⟨sl_big (by rw [str_len, str_len]; omega), ?_⟩
  wtm_at "go"
  refine ⟨log_le hn, ?_⟩
  wtm_at "go"
  refine ⟨sl_big (Nat.le_trans (tok_len hz hn) (by decide)), ?_⟩
  wtm_at "go"
  exact k
/-- split_token, told; outer none: not told -/
def wellTok (x : Str) : Bool := isIdent (Txt.partition x "@").1 && (decide (1 ≤ (Txt.partition x "@").2.2.length) && decide ((Txt.partition x "@").2.2.length ≤ 4)) && (Txt.partition x "@").2.2.cps.toList.all fun c => leS "0" ⟨#[c]⟩ && leS ⟨#[c]⟩ "9"
def splitTok (x : Str) : Option (Option (Str × Nat)) :=
  if wellTok x then
    match PySem.intText? (Txt.partition x "@").2.2 with
    | some n => if ((⟨#[(Txt.partition x "@").2.2.cps.toList.headD 0]⟩ : Str) == "0" && (Txt.partition x "@").2.2 != "0") || decide (1000 < n) then some none else
        if 0 ≤ n then some (some ((Txt.partition x "@").1, n.toNat)) else none
    | none => none
  else some none
abbrev N_split_token : List Str := ["text", "store", "sign", "digits"]
theorem sc_split_token : FnScope N_split_token ["text"] (defScope s_split_token) := ⟨rfl, rfl, rfl, by decide +kernel, rfl, by decide +kernel, by decide +kernel⟩
abbrev sp_split_token (K : PySem.W.Frag) : Sp := fun vs H Q _ => ∃ (x : Str) (r : Option (Str × Nat)), vs = [.str x] ∧ splitTok x = some r ∧ Tabs K H ∧ x.length ≤ sizeLine ∧ (r = none → ∀ H', Ex H H' → Q .non H') ∧
  (∀ s n, r = some (s, n) → ∀ p H', Ex H H' → H p = none → H' p = some (.tup [.str s, .int n]) → Q (.ref p) H')
theorem ok_split_token (T : Tx w K mg base) : FnOk P w K mg base CX0 6 (a_split_token K) (fd_split_token K) ["text"] (sp_split_token K) := by
  refine T.f_split_token.okC sc_split_token (fun vs H Q E h => ?_) (fun cdv A outer s H vs Q E hcd hr h => ?_)
  · obtain ⟨x, r, rfl, _⟩ := h
    rfl
  obtain ⟨x, r, rfl, hr0, tb, hz, k0, k⟩ := h
  refine ⟨_, PSs.nox (pss_cons (ps_asg (pe_partition (pv 0) pe_str) (pg_tup rfl (pgs_cons (pg_name (i := 1) sc_split_token.nd rfl (Or.inl rfl)) (pgs_cons (pg_name (i := 2) sc_split_token.nd rfl (Or.inl rfl)) (pgs_cons (pg_name (i := 3) sc_split_token.nd rfl (Or.inl rfl)) pgs_nil))))) (pss_cons (ps_if (PW.pt (pw_or (pt_not (pt_val (pe_call (ok_is_identifier T) (hr.mono (by decide)) rfl T.g_is_identifier T.f_is_identifier.kp T.b_is_identifier .nil pass0 (pa_cons (pv 1) pa_nil)))) (pw_or (pt_not (pt_chain (op_le) (op_le) pe_int (pe_callB call_len_str (by rfl) T.n_len (by decide +kernel) (pa_cons (pv 3) pa_nil)) pe_int)) (pw_or1 (pt_not (pt_val (pe_allG (own := [("sign", 2)]) hr T.n_all (T.tb _ (List.mem_of_getElem? (i := 1) rfl)) hcd rfl sc_split_token.nd (pi_str (pv 3)) (blkOk_by (own := [("sign", 2)]) (N := N_split_token) (sc := defScope s_split_token) (by decide +kernel)) (fun _ _ _ _ _ _ hr => (pg_name (i := 2) sc_split_token.nd rfl (Or.inl rfl))) (fun _ _ _ _ _ _ hr => (pe_chain (op_le_str) (op_le_str) pe_str (pv 2) pe_str))))))))) (pss_one (ps_ret pe_non)) pss_nil) (pss_cons (ps_if (PW.pt (pw_or (PW.pt (pw_and (pt_cmpR (op_eq) (pe_ix ix_str (pv 3) pe_int (fun _ _ => rfl)) pe_str (nomark _)) (pw_and1 (pt_cmpR (op_ne) (pv 3) pe_str (nomark _))))) (pw_or1 (pt_cmpR (op_gt) (pe_callTy call_int_str (by rfl) T.n_int (by decide +kernel) (pa_cons (pv 3) pa_nil)) (pe_gint T.i_REVISION_MOST) (nomark _))))) (pss_one (ps_ret pe_non)) pss_nil) (pss_one (ps_ret (pe_tup (pa_cons (pv 1) (pa_cons (pe_callTy call_int_str (by rfl) T.n_int (by decide +kernel) (pa_cons (pv 3) pa_nil)) pa_nil)))))))), ?_⟩
  have hp := part_len x "@" (by decide)
  generalize hd : (Txt.partition x "@").2.2 = d at hp
  generalize hs : (Txt.partition x "@").1 = st at hp
  have nn : wellTok x = false → ∀ H', Ex H H' → Q .non H' := fun hw => k0 (by
    unfold splitTok at hr0
    rw [hw] at hr0
    cases hr0
    rfl)
  have hw0 : wellTok x = (isIdent st && (decide (1 ≤ d.length) && decide (d.length ≤ 4)) && d.cps.toList.all fun c => leS "0" ⟨#[c]⟩ && leS ⟨#[c]⟩ "9") := by
    unfold wellTok
    rw [hd, hs]
  wtm_at "go"
  simp only [hd, hs]
  refine ⟨by omega, ?_⟩
  wtm_at "go"
  refine ifn (fun h1 => ?_) (fun h1 => ?_)
  · wtm_at "go"
    exact nn (by rw [hw0, h1]; rfl) _ (by wtm_at "ex")
  · wtm_at "go"
    have hd0 : ∀ h : 1 ≤ d.length, atI d.cps.toList 0 = some (d.cps.toList.headD 0) := fun h => by
      have hl : 1 ≤ d.cps.toList.length := by rw [Array.length_toList]; exact h
      cases q : d.cps.toList with
      | nil => rw [q] at hl; cases hl
      | cons c r => exact atI_0
    refine ⟨by omega, ?_⟩
    wtm_at "go"
    refine ifd (fun h2 => ?_) (fun h2 => ?_)
    · wtm_at "go"
      refine ifn (fun h3 => ?_) (fun h3 => ?_)
      · wtm_at "go"
        have h3' : ¬ (d.length ≤ 4) := by
          have := of_decide_eq_false h3
          omega
        exact nn (by rw [hw0, decide_eq_false h3', Bool.and_false, Bool.and_false, Bool.false_and]) _ (by wtm_at "ex")
      · wtm_at "go"
        have h2' : 1 ≤ d.length := by omega
        have h3' : d.length ≤ 4 := by
          have := of_decide_eq_true h3
          omega
        refine ⟨Tabs.at (tabs_ (S := []) tb (by wtm_at "ex")) 1 rfl, fun H2 e2 _ => all_strW (fun c => leS "0" ⟨#[c]⟩ && leS ⟨#[c]⟩ "9") (fun c H' hc e R hR => ?_) fun H' e => ?_⟩
        · refine ⟨rfl, ?_⟩
          wtm_at "gos"
          · refine cast (congrArg (fun b => R b _) ?_) (hR _ (Ch.refl _ _))
            simp_all [leS]
          · refine cast (congrArg (fun b => R b _) ?_) (hR _ (Ch.refl _ _))
            simp_all [leS]
        · wtm_at "go"
          generalize hal : (d.cps.toList.all fun c => leS "0" ⟨#[c]⟩ && leS ⟨#[c]⟩ "9") = al at *
          cases al with
          | false =>
            wtm_at "go"
            exact nn (by rw [hw0, Bool.and_false]) _ (by wtm_at "ex")
          | true =>
            have hw : wellTok x = true := by rw [hw0, h1, decide_eq_true h2', decide_eq_true h3']; rfl
            unfold splitTok at hr0
            rw [if_pos hw, hd, hs] at hr0
            cases hi : PySem.intText? d with
            | none => rw [hi] at hr0; cases hr0
            | some n =>
              rw [hi] at hr0
              dsimp only at hr0
              wtm_at "go"
              refine gIxS (by omega) (hd0 h2') ?_
              wtm_at "go"
              have kn : ((⟨#[d.cps.toList.headD 0]⟩ : Str) == "0" && d != "0" || decide (1000 < n)) = true → ∀ H', Ex H H' → Q .non H' := fun z => k0 (by
                rw [if_pos z] at hr0
                cases hr0
                rfl)
              have kn' : ((⟨#[d.cps.toList.headD 0]⟩ : Str) == "0" && d != "0" || decide (1000 < n)) = false → ∃ m : Nat, n = m ∧ r = some (st, m) := fun z => by
                rw [if_neg (by rw [z]; exact Bool.false_ne_true)] at hr0
                by_cases hn : 0 ≤ n
                · rw [if_pos hn] at hr0
                  cases hr0
                  exact ⟨n.toNat, (Int.toNat_of_nonneg hn).symm, rfl⟩
                · rw [if_neg hn] at hr0
                  cases hr0
              have h640 : d.length ≤ 640 := by omega
              wtm_at "gos"
              · exact kn (by simp_all) _ (by wtm_at "ex")
              · exact kn (by simp_all) _ (by wtm_at "ex")
              · obtain ⟨m, em, er⟩ := kn' (by simp_all)
                refine k _ _ er _ _ (by wtm_at "ex") (by wtm_at "no") ?_
                rw [← em]
                assumption
              · exact kn (by simp_all) _ (by wtm_at "ex")
              · obtain ⟨m, em, er⟩ := kn' (by simp_all)
                refine k _ _ er _ _ (by wtm_at "ex") (by wtm_at "no") ?_
                rw [← em]
                assumption
    · wtm_at "go"
      have h2' : ¬ (1 ≤ d.length) := by omega
      exact nn (by rw [hw0, decide_eq_false h2', Bool.false_and, Bool.and_false, Bool.false_and]) _ (by wtm_at "ex")
end


section
variable {P : Program} {w : World} {K : PySem.W.Frag} {mg : Str → Option Value} {base : Heap}
theorem sum_le {c : Nat} : ∀ {ys : List Str}, (∀ y ∈ ys, y.length ≤ c) → (ys.map (·.length)).sum ≤ ys.length * c
  | [], _ => by simp
  | y :: ys, h => by
    have h1 := h y List.mem_cons_self
    have h2 := sum_le (ys := ys) fun z hz => h z (List.mem_cons_of_mem _ hz)
    simp only [List.map_cons, List.sum_cons, List.length_cons, Nat.add_mul]
    omega
theorem join_ok {c m : Nat} {ys : List Str} {a : Str} (h : ∀ y ∈ ys, y.length ≤ c) (hm : ys.length ≤ m) (ha : a.length ≤ 1) (hc : m * c + m ≤ 16777216) : (ys.map (·.length)).sum + ys.length * a.length ≤ 16777216 := by
  have h1 := sum_le h
  have h2 : ys.length * c ≤ m * c := Nat.mul_le_mul_right _ hm
  have h3 : ys.length * a.length ≤ ys.length * 1 := Nat.mul_le_mul_left _ ha
  omega
/-! ### notation.py, written -/
abbrev sp_grant_line : Sp := fun vs H Q _ => ∃ (s : Str) (g : Gr) (v : V), vs = [.str s, v] ∧ s ∈ signs ∧ g ∈ Uni ∧ TD NoL H v (gD g) ∧ Q (.str (lineOf s g)) H
abbrev N_grant_line : List Str := ["sign", "grant"]
theorem sc_grant_line : FnScope N_grant_line ["sign", "grant"] (defScope s_grant_line) := ⟨rfl, rfl, rfl, by decide +kernel, rfl, by decide +kernel, by decide +kernel⟩
theorem ok_grant_line (T : Tx w K mg base) : FnOk P w K mg base CX0 1 (a_grant_line K) (fd_grant_line K) ["sign", "grant"] sp_grant_line := by
  refine T.f_grant_line.ok sc_grant_line (fun vs H Q E h => ?_) (fun cdv A outer s H vs Q E hr h => ?_)
  · obtain ⟨s, g, v, rfl, _⟩ := h
    rfl
  obtain ⟨s, g, v, rfl, hs, hg, td, k⟩ := h
  refine ⟨_, PSs.nox (pss_one (ps_ret (pe_op op_add_str (pe_op op_add_str (pv 0) pe_str) (pe_join pe_str (pv 1))))), ?_⟩
  obtain ⟨a, rfl, ha⟩ := td.g_
  have hl := line_le hs hg
  obtain ⟨h1, h2, h3⟩ := gr_le hg
  have e1 : (" " : Str).length = 1 := rfl
  have hs1 : s.length ≤ 1 := by
    unfold lineOf at hl
    have : (signs.all fun s => decide (s.length ≤ 1)) = true := by decide +kernel
    exact of_decide_eq_true (List.all_eq_true.mp this s hs)
  wtm_at "go"
  refine ⟨sl_big (by omega), ?_⟩
  wtm_at "go"
  refine ⟨" ", a, gL g, rfl, rfl, .inr (.inl (.inl ha)), join_ok (c := 5) (m := 3) ?_ (Nat.le_refl _) (by decide) (by decide), ?_⟩
  · intro y hy
    simp only [gL, List.mem_cons, List.not_mem_nil, or_false] at hy
    rcases hy with rfl | rfl | rfl <;> assumption
  · refine ⟨_, _, rfl, rfl, sl_big ?_, k⟩
    have q : lineOf s g = (s ++ " ") ++ Txt.join " " (gL g) := rfl
    rw [q, str_len] at hl
    omega
/-- [grant_line(s, grant) for grant in ..] -/
theorem lines_lc {σ : L2.St} {H : Hp} {Q : VK} {us : List Nat} {s : Str} {i j : Nat} {l : Addr} {vs : List V} {gs : List Gr} (hs : s ∈ signs) (hj : σ[j]? = some (some (.ref l))) (hl : H l = some (.lst vs)) (tg : TDs NoL H vs (gs.map gD)) (hg : ∀ g ∈ gs, g ∈ Uni) (hgl : gs.length ≤ 27)
    (w1 : ∀ v, wipe ((wipe σ us).set i (some v)) us = wipe σ us) (w2 : ∀ v : V, ((wipe σ us).set i (some v))[i]? = some (some v))
    (k : ∀ q H', Ex H H' → H q = none → H' q = some (.lst ((gs.map (lineOf s)).map V.str)) → Q (.ref q) H') :
    tLc (iList K (tVar j)) (gName i) tYes (tCall sp_grant_line [] E0 (tCons (tC (.str s)) (tCons (tVar i) tNil))) us σ H Q := by
  have hgv : vs.length = gs.length := by rw [tg.len, List.length_map]
  refine gLc (gIL (gVar hj ⟨l, rfl, ⟨_, .inl (.inl hl)⟩, fun D hD => lcA walk_list tg (by rw [hgv]; exact sl_big (by omega)) hD (fun H' e => .inl (.inl (e.at hl))) (fun _ => true) (fun g => .str (lineOf s g)) (fun n g v H' P P0 hx td e k1 k0 => ?_) (fun H' ys e hy ty => ?_)⟩))
  · refine gName_ ⟨w1 v, gYes (ifT (gCall (gCons (gC (gCons (gVar (w2 v) (gNil ?_)))))))⟩
    refine ⟨s, g, v, rfl, hs, hg g (List.mem_of_getElem? hx), td, ?_⟩
    exact k1 _ _ (Ch.refl _ _) (.str _) rfl
  · rw [List.filter_eq_self.mpr (fun _ _ => rfl)] at ty
    have ey : ys = (gs.map (lineOf s)).map V.str := by
      refine TDs.strs_ (A := fun x => H x = none ∧ x ≠ D) (H := H') ?_
      rw [List.map_map]
      exact ty
    rw [ey] at hy
    exact k D H' e hD hy
abbrev sp_write_snapshot : Sp := fun vs H Q _ => ∃ (n : Nat) (gs : List Gr) (v : V), vs = [v] ∧ n ≤ 100 ∧ (∀ g ∈ gs, g ∈ Uni) ∧ gs.length ≤ 27 ∧ TD AnyL H v (snD n gs) ∧ ∀ H', Ex H H' → Q (.str (snapText n gs)) H'
theorem head_le {n : Nat} (hn : n ≤ 100) : (snapHead n).length ≤ 30 ∧ (entHead n).length ≤ 30 := head_len ⟨n, by omega⟩
theorem snap_le {n : Nat} {gs : List Gr} (hn : n ≤ 100) (hg : ∀ g ∈ gs, g ∈ Uni) : ∀ y ∈ snapLines n gs, y.length ≤ 30 := fun y hy => by
  rcases List.mem_cons.mp hy with rfl | hy
  · exact (head_le hn).1
  · obtain ⟨g, h, rfl⟩ := List.mem_map.mp hy
    exact line_le (by decide) (hg g h)
abbrev N_write_snapshot : List Str := ["snapshot", "store", "revision", "grants", "grant"]
theorem sc_write_snapshot : FnScope N_write_snapshot ["snapshot"] (defScope s_write_snapshot) := ⟨rfl, rfl, rfl, by decide +kernel, rfl, by decide +kernel, by decide +kernel⟩
theorem ok_write_snapshot (T : Tx w K mg base) : FnOk P w K mg base CX0 2 (a_write_snapshot K) (fd_write_snapshot K) ["snapshot"] sp_write_snapshot := by
  refine T.f_write_snapshot.ok sc_write_snapshot (fun vs H Q E h => ?_) (fun cdv A outer s H vs Q E hr h => ?_)
  · obtain ⟨n, gs, v, rfl, _⟩ := h
    rfl
  obtain ⟨n, gs, v, rfl, hn, hg, hgl, td, k⟩ := h
  refine ⟨_, PSs.nox (pss_cons (ps_asg (pv 0) (pg_tup rfl (pgs_cons (pg_name (i := 1) sc_write_snapshot.nd rfl (Or.inl rfl)) (pgs_cons (pg_name (i := 2) sc_write_snapshot.nd rfl (Or.inl rfl)) (pgs_cons (pg_name (i := 3) sc_write_snapshot.nd rfl (Or.inl rfl)) pgs_nil))))) (pss_one (ps_ret (pe_join pe_str (pe_op op_cat (pe_lst (pa_cons (pe_joined (.cons pe_str (.cons (pe_fmt (pv 1)) (.cons pe_str (.cons (pe_fmt (pv 2)) .nil))))) pa_nil)) (pe_lc (own := [("grant", 4)]) rfl sc_write_snapshot.nd (pi_list (pv 3)) (blkOk_by (own := [("grant", 4)]) (N := N_write_snapshot) (sc := defScope s_write_snapshot) (by decide +kernel)) (fun _ _ _ _ _ => (pg_name (i := 4) sc_write_snapshot.nd rfl (Or.inl rfl))) (fun _ _ _ _ _ => pts_nil) (fun _ _ _ _ _ => (pe_call (ok_grant_line T) (hr.mono (by decide)) rfl T.g_grant_line T.f_grant_line.kp T.b_grant_line .nil pass0 (pa_cons pe_str (pa_cons (pv 4) pa_nil)))))))))), ?_⟩
  obtain ⟨a, l, gvs, rfl, ha, hl, _, tg⟩ := td.sn_
  have hh := (head_le hn).1
  wtm_at "go"
  refine ⟨log_le (by omega), ?_⟩
  wtm_at "go"
  refine ⟨sl_big (Nat.le_trans hh (by decide)), ?_⟩
  wtm_at "go"
  rename_i p hp H2 e1 e2
  have hl2 := e1.at hl
  refine lines_lc (by decide) rfl hl2 (tg.e e1) hg hgl (fun _ => rfl) (fun _ => rfl) fun D H' e hD hy => ?_
  refine gCatL (e.at e2) hy (sl_big ?_) fun q H3 e3 hq => ?_
  · rw [List.length_map, List.length_map, List.length_singleton]
    omega
  · refine ⟨_, q, snapLines n gs, rfl, rfl, .inl (.inl (.inl ?_)), join_ok (m := 28) (snap_le hn hg) ?_ (by decide) (by decide), k _ ((e1.trans e).trans e3)⟩
    · rw [hq]
      rfl
    · simp only [snapLines, List.length_cons, List.length_map]
      omega
theorem ent_le {e : En} (h : EnOk e) : ∀ y ∈ entLines e, y.length ≤ 30 := fun y hy => by
  obtain ⟨hn, h1, h2, _, _⟩ := h
  rcases List.mem_cons.mp hy with rfl | hy
  · exact (head_le hn).2
  · rcases List.mem_append.mp hy with hy | hy
    · obtain ⟨g, q, rfl⟩ := List.mem_map.mp hy
      exact line_le (by decide) (h1 g q)
    · obtain ⟨g, q, rfl⟩ := List.mem_map.mp hy
      exact line_le (by decide) (h2 g q)
theorem ents_len : ∀ {es : List En}, (∀ e ∈ es, EnOk e) → (es.flatMap entLines).length ≤ es.length * 55
  | [], _ => by simp
  | e :: es, h => by
    have q := ents_len (es := es) fun x hx => h x (List.mem_cons_of_mem _ hx)
    obtain ⟨_, _, _, h3, h4⟩ := h e List.mem_cons_self
    simp only [List.flatMap_cons, List.length_append, entLines, List.length_cons, List.length_map, Nat.add_mul]
    omega
abbrev sp_write_feed : Sp := fun vs H Q _ => ∃ (es : List En) (v : V), vs = [v] ∧ (∀ e ∈ es, EnOk e) ∧ es.length ≤ 20 ∧ TD AnyL H v (.list (es.map enD)) ∧ ∀ H', Ex H H' → Q (.str (feedText es)) H'
abbrev N_write_feed : List Str := ["entries", "lines", "store", "revision", "gained", "lost", "grant"]
theorem sc_write_feed : FnScope N_write_feed ["entries"] (defScope s_write_feed) := ⟨rfl, rfl, rfl, by decide +kernel, rfl, by decide +kernel, by decide +kernel⟩
theorem ok_write_feed (T : Tx w K mg base) : FnOk P w K mg base CX0 2 (a_write_feed K) (fd_write_feed K) ["entries"] sp_write_feed := by
  refine T.f_write_feed.ok sc_write_feed (fun vs H Q E h => ?_) (fun cdv A outer s H vs Q E hr h => ?_)
  · obtain ⟨es, v, rfl, _⟩ := h
    rfl
  obtain ⟨es, v, rfl, hok, hel, td, k⟩ := h
  refine ⟨_, PSs.nox (pss_cons (ps_set (i := 1) sc_write_feed.nd rfl (Or.inl rfl) (pe_lst pa_nil)) (pss_cons (ps_for PassesOwn.never rfl (pi_list (pv 0)) (pg_tup rfl (pgs_cons (pg_name (i := 2) sc_write_feed.nd rfl (Or.inl rfl)) (pgs_cons (pg_name (i := 3) sc_write_feed.nd rfl (Or.inl rfl)) (pgs_cons (pg_name (i := 4) sc_write_feed.nd rfl (Or.inl rfl)) (pgs_cons (pg_name (i := 5) sc_write_feed.nd rfl (Or.inl rfl)) pgs_nil))))) (pss_cons (ps_expr (pe_bm PySem.F.plainAttrs_list PySem.F.slot_list_append PySem.F.type_list_append mt_append (pv 1) (pa_cons (pe_joined (.cons pe_str (.cons (pe_fmt (pv 2)) (.cons pe_str (.cons (pe_fmt (pv 3)) .nil))))) pa_nil))) (pss_cons (ps_expr (pe_bm PySem.F.plainAttrs_list PySem.F.slot_list_extend PySem.F.type_list_extend mt_extend (pv 1) (pa_cons (pe_lc (own := [("grant", 6)]) rfl sc_write_feed.nd (pi_list (pv 4)) (blkOk_by (own := [("grant", 6)]) (N := N_write_feed) (sc := defScope s_write_feed) (by decide +kernel)) (fun _ _ _ _ _ => (pg_name (i := 6) sc_write_feed.nd rfl (Or.inl rfl))) (fun _ _ _ _ _ => pts_nil) (fun _ _ _ _ _ => (pe_call (ok_grant_line T) (hr.mono (by decide)) rfl T.g_grant_line T.f_grant_line.kp T.b_grant_line .nil pass0 (pa_cons pe_str (pa_cons (pv 6) pa_nil))))) pa_nil))) (pss_one (ps_expr (pe_bm PySem.F.plainAttrs_list PySem.F.slot_list_extend PySem.F.type_list_extend mt_extend (pv 1) (pa_cons (pe_lc (own := [("grant", 6)]) rfl sc_write_feed.nd (pi_list (pv 5)) (blkOk_by (own := [("grant", 6)]) (N := N_write_feed) (sc := defScope s_write_feed) (by decide +kernel)) (fun _ _ _ _ _ => (pg_name (i := 6) sc_write_feed.nd rfl (Or.inl rfl))) (fun _ _ _ _ _ => pts_nil) (fun _ _ _ _ _ => (pe_call (ok_grant_line T) (hr.mono (by decide)) rfl T.g_grant_line T.f_grant_line.kp T.b_grant_line .nil pass0 (pa_cons pe_str (pa_cons (pv 6) pa_nil))))) pa_nil))))))) (pss_one (ps_ret (pe_join pe_str (pv 1)))))), ?_⟩
  obtain ⟨l, evs, rfl, hl, _, te⟩ := td.lst_
  wtm_at "go"
  rename_i L hL H2 e1 eL
  have hl2 := e1.at hl
  refine forA walk_list te (fun d σ H' => Ex H H' ∧ H L = none ∧ H' L = some (.lst ((d.flatMap entLines).map V.str)) ∧ ∃ x2 x3 x4 x5 x6, σ = [some (.ref l), some (.ref L), x2, x3, x4, x5, x6]) ?_ ?_ ?_ ?_
  · exact ⟨e1, hL, eL, _, _, _, _, _, rfl⟩
  · exact fun d σ H' p => .inl (.inl (p.1.at hl))
  · rintro d e r v σ H' ed tv ⟨e', _, hL', x2, x3, x4, x5, x6, rfl⟩
    obtain ⟨a, lg, gv, ll, lv, rfl, ha0, hlg, _, tg, hll, _, tl⟩ := tv.en_
    have ha := e'.at ha0
    obtain ⟨hn, hg1, hg2, hn1, hn2⟩ := hok e (by rw [ed]; simp)
    have hh := (head_le hn).2
    have bound : ((d.flatMap entLines).length ≤ 20 * 55) := by
      have q := ents_len (es := d) fun x hx => hok x (by rw [ed]; simp [hx])
      have : d.length ≤ es.length := by rw [ed]; simp
      omega
    wtm_at "go"
    refine ⟨log_le (by omega), ?_⟩
    wtm_at "go"
    refine ⟨sl_big (Nat.le_trans hh (by decide)), ?_⟩
    wtm_at "go"
    refine gApp hL' ?_ fun H3 e3 h3 => ?_
    · rw [List.length_map]
      exact Nat.lt_of_le_of_lt bound (by decide)
    wtm_at "go"
    have E3 := exD e' hL e3
    refine lines_lc (by decide) rfl (E3.at hlg) (tg.e E3) hg1 hn1 (fun _ => rfl) (fun _ => rfl) fun q H4 e4 hq q4 => ?_
    wtm_at "go"
    refine gExt (e4.at h3) q4 (sl_big ?_) fun H5 e5 h5 => ?_
    · simp only [List.length_map, List.length_append, List.length_singleton]
      omega
    wtm_at "go"
    have E5 := exD (E3.trans e4) hL e5
    refine lines_lc (by decide) rfl (E5.at hll) (tl.e E5) hg2 hn2 (fun _ => rfl) (fun _ => rfl) fun q' H6 e6 hq' q6 => ?_
    wtm_at "go"
    refine gExt (e6.at h5) q6 (sl_big ?_) fun H7 e7 h7 => ?_
    · simp only [List.length_map, List.length_append, List.length_singleton]
      omega
    wtm_at "go"
    refine ⟨exD (E5.trans e6) hL e7, hL, ?_, _, _, _, _, _, rfl⟩
    rw [h7, List.flatMap_append]
    simp [entLines, entHead]
  · rintro σ H' ⟨e', _, hL', x2, x3, x4, x5, x6, rfl⟩
    wtm_at "go"
    refine ⟨_, L, es.flatMap entLines, rfl, rfl, .inl (.inl (.inl hL')), join_ok (m := 1100) (c := 30) ?_ ?_ (by decide) (by decide), k _ e'⟩
    · intro y hy
      obtain ⟨e, he, hy⟩ := List.mem_flatMap.mp hy
      exact ent_le (hok e he) y hy
    · have q := ents_len hok
      omega
end


section
variable {P : Program} {w : World} {K : PySem.W.Frag} {mg : Str → Option Value} {base : Heap}
/-! ### notation.py, read -/
def headOf (line word : Str) (least : Nat) : Option (Option (Str × Nat)) :=
  match Txt.split line " " with
  | [a, b, c] => if a = word then
      (if b.length ≤ 1000 ∧ c.length ≤ 1000 then
        match splitTok (b ++ "@" ++ c) with
        | some (some (s, n)) => if n < least then some none else some (some (s, n))
        | some none => some none
        | none => none
      else none)
    else some none
  | _ => some none
abbrev sp_head_of (K : PySem.W.Frag) : Sp := fun vs H Q _ => ∃ (x y : Str) (m : Nat) (r : Option (Str × Nat)), vs = [.str x, .str y, .int m] ∧ headOf x y m = some r ∧ Tabs K H ∧ x.length ≤ 1000 ∧ (r = none → ∀ H', Ex H H' → Q .non H') ∧
  (∀ s n, r = some (s, n) → ∀ p H', Ex H H' → H p = none → H' p = some (.tup [.str s, .int n]) → Q (.ref p) H')
abbrev N_head_of : List Str := ["line", "word", "least", "parts", "found"]
theorem sc_head_of : FnScope N_head_of ["line", "word", "least"] (defScope s_head_of) := ⟨rfl, rfl, rfl, by decide +kernel, rfl, by decide +kernel, by decide +kernel⟩
theorem ok_head_of (T : Tx w K mg base) : FnOk P w K mg base CX0 7 (a_head_of K) (fd_head_of K) ["line", "word", "least"] (sp_head_of K) := by
  refine T.f_head_of.ok sc_head_of (fun vs H Q E h => ?_) (fun cdv A outer s H vs Q E hr h => ?_)
  · obtain ⟨x, y, m, r, rfl, _⟩ := h
    rfl
  obtain ⟨x, y, m, r, rfl, hr0, tb, hz, k0, k⟩ := h
  refine ⟨_, PSs.nox (pss_cons (ps_set (i := 3) sc_head_of.nd rfl (Or.inl rfl) (pe_split (pv 0) pe_str)) (pss_cons (ps_if (PW.pt (pw_or (pt_cmpR (op_ne) (pe_callB call_len_seq (by rfl) T.n_len (by decide +kernel) (pa_cons (pv 3) pa_nil)) pe_int (nomark _)) (pw_or1 (pt_cmpR (op_ne) (pe_ix ix_list (pv 3) pe_int (fun _ _ => rfl)) (pv 1) (nomark _))))) (pss_one (ps_ret pe_non)) pss_nil) (pss_cons (ps_set (i := 4) sc_head_of.nd rfl (Or.inl rfl) (pe_call (ok_split_token T) (hr.mono (by decide)) rfl T.g_split_token T.f_split_token.kp T.b_split_token .nil pass0 (pa_cons (pe_op op_add_str (pe_op op_add_str (pe_ix ix_list (pv 3) pe_int (fun _ _ => rfl)) pe_str) (pe_ix ix_list (pv 3) pe_int (fun _ _ => rfl))) pa_nil))) (pss_cons (ps_if (PW.pt (pw_or (pt_cmpR (op_isN1) (pv 4) pe_non (nomark _)) (pw_or1 (pt_cmpR (op_lt) (pe_ix ix_tup (pv 4) pe_int (fun _ _ => rfl)) (pv 2) (nomark _))))) (pss_one (ps_ret pe_non)) pss_nil) (pss_one (ps_ret (pv 4))))))), ?_⟩
  wtm_at "go"
  refine ⟨Nat.le_trans (Nat.add_le_add_right hz 2) (by decide), ?_⟩
  unfold headOf at hr0
  generalize Txt.split x " " = parts at *
  intro p hp
  generalize hH : upd H p (.lst (parts.map V.str)) = H2
  obtain ⟨e1, h1⟩ := exO hp hH
  clear hH
  have no : r = none → ∀ H', Ex H2 H' → Q .non H' := fun z H' e => k0 z _ (e1.trans e)
  have bad : parts.length ≠ 3 → Q .non H2 := fun z => no (by
    match parts, z with
    | [], _ => cases hr0; rfl
    | [_], _ => cases hr0; rfl
    | [_, _], _ => cases hr0; rfl
    | [_, _, _], z => exact absurd rfl z
    | _ :: _ :: _ :: _ :: _, _ => cases hr0; rfl) _ (Ch.refl _ _)
  wtm_at "go"
  refine ifb (fun h => ?_) (fun h => ?_)
  · wtm_at "go"
    exact bad (fun z => by simp [z] at h)
  · have hl : parts.length = 3 := by simp at h; omega
    match parts, hl with
    | [a, b, c], _ =>
      dsimp only at hr0
      wtm_at "go"
      refine ifb (fun h2 => ?_) (fun h2 => ?_)
      · wtm_at "go"
        have h2' : a ≠ y := by simpa using h2
        rw [if_neg h2'] at hr0
        cases hr0
        exact no rfl _ (Ch.refl _ _)
      · have h2' : a = y := by simpa using h2
        rw [if_pos h2'] at hr0
        by_cases hb : b.length ≤ 1000 ∧ c.length ≤ 1000
        · rw [if_pos hb] at hr0
          have e1' : ("@" : Str).length = 1 := rfl
          have hlen : (b ++ "@" ++ c).length ≤ 2001 := by
            rw [str_len, str_len, e1']
            omega
          have hlen' : (b ++ "@").length ≤ 1001 := by
            rw [str_len, e1']
            omega
          wtm_at "go"
          refine ⟨sl_big (by omega), ?_⟩
          wtm_at "go"
          refine ⟨sl_big (by omega), ?_⟩
          wtm_at "go"
          cases hs : splitTok (b ++ "@" ++ c) with
          | none => rw [hs] at hr0; cases hr0
          | some rr =>
            rw [hs] at hr0
            refine ⟨_, rr, rfl, hs, tabs_ tb e1, sl_big (by omega), fun z H' e => ?_, fun st n z q H' e hq h' => ?_⟩
            · subst z
              cases hr0
              wtm_at "go"
              exact no rfl _ (by wtm_at "ex")
            · subst z
              dsimp only at hr0
              wtm_at "go"
              refine ifd (fun h3 => ?_) (fun h3 => ?_)
              · wtm_at "go"
                rw [if_pos (by omega)] at hr0
                cases hr0
                exact no rfl _ (by wtm_at "ex")
              · wtm_at "go"
                rw [if_neg (by omega)] at hr0
                cases hr0
                exact k _ _ rfl _ _ (by wtm_at "ex") (by wtm_at "no") (by assumption)
        · rw [if_neg hb] at hr0
          cases hr0
def grantOf (line : Str) : Option (Option (Str × Gr)) :=
  match Txt.split line " " with
  | [s, a, b, c] => if s ∈ signs then
      (if a.length ≤ 1000 ∧ b.length ≤ 1000 ∧ c.length ≤ 1000 then (if isObj a && (isIdent b && isObj c) then some (some (s, (a, b, c))) else some none) else none)
    else some none
  | _ => some none
def sgD (s : Str) (g : Gr) : PyData := .tuple [.str s, gD g]
abbrev sp_grant_of (K : PySem.W.Frag) : Sp := fun vs H Q _ => ∃ (x : Str) (r : Option (Str × Gr)), vs = [.str x] ∧ grantOf x = some r ∧ Tabs K H ∧ x.length ≤ 1000 ∧ (r = none → ∀ H', Ex H H' → Q .non H') ∧
  (∀ s g, r = some (s, g) → ∀ v H', Ex H H' → TD NoL H' v (sgD s g) → Q v H')
abbrev N_grant_of : List Str := ["line", "parts"]
theorem sc_grant_of : FnScope N_grant_of ["line"] (defScope s_grant_of) := ⟨rfl, rfl, rfl, by decide +kernel, rfl, by decide +kernel, by decide +kernel⟩
theorem ok_grant_of (T : Tx w K mg base) : FnOk P w K mg base CX0 6 (a_grant_of K) (fd_grant_of K) ["line"] (sp_grant_of K) := by
  refine T.f_grant_of.ok sc_grant_of (fun vs H Q E h => ?_) (fun cdv A outer s H vs Q E hr h => ?_)
  · obtain ⟨x, r, rfl, _⟩ := h
    rfl
  obtain ⟨x, r, rfl, hr0, tb, hz, k0, k⟩ := h
  refine ⟨_, PSs.nox (pss_cons (ps_set (i := 1) sc_grant_of.nd rfl (Or.inl rfl) (pe_split (pv 0) pe_str)) (pss_cons (ps_if (PW.pt (pw_or (pt_cmpR (op_ne) (pe_callB call_len_seq (by rfl) T.n_len (by decide +kernel) (pa_cons (pv 1) pa_nil)) pe_int (nomark _)) (pw_or1 (pt_cmpR (op_notIn_seq) (pe_ix ix_list (pv 1) pe_int (fun _ _ => rfl)) (pe_tup (pa_cons pe_str (pa_cons pe_str (pa_cons pe_str pa_nil)))) (by rfl))))) (pss_one (ps_ret pe_non)) pss_nil) (pss_cons (ps_if (PW.pt (pw_or (pt_not (pt_val (pe_call (ok_is_object T) (hr.mono (by decide)) rfl T.g_is_object T.f_is_object.kp T.b_is_object .nil pass0 (pa_cons (pe_ix ix_list (pv 1) pe_int (fun _ _ => rfl)) pa_nil)))) (pw_or (pt_not (pt_val (pe_call (ok_is_identifier T) (hr.mono (by decide)) rfl T.g_is_identifier T.f_is_identifier.kp T.b_is_identifier .nil pass0 (pa_cons (pe_ix ix_list (pv 1) pe_int (fun _ _ => rfl)) pa_nil)))) (pw_or1 (pt_not (pt_val (pe_call (ok_is_object T) (hr.mono (by decide)) rfl T.g_is_object T.f_is_object.kp T.b_is_object .nil pass0 (pa_cons (pe_ix ix_list (pv 1) pe_int (fun _ _ => rfl)) pa_nil)))))))) (pss_one (ps_ret pe_non)) pss_nil) (pss_one (ps_ret (pe_tup (pa_cons (pe_ix ix_list (pv 1) pe_int (fun _ _ => rfl)) (pa_cons (pe_tup (pa_cons (pe_ix ix_list (pv 1) pe_int (fun _ _ => rfl)) (pa_cons (pe_ix ix_list (pv 1) pe_int (fun _ _ => rfl)) (pa_cons (pe_ix ix_list (pv 1) pe_int (fun _ _ => rfl)) pa_nil)))) pa_nil)))))))), ?_⟩
  wtm_at "go"
  refine ⟨Nat.le_trans (Nat.add_le_add_right hz 2) (by decide), ?_⟩
  unfold grantOf at hr0
  generalize Txt.split x " " = parts at *
  intro p hp
  generalize hH : upd H p (.lst (parts.map V.str)) = H2
  obtain ⟨e1, h1⟩ := exO hp hH
  clear hH
  have no : r = none → ∀ H', Ex H2 H' → Q .non H' := fun z H' e => k0 z _ (e1.trans e)
  have bad : parts.length ≠ 4 → Q .non H2 := fun z => no (by
    match parts, z with
    | [], _ => cases hr0; rfl
    | [_], _ => cases hr0; rfl
    | [_, _], _ => cases hr0; rfl
    | [_, _, _], _ => cases hr0; rfl
    | [_, _, _, _], z => exact absurd rfl z
    | _ :: _ :: _ :: _ :: _ :: _, _ => cases hr0; rfl) _ (Ch.refl _ _)
  wtm_at "go"
  refine ifb (fun h => ?_) (fun h => ?_)
  · wtm_at "go"
    exact bad (fun z => by simp [z] at h)
  · have hl : parts.length = 4 := by simp at h; omega
    match parts, hl with
    | [s, a, b, c], _ =>
      dsimp only at hr0
      wtm_at "go"
      rename_i q H3 hq e3 q3
      refine gNotInT q3 rfl rfl ?_
      have es : inV (V.str s) [.str "+", .str "-", .str "="] = decide (s ∈ signs) := by
        rw [Bool.eq_iff_iff]
        simp only [inV, eqV, signs, List.any_cons, List.any_nil, Bool.or_false, Bool.or_eq_true, beq_iff_eq, decide_eq_true_eq, List.mem_cons, List.not_mem_nil, or_false]
        constructor <;> (intro h; rcases h with h | h | h <;> simp [h])
      rw [es]
      wtm_at "go"
      refine ifn (fun h3 => ?_) (fun h3 => ?_)
      · wtm_at "go"
        rw [if_neg (of_decide_eq_false h3)] at hr0
        cases hr0
        exact no rfl _ (by wtm_at "ex")
      · rw [if_pos (of_decide_eq_true h3)] at hr0
        by_cases hb : a.length ≤ 1000 ∧ b.length ≤ 1000 ∧ c.length ≤ 1000
        · rw [if_pos hb] at hr0
          have ha' : a.length ≤ sizeLine := sl_big (by omega)
          have hb' : b.length ≤ sizeLine := sl_big (by omega)
          have hc' : c.length ≤ sizeLine := sl_big (by omega)
          wtm_at "go"
          refine ifn (fun h4 => ?_) (fun h4 => ?_)
          · wtm_at "go"
            refine no ?_ _ (by wtm_at "ex")
            simp only [h4, Bool.false_and, Bool.false_eq_true, if_false] at hr0
            cases hr0
            rfl
          · wtm_at "go"
            refine ifn (fun h5 => ?_) (fun h5 => ?_)
            · wtm_at "go"
              refine no ?_ _ (by wtm_at "ex")
              simp only [h4, h5, Bool.false_and, Bool.true_and, Bool.false_eq_true, if_false] at hr0
              cases hr0
              rfl
            · wtm_at "go"
              refine ifn (fun h6 => ?_) (fun h6 => ?_)
              · wtm_at "go"
                refine no ?_ _ (by wtm_at "ex")
                simp only [h4, h5, h6, Bool.true_and, Bool.false_eq_true, if_false] at hr0
                cases hr0
                rfl
              · wtm_at "go"
                simp only [h4, h5, h6, Bool.true_and, if_true] at hr0
                cases hr0
                refine k _ _ rfl _ _ (by wtm_at "ex") ?_
                exact .tup (by assumption) (.cons (.str _) (.cons (TD.g (by wtm_at "tr")) .nil))
        · rw [if_neg hb] at hr0
          cases hr0
/-! what the lines of the store's texts read as -/
theorem grant_read : (signs.all fun s => Uni.all fun g => decide (grantOf (lineOf s g) = some (some (s, g)))) = true := by decide +kernel
theorem grant_read_ {s : Str} {g : Gr} (hs : s ∈ signs) (hg : g ∈ Uni) : grantOf (lineOf s g) = some (some (s, g)) := of_decide_eq_true (List.all_eq_true.mp (List.all_eq_true.mp grant_read s hs) g hg)
theorem noHead_read : (signs.all fun s => Uni.all fun g => decide (headOf (lineOf s g) "entry" 1 = some none)) = true := by decide +kernel
theorem noHead_ {s : Str} {g : Gr} (hs : s ∈ signs) (hg : g ∈ Uni) : headOf (lineOf s g) "entry" 1 = some none := of_decide_eq_true (List.all_eq_true.mp (List.all_eq_true.mp noHead_read s hs) g hg)
theorem head_read : ∀ n : Fin 101, headOf (snapHead n) "snapshot" 0 = some (some (("main" : Str), n.val)) := by decide +kernel
theorem ehead_read : ∀ n : Fin 100, headOf (entHead (n.val + 1)) "entry" 1 = some (some (("main" : Str), n.val + 1)) := by decide +kernel
abbrev SortG (gs : List Gr) : Prop := gs.Pairwise fun x y => ltG x y = true
theorem TD.sg_ {A : Addr → Prop} {H : Hp} {v : V} {s : Str} {g : Gr} (h : TD A H v (sgD s g)) : ∃ a b, v = .ref a ∧ H a = some (.tup [.str s, .ref b]) ∧ H b = some (.tup [.str g.1, .str g.2.1, .str g.2.2]) := by
  obtain ⟨a, vs, rfl, ha, t0⟩ := h.tup_
  obtain ⟨v1, w1, rfl, h1, t1⟩ := t0.cons_
  obtain ⟨v2, w2, rfl, h2, t2⟩ := t1.cons_
  obtain ⟨b, rfl, hb⟩ := h2.g_
  obtain rfl := t2.nil_
  obtain rfl := h1.str_
  exact ⟨a, b, rfl, ha, hb⟩
end
end Z
set_option Elab.async false
set_option linter.all false
set_option maxRecDepth 100000
set_option maxHeartbeats 4000000
namespace Z
open PySem PySem.Spec PyProof.Rows L2

local macro_rules | `(tactic| wtm_at "ex") => `(tactic| first | assumption | exact Ch.refl _ _ | (refine Ch.trans ?_ (by assumption); wtm_at "ex"))
local macro_rules | `(tactic| wtm_at "no") => `(tactic| first | assumption | (refine Ch.free (S := []) (p := _) ?_ (by assumption); wtm_at "ex"))
local macro_rules | `(tactic| wtm_at "tr") => `(tactic| first | assumption | (with_reducible refine tabs_ (S := []) (by assumption) ?_; wtm_at "ex") | (with_reducible refine atT_ (S := []) (by assumption) ?_; wtm_at "ex") | (with_reducible refine atL_ (by assumption) ?_; wtm_at "ex") | (with_reducible refine atN_ (by assumption) ?_; wtm_at "ex") | (with_reducible refine atK_ (by assumption) ?_; wtm_at "ex") | (with_reducible refine atD_ (by assumption) ?_; wtm_at "ex") | (with_reducible refine atF_ (by assumption) ?_; wtm_at "ex") | (with_reducible refine TD.e (by assumption) ?_; wtm_at "ex") | (with_reducible refine TDs.e (by assumption) ?_; wtm_at "ex") | wtm_at "ex")
local macro_rules | `(tactic| wtm_at "nw") => `(tactic| (intro p hp; generalize hH : upd _ _ _ = H2; have e := exO hp hH; have ⟨e1, e2⟩ := e; clear e hH))
local macro_rules | `(tactic| wtm_at "mk") => `(tactic| (intro x dx hx hd hn; generalize hH : upd (upd _ _ _) _ _ = H2; have e := exO2 hx hd hn hH; have ⟨e1, e2⟩ := e; clear e hH))
local macro_rules | `(tactic| wtm_at "pu") => `(tactic| (generalize hH : upd _ _ _ = H2; have e := chO (by wtm_at "tr") trivial hH; have ⟨e1, e2⟩ := e; clear e hH))
local macro_rules | `(tactic| wtm_at "cl") => `(tactic| first | exact Tx.c_Replica (by assumption) | exact Tx.c_Follower (by assumption) | exact Tx.c_Line (by assumption) | exact Tx.c_Graph (by assumption) | exact Tx.c_Revision (by assumption) | exact Tx.c_Primary (by assumption))
local macro_rules | `(tactic| wtm_at "na") => `(tactic| first | exact Tx.n_Replica_name (by assumption) | exact Tx.n_Replica_number (by assumption) | exact Tx.n_Replica_table (by assumption) | exact Tx.n_Replica_later (by assumption) | exact Tx.n_Follower_replica (by assumption) | exact Tx.n_Line_number (by assumption) | exact Tx.n_Line_parts (by assumption) | exact Tx.n_Line_at (by assumption) | exact Tx.n_Graph_schema (by assumption) | exact Tx.n_Graph_strata (by assumption) | exact Tx.n_Graph_subjects (by assumption) | exact Tx.n_Graph_objects (by assumption) | exact Tx.n_Graph_people (by assumption) | exact Tx.n_Revision_schema (by assumption) | exact Tx.n_Revision_relationships (by assumption) | exact Tx.n_Revision_table (by assumption) | exact Tx.n_Primary_name (by assumption) | exact Tx.n_Primary_first (by assumption) | exact Tx.n_Primary_revisions (by assumption))
local macro_rules | `(tactic| wtm_at "gex") => `(tactic| (with_reducible refine ⟨_, _, _, _, rfl, ?_⟩))
local macro_rules | `(tactic| wtm_at "gex") => `(tactic| (with_reducible refine ⟨_, _, _, rfl, ?_⟩))
local macro_rules | `(tactic| wtm_at "gex") => `(tactic| (with_reducible refine ⟨_, _, rfl, ?_⟩))
local macro_rules | `(tactic| wtm_at "gex") => `(tactic| (with_reducible refine ⟨_, _, rfl, rfl, ?_⟩))
local macro_rules | `(tactic| wtm_at "gex") => `(tactic| (with_reducible refine ⟨_, rfl, ?_⟩))
local macro_rules | `(tactic| wtm_at "gex") => `(tactic| (with_reducible refine ⟨_, _, _, rfl, by wtm_at "tr", by rfl, ?_⟩))
local macro_rules | `(tactic| wtm_at "gex") => `(tactic| (with_reducible refine ⟨_, _, _, _, rfl, by wtm_at "tr", by wtm_at "cl", by wtm_at "na", by (with_unfolding_all decide), ?_⟩))
local macro_rules | `(tactic| wtm_at "gex") => `(tactic| (with_reducible refine ⟨_, _, _, _, _, rfl, by wtm_at "tr", by wtm_at "cl", by wtm_at "na", by rfl, ?_⟩))
local macro_rules | `(tactic| wtm_at "gex") => `(tactic| (with_reducible refine ⟨_, _, rfl, by assumption, by assumption, ?_⟩))
local macro_rules | `(tactic| wtm_at "gex") => `(tactic| (with_reducible refine ⟨_, rfl, ⟨_, sqT_ (by wtm_at "tr")⟩, ?_⟩))
local macro_rules | `(tactic| wtm_at "gex") => `(tactic| (with_reducible refine ⟨_, rfl, ⟨_, sqL_ (by wtm_at "tr")⟩, ?_⟩))
local macro_rules | `(tactic| wtm_at "gex") => `(tactic| (with_reducible refine ⟨_, _, rfl, sqL_ (by wtm_at "tr"), ?_⟩))
local macro_rules | `(tactic| wtm_at "gex") => `(tactic| (with_reducible refine ⟨_, truL (by wtm_at "tr"), ?_⟩))
local macro_rules | `(tactic| wtm_at "gex") => `(tactic| (with_reducible refine ⟨_, _, rfl, sqOrT (by wtm_at "tr"), ?_⟩))
local macro_rules | `(tactic| wtm_at "gex") => `(tactic| (with_reducible refine ⟨_, _, rfl, sqOrL (by wtm_at "tr"), ?_⟩))
local macro_rules | `(tactic| wtm_at "gan") => `(tactic| (with_reducible refine And.intro (by wtm_at "tr") ?_))
local macro_rules | `(tactic| wtm_at "gan") => `(tactic| (with_reducible refine And.intro (by (with_unfolding_all decide)) ?_))
local macro_rules | `(tactic| wtm_at "gan") => `(tactic| (with_reducible refine And.intro (len_le (by with_unfolding_all rfl)) ?_))
local macro_rules | `(tactic| wtm_at "gan") => `(tactic| (with_reducible refine And.intro (tyL (by wtm_at "tr")) ?_))
local macro_rules | `(tactic| wtm_at "gan") => `(tactic| (with_reducible refine ⟨⟨_, rfl⟩, ?_⟩))
local macro_rules | `(tactic| wtm_at "gal") => `(tactic| wtm_at "mk")
local macro_rules | `(tactic| wtm_at "gal") => `(tactic| wtm_at "nw")
local macro_rules | `(tactic| wtm_at "gal") => `(tactic| (with_reducible refine exV (fun p H' e h1 => ?_)))
local macro_rules | `(tactic| wtm_at "gal") => `(tactic| (with_reducible refine exT (fun p H' e h0 h1 => ?_)))
local macro_rules | `(tactic| wtm_at "gal") => `(tactic| (with_reducible refine exI (fun H' e => ?_)))
local macro_rules | `(tactic| wtm_at "gre") => `(tactic| (with_reducible refine gTQ ?_))
local macro_rules | `(tactic| wtm_at "gre") => `(tactic| (with_reducible refine gSlL (by wtm_at "tr") (fun q H2 hq e h => ?_)))
local macro_rules | `(tactic| wtm_at "gre") => `(tactic| (with_reducible refine gPartition rfl (by wtm_at "tr") (fun p H2 hp e h => ?_)))
local macro_rules | `(tactic| wtm_at "gre") => `(tactic| (with_reducible refine gTgT (by wtm_at "tr") (by with_unfolding_all rfl) ?_))
local macro_rules | `(tactic| wtm_at "gre") => `(tactic| (with_reducible refine gIxL (by wtm_at "tr") (by with_unfolding_all rfl) ?_))
local macro_rules | `(tactic| wtm_at "gre") => `(tactic| (with_reducible refine gIxT (by wtm_at "tr") (by with_unfolding_all rfl) ?_))
local macro_rules | `(tactic| wtm_at "gor") => `(tactic| (with_reducible refine Or.inr ⟨_, rfl, ?_⟩))
local macro_rules | `(tactic| wtm_at "gor") => `(tactic| (with_reducible refine Or.inl ⟨_, rfl, ?_⟩))
local macro_rules | `(tactic| wtm_at "go1") => `(tactic| wtm_at "mk")
local macro_rules | `(tactic| wtm_at "go1") => `(tactic| wtm_at "nw")
local macro_rules | `(tactic| wtm_at "go1") => `(tactic| ((with_reducible refine isOr ?_); wtm_at "gor"))
local macro_rules | `(tactic| wtm_at "go1") => `(tactic| wtm_at "gre")
local macro_rules | `(tactic| wtm_at "go1") => `(tactic| ((with_reducible refine isAll ?_); wtm_at "gal"))
local macro_rules | `(tactic| wtm_at "go1") => `(tactic| ((with_reducible refine isAnd ?_); wtm_at "gan"))
local macro_rules | `(tactic| wtm_at "go1") => `(tactic| ((with_reducible refine isEx ?_); wtm_at "gex"))
local macro_rules | `(tactic| wtm_at "go1") => `(tactic| with_reducible refine gVar rfl ?_)
local macro_rules | `(tactic| wtm_at "go1") => `(tactic| with_reducible refine Stp.go ?_)
local macro_rules | `(tactic| wtm_at "go") => `(tactic| repeat (first | wtm_at "go1" | (with_reducible dsimp only) | (dsimp only [cxK, List.cons_append, List.nil_append, List.append_nil])))
local macro_rules | `(tactic| wtm_at "gob") => `(tactic| repeat (first | wtm_at "go1" | (with_reducible dsimp only) | (dsimp only [cxK, List.cons_append, List.nil_append, List.append_nil]) | (refine blT (by decide) ?_) | (refine blF (by decide) ?_)))
local macro_rules | `(tactic| wtm_at "gos") => `(tactic| repeat' (first | wtm_at "go1" | (with_reducible dsimp only) | (dsimp only [cxK, List.cons_append, List.nil_append, List.append_nil]) | (with_reducible refine ifd (fun _ => ?_) (fun _ => ?_)) | (with_reducible refine ifb (fun _ => ?_) (fun _ => ?_))))

section
variable {P : Program} {w : World} {K : PySem.W.Frag} {mg : Str → Option Value} {base : Heap}
abbrev sp_read_snapshot (K : PySem.W.Frag) : Sp := fun vs H Q _ => ∃ (n : Nat) (gs : List Gr), vs = [.str (snapText n gs)] ∧ Tabs K H ∧ n ≤ 100 ∧ (∀ g ∈ gs, g ∈ Uni) ∧ gs.length ≤ 27 ∧ SortG gs ∧ ∀ v H', Ex H H' → TD (Fr H) H' v (snD n gs) → Q v H'
abbrev N_read_snapshot : List Str := ["text", "lines", "head", "grants", "at", "line", "found"]
theorem sc_read_snapshot : FnScope N_read_snapshot ["text"] (defScope s_read_snapshot) := ⟨rfl, rfl, rfl, by decide +kernel, rfl, by decide +kernel, by decide +kernel⟩
theorem ok_read_snapshot (T : Tx w K mg base) : FnOk P w K mg base CX0 8 (a_read_snapshot K) (fd_read_snapshot K) ["text"] (sp_read_snapshot K) := by
  refine T.f_read_snapshot.ok sc_read_snapshot (fun vs H Q E h => ?_) (fun cdv A outer s H vs Q E hr h => ?_)
  · obtain ⟨n, gs, rfl, _⟩ := h
    rfl
  obtain ⟨n, gs, rfl, tb, hn, hg, hgl, hs, k⟩ := h
  refine ⟨_, PSs.nox (pss_cons (ps_set (i := 1) sc_read_snapshot.nd rfl (Or.inl rfl) (pe_split (pv 0) pe_str)) (pss_cons (ps_set (i := 2) sc_read_snapshot.nd rfl (Or.inl rfl) (pe_call (ok_head_of T) (hr.mono (by decide)) rfl T.g_head_of T.f_head_of.kp T.b_head_of .nil pass0 (pa_cons (pe_ix ix_list (pv 1) pe_int (fun _ _ => rfl)) (pa_cons pe_str (pa_cons pe_int pa_nil))))) (pss_cons (ps_if (pt_cmpR (op_isN1) (pv 2) pe_non (nomark _)) pss_never pss_nil) (pss_cons (ps_set (i := 3) sc_read_snapshot.nd rfl (Or.inl rfl) (pe_lst pa_nil)) (pss_cons (ps_for PassesOwn.never rfl (pi_enum (by rfl) T.n_enumerate (pa_cons (pe_slice sl_list (pv 1) (po_some pe_int) po_none) pa_nil)) (pg_tup rfl (pgs_cons (pg_name (i := 4) sc_read_snapshot.nd rfl (Or.inl rfl)) (pgs_cons (pg_name (i := 5) sc_read_snapshot.nd rfl (Or.inl rfl)) pgs_nil))) (pss_cons (ps_set (i := 6) sc_read_snapshot.nd rfl (Or.inl rfl) (pe_call (ok_grant_of T) (hr.mono (by decide)) rfl T.g_grant_of T.f_grant_of.kp T.b_grant_of .nil pass0 (pa_cons (pv 5) pa_nil))) (pss_cons (ps_if (PW.pt (pw_or (pt_cmpR (op_isN1) (pv 6) pe_non (nomark _)) (pw_or1 (pt_cmpR (op_ne) (pe_ix ix_tup (pv 6) pe_int (fun _ _ => rfl)) pe_str (nomark _))))) pss_never pss_nil) (pss_cons (ps_if (PW.pt (pw_and (pt_truth (pv 3) (by intro _; rfl)) (pw_and1 (pt_cmpR (op_leTS (hu_w hr)) (pe_ix ix_tup (pv 6) pe_int (fun _ _ => rfl)) (pe_ix ix_list (pv 3) (pe_un un_neg pe_int) (fun _ _ => rfl)) (nomark _))))) pss_never pss_nil) (pss_one (ps_expr (pe_bm PySem.F.plainAttrs_list PySem.F.slot_list_append PySem.F.type_list_append mt_append (pv 3) (pa_cons (pe_ix ix_tup (pv 6) pe_int (fun _ _ => rfl)) pa_nil)))))))) (pss_one (ps_ret (pe_tup (pa_cons (pe_ix ix_tup (pv 2) pe_int (fun _ _ => rfl)) (pa_cons (pe_ix ix_tup (pv 2) pe_int (fun _ _ => rfl)) (pa_cons (pv 3) pa_nil))))))))))), ?_⟩
  have hsp := snap_split hn hg
  have hlen : (snapText n gs).length ≤ 28 * 31 := by
    refine Nat.le_trans (join_len (snap_le hn hg)) (Nat.mul_le_mul_right _ ?_)
    simp [snapLines]
    omega
  wtm_at "go"
  rw [hsp]
  refine ⟨Nat.le_trans (Nat.add_le_add_right hlen 2) (by decide), ?_⟩
  wtm_at "go"
  rename_i p hp H2 e1 h1
  have h1 : H2 p = some (.lst (.str (snapHead n) :: (gs.map (lineOf "=")).map V.str)) := h1
  refine gIxL h1 atI_0 ?_
  wtm_at "go"
  refine ⟨snapHead n, "snapshot", 0, some ("main", n), rfl, head_read ⟨n, by omega⟩, tabs_ tb e1, Nat.le_trans (head_le hn).1 (by decide), fun z => (nomatch z), fun s m z q H3 e3 hq h3 => ?_⟩
  cases z
  wtm_at "go"
  rename_i L hL H4 e4 h4 q2 B hq2 e5 h5
  have ecut : cutV (V.str (snapHead n) :: (gs.map (lineOf "=")).map V.str) (some 1) none = (gs.map (lineOf "=")).map V.str := cut_from 1 (by simp)
  rw [ecut] at h5
  have hL0 : H L = none := e1.free (e3.free hL)
  have eB : Ex H B := ((e1.trans e3).trans e4).trans e5
  have tl : TDs NoL B ((gs.map (lineOf "=")).map V.str) (gs.map fun g => PyData.str (lineOf "=" g)) := by
    have z := TDs.strs (A := NoL) (H := B) (gs.map (lineOf "="))
    rw [List.map_map (g := PyData.str)] at z
    exact z
  have nq : q2 ≠ L := fun z => by
    rw [z, h4] at hq2
    cases hq2
  refine forE tl (fun d σ H' => Ch [L] B H' ∧ (∃ gv, H' L = some (.lst gv) ∧ TDs NoL H' gv (d.map gD)) ∧ ∃ x4 x5 x6, σ = [some (.str (snapText n gs)), some (.ref p), some (.ref q), some (.ref L), x4, x5, x6]) ?_ ?_ ?_ ?_
  · exact ⟨Ch.refl _ _, ⟨[], e5.at h4, .nil⟩, _, _, _, rfl⟩
  · exact fun d σ H' h => sqL_ (h.1.at1 h5 nq)
  · rintro d g r v T σ H5 H6 ed tv ⟨eH, ⟨gv, hgv, tg⟩, x4, x5, x6, rfl⟩ hT e6 hT6
    obtain rfl := tv.str_
    have hgU : g ∈ Uni := hg g (by rw [ed]; simp)
    wtm_at "go"
    refine ⟨lineOf "=" g, some ("=", g), rfl, grant_read_ (by decide) hgU, ?_, ?_, fun z => (nomatch z), fun s' g' z w' H7 e7 t7 => ?_⟩
    · exact tabs_ (tabs_ (tabs_ tb eB) eH) e6
    · exact Nat.le_trans (line_le (by decide) hgU) (by decide)
    cases z
    obtain ⟨a7, b7, rfl, ha7, hb7⟩ := t7.sg_
    wtm_at "go"
    refine blF (by simp) ?_
    wtm_at "go"
    have hg7 : H7 L = some (.lst gv) := e7.at (e6.at hgv)
    have tg7 := tg.p (e6.trans e7)
    have hgl7 : gv.length < sizeLine := by
      have q1 := tg.len
      rw [List.length_map] at q1
      have q2 : d.length ≤ gs.length := by rw [ed]; simp
      rw [q1]
      exact Nat.lt_of_le_of_lt (Nat.le_trans q2 hgl) (by decide)
    have fin : ∀ H8, Ex H7 H8 → ∀ H9, Ch [L] H8 H9 → H9 L = some (.lst (gv ++ [.ref b7])) → Ch [L] B H9 ∧ ∃ gv, H9 L = some (.lst gv) ∧ TDs NoL H9 gv ((d ++ [g]).map gD) := fun H8 e8 H9 e9 h9 => by
      refine ⟨(eH.trans ((e6.trans (e7.trans e8)).wk)).trans e9, ⟨_, h9, ?_⟩⟩
      rw [List.map_append]
      exact ((tg7.p e8).p e9).app (.one ((TD.g hb7).p ((e8.wk (S := [L])).trans e9)))
    have fin2 : ∀ H8, Ex H7 H8 → rAppend (.ref L) [.ref b7] H8 fun _ H' => Ch [L] B H' ∧ (∃ gv, H' L = some (.lst gv) ∧ TDs NoL H' gv ((d ++ [g]).map gD)) ∧ ∃ x4 x5 x6,
        [some (V.str (snapText n gs)), some (V.ref p), some (V.ref q), some (V.ref L), some (V.int d.length), some (V.str (lineOf "=" g)), some (V.ref a7)] = [some (.str (snapText n gs)), some (.ref p), some (.ref q), some (.ref L), x4, x5, x6] := fun H8 e8 =>
      gApp (e8.at hg7) hgl7 fun H9 e9 h9 => ⟨(fin H8 e8 H9 e9 h9).1, (fin H8 e8 H9 e9 h9).2, _, _, _, rfl⟩
    rcases List.eq_nil_or_concat d with rfl | ⟨d', y, rfl⟩
    · obtain rfl := tg.nil_
      refine blF (by rfl) ?_
      wtm_at "go"
      exact fin2 _ (Ch.refl _ _)
    · rw [List.concat_eq_append] at *
      rw [List.map_append] at tg7
      obtain ⟨gv', u, rfl, tu⟩ : ∃ gv' u, gv = gv' ++ [u] ∧ TD NoL H7 u (gD y) := by
        have hl := tg7.len
        simp only [List.length_append, List.length_map, List.length_singleton] at hl
        rcases List.eq_nil_or_concat gv with rfl | ⟨gv', u, rfl⟩
        · simp at hl
        · rw [List.concat_eq_append] at *
          refine ⟨gv', u, rfl, ?_⟩
          obtain ⟨dd, e1, e2⟩ := tg7.at_ (i := gv'.length) (v := u) (by simp)
          have el : gv'.length = d'.length := by simpa using hl
          rw [el] at e1
          rw [List.getElem?_append_right (by simp)] at e1
          simp at e1
          rw [e1]
          exact e2
      obtain ⟨c7, rfl, hc7⟩ := tu.g_
      refine blT (by simp) ?_
      wtm_at "go"
      refine gIxL hg7 atI_last ?_
      wtm_at "go"
      refine ⟨b7, c7, gL g, gL y, rfl, rfl, hb7, hc7, ?_⟩
      have hlt : ltG y g = true := by
        rw [ed] at hs
        have q := (List.pairwise_append.mp hs).2.2 y (by simp) g (by simp)
        exact q
      have hle : leTv (gL g) (gL y) = false := by
        rw [leT_gL]
        unfold ltG at hlt
        rw [hlt]
        rfl
      rw [hle]
      wtm_at "go"
      exact fin2 _ (Ch.refl _ _)
  · rintro σ H5 ⟨eH, ⟨gv, hgv, tg⟩, x4, x5, x6, rfl⟩
    have hq5 : H5 q = some (.tup [.str "main", .int n]) := eH.tup _ _ (e5.tup _ _ (e4.tup _ _ h3))
    wtm_at "go"
    refine k _ _ ((exD eB hL0 eH).trans (by wtm_at "ex")) (TD.sn (by assumption) (at_ hgv (by wtm_at "ex")) ?_ (tg.e (by wtm_at "ex")))
    exact hL0
/-- what stands last in a list below g -/
theorem last_ok {H : Hp} {gv : List V} {d : List Gr} {g : Gr} (tg : TDs NoL H gv (d.map gD)) (hs : ∀ x ∈ d, ltG x g = true) :
    gv = [] ∨ ∃ gv' c y, gv = gv' ++ [V.ref c] ∧ H c = some (.tup ((gL y).map V.str)) ∧ leTv (gL g) (gL y) = false := by
  rcases List.eq_nil_or_concat d with rfl | ⟨d', y, rfl⟩
  · exact .inl tg.nil_
  · refine .inr ?_
    rw [List.concat_eq_append] at *
    have hl := tg.len
    simp only [List.length_append, List.length_map, List.length_singleton] at hl
    rcases List.eq_nil_or_concat gv with rfl | ⟨gv', u, rfl⟩
    · simp at hl
    · rw [List.concat_eq_append] at *
      obtain ⟨dd, e1, e2⟩ := tg.at_ (i := gv'.length) (v := u) (by simp)
      have el : gv'.length = d'.length := by simpa using hl
      rw [el, List.map_append, List.getElem?_append_right (by simp)] at e1
      simp at e1
      rw [← e1] at e2
      obtain ⟨c, rfl, hc⟩ := e2.g_
      refine ⟨gv', c, y, rfl, hc, ?_⟩
      have hlt : ltG y g = true := hs y (by simp)
      rw [leT_gL]
      unfold ltG at hlt
      rw [hlt]
      rfl
/-- a grant in a list of grants -/
theorem gInG {H : Hp} {Q : VK} {b l : Addr} {g : Gr} {ws : List V} {gs : List Gr} (hb : H b = some (.tup [.str g.1, .str g.2.1, .str g.2.2])) (hl : H l = some (.lst ws)) (tg : TDs NoL H ws (gs.map gD)) (fg : Fine 1 (gD g)) (fs : ∀ x ∈ gs, Fine 1 (gD x))
    (q : Q (.bl (decide (g ∈ gs))) H) : rInD K (.ref b) (.ref l) H Q := by
  refine ⟨gD g, gs.map gD, (TD.g (A := NoL) hb).dp, TD.dp (A := AnyL) (.lst hl trivial tg.no), fg.shaped (by decide), ?_, ?_⟩
  · refine Fine.shaped (n := 2) (fine_lst fun d hd => ?_) (by decide)
    obtain ⟨x, hx, rfl⟩ := List.mem_map.mp hd
    exact fs x hx
  · rw [any_gs]
    exact q
abbrev sp_put_grant (K : PySem.W.Frag) : Sp := fun vs H Q _ => ∃ (num : Int) (b : Bool) (g : Gr) (a l l' : Addr) (ws ws' : List V) (gs gs' : List Gr) (x y : V), vs = [.int num, .str (lineOf (if b then "+" else "-") g), .ref a] ∧ Tabs K H ∧ g ∈ Uni ∧ H a = some (.tup [x, y, .ref l, .ref l']) ∧
  H l = some (.lst ws) ∧ H l' = some (.lst ws') ∧ TDs NoL H ws (gs.map gD) ∧ TDs NoL H ws' (gs'.map gD) ∧ (∀ x ∈ gs, x ∈ Uni) ∧ gs.length ≤ 27 ∧ gs'.length ≤ 27 ∧ (b = true → gs' = []) ∧ (∀ x ∈ (if b then gs else gs'), ltG x g = true) ∧ g ∉ gs ∧
  ∀ v H', Ch [if b then l else l'] H H' → H' (if b then l else l') = some (.lst ((if b then ws else ws') ++ [v])) → TD NoL H' v (gD g) → Q .non H'
abbrev N_put_grant : List Str := ["number", "line", "entry", "found", "sign", "grant", "gained", "lost", "grants"]
theorem sc_put_grant : FnScope N_put_grant ["number", "line", "entry"] (defScope s_put_grant) := ⟨rfl, rfl, rfl, by decide +kernel, rfl, by decide +kernel, by decide +kernel⟩
theorem ok_put_grant (T : Tx w K mg base) : FnOk P w K mg base CX0 7 (a_put_grant K) (fd_put_grant K) ["number", "line", "entry"] (sp_put_grant K) := by
  refine T.f_put_grant.ok sc_put_grant (fun vs H Q E h => ?_) (fun cdv A outer s H vs Q E hr h => ?_)
  · obtain ⟨num, b, g, a, l, l', ws, ws', gs, gs', x, y, rfl, _⟩ := h
    rfl
  obtain ⟨num, b, g, a, l, l', ws, ws', gs, gs', x, y, rfl, tb, hg, ha, hl, hl', tg, tg', hgs, hn, hn', hb, hs, hng, k⟩ := h
  refine ⟨_, PSs.nox (pss_cons (ps_set (i := 3) sc_put_grant.nd rfl (Or.inl rfl) (pe_call (ok_grant_of T) (hr.mono (by decide)) rfl T.g_grant_of T.f_grant_of.kp T.b_grant_of .nil pass0 (pa_cons (pv 1) pa_nil))) (pss_cons (ps_if (PW.pt (pw_or (pt_cmpR (op_isN1) (pv 3) pe_non (nomark _)) (pw_or1 (pt_cmpR (op_eq) (pe_ix ix_tup (pv 3) pe_int (fun _ _ => rfl)) pe_str (nomark _))))) pss_never pss_nil) (pss_cons (ps_asg (pv 3) (pg_tup rfl (pgs_cons (pg_name (i := 4) sc_put_grant.nd rfl (Or.inl rfl)) (pgs_cons (pg_name (i := 5) sc_put_grant.nd rfl (Or.inl rfl)) pgs_nil)))) (pss_cons (ps_asg (pe_slice sl_tupA (pv 2) (po_some pe_int) po_none) (pg_tup rfl (pgs_cons (pg_name (i := 6) sc_put_grant.nd rfl (Or.inl rfl)) (pgs_cons (pg_name (i := 7) sc_put_grant.nd rfl (Or.inl rfl)) pgs_nil)))) (pss_cons (ps_set (i := 8) sc_put_grant.nd rfl (Or.inl rfl) (pe_ifExp (pt_cmpR (op_eq) (pv 4) pe_str (nomark _)) (pv 6) (pv 7))) (pss_cons (ps_if (PW.pt (pw_or (PW.pt (pw_and (pt_cmpR (op_eq) (pv 4) pe_str (nomark _)) (pw_and1 (pt_truth (pv 7) (by intro _; rfl))))) (pw_or1 (PW.pt (pw_and (pt_truth (pv 8) (by intro _; rfl)) (pw_and1 (pt_cmpR (op_leTS (hu_w hr)) (pv 5) (pe_ix ix_list (pv 8) (pe_un un_neg pe_int) (fun _ _ => rfl)) (nomark _)))))))) pss_never pss_nil) (pss_cons (ps_if (pt_cmpR (op_inD (hu_w hr)) (pv 5) (pv 6) (by rfl)) pss_never pss_nil) (pss_one (ps_expr (pe_bm PySem.F.plainAttrs_list PySem.F.slot_list_append PySem.F.type_list_append mt_append (pv 8) (pa_cons (pv 5) pa_nil))))))))))), ?_⟩
  have hsg : (if b then "+" else "-" : Str) ∈ signs := by cases b <;> decide
  wtm_at "go"
  refine ⟨_, some (if b then "+" else "-", g), rfl, grant_read_ hsg hg, tb, Nat.le_trans (line_le hsg hg) (by decide), fun z => (nomatch z), fun s' g' z w' H7 e7 t7 => ?_⟩
  cases z
  obtain ⟨a7, b7, rfl, ha7, hb7⟩ := t7.sg_
  cases b with
  | true =>
    obtain rfl := hb rfl
    obtain rfl := tg'.nil_
    simp only [if_true] at k hs
    wtm_at "gob"
    refine gSlT (at_ ha e7) (fun z => absurd (show (2 : Nat) = 0 from z.1) (by decide)) fun p8 H8 hp8 e8 h8 => ?_
    have h8 : H8 p8 = some (.tup [.ref l, .ref l']) := h8
    have hl8 : H8 l = some (.lst ws) := e8.at (e7.at hl)
    have hl8' : H8 l' = some (.lst []) := e8.at (e7.at hl')
    have hb8 := e8.at hb7
    have tg8 := (tg.e e7).e e8
    wtm_at "gob"
    have fin : Q .non H8 → Q .non H8 := id
    rcases last_ok tg8 hs with rfl | ⟨gv', c, y', rfl, hc, hle⟩
    · wtm_at "gob"
      refine gInG hb8 hl8 tg8 (fine_g hg) (fun x hx => fine_g (hgs x hx)) ?_
      rw [decide_eq_false hng]
      wtm_at "gob"
      refine gApp hl8 (by decide) fun H9 e9 h9 => ?_
      wtm_at "go"
      exact k _ _ ((e7.trans e8).wk.trans e9) h9 ((TD.g hb8).p e9)
    · have hlen : (gv' ++ [V.ref c]).length < sizeLine := by
        have q1 := tg8.len
        rw [List.length_map] at q1
        rw [q1]
        exact Nat.lt_of_le_of_lt hn (by decide)
      refine blT (by simp) ?_
      wtm_at "gob"
      refine gIxL hl8 atI_last ?_
      wtm_at "gob"
      refine ⟨b7, c, gL g, gL y', rfl, rfl, hb8, hc, ?_⟩
      rw [hle]
      wtm_at "gob"
      refine gInG hb8 hl8 tg8 (fine_g hg) (fun x hx => fine_g (hgs x hx)) ?_
      rw [decide_eq_false hng]
      wtm_at "gob"
      refine gApp hl8 hlen fun H9 e9 h9 => ?_
      wtm_at "go"
      exact k _ _ ((e7.trans e8).wk.trans e9) h9 ((TD.g hb8).p e9)
  | false =>
    simp only [Bool.false_eq_true, if_false] at k hs
    wtm_at "gob"
    refine gSlT (at_ ha e7) (fun z => absurd (show (2 : Nat) = 0 from z.1) (by decide)) fun p8 H8 hp8 e8 h8 => ?_
    have h8 : H8 p8 = some (.tup [.ref l, .ref l']) := h8
    have hl8 : H8 l = some (.lst ws) := e8.at (e7.at hl)
    have hl8' : H8 l' = some (.lst ws') := e8.at (e7.at hl')
    have hb8 := e8.at hb7
    have tg8 := (tg.e e7).e e8
    have tg8' := (tg'.e e7).e e8
    wtm_at "gob"
    rcases last_ok tg8' hs with rfl | ⟨gv', c, y', rfl, hc, hle⟩
    · wtm_at "gob"
      refine gInG hb8 hl8 tg8 (fine_g hg) (fun x hx => fine_g (hgs x hx)) ?_
      rw [decide_eq_false hng]
      wtm_at "gob"
      refine gApp hl8' (by decide) fun H9 e9 h9 => ?_
      wtm_at "go"
      exact k _ _ ((e7.trans e8).wk.trans e9) h9 ((TD.g hb8).p e9)
    · have hlen : (gv' ++ [V.ref c]).length < sizeLine := by
        have q1 := tg8'.len
        rw [List.length_map] at q1
        rw [q1]
        exact Nat.lt_of_le_of_lt hn' (by decide)
      refine blT (by simp) ?_
      wtm_at "gob"
      refine gIxL hl8' atI_last ?_
      wtm_at "gob"
      refine ⟨b7, c, gL g, gL y', rfl, rfl, hb8, hc, ?_⟩
      rw [hle]
      wtm_at "gob"
      refine gInG hb8 hl8 tg8 (fine_g hg) (fun x hx => fine_g (hgs x hx)) ?_
      rw [decide_eq_false hng]
      wtm_at "gob"
      refine gApp hl8' hlen fun H9 e9 h9 => ?_
      wtm_at "go"
      exact k _ _ ((e7.trans e8).wk.trans e9) h9 ((TD.g hb8).p e9)
end


/-! ### a feed's lines, in order -/
inductive Tk where
  | hd (n : Nat)
  | gain (g : Gr)
  | lose (g : Gr)
def tkLine : Tk → Str
  | .hd n => entHead n
  | .gain g => lineOf "+" g
  | .lose g => lineOf "-" g
def toks (e : En) : List Tk := .hd e.1 :: (e.2.1.map .gain ++ e.2.2.map .lose)
theorem toks_lines (e : En) : (toks e).map tkLine = entLines e := by
  simp only [toks, entLines, List.map_cons, List.map_append, List.map_map]
  rfl
theorem flat_lines : ∀ es : List En, (es.flatMap toks).map tkLine = es.flatMap entLines
  | [] => rfl
  | e :: es => by rw [List.flatMap_cons, List.map_append, toks_lines, flat_lines es, List.flatMap_cons]
def Run (fin : List En) : List En → List Tk → Prop
  | acc, [] => acc = fin
  | acc, .hd n :: r => 1 ≤ n ∧ n ≤ 100 ∧ acc.length ≤ 20 ∧ Run fin (acc ++ [(n, [], [])]) r
  | acc, .gain g :: r => ∃ a n gs, acc = a ++ [(n, gs, [])] ∧ g ∈ Uni ∧ (∀ x ∈ gs, x ∈ Uni) ∧ gs.length ≤ 27 ∧ (∀ x ∈ gs, ltG x g = true) ∧ Run fin (a ++ [(n, gs ++ [g], [])]) r
  | acc, .lose g :: r => ∃ a n gs hs, acc = a ++ [(n, gs, hs)] ∧ g ∈ Uni ∧ (∀ x ∈ gs, x ∈ Uni) ∧ gs.length ≤ 27 ∧ hs.length ≤ 27 ∧ (∀ x ∈ hs, ltG x g = true) ∧ g ∉ gs ∧ Run fin (a ++ [(n, gs, hs ++ [g])]) r
/-- what an entry of the store keeps -/
def EnGood (e : En) : Prop := EnOk e ∧ 1 ≤ e.1 ∧ SortG e.2.1 ∧ SortG e.2.2 ∧ ∀ g ∈ e.2.2, g ∉ e.2.1
theorem run_gain {fin a : List En} {n : Nat} {r : List Tk} : ∀ (gs2 gs1 : List Gr), (∀ x ∈ gs1 ++ gs2, x ∈ Uni) → (gs1 ++ gs2).length ≤ 27 → SortG (gs1 ++ gs2) → Run fin (a ++ [(n, gs1 ++ gs2, [])]) r → Run fin (a ++ [(n, gs1, [])]) (gs2.map .gain ++ r)
  | [], gs1, _, _, _, h => by rw [List.append_nil] at h; exact h
  | g :: gs2, gs1, hu, hl, hs, h => by
    refine ⟨a, n, gs1, rfl, hu g (by simp), fun x hx => hu x (by simp [hx]), by simp at hl; omega, fun x hx => (List.pairwise_append.mp hs).2.2 x hx g (by simp), ?_⟩
    have e : gs1 ++ g :: gs2 = (gs1 ++ [g]) ++ gs2 := by simp
    rw [e] at hu hl hs h
    exact run_gain gs2 (gs1 ++ [g]) hu hl hs h
theorem run_lose {fin a : List En} {n : Nat} {gs : List Gr} {r : List Tk} (hgu : ∀ x ∈ gs, x ∈ Uni) (hgl : gs.length ≤ 27) : ∀ (hs2 hs1 : List Gr), (∀ x ∈ hs1 ++ hs2, x ∈ Uni ∧ x ∉ gs) → (hs1 ++ hs2).length ≤ 27 → SortG (hs1 ++ hs2) → Run fin (a ++ [(n, gs, hs1 ++ hs2)]) r → Run fin (a ++ [(n, gs, hs1)]) (hs2.map .lose ++ r)
  | [], gs1, _, _, _, h => by rw [List.append_nil] at h; exact h
  | g :: gs2, gs1, hu, hl, hs, h => by
    refine ⟨a, n, gs, gs1, rfl, (hu g (by simp)).1, hgu, hgl, by simp at hl; omega, fun x hx => (List.pairwise_append.mp hs).2.2 x hx g (by simp), (hu g (by simp)).2, ?_⟩
    have e : gs1 ++ g :: gs2 = (gs1 ++ [g]) ++ gs2 := by simp
    rw [e] at hu hl hs h
    exact run_lose hgu hgl gs2 (gs1 ++ [g]) hu hl hs h
theorem run_es {fin : List En} {r : List Tk} : ∀ (es acc : List En), (∀ e ∈ es, EnGood e) → (acc ++ es).length ≤ 20 → Run fin (acc ++ es) r → Run fin acc (es.flatMap toks ++ r)
  | [], acc, _, _, h => by rw [List.append_nil] at h; exact h
  | e :: es, acc, hg, hl, h => by
    obtain ⟨⟨h1, h2, h3, h4, h5⟩, h6, h7, h8, h9⟩ := hg e List.mem_cons_self
    rw [List.flatMap_cons, List.append_assoc]
    refine ⟨h6, h1, by simp at hl; omega, ?_⟩
    show Run fin _ ((e.2.1.map Tk.gain ++ e.2.2.map Tk.lose) ++ (es.flatMap toks ++ r))
    rw [List.append_assoc]
    refine run_gain e.2.1 [] h2 h4 h7 ?_
    rw [List.nil_append]
    refine run_lose h2 h4 e.2.2 [] (fun x hx => ⟨h3 x hx, h9 x hx⟩) h5 h8 ?_
    have e1 : acc ++ e :: es = (acc ++ [e]) ++ es := by simp
    rw [e1] at hl h
    exact run_es es (acc ++ [e]) (fun x hx => hg x (List.mem_cons_of_mem _ hx)) hl h
theorem feed_ne {es : List En} (hok : ∀ e ∈ es, EnOk e) (hne : es ≠ []) : feedText es ≠ "" := fun z => by
  have h := feed_split hok hne
  rw [z] at h
  have e0 : Txt.split ("" : Str) "\n" = ([""] : List Str) := by decide +kernel
  rw [e0] at h
  cases es with
  | nil => exact hne rfl
  | cons e r =>
    rw [List.flatMap_cons, entLines, List.cons_append] at h
    have q := (List.cons.inj h).1
    have q2 : ∀ n : Fin 101, entHead n ≠ "" := by decide +kernel
    exact q2 ⟨e.1, by have := (hok e List.mem_cons_self).1; omega⟩ q.symm
section
variable {P : Program} {w : World} {K : PySem.W.Frag} {mg : Str → Option Value} {base : Heap}
/-- the entries that were read so far, in the heap; H0 knows none of their lists -/
def Ens (H0 : Hp) (L p : Addr) (H : Hp) (acc : List En) : Prop :=
  (acc = [] ∧ H L = some (.lst [])) ∨
  ∃ (done : List En) (e : En) (dvs : List V) (a l l' : Addr) (ws ws' : List V), acc = done ++ [e] ∧ H L = some (.lst (dvs ++ [.ref a])) ∧ TDs (fun x => H0 x = none ∧ x ≠ L ∧ x ≠ l ∧ x ≠ l') H dvs (done.map enD) ∧
    H a = some (.tup [.str "main", .int e.1, .ref l, .ref l']) ∧ H l = some (.lst ws) ∧ H l' = some (.lst ws') ∧ TDs NoL H ws (e.2.1.map gD) ∧ TDs NoL H ws' (e.2.2.map gD) ∧ l ≠ l' ∧ l ≠ L ∧ l' ≠ L ∧ p ≠ l ∧ p ≠ l' ∧ H0 l = none ∧ H0 l' = none
theorem Ens.ne {H0 H : Hp} {L p : Addr} {acc : List En} (h : Ens H0 L p H acc) : ∃ evs, H L = some (.lst evs) ∧ evs.isEmpty = acc.isEmpty ∧ evs.length = acc.length := by
  rcases h with ⟨rfl, h⟩ | ⟨done, e, dvs, a, l, l', ws, ws', rfl, h, t, _⟩
  · exact ⟨[], h, rfl, rfl⟩
  · refine ⟨_, h, by cases dvs <;> cases done <;> rfl, ?_⟩
    have := t.len
    simp at this ⊢
    exact this
theorem Ens.end_ {H0 H : Hp} {L p : Addr} {acc : List En} (h : Ens H0 L p H acc) (hL : H0 L = none) : TD (Fr H0) H (.ref L) (.list (acc.map enD)) := by
  rcases h with ⟨rfl, h⟩ | ⟨done, e, dvs, a, l, l', ws, ws', rfl, h, t, ha, hl, hl', t1, t2, _, _, _, _, _, f1, f2⟩
  · exact .lst h hL .nil
  · refine .lst h hL ?_
    rw [List.map_append]
    exact (t.w fun x hx => hx.1).app (.one (TD.en ha hl f1 t1 hl' f2 t2))
theorem Ens.ex {H0 H H' : Hp} {L p : Addr} {acc : List En} (h : Ens H0 L p H acc) (e : Ex H H') : Ens H0 L p H' acc := by
  rcases h with ⟨rfl, h⟩ | ⟨done, en, dvs, a, l, l', ws, ws', rfl, h, t, ha, hl, hl', t1, t2, r⟩
  · exact .inl ⟨rfl, e.at h⟩
  · exact .inr ⟨done, en, dvs, a, l, l', ws, ws', rfl, e.at h, t.e e, e.at ha, e.at hl, e.at hl', t1.e e, t2.e e, r⟩
theorem Ens.all {H0 H : Hp} {L p : Addr} {acc : List En} (h : Ens H0 L p H acc) : ∃ xs, H L = some (.lst xs) ∧ TDs (fun x => H0 x = none ∧ x ≠ L) H xs (acc.map enD) := by
  rcases h with ⟨rfl, h⟩ | ⟨done, e, dvs, a, l, l', ws, ws', rfl, h, t, ha, hl, hl', t1, t2, n1, n2, n3, _, _, f1, f2⟩
  · exact ⟨[], h, .nil⟩
  · refine ⟨_, h, ?_⟩
    rw [List.map_append]
    exact (t.w fun x hx => ⟨hx.1, hx.2.1⟩).app (.one (TD.en ha hl ⟨f1, n2⟩ t1 hl' ⟨f2, n3⟩ t2))
/-- a new entry -/
theorem Ens.head {H0 H H1 H' : Hp} {L p a l l' : Addr} {acc : List En} {n : Nat} {xs : List V} (hx : H L = some (.lst xs)) (tx : TDs (fun x => H0 x = none ∧ x ≠ L) H xs (acc.map enD)) (e1 : Ex H H1) (e : Ch [L] H1 H') (hL : H' L = some (.lst (xs ++ [.ref a])))
    {ls : List V} (hp : H p = some (.lst ls)) (g1 : H l = none) (g2 : H l' = none) (hne : l ≠ l')
    (ha : H1 a = some (.tup [.str "main", .int n, .ref l, .ref l'])) (hl : H1 l = some (.lst [])) (hl' : H1 l' = some (.lst [])) (f1 : H0 l = none) (f2 : H0 l' = none) : Ens H0 L p H' (acc ++ [(n, [], [])]) := by
  have nl : l ≠ L := fun z => by rw [z, hx] at g1; cases g1
  have nl' : l' ≠ L := fun z => by rw [z, hx] at g2; cases g2
  have np : p ≠ l := fun z => by rw [← z, hp] at g1; cases g1
  have np' : p ≠ l' := fun z => by rw [← z, hp] at g2; cases g2
  refine .inr ⟨acc, (n, [], []), xs, a, l, l', [], [], rfl, hL, ?_, e.tup _ _ ha, e.at1 hl nl, e.at1 hl' nl', .nil, .nil, hne, nl, nl', np, np', f1, f2⟩
  refine TDs.c (((tx.on).w fun x hx' => ⟨hx'.1.1, hx'.1.2, fun z => ?_, fun z => ?_⟩).e e1) e fun z hz k => k.2.1 (List.mem_singleton.mp hz)
  · obtain ⟨_, ys, q⟩ := hx'
    rw [z, g1] at q
    cases q
  · obtain ⟨_, ys, q⟩ := hx'
    rw [z, g2] at q
    cases q
abbrev sp_read_feed (K : PySem.W.Frag) : Sp := fun vs H Q _ => ∃ es : List En, vs = [.str (feedText es)] ∧ Tabs K H ∧ (∀ e ∈ es, EnGood e) ∧ es.length ≤ 20 ∧ ∀ v H', Ex H H' → TD (Fr H) H' v (.list (es.map enD)) → Q v H'
abbrev N_read_feed : List Str := ["text", "entries", "at", "line", "head"]
theorem sc_read_feed : FnScope N_read_feed ["text"] (defScope s_read_feed) := ⟨rfl, rfl, rfl, by decide +kernel, rfl, by decide +kernel, by decide +kernel⟩
theorem ok_read_feed (T : Tx w K mg base) : FnOk P w K mg base CX0 8 (a_read_feed K) (fd_read_feed K) ["text"] (sp_read_feed K) := by
  refine T.f_read_feed.ok sc_read_feed (fun vs H Q E h => ?_) (fun cdv A outer s H vs Q E hr h => ?_)
  · obtain ⟨es, rfl, _⟩ := h
    rfl
  obtain ⟨es, rfl, tb, hg, hel, k⟩ := h
  refine ⟨_, PSs.nox (pss_cons (ps_set (i := 1) sc_read_feed.nd rfl (Or.inl rfl) (pe_lst pa_nil)) (pss_cons (ps_if (pt_cmpR (op_eq) (pv 0) pe_str (nomark _)) (pss_one (ps_ret (pv 1))) pss_nil) (pss_cons (ps_for PassesOwn.never rfl (pi_enum (by rfl) T.n_enumerate (pa_cons (pe_split (pv 0) pe_str) pa_nil)) (pg_tup rfl (pgs_cons (pg_name (i := 2) sc_read_feed.nd rfl (Or.inl rfl)) (pgs_cons (pg_name (i := 3) sc_read_feed.nd rfl (Or.inl rfl)) pgs_nil))) (pss_cons (ps_set (i := 4) sc_read_feed.nd rfl (Or.inl rfl) (pe_call (ok_head_of T) (hr.mono (by decide)) rfl T.g_head_of T.f_head_of.kp T.b_head_of .nil pass0 (pa_cons (pv 3) (pa_cons pe_str (pa_cons pe_int pa_nil))))) (pss_one (ps_if (pt_cmpR (op_notN1) (pv 4) pe_non (nomark _)) (pss_one (ps_expr (pe_bm PySem.F.plainAttrs_list PySem.F.slot_list_append PySem.F.type_list_append mt_append (pv 1) (pa_cons (pe_tup (pa_cons (pe_ix ix_tup (pv 4) pe_int (fun _ _ => rfl)) (pa_cons (pe_ix ix_tup (pv 4) pe_int (fun _ _ => rfl)) (pa_cons (pe_lst pa_nil) (pa_cons (pe_lst pa_nil) pa_nil))))) pa_nil)))) (pss_one (ps_if (pt_not (pt_truth (pv 1) (by intro _; rfl))) pss_never (pss_one (ps_expr (pe_call (ok_put_grant T) (hr.mono (by decide)) rfl T.g_put_grant T.f_put_grant.kp T.b_put_grant .nil pass0 (pa_cons (pe_op op_add (pv 2) pe_int) (pa_cons (pv 3) (pa_cons (pe_ix ix_list (pv 1) (pe_un un_neg pe_int) (fun _ _ => rfl)) pa_nil)))))))))))) (pss_one (ps_ret (pv 1)))))), ?_⟩
  have hok : ∀ e ∈ es, EnOk e := fun e he => (hg e he).1
  wtm_at "go"
  rename_i L hL H1 e1 h1
  refine ifd (fun hz => ?_) (fun hz => ?_)
  · have hes : es = [] := by
      rcases es with _ | ⟨e, r⟩
      · rfl
      · exact absurd hz (feed_ne hok (by simp))
    subst hes
    wtm_at "go"
    exact k _ _ e1 (.lst h1 hL .nil)
  · have hne : es ≠ [] := fun z => hz (by rw [z]; rfl)
    have hsp := feed_split hok hne
    have hlen : (feedText es).length ≤ 1100 * 31 := by
      refine Nat.le_trans (join_len (c := 30) fun y hy => ?_) (Nat.mul_le_mul_right _ ?_)
      · obtain ⟨e, he, hy⟩ := List.mem_flatMap.mp hy
        exact ent_le (hok e he) y hy
      · have q := ents_len hok
        omega
    wtm_at "go"
    rw [hsp]
    refine ⟨Nat.le_trans (Nat.add_le_add_right hlen 2) (by decide), ?_⟩
    wtm_at "go"
    rename_i p hp H2 e2 h2
    have tl : TDs NoL H2 ((es.flatMap entLines).map V.str) ((es.flatMap toks).map fun t => PyData.str (tkLine t)) := by
      have z := TDs.strs (A := NoL) (H := H2) (es.flatMap entLines)
      rw [← flat_lines, List.map_map (g := PyData.str)] at z
      rw [← flat_lines]
      exact z
    have hpL : p ≠ L := fun z => by rw [z, h1] at hp; cases hp
    refine forE tl (fun d σ H' => Ex H H' ∧ (∃ acc r, es.flatMap toks = d ++ r ∧ Run es acc r ∧ Ens H L p H' acc) ∧ H' p = some (.lst ((es.flatMap entLines).map V.str)) ∧ ∃ x2 x3 x4, σ = [some (.str (feedText es)), some (.ref L), x2, x3, x4]) ?_ ?_ ?_ ?_
    · refine ⟨e1.trans e2, ⟨[], es.flatMap toks, rfl, ?_, .inl ⟨rfl, e2.at h1⟩⟩, h2, _, _, _, rfl⟩
      have q := run_es (fin := es) (r := []) es [] hg hel rfl
      rw [List.append_nil] at q
      exact q
    · exact fun d σ H' h => sqL_ h.2.2.1
    · rintro d t r v T σ H3 H4 ed tv ⟨eH, ⟨acc, r', er, hr', hE⟩, hp3, x2, x3, x4, rfl⟩ hT e4 hT4
      obtain rfl := tv.str_
      obtain rfl : r' = t :: r := List.append_cancel_left (er.symm.trans ed)
      have tb4 := tabs_ (tabs_ tb eH) e4
      obtain ⟨xs, hx, tx⟩ := (hE.ex e4).all
      obtain ⟨xs', hx', hemp, hxl⟩ := (hE.ex e4).ne
      rw [hx] at hx'
      cases hx'
      cases t with
      | hd n =>
        obtain ⟨hn1, hn2, hal, hrun⟩ := hr'
        wtm_at "go"
        refine ⟨_, _, 1, some ("main", n), rfl, ?_, tb4, ?_, fun z => (nomatch z), fun s m z q H5 e5 hq h5 => ?_⟩
        · have q := ehead_read ⟨n - 1, by omega⟩
          have e : n - 1 + 1 = n := by omega
          rw [e] at q
          exact q
        · exact Nat.le_trans (head_le hn2).2 (by decide)
        cases z
        wtm_at "gob"
        rename_i l hl H6 e6 hl6 l' hl' H7 e7 hl7 a ha H8 e8 ha8
        have eX : Ex H4 H8 := ((e5.trans e6).trans e7).trans e8
        have hne' : l ≠ l' := fun z => by rw [← z, hl6] at hl'; cases hl'
        refine gApp (eX.at hx) (by rw [hxl]; exact Nat.lt_of_le_of_lt hal (by decide)) fun H9 e9 h9 => ?_
        have g1 : H4 l = none := e5.free hl
        have g2 : H4 l' = none := (e5.trans e6).free hl'
        refine ⟨exD (eH.trans (e4.trans eX)) hL e9, ⟨acc ++ [(n, [], [])], r, by rw [ed]; simp, hrun, ?_⟩, e9.at1 (eX.at (e4.at hp3)) hpL, _, _, _, rfl⟩
        exact Ens.head hx tx eX e9 h9 (e4.at hp3) g1 g2 hne' ha8 (e8.at (e7.at hl6)) (e8.at hl7) ((eH.trans e4).free g1) ((eH.trans e4).free g2)
      | gain g =>
        obtain ⟨a0, n, gs, rfl, hgU, hgs, hgl, hlt, hrun⟩ := hr'
        have hgn : g ∉ gs := fun z => by
          have := hlt g z
          rw [ltG_irr] at this
          cases this
        wtm_at "go"
        refine ⟨_, _, 1, none, rfl, noHead_ (by decide) hgU, tb4, Nat.le_trans (line_le (by decide) hgU) (by decide), fun _ H5 e5 => ?_, fun _ _ z => (nomatch z)⟩
        rcases hE with ⟨z, _⟩ | ⟨done, e, dvs, a, l, l', ws, ws', ee, hl0, tdv, ha, hl, hl', t1, t2, n1, n2, n3, n4, n5, f1, f2⟩
        · simp at z
        obtain ⟨q1, q2⟩ := List.append_inj' ee rfl
        subst q1
        cases q2
        have eX : Ex H3 H5 := e4.trans e5
        have hL5 := eX.at hl0
        wtm_at "gob"
        refine blF (by simp) ?_
        wtm_at "gob"
        refine gIxL hL5 atI_last ?_
        wtm_at "gob"
        refine ⟨_, true, g, a, l, l', ws, ws', gs, [], _, _, rfl, tabs_ tb4 e5, hgU, eX.at ha, eX.at hl, eX.at hl', t1.e eX, t2.e eX, hgs, hgl, by simp, fun _ => rfl, hlt, hgn, fun v H6 e6 h6 t6 => ?_⟩
        simp only [if_true] at e6 h6
        refine ⟨exD (eH.trans eX) f1 e6, ⟨_, r, by rw [ed]; simp, hrun, .inr ⟨a0, _, dvs, a, l, l', _, _, rfl, e6.at1 hL5 (Ne.symm n2), ?_, e6.tup _ _ (eX.at ha), h6, e6.at1 (eX.at hl') (Ne.symm n1), ?_, ?_, n1, n2, n3, n4, n5, f1, f2⟩⟩, e6.at1 (eX.at hp3) n4, _, _, _, rfl⟩
        · exact (tdv.e eX).c e6 fun z hz k => k.2.2.1 (List.mem_singleton.mp hz)
        · rw [List.map_append]
          exact ((t1.e eX).p e6).app (.one t6)
        · exact (t2.e eX).p e6
      | lose g =>
        obtain ⟨a0, n, gs, hs, rfl, hgU, hgs, hgl, hsl, hlt, hgn, hrun⟩ := hr'
        wtm_at "go"
        refine ⟨_, _, 1, none, rfl, noHead_ (by decide) hgU, tb4, Nat.le_trans (line_le (by decide) hgU) (by decide), fun _ H5 e5 => ?_, fun _ _ z => (nomatch z)⟩
        rcases hE with ⟨z, _⟩ | ⟨done, e, dvs, a, l, l', ws, ws', ee, hl0, tdv, ha, hl, hl', t1, t2, n1, n2, n3, n4, n5, f1, f2⟩
        · simp at z
        obtain ⟨q1, q2⟩ := List.append_inj' ee rfl
        subst q1
        cases q2
        have eX : Ex H3 H5 := e4.trans e5
        have hL5 := eX.at hl0
        wtm_at "gob"
        refine blF (by simp) ?_
        wtm_at "gob"
        refine gIxL hL5 atI_last ?_
        wtm_at "gob"
        refine ⟨_, false, g, a, l, l', ws, ws', gs, hs, _, _, rfl, tabs_ tb4 e5, hgU, eX.at ha, eX.at hl, eX.at hl', t1.e eX, t2.e eX, hgs, hgl, hsl, fun z => (nomatch z), hlt, hgn, fun v H6 e6 h6 t6 => ?_⟩
        simp only [Bool.false_eq_true, if_false] at e6 h6
        refine ⟨exD (eH.trans eX) f2 e6, ⟨_, r, by rw [ed]; simp, hrun, .inr ⟨a0, _, dvs, a, l, l', _, _, rfl, e6.at1 hL5 (Ne.symm n3), ?_, e6.tup _ _ (eX.at ha), e6.at1 (eX.at hl) n1, h6, ?_, ?_, n1, n2, n3, n4, n5, f1, f2⟩⟩, e6.at1 (eX.at hp3) n5, _, _, _, rfl⟩
        · exact (tdv.e eX).c e6 fun z hz k => k.2.2.2 (List.mem_singleton.mp hz)
        · exact (t1.e eX).p e6
        · rw [List.map_append]
          exact ((t2.e eX).p e6).app (.one t6)
    · rintro σ H' ⟨eH, ⟨acc, r', er, hr', hE⟩, hp3, x2, x3, x4, rfl⟩
      obtain rfl : r' = [] := by
        have q := congrArg List.length er
        rw [List.length_append] at q
        exact List.eq_nil_of_length_eq_zero (by omega)
      have hacc : acc = es := hr'
      subst hacc
      wtm_at "go"
      exact k _ _ eH (hE.end_ hL)
end


theorem Ch.at {H H' : Hp} {b : Addr} {o : HO} (e : Ch [] H H') (h : H b = some o) (n : NT o := by trivial) : H' b = some o := Ex.at e h n
/-! ### dicts whose keys are grants, their values True -/
def gK (g : Gr) : List Key := (gL g).map Sum.inr
theorem gK_kV (g : Gr) : (gK g).map kV = [V.str g.1, V.str g.2.1, V.str g.2.2] := rfl
theorem gK_inj {x y : Gr} (h : gK x = gK y) : x = y := by
  obtain ⟨a, b, c⟩ := x
  obtain ⟨a', b', c'⟩ := y
  simp [gK, gL] at h
  simp [h]
def dkv (gs : List Gr) : List (List Key × V) := gs.map fun g => (gK g, V.bl true)
theorem dkv_val (g : Gr) : ∀ gs : List Gr, valV (dkv gs) (gK g) = if g ∈ gs then some (.bl true) else none
  | [] => rfl
  | x :: gs => by
    by_cases h : x = g
    · subst h
      rw [if_pos List.mem_cons_self]
      exact valV_pos rfl
    · have h' : ¬ (gK x = gK g) := fun z => h (gK_inj z)
      show valV ((gK x, V.bl true) :: dkv gs) (gK g) = _
      rw [valV_neg h', dkv_val g gs]
      have e : g ∈ x :: gs ↔ g ∈ gs := by
        rw [List.mem_cons]
        exact ⟨fun z => z.elim (fun q => absurd q.symm h) id, .inr⟩
      by_cases q : g ∈ gs
      · rw [if_pos q, if_pos (e.mpr q)]
      · rw [if_neg q, if_neg (fun z => q (e.mp z))]
theorem dkv_put {g : Gr} {gs : List Gr} (h : g ∉ gs) : putK (dkv gs) (gK g) (V.bl true) = dkv (gs ++ [g]) := by
  unfold putK
  rw [valV_any, dkv_val, if_neg h]
  simp [dkv]
section
variable {K : PySem.W.Frag} {σ : L2.St} {H : Hp} {Q : VK} {us : List Nat} {i j : Nat}
theorem dg_of {d b : Addr} {g : Gr} {gs : List Gr} (hd : Rd H d (.dT (dkv gs))) (hb : H b = some (.tup [.str g.1, .str g.2.1, .str g.2.2])) : DGet H d (.ref b) (if g ∈ gs then some (.bl true) else none) :=
  .inr ⟨_, gK g, b, hd, rfl, hb, (dkv_val g gs).symm⟩
theorem gDIn {ty td : TE} (h : ty σ H fun y H1 => td σ H1 fun x H2 => ∃ a o, x = .ref a ∧ DGet H2 a y o ∧ Q (.bl o.isSome) H2) : tDIn ty td σ H Q := h
theorem gDNotIn {ty td : TE} (h : ty σ H fun y H1 => td σ H1 fun x H2 => ∃ a o, x = .ref a ∧ DGet H2 a y o ∧ Q (.bl (!o.isSome)) H2) : tDNotIn ty td σ H Q := h
theorem some_if {c : Prop} [Decidable c] : (if c then some (V.bl true) else none).isSome = decide c := by by_cases h : c <;> simp [h]
/-- {grant: True for grant in list} -/
theorem dc_gs {tl : TE} {l : Addr} {ws : List V} {gs : List Gr} (ht : ∀ R : VK, R (.ref l) H → tl σ H R) (hl : H l = some (.lst ws)) (tg : TDs NoL H ws (gs.map gD)) (hn : gs.Nodup) (hlen : gs.length ≤ 100)
    (w1 : ∀ v, wipe ((wipe σ us).set i (some v)) us = wipe σ us) (w2 : ∀ v : V, ((wipe σ us).set i (some v))[i]? = some (some v))
    (k : ∀ D H', Ex H H' → H D = none → H' D = some (.dT (dkv gs)) → Q (.ref D) H') :
    tDcT (iList K tl) (gName i) tYes (tVar i) (tC (.bl true)) us σ H Q := by
  refine ht _ ⟨l, rfl, ⟨_, sqL_ hl⟩, fun D hD => ?_⟩
  have hwl : ws.length = gs.length := by rw [tg.len, List.length_map]
  refine ⟨fun n m H' => m = ws.length - n ∧ n ≤ ws.length ∧ Ex H H' ∧ H' D = some (.dT (dkv (gs.take n))), ⟨ws.length, by simp, Nat.zero_le _, Ex.new hD, upd_same⟩, ?_⟩
  rintro n m H' ⟨rfl, hi, e, hd⟩
  by_cases hlt : n < ws.length
  · refine .inr ⟨⟨ws, ws[n], sqL_ (e.at hl), by simp [hlt]⟩, fun H3 => Ex H H3 ∧ H3 D = some (.dT (dkv (gs.take (n + 1)))), fun H3 p => ⟨ws.length - (n + 1), by omega, rfl, hlt, p.1, p.2⟩, ?_⟩
    rintro x H3 ⟨rfl, hx⟩
    have hx := hx ws (sqL_ (e.at hl))
    obtain ⟨g, hg, tx⟩ := tg.atM hx
    obtain ⟨b, rfl, hb⟩ := (tx.e e).g_
    refine ⟨w1 _, ?_⟩
    refine gYes (ifT (gVar (w2 _) ?_))
    have hnot : g ∉ gs.take n := fun z => by
      rw [show gs = gs.take n ++ g :: gs.drop (n + 1) from (split_at hg).1] at hn
      exact (List.nodup_append.mp hn).2.2 g z g (by simp) rfl
    refine ⟨dkv (gs.take n), gK g, b, rfl, hb, hd, ?_, exD e hD (Ch.put hd), ?_⟩
    · rw [dkv, List.length_map]
      exact Nat.lt_of_le_of_lt (Nat.le_trans (List.length_take_le' _ _) hlen) (by decide)
    · rw [upd_same, dkv_put hnot, ← take_next hg]
  · have en : n = ws.length := by omega
    refine .inl ⟨⟨ws, sqL_ (e.at hl), by omega⟩, k D H' e hD ?_⟩
    rw [hd, en, hwl, List.take_length]
/-- what is locked, and unlocked -/
theorem lockEx {d : Addr} {u : HO} {o : Obj} {H' : Hp} (hd : H d = some u) (n : Mu u) (e : Ex (upd H d (.frz o u)) H') : Ex H (upd H' d u) where
  keep := fun b v h nt hs => by
    by_cases hb : b = d
    · subst hb
      rw [hd] at h
      cases h
      exact upd_same
    · rw [upd_ne hb]
      exact e.keep b v (by rw [upd_ne hb]; exact h) nt hs
  tup := fun b xs h => by
    have hb : b ≠ d := fun z => by
      rw [z, hd] at h
      cases h
      exact n
    rw [upd_ne hb]
    exact e.tup b xs (by rw [upd_ne hb]; exact h)
  tab := fun b ps h => by
    have hb : b ≠ d := fun z => by
      rw [z, hd] at h
      cases h
      exact n
    rw [upd_ne hb]
    exact e.tab b ps (by rw [upd_ne hb]; exact h)
  there := fun b v h => by
    by_cases hb : b = d
    · exact ⟨u, by rw [hb]; exact upd_same⟩
    · rw [upd_ne hb]
      exact e.there b v (by rw [upd_ne hb]; exact h)
/-- [grant for grant in d if ..], d a dict of grants -/
theorem keys_lc {tt : TT} {d : Addr} {gs : List Gr} {p : Gr → Bool} (hj : σ[j]? = some (some (.ref d))) (hd : H d = some (.dT (dkv gs))) (hlen : gs.length ≤ 100)
    (w1 : ∀ v, wipe ((wipe σ us).set i (some v)) us = wipe σ us) (w2 : ∀ v : V, ((wipe σ us).set i (some v))[i]? = some (some v))
    (htt : ∀ od g b H' (R : Bool → Hp → Prop), Ex (upd H d (.frz od (.dT (dkv gs)))) H' → H' b = some (.tup [.str g.1, .str g.2.1, .str g.2.2]) → R (p g) H' → tt ((wipe σ us).set i (some (.ref b))) H' R)
    (k : ∀ q H' ys, Ex H H' → H q = none → H' q = some (.lst ys) → TDs NoL H' ys ((gs.filter p).map gD) → Q (.ref q) H') :
    tLockE (tLc (iKeys (tVar j)) (gName i) tt (tVar i) us) σ H Q := by
  refine ⟨d, _, hd, trivial, fun od => ?_⟩
  refine gLc (gVar hj ⟨d, od, rfl, .inr ⟨dkv gs, upd_same, fun D hD => ?_⟩⟩)
  have hHd : H D = none := by
    by_cases hb : D = d
    · rw [hb, upd_same] at hD
      cases hD
    · rw [upd_ne hb] at hD
      exact hD
  refine lcW (walk_keysT (kvs := dkv gs)) (by rw [dkv, List.length_map]; exact sl_big (by omega)) hD (fun H' e => e.at upd_same) (fun n => ((gs.take n).filter p).map gD) rfl (fun n => ?_) ?_ ?_
  · rw [List.length_map]
    exact Nat.le_trans (List.length_filter_le _ _) (by rw [List.length_take]; exact Nat.min_le_left _ _)
  · rintro n v H1 H2 P P0 hn e ⟨rfl, kk, vv, q, hk, rfl, hq⟩ k1 k0
    rw [dkv, List.getElem?_map] at hk
    cases hg : gs[n]? with
    | none => rw [hg] at hk; cases hk
    | some g =>
      rw [hg] at hk
      cases hk
      have hq' : H2 q = some (.tup [.str g.1, .str g.2.1, .str g.2.2]) := hq
      have et : ((gs.take (n + 1)).filter p).map gD = ((gs.take n).filter p).map gD ++ (if p g then [gD g] else []) := by
        rw [take_next hg, List.filter_append, List.map_append]
        congr 1
        cases q : p g <;> simp [q]
      refine ⟨w1 _, htt od g q H2 _ e hq' ?_⟩
      cases hp : p g with
      | true =>
        refine ifT (gVar (w2 _) (k1 _ _ _ (Ch.refl _ _) (TD.g hq') ?_))
        rw [et, hp]
        rfl
      | false =>
        refine ifF (k0 _ (Ch.refl _ _) ?_)
        rw [et, hp]
        simp
  · intro H' ys e h t
    refine ⟨e.at upd_same, k D _ ys (lockEx hd trivial e) hHd ?_ ?_⟩
    · have hb : D ≠ d := fun z => by
        rw [z, upd_same] at hD
        cases hD
      rw [upd_ne hb]
      exact h
    · have t2 : TDs _ H' ys (((gs.take (dkv gs).length).filter p).map gD) := t
      rw [dkv, List.length_map, List.take_length] at t2
      exact t2.gno.p (Ch.put (e.at upd_same))
end
/-- [grant for grant in list if ..] -/
theorem list_lc {K : PySem.W.Frag} {σ : L2.St} {H : Hp} {Q : VK} {us : List Nat} {i : Nat} {tl : TE} {tt : TT} {l : Addr} {ws : List V} {gs : List Gr} {p : Gr → Bool} (ht : ∀ R : VK, R (.ref l) H → tl σ H R) (hl : H l = some (.lst ws)) (tg : TDs NoL H ws (gs.map gD)) (hlen : gs.length ≤ 100)
    (w1 : ∀ v, wipe ((wipe σ us).set i (some v)) us = wipe σ us) (w2 : ∀ v : V, ((wipe σ us).set i (some v))[i]? = some (some v))
    (htt : ∀ g b H' (R : Bool → Hp → Prop), g ∈ gs → Ex H H' → H' b = some (.tup [.str g.1, .str g.2.1, .str g.2.2]) → R (p g) H' → tt ((wipe σ us).set i (some (.ref b))) H' R)
    (k : ∀ q H' ys, Ex H H' → H q = none → H' q = some (.lst ys) → TDs NoL H' ys ((gs.filter p).map gD) → Q (.ref q) H') :
    tLc (iList K tl) (gName i) tt (tVar i) us σ H Q := by
  refine gLc (ht _ ⟨l, rfl, ⟨_, sqL_ hl⟩, fun D hD => lcA walk_list tg (by rw [tg.len, List.length_map]; exact sl_big (by omega)) hD (fun H' e => sqL_ (e.at hl)) p gD (fun n g v H' P P0 hx td e k1 k0 => ?_) (fun H' ys e h t => k D H' ys e hD h t.gno)⟩)
  obtain ⟨b, rfl, hb⟩ := td.g_
  refine ⟨w1 _, htt g b H' _ (List.mem_of_getElem? hx) e hb ?_⟩
  cases hp : p g with
  | true => exact ifT (gVar (w2 _) (k1 _ _ (Ch.refl _ _) (TD.g hb) hp))
  | false => exact ifF (k0 _ (Ch.refl _ _) hp)
/-- sorted(list of triples) -/
theorem gSortG {K : PySem.W.Frag} {H : Hp} {Q : VK} {l : Addr} {ws : List V} {gs : List Gr} (hl : H l = some (.lst ws)) (tg : TDs NoL H ws (gs.map gD))
    (k : ∀ p H' ys (gs' : List Gr), Ex H H' → H p = none → H' p = some (.lst ys) → gs'.Perm gs → (gs'.Pairwise fun x y => ltG y x = false) → TDs NoL H' ys (gs'.map gD) → Q (.ref p) H') : rSortTS K [.ref l] H Q := by
  refine ⟨l, ws, kOf H, 3, rfl, sqL_ hl, by decide, fun x hx => ?_, fun ys p hs hb hp => ?_⟩
  · obtain ⟨g, _, tx⟩ := tg.all_ x hx
    obtain ⟨a, rfl, ha⟩ := tx.g_
    have e : kOf H (.ref a) = gL g := kOf_g (A := NoL) tx
    rw [e]
    exact ⟨rfl, a, rfl, ha⟩
  · obtain ⟨gs', h1, h2, h3⟩ := sorted_gs tg hs hb.perm
    exact k p _ ys gs' (Ex.new hp) hp upd_same h1 h2 (h3.e (Ex.new hp))
theorem gSortT {K : PySem.W.Frag} {H : Hp} {Q : VK} {l : Addr} {ws : List V} {gs : List Gr} {S : Gr → Bool} (hl : H l = some (.lst ws)) (tg : TDs NoL H ws (gs.map gD)) (hn : gs.Nodup) (hm : ∀ g, g ∈ gs ↔ g ∈ Uni ∧ S g = true)
    (k : ∀ p H' ys, Ex H H' → H p = none → H' p = some (.lst ys) → TDs NoL H' ys ((tb S).map gD) → Q (.ref p) H') : rSortTS K [.ref l] H Q :=
  gSortG hl tg fun p H' ys gs' e hp h pm so t => by
    have e' : gs' = tb S := eq_tb so (pm.nodup_iff.mpr hn) fun g => pm.mem_iff.trans (hm g)
    rw [e'] at t
    exact k p H' ys e hp h t
theorem gSortR {K : PySem.W.Frag} {H : Hp} {Q : VK} {l : Addr} {ws : List V} {gs : List Gr} {S : Gr → Bool} (hl : H l = some (.lst ws)) (tg : TDs NoL H ws (gs.map gD)) (hn : gs.Nodup) (hm : ∀ g, g ∈ gs ↔ g ∈ URel ∧ S g = true)
    (k : ∀ p H' ys, Ex H H' → H p = none → H' p = some (.lst ys) → TDs NoL H' ys ((rb S).map gD) → Q (.ref p) H') : rSortTS K [.ref l] H Q :=
  gSortG hl tg fun p H' ys gs' e hp h pm so t => by
    have e' : gs' = rb S := eq_rb so (pm.nodup_iff.mpr hn) fun g => pm.mem_iff.trans (hm g)
    rw [e'] at t
    exact k p H' ys e hp h t
theorem tb_filter (S T : Gr → Bool) : (tb S).filter T = tb fun g => S g && T g := by
  unfold tb
  rw [List.filter_filter]
  congr 1
  funext g
  exact Bool.and_comm _ _
theorem tb_mem (S : Gr → Bool) (g : Gr) : g ∈ tb S ↔ g ∈ Uni ∧ S g = true := mem_tb
section
variable {P : Program} {w : World} {K : PySem.W.Frag} {mg : Str → Option Value} {base : Heap}
/-! ### changes.py -/
/-- the test 'grant (not) in d' of a comprehension -/
theorem tt_not {σ : L2.St} {H : Hp} {R : Bool → Hp → Prop} {i j : Nat} {d b : Addr} {g : Gr} {gs : List Gr} (hi : σ[i]? = some (some (.ref b))) (hj : σ[j]? = some (some (.ref d))) (hd : Rd H d (.dT (dkv gs))) (hb : H b = some (.tup [.str g.1, .str g.2.1, .str g.2.2])) (r : R (!decide (g ∈ gs)) H) :
    tB (tDNotIn (tVar i) (tVar j)) σ H R := gB (gDNotIn (gVar hi (gVar hj ⟨d, _, rfl, dg_of hd hb, _, rfl, by rw [some_if]; exact r⟩)))
abbrev sp_difference : Sp := fun vs H Q _ => ∃ (l l' : Addr) (ws ws' : List V) (S S' : Gr → Bool), vs = [.ref l, .ref l'] ∧ H l = some (.lst ws) ∧ H l' = some (.lst ws') ∧ TDs NoL H ws ((tb S).map gD) ∧ TDs NoL H ws' ((tb S').map gD) ∧
  ∀ p q q' us us' H', Ex H H' → H' p = some (.tup [.ref q, .ref q']) → H q = none → H q' = none → H' q = some (.lst us) → H' q' = some (.lst us') → TDs NoL H' us ((tb fun g => S' g && !S g).map gD) → TDs NoL H' us' ((tb fun g => S g && !S' g).map gD) → Q (.ref p) H'
abbrev N_difference : List Str := ["before", "after", "old", "new", "grant"]
theorem sc_difference : FnScope N_difference ["before", "after"] (defScope s_difference) := ⟨rfl, rfl, rfl, by decide +kernel, rfl, by decide +kernel, by decide +kernel⟩
theorem ok_difference (T : Tx w K mg base) : FnOk P w K mg base CX0 1 (a_difference K) (fd_difference K) ["before", "after"] sp_difference := by
  refine T.f_difference.ok sc_difference (fun vs H Q E h => ?_) (fun cdv A outer s H vs Q E hr h => ?_)
  · obtain ⟨l, l', ws, ws', S, S', rfl, _⟩ := h
    rfl
  obtain ⟨l, l', ws, ws', S, S', rfl, hl, hl', tg, tg', k⟩ := h
  refine ⟨_, PSs.nox (pss_cons (ps_set (i := 2) sc_difference.nd rfl (Or.inr rfl) (pe_dcT (own := [("grant", 4)]) rfl (hu_of hr) sc_difference.nd (pi_list (pv 0)) (blkOk_by (own := [("grant", 4)]) (N := N_difference) (sc := defScope s_difference) (by decide +kernel)) (fun _ _ _ _ _ => (pg_name (i := 4) sc_difference.nd rfl (Or.inl rfl))) (fun _ _ _ _ _ => pts_nil) (fun _ _ _ _ _ => (pv 4)) (fun _ _ _ _ _ => pe_bl))) (pss_cons (ps_set (i := 3) sc_difference.nd rfl (Or.inr rfl) (pe_dcT (own := [("grant", 4)]) rfl (hu_of hr) sc_difference.nd (pi_list (pv 1)) (blkOk_by (own := [("grant", 4)]) (N := N_difference) (sc := defScope s_difference) (by decide +kernel)) (fun _ _ _ _ _ => (pg_name (i := 4) sc_difference.nd rfl (Or.inl rfl))) (fun _ _ _ _ _ => pts_nil) (fun _ _ _ _ _ => (pv 4)) (fun _ _ _ _ _ => pe_bl))) (pss_one (ps_ret (pe_tup (pa_cons (pe_callB (cr_sortedTS hr) (by rfl) T.n_sorted (by decide +kernel) (pa_cons (pe_lock (pe_lc (own := [("grant", 4)]) rfl sc_difference.nd (pi_keys (pv 3)) (blkOk_by (own := [("grant", 4)]) (N := N_difference) (sc := defScope s_difference) (by decide +kernel)) (fun _ _ _ _ _ => (pg_name (i := 4) sc_difference.nd rfl (Or.inl rfl))) (fun _ _ _ _ _ => pts_one (pt_cmp (pc_dnotin (hu_of hr) (pv 4) (pv 2)))) (fun _ _ _ _ _ => (pv 4)))) pa_nil)) (pa_cons (pe_callB (cr_sortedTS hr) (by rfl) T.n_sorted (by decide +kernel) (pa_cons (pe_lock (pe_lc (own := [("grant", 4)]) rfl sc_difference.nd (pi_keys (pv 2)) (blkOk_by (own := [("grant", 4)]) (N := N_difference) (sc := defScope s_difference) (by decide +kernel)) (fun _ _ _ _ _ => (pg_name (i := 4) sc_difference.nd rfl (Or.inl rfl))) (fun _ _ _ _ _ => pts_one (pt_cmp (pc_dnotin (hu_of hr) (pv 4) (pv 3)))) (fun _ _ _ _ _ => (pv 4)))) pa_nil)) pa_nil))))))), ?_⟩
  wtm_at "go"
  refine dc_gs (fun R r => gVar rfl r) hl tg (tb_nodup S) (Nat.le_trans (tb_len S) (by decide)) (fun _ => rfl) (fun _ => rfl) fun D H1 e1 hD d1 => ?_
  wtm_at "go"
  refine dc_gs (fun R r => gVar rfl r) (e1.at hl') (tg'.e e1) (tb_nodup S') (Nat.le_trans (tb_len S') (by decide)) (fun _ => rfl) (fun _ => rfl) fun D' H2 e2 hD' d2 => ?_
  wtm_at "go"
  have nDD : D ≠ D' := fun z => by rw [← z, d1] at hD'; cases hD'
  refine keys_lc (p := fun g => !decide (g ∈ tb S)) rfl d2 (Nat.le_trans (tb_len S') (by decide)) (fun _ => rfl) (fun _ => rfl) (fun od g b H' R e hb r => ?_) fun q H3 ys e3 hq q3 t3 => ?_
  · refine tt_not rfl rfl (.inl (e.at ?_)) hb r
    rw [upd_ne nDD]
    exact e2.at d1
  rw [tb_filter] at t3
  wtm_at "go"
  refine gSortT (S := fun g => S' g && !S g) q3 t3 (tb_nodup _) (fun g => ?_) fun p1 H4 us e4 hp1 h4 t4 => ?_
  · rw [tb_mem]
    constructor
    · rintro ⟨h1, h2⟩
      simp [mem_tb, h1] at h2 ⊢
      simp [h1, h2]
    · rintro ⟨h1, h2⟩
      simp [mem_tb, h1] at h2 ⊢
      simp [h1, h2]
  wtm_at "go"
  refine keys_lc (p := fun g => !decide (g ∈ tb S')) rfl (e4.at (e3.at (e2.at d1))) (Nat.le_trans (tb_len S) (by decide)) (fun _ => rfl) (fun _ => rfl) (fun od g b H' R e hb r => ?_) fun q' H5 ys' e5 hq' q5 t5 => ?_
  · refine tt_not rfl rfl (.inl (e.at ?_)) hb r
    rw [upd_ne (Ne.symm nDD)]
    exact e4.at (e3.at d2)
  rw [tb_filter] at t5
  wtm_at "go"
  refine gSortT (S := fun g => S g && !S' g) q5 t5 (tb_nodup _) (fun g => ?_) fun p2 H6 us' e6 hp2 h6 t6 => ?_
  · rw [tb_mem]
    constructor
    · rintro ⟨h1, h2⟩
      simp [mem_tb, h1] at h2 ⊢
      simp [h1, h2]
    · rintro ⟨h1, h2⟩
      simp [mem_tb, h1] at h2 ⊢
      simp [h1, h2]
  wtm_at "go"
  rename_i p hp H7 e7 h7
  have x3 : Ex H H3 := (e1.trans e2).trans e3
  exact k p p1 p2 us us' _ ((((x3.trans e4).trans e5).trans e6).trans e7) h7 (x3.free hp1) (((x3.trans e4).trans e5).free hp2) (by wtm_at "tr") (by wtm_at "tr") (((t4.e e5).e e6).e e7) (t6.e e7)
abbrev chD (c : List Gr × List Gr) : PyData := .tuple [gsD c.1, gsD c.2]
theorem TD.ch_ {A : Addr → Prop} {H : Hp} {v : V} {c : List Gr × List Gr} (h : TD A H v (chD c)) : ∃ a l vs l' vs', v = .ref a ∧ H a = some (.tup [.ref l, .ref l']) ∧ H l = some (.lst vs) ∧ A l ∧ TDs NoL H vs (c.1.map gD) ∧ H l' = some (.lst vs') ∧ A l' ∧ TDs NoL H vs' (c.2.map gD) := by
  obtain ⟨a, vs, rfl, ha, t0⟩ := TD.tup_ h
  obtain ⟨v1, w1, rfl, h1, t1⟩ := t0.cons_
  obtain ⟨v2, w2, rfl, h2, t2⟩ := t1.cons_
  obtain ⟨l, gv, rfl, hl, al, tl⟩ := TD.gs_ h1
  obtain ⟨l', gv', rfl, hl', al', tl'⟩ := TD.gs_ h2
  obtain rfl := t2.nil_
  exact ⟨a, l, gv, l', gv', rfl, ha, hl, al, tl, hl', al', tl'⟩
theorem TD.chm {A : Addr → Prop} {H : Hp} {a l l' : Addr} {c : List Gr × List Gr} {vs vs' : List V} (ha : H a = some (.tup [.ref l, .ref l'])) (hl : H l = some (.lst vs)) (al : A l) (t : TDs NoL H vs (c.1.map gD)) (hl' : H l' = some (.lst vs')) (al' : A l') (t' : TDs NoL H vs' (c.2.map gD)) :
    TD A H (.ref a) (chD c) := .tup ha (.cons (.gs hl al t) (.cons (.gs hl' al' t') .nil))
/-- the i-th item of a told list -/
theorem TDs.itm {A : Addr → Prop} {H : Hp} {gs : List Gr} {ws : List V} {i : Nat} {g : Gr} {v : V} (t : TDs A H ws (gs.map gD)) (hx : gs[i]? = some g) (hv : ws[i]? = some v) : ∃ b, v = .ref b ∧ H b = some (.tup [.str g.1, .str g.2.1, .str g.2.2]) := by
  obtain ⟨g', h', q⟩ := t.atM hv
  rw [hx] at h'
  cases h'
  exact q.g_
/-- whether a change fits to a table -/
def fitsB (gs : List Gr) (c : List Gr × List Gr) : Bool := (c.1.all fun g => !decide (g ∈ gs)) && c.2.all fun g => decide (g ∈ gs)
abbrev sp_applies (K : PySem.W.Frag) : Sp := fun vs H Q _ => ∃ (l : Addr) (v : V) (ws : List V) (gs : List Gr) (c : List Gr × List Gr), vs = [.ref l, v] ∧ Tabs K H ∧ H l = some (.lst ws) ∧ TDs NoL H ws (gs.map gD) ∧ gs.Nodup ∧ gs.length ≤ 27 ∧ TD AnyL H v (chD c) ∧
  ∀ H', Ex H H' → Q (.bl (fitsB gs c)) H'
abbrev N_applies : List Str := ["grants", "change", "known", "grant"]
theorem sc_applies : FnScope N_applies ["grants", "change"] (defScope s_applies) := ⟨rfl, rfl, rfl, by decide +kernel, rfl, by decide +kernel, by decide +kernel⟩
theorem ok_applies (T : Tx w K mg base) : FnOk P w K mg base CX0 3 (a_applies K) (fd_applies K) ["grants", "change"] (sp_applies K) := by
  refine T.f_applies.okC sc_applies (fun vs H Q E h => ?_) (fun cdv A outer s H vs Q E hcd hr h => ?_)
  · obtain ⟨l, v, ws, gs, c, rfl, _⟩ := h
    rfl
  obtain ⟨l, v, ws, gs, c, rfl, tb, hl, tg, hn, hgl, tc, k⟩ := h
  refine ⟨_, PSs.nox (pss_cons (ps_set (i := 2) sc_applies.nd rfl (Or.inr rfl) (pe_dcT (own := [("grant", 3)]) rfl (hu_of hr) sc_applies.nd (pi_list (pv 0)) (blkOk_by (own := [("grant", 3)]) (N := N_applies) (sc := defScope s_applies) (by decide +kernel)) (fun _ _ _ _ _ => (pg_name (i := 3) sc_applies.nd rfl (Or.inl rfl))) (fun _ _ _ _ _ => pts_nil) (fun _ _ _ _ _ => (pv 3)) (fun _ _ _ _ _ => pe_bl))) (pss_one (ps_ret (pe_and (pe_allG (own := [("grant", 3)]) hr T.n_all (T.tb _ (List.mem_of_getElem? (i := 4) rfl)) hcd rfl sc_applies.nd (pi_list (pe_ix ix_tup (pv 1) pe_int (fun _ _ => rfl))) (blkOk_by (own := [("grant", 3)]) (N := N_applies) (sc := defScope s_applies) (by decide +kernel)) (fun _ _ _ _ _ _ hr => (pg_name (i := 3) sc_applies.nd rfl (Or.inl rfl))) (fun _ _ _ _ _ _ hr => (pe_cmp (pc_dnotin (hu_of hr) (pv 3) (pv 2)) rfl))) (pe_one (pe_allG (own := [("grant", 3)]) hr T.n_all (T.tb _ (List.mem_of_getElem? (i := 4) rfl)) hcd rfl sc_applies.nd (pi_list (pe_ix ix_tup (pv 1) pe_int (fun _ _ => rfl))) (blkOk_by (own := [("grant", 3)]) (N := N_applies) (sc := defScope s_applies) (by decide +kernel)) (fun _ _ _ _ _ _ hr => (pg_name (i := 3) sc_applies.nd rfl (Or.inl rfl))) (fun _ _ _ _ _ _ hr => (pe_cmp (pc_din (hu_of hr) (pv 3) (pv 2)) rfl)))))))), ?_⟩
  wtm_at "go"
  refine dc_gs (fun R r => gVar rfl r) hl tg hn (by omega) (fun _ => rfl) (fun _ => rfl) fun D H1 e1 hD d1 => ?_
  obtain ⟨a, lg, wg, ll, wl, rfl, ha, hlg, _, tlg, hll, _, tll⟩ := (tc.e e1).ch_
  wtm_at "go"
  refine ⟨Tabs.at (tabs_ (S := []) tb e1) 4 rfl, fun H2 e2 _ => all_W (xs := c.1) (fun g => !decide (g ∈ gs)) walk_list (by rw [tlg.len, List.length_map]) (fun H' e => sqL_ (e.at (e2.at hlg))) (fun i g v H' hx hv e R hR => ?_) fun H3 e3 => ?_⟩
  · obtain ⟨b, rfl, hb⟩ := ((tlg.e e2).e e).itm hx hv
    wtm_at "go"
    refine ⟨rfl, gDNotIn (gVar rfl (gVar rfl ⟨D, _, rfl, dg_of (.inl (e.at (e2.at d1))) hb, _, rfl, ?_⟩))⟩
    rw [some_if]
    exact hR _ (Ch.refl _ _)
  · have E3 := e2.trans e3
    wtm_at "go"
    refine ifb (fun h1 => ?_) (fun h1 => ?_)
    · wtm_at "go"
      refine ⟨Tabs.at (tabs_ (S := []) (tabs_ (S := []) tb e1) E3) 4 rfl, fun H4 e4 _ => all_W (xs := c.2) (fun g => decide (g ∈ gs)) walk_list (by rw [tll.len, List.length_map]) (fun H' e => sqL_ (e.at (e4.at (E3.at hll)))) (fun i g v H' hx hv e R hR => ?_) fun H5 e5 => ?_⟩
      · obtain ⟨b, rfl, hb⟩ := (((tll.e E3).e e4).e e).itm hx hv
        wtm_at "go"
        refine ⟨rfl, gDIn (gVar rfl (gVar rfl ⟨D, _, rfl, dg_of (.inl (e.at (e4.at (E3.at d1)))) hb, _, rfl, ?_⟩))⟩
        rw [some_if]
        exact hR _ (Ch.refl _ _)
      · refine cast (congrArg (fun b => Q (.bl b) _) ?_) (k H5 (((e1.trans E3).trans e4).trans e5))
        unfold fitsB
        rw [h1]
        rfl
    · refine cast (congrArg (fun b => Q (.bl b) _) ?_) (k _ (e1.trans E3))
      unfold fitsB
      rw [h1]
      rfl
abbrev sp_apply_change (K : PySem.W.Frag) : Sp := fun vs H Q _ => ∃ (l : Addr) (v : V) (ws : List V) (S : Gr → Bool) (c : List Gr × List Gr) (S' : Gr → Bool), vs = [.ref l, v] ∧ Tabs K H ∧ H l = some (.lst ws) ∧ TDs NoL H ws ((tb S).map gD) ∧ TD AnyL H v (chD c) ∧ fitsB (tb S) c = true ∧
  c.2.Nodup ∧ c.2.length ≤ 27 ∧ c.1.length ≤ 27 ∧ c.1.Nodup ∧ (∀ g, g ∈ Uni → (S' g = ((S g && !decide (g ∈ c.2)) || decide (g ∈ c.1)))) ∧ (∀ g ∈ c.1, g ∈ Uni) ∧
  ∀ p H' ys, Ex H H' → H p = none → H' p = some (.lst ys) → TDs NoL H' ys ((tb S').map gD) → Q (.ref p) H'
abbrev N_apply_change : List Str := ["grants", "change", "lost", "grant"]
theorem sc_apply_change : FnScope N_apply_change ["grants", "change"] (defScope s_apply_change) := ⟨rfl, rfl, rfl, by decide +kernel, rfl, by decide +kernel, by decide +kernel⟩
theorem ok_apply_change (T : Tx w K mg base) : FnOk P w K mg base CX0 4 (a_apply_change K) (fd_apply_change K) ["grants", "change"] (sp_apply_change K) := by
  refine T.f_apply_change.ok sc_apply_change (fun vs H Q E h => ?_) (fun cdv A outer s H vs Q E hr h => ?_)
  · obtain ⟨l, v, ws, S, c, S', rfl, _⟩ := h
    rfl
  obtain ⟨l, v, ws, S, c, S', rfl, tb_, hl, tg, tc, hf, hn2, hl2, hl1, hn1, hS, hU, k⟩ := h
  refine ⟨_, PSs.nox (pss_cons (ps_if (pt_not (pt_val (pe_call (ok_applies T) (hr.mono (by decide)) rfl T.g_applies T.f_applies.kp T.b_applies .nil pass0 (pa_cons (pv 0) (pa_cons (pv 1) pa_nil))))) pss_never pss_nil) (pss_cons (ps_set (i := 2) sc_apply_change.nd rfl (Or.inr rfl) (pe_dcT (own := [("grant", 3)]) rfl (hu_of hr) sc_apply_change.nd (pi_list (pe_ix ix_tup (pv 1) pe_int (fun _ _ => rfl))) (blkOk_by (own := [("grant", 3)]) (N := N_apply_change) (sc := defScope s_apply_change) (by decide +kernel)) (fun _ _ _ _ _ => (pg_name (i := 3) sc_apply_change.nd rfl (Or.inl rfl))) (fun _ _ _ _ _ => pts_nil) (fun _ _ _ _ _ => (pv 3)) (fun _ _ _ _ _ => pe_bl))) (pss_one (ps_ret (pe_callB (cr_sortedTS hr) (by rfl) T.n_sorted (by decide +kernel) (pa_cons (pe_op op_cat (pe_lc (own := [("grant", 3)]) rfl sc_apply_change.nd (pi_list (pv 0)) (blkOk_by (own := [("grant", 3)]) (N := N_apply_change) (sc := defScope s_apply_change) (by decide +kernel)) (fun _ _ _ _ _ => (pg_name (i := 3) sc_apply_change.nd rfl (Or.inl rfl))) (fun _ _ _ _ _ => pts_one (pt_cmp (pc_dnotin (hu_of hr) (pv 3) (pv 2)))) (fun _ _ _ _ _ => (pv 3))) (pe_callTy call_list_of (by rfl) T.n_list (by decide +kernel) (pa_cons (pe_ix ix_tup (pv 1) pe_int (fun _ _ => rfl)) pa_nil))) pa_nil)))))), ?_⟩
  wtm_at "go"
  refine ⟨l, v, ws, _, c, rfl, tb_, hl, tg, tb_nodup S, tb_len S, tc, fun H1 e1 => ?_⟩
  rw [hf]
  obtain ⟨a, lg, wg, ll, wl, rfl, ha, hlg, _, tlg, hll, _, tll⟩ := (tc.e e1).ch_
  wtm_at "gob"
  refine dc_gs (l := ll) (fun R r => ?_) hll tll hn2 (by omega) (fun _ => rfl) (fun _ => rfl) fun D H2 e2 hD d2 => ?_
  · wtm_at "go"
    exact r
  wtm_at "go"
  have x2 := e1.trans e2
  refine list_lc (p := fun g => !decide (g ∈ c.2)) (fun R r => gVar rfl r) (x2.at hl) (tg.e x2) (Nat.le_trans (tb_len S) (by decide)) (fun _ => rfl) (fun _ => rfl) (fun g b H' R _ e hb r => tt_not rfl rfl (.inl (e.at d2)) hb r) fun q H3 ys e3 hq q3 t3 => ?_
  wtm_at "go"
  have hlg3 : H3 lg = some (.lst wg) := e3.at (e2.at hlg)
  rename_i q' hq' H4 e4 h4
  have t4 := t3.e e4
  have tg4 := ((tlg.e e2).e e3).e e4
  refine gCatL (e4.at q3) h4 (sl_big ?_) fun p5 H5 e5 h5 => ?_
  · rw [t4.len, tg4.len, List.length_map, List.length_map]
    have := List.length_filter_le (fun g => !decide (g ∈ c.2)) (tb S)
    have := tb_len S
    omega
  wtm_at "go"
  have hall : ∀ g ∈ c.1, ¬ g ∈ tb S := fun g hg => by
    unfold fitsB at hf
    rw [Bool.and_eq_true, List.all_eq_true] at hf
    simpa using hf.1 g hg
  have t5 := (t4.app tg4).e e5
  rw [← List.map_append] at t5
  refine gSortT (S := S') h5 t5 ?_ (fun g => ?_) fun p6 H6 us e6 hp6 h6 t6 => k p6 H6 us ((((x2.trans e3).trans e4).trans e5).trans e6) ((((x2.trans e3).trans e4).trans e5).free hp6) h6 t6
  · refine List.nodup_append.mpr ⟨(tb_nodup S).filter _, hn1, fun x hx y hy z => ?_⟩
    subst z
    exact hall x hy (List.mem_filter.mp hx).1
  · rw [List.mem_append, List.mem_filter, mem_tb]
    constructor
    · rintro (⟨⟨h1, h2⟩, h3⟩ | h1)
      · refine ⟨h1, ?_⟩
        rw [hS g h1, h2]
        simp at h3
        simp [h3]
      · refine ⟨hU g h1, ?_⟩
        rw [hS g (hU g h1)]
        simp [h1]
    · rintro ⟨h1, h2⟩
      rw [hS g h1] at h2
      simp at h2
      rcases h2 with ⟨h2, h3⟩ | h2
      · exact .inl ⟨⟨h1, h2⟩, by simp [h3]⟩
      · exact .inr h2
end
end Z
set_option Elab.async false
set_option linter.all false
set_option maxRecDepth 100000
set_option maxHeartbeats 4000000
namespace Z
open PySem PySem.Spec PyProof.Rows L2

section
variable {X : Cx} {K : PySem.W.Frag} {σ : L2.St} {H : Hp} {Q : VK} {D : Ends} {td ty tv tx : TE}
/-! rules in a comprehension's block: the fragment is told -/
theorem pe_fldK {K : PySem.W.Frag} (hK : X.K = K) {e : Expr} {f : Str} {pos : Pos} {ta : TE} (he : PE X e ta) (hb : attributeBase e f X.env (eval e X.env) = eval e X.env) : PE X (.Attribute e f pos) (tFld K ta f) := by
  subst hK
  exact pe_fld he hb
theorem ix_tupK {K : PySem.W.Frag} (hK : X.K = K) : IxR X (rIxT K) := hK ▸ ix_tup
theorem ix_listK {K : PySem.W.Frag} (hK : X.K = K) : IxR X (rIxL K) := hK ▸ ix_list
theorem op_in_seqK {K : PySem.W.Frag} (hK : X.K = K) : OpR X (compareOp .In) (rIn K false) := hK ▸ op_in_seq
theorem op_notIn_seqK {K : PySem.W.Frag} (hK : X.K = K) : OpR X (compareOp .NotIn) (rIn K true) := hK ▸ op_notIn_seq
theorem sl_tupAK {K : PySem.W.Frag} (hK : X.K = K) : SlR X (rSlA K) := hK ▸ sl_tupA
theorem sl_listK {K : PySem.W.Frag} (hK : X.K = K) : SlR X (rSlL K) := hK ▸ sl_list
theorem op_catAK {K : PySem.W.Frag} (hK : X.K = K) : OpR X (binaryOp .Add) (rCatA K) := hK ▸ op_catA
theorem call_len_seqK {K : PySem.W.Frag} (hK : X.K = K) : CallR X (.builtin "len") (fun xs H Q => ∃ p ys, xs = [.ref p] ∧ (SqL K H p ys ∨ SqT K H p ys) ∧ Q (.int ys.length) H) := by
  subst hK
  exact call_len_seq
theorem call_list_ofK {K : PySem.W.Frag} (hK : X.K = K) : CallR X (.type "list") (fun xs H Q => ∃ p ys, xs = [.ref p] ∧ (SqL K H p ys ∨ SqT K H p ys) ∧ ∀ l, H l = none → Q (.ref l) (upd H l (.lst ys))) := by
  subst hK
  exact call_list_of
theorem op_inDK {K : PySem.W.Frag} (hK : X.K = K) (hu : X.A.units + 65 < cLine) : OpR X (compareOp .In) (rInD K) := hK ▸ op_inD hu
theorem op_notInDK {K : PySem.W.Frag} (hK : X.K = K) (hu : X.A.units + 65 < cLine) : OpR X (compareOp .NotIn) (rNotInD K) := hK ▸ op_notInD hu
theorem op_eqDK {K : PySem.W.Frag} (hK : X.K = K) (hu : X.A.units + 64 < cLine) : OpR X (compareOp .Eq) (rEqD K) := hK ▸ op_eqD hu
theorem op_neDK {K : PySem.W.Frag} (hK : X.K = K) (hu : X.A.units + 64 < cLine) : OpR X (compareOp .NotEq) (rNeD K) := hK ▸ op_neD hu
theorem pg_tupK {K : PySem.W.Frag} (hK : X.K = K) {es : List Expr} {k : Nat} {t : TGs} {n : Nat} {pos : Pos} (hc : X.calm = true) (h : PGs X es t)
    (hn : (assignEach es X.env).length = n := by rfl) (hst : (assignEach es X.env).findIdx? (·.1) = none := by rfl) : PG X (.Tuple es k pos) (L2.gTup K n t) := by
  subst hK
  exact pg_tup hc h hn hst
theorem pt_truthK {K : PySem.W.Frag} (hK : X.K = K) {a : Expr} {ta : TE} (ha : PE X a ta) (he : ∀ whole, isTrue a X.env whole = (do let v ← whole; standAt a.pos; holding [v] (truthy v))) :
    PT X a (fun σ H Q => ta σ H fun x H' => ∃ k, TruV K x H' k ∧ Q k H') := by
  subst hK
  exact pt_truth ha he
/-- o.f as a target -/
def gAttr (K : PySem.W.Frag) (ta : TE) (f : Str) : TG := fun v σ H Q => ta σ H fun x H1 => ∃ a C dx fs, x = .ref a ∧ H1 a = some (.ins C dx fs) ∧ Cls K C ∧ NoAttr K C f ∧ fs.length < 1000 ∧ Q σ (upd H1 a (.ins C dx (putF f v fs)))
theorem pg_attr {o : Expr} {f : Str} {pos : Pos} {ta : TE} (ha : PE X o ta) : PG X (.Attribute o f pos) (gAttr X.K ta f) := by
  refine ⟨fun pins s σ H v u Q I r h => ?_⟩
  rw [assign_Attribute]
  refine wpAny_bind (wpAny_holding (thn (ha.run pins s σ H _ I h) fun ov s1 ⟨x, H1, I1, r1, a, C, dx, fs, ex, ea, c, n, l, q⟩ => ?_))
  subst ex
  obtain rfl : ov = Value.ref a := r1
  refine wpAny_bind (wpAny_standAt (wpAny_bind (wpAny_holding (setattr_ok I1 ea c n l r fun s2 I2 => ?_))))
  exact wpAny_release ⟨σ, _, I2, q⟩
theorem gAttr_ {ta : TE} {f : Str} {v : V} {QS : L2.St → Hp → Prop} (h : ta σ H fun x H1 => ∃ a C dx fs, x = .ref a ∧ H1 a = some (.ins C dx fs) ∧ Cls K C ∧ NoAttr K C f ∧ fs.length < 1000 ∧ QS σ (upd H1 a (.ins C dx (putF f v fs)))) : gAttr K ta f v σ H QS := h
theorem gDGet1 (h : td σ H fun x H1 => ∃ a, x = .ref a ∧ IsD H1 a ∧ ty σ H1 fun y H2 => ∃ o, DGet H2 a y o ∧ Q (o.getD .non) H2) : tDGet1 td ty σ H Q := h
theorem gDGet2 (h : td σ H fun x H1 => ∃ a, x = .ref a ∧ IsD H1 a ∧ ty σ H1 fun y H2 => tx σ H2 fun z H3 => ∃ o, DGet H3 a y o ∧ Q (o.getD z) H3) : tDGet2 td ty tx σ H Q := h
theorem gDGet_ (h : td σ H fun x H1 => ty σ H1 fun y H2 => ∃ a v, x = .ref a ∧ DGet H2 a y (some v) ∧ Q v H2) : tDGet td ty σ H Q := h
theorem gDPut (h : tv σ H fun v H1 => td σ H1 fun x H2 => ty σ H2 fun y H3 => ∃ a H4, x = .ref a ∧ DPut H3 a y v H4 ∧ D.nx σ H4) : sDPut td ty tv D σ H := h
theorem gDNewK (h : ∀ p H2, H p = none → Ex H H2 → H2 p = some (.dK []) → Q (.ref p) H2) : tDNewK σ H Q := fun p hp => h p _ hp (Ex.new hp) upd_same
theorem gDNewT (h : ∀ p H2, H p = none → Ex H H2 → H2 p = some (.dT []) → Q (.ref p) H2) : tDNewT σ H Q := fun p hp => h p _ hp (Ex.new hp) upd_same
theorem gDPop1 (h : td σ H fun x H1 => ∃ a, x = .ref a ∧ IsD H1 a ∧ ty σ H1 fun y H2 => ∃ kvs k v, H2 a = some (.dK kvs) ∧ y = kV k ∧ valV kvs k = some v ∧ Q v (upd H2 a (.dK (dropK kvs k)))) : tDPop1 td ty σ H Q := h
end
local macro_rules | `(tactic| wtm_at "ex") => `(tactic| first | assumption | exact Ch.refl _ _ | (refine Ch.trans ?_ (by assumption); wtm_at "ex"))
local macro_rules | `(tactic| wtm_at "no") => `(tactic| first | assumption | (refine Ch.free (S := []) (p := _) ?_ (by assumption); wtm_at "ex"))
local macro_rules | `(tactic| wtm_at "tr") => `(tactic| first | assumption | (with_reducible refine tabs_ (S := []) (by assumption) ?_; wtm_at "ex") | (with_reducible refine atT_ (S := []) (by assumption) ?_; wtm_at "ex") | (with_reducible refine atL_ (by assumption) ?_; wtm_at "ex") | (with_reducible refine atN_ (by assumption) ?_; wtm_at "ex") | (with_reducible refine atK_ (by assumption) ?_; wtm_at "ex") | (with_reducible refine atD_ (by assumption) ?_; wtm_at "ex") | (with_reducible refine atF_ (by assumption) ?_; wtm_at "ex") | (with_reducible refine TD.e (by assumption) ?_; wtm_at "ex") | (with_reducible refine TDs.e (by assumption) ?_; wtm_at "ex") | wtm_at "ex")
local macro_rules | `(tactic| wtm_at "nw") => `(tactic| (intro p hp; generalize hH : upd _ p _ = H2; have e := exO hp hH; have ⟨e1, e2⟩ := e; clear e hH))
local macro_rules | `(tactic| wtm_at "mk") => `(tactic| (intro x dx hx hd hn; generalize hH : upd (upd _ dx _) x _ = H2; have e := exO2 hx hd hn hH; have ⟨e1, e2⟩ := e; clear e hH))
local macro_rules | `(tactic| wtm_at "pu") => `(tactic| (generalize hH : upd _ _ _ = H2; have e := chO (by wtm_at "tr") (by trivial) hH; have ⟨e1, e2⟩ := e; clear e hH))
local macro_rules | `(tactic| wtm_at "cl") => `(tactic| first | exact Tx.c_Replica (by assumption) | exact Tx.c_Follower (by assumption) | exact Tx.c_Line (by assumption) | exact Tx.c_Graph (by assumption) | exact Tx.c_Revision (by assumption) | exact Tx.c_Primary (by assumption))
local macro_rules | `(tactic| wtm_at "na") => `(tactic| first | exact Tx.n_Replica_name (by assumption) | exact Tx.n_Replica_number (by assumption) | exact Tx.n_Replica_table (by assumption) | exact Tx.n_Replica_later (by assumption) | exact Tx.n_Follower_replica (by assumption) | exact Tx.n_Line_number (by assumption) | exact Tx.n_Line_parts (by assumption) | exact Tx.n_Line_at (by assumption) | exact Tx.n_Graph_schema (by assumption) | exact Tx.n_Graph_strata (by assumption) | exact Tx.n_Graph_subjects (by assumption) | exact Tx.n_Graph_objects (by assumption) | exact Tx.n_Graph_people (by assumption) | exact Tx.n_Revision_schema (by assumption) | exact Tx.n_Revision_relationships (by assumption) | exact Tx.n_Revision_table (by assumption) | exact Tx.n_Primary_name (by assumption) | exact Tx.n_Primary_first (by assumption) | exact Tx.n_Primary_revisions (by assumption))
local macro_rules | `(tactic| wtm_at "gex") => `(tactic| (with_reducible refine ⟨_, _, _, _, rfl, ?_⟩))
local macro_rules | `(tactic| wtm_at "gex") => `(tactic| (with_reducible refine ⟨_, _, _, rfl, ?_⟩))
local macro_rules | `(tactic| wtm_at "gex") => `(tactic| (with_reducible refine ⟨_, _, rfl, ?_⟩))
local macro_rules | `(tactic| wtm_at "gex") => `(tactic| (with_reducible refine ⟨_, _, rfl, rfl, ?_⟩))
local macro_rules | `(tactic| wtm_at "gex") => `(tactic| (with_reducible refine ⟨_, rfl, ?_⟩))
local macro_rules | `(tactic| wtm_at "gex") => `(tactic| (with_reducible refine ⟨_, _, _, rfl, by wtm_at "tr", by with_unfolding_all rfl, ?_⟩))
local macro_rules | `(tactic| wtm_at "gex") => `(tactic| ((with_reducible refine ⟨_, _, _, _, rfl, by wtm_at "tr", by wtm_at "cl", by wtm_at "na", by with_unfolding_all exact Nat.le_of_ble_eq_true rfl, ?_⟩); wtm_at "pu"))
local macro_rules | `(tactic| wtm_at "gex") => `(tactic| (with_reducible refine ⟨_, _, _, _, _, rfl, by wtm_at "tr", by wtm_at "cl", by wtm_at "na", by with_unfolding_all rfl, ?_⟩))
local macro_rules | `(tactic| wtm_at "gex") => `(tactic| (with_reducible refine ⟨_, _, rfl, by assumption, by assumption, ?_⟩))
local macro_rules | `(tactic| wtm_at "gex") => `(tactic| (with_reducible refine ⟨_, rfl, ⟨_, sqT_ (by wtm_at "tr")⟩, ?_⟩))
local macro_rules | `(tactic| wtm_at "gex") => `(tactic| (with_reducible refine ⟨_, rfl, ⟨_, sqL_ (by wtm_at "tr")⟩, ?_⟩))
local macro_rules | `(tactic| wtm_at "gex") => `(tactic| (with_reducible refine ⟨_, _, rfl, sqL_ (by wtm_at "tr"), ?_⟩))
local macro_rules | `(tactic| wtm_at "gex") => `(tactic| (with_reducible refine ⟨_, truL (by wtm_at "tr"), ?_⟩))
local macro_rules | `(tactic| wtm_at "gex") => `(tactic| (with_reducible refine ⟨_, _, rfl, sqOrT (by wtm_at "tr"), ?_⟩))
local macro_rules | `(tactic| wtm_at "gex") => `(tactic| (with_reducible refine ⟨_, _, rfl, sqOrL (by wtm_at "tr"), ?_⟩))
local macro_rules | `(tactic| wtm_at "gan") => `(tactic| (with_reducible refine And.intro (by wtm_at "tr") ?_))
local macro_rules | `(tactic| wtm_at "gan") => `(tactic| (with_reducible refine And.intro (by (with_unfolding_all decide)) ?_))
local macro_rules | `(tactic| wtm_at "gan") => `(tactic| (with_reducible refine And.intro (len_le (by with_unfolding_all rfl)) ?_))
local macro_rules | `(tactic| wtm_at "gan") => `(tactic| (with_reducible refine And.intro (tyL (by wtm_at "tr")) ?_))
local macro_rules | `(tactic| wtm_at "gan") => `(tactic| (with_reducible refine ⟨⟨_, rfl⟩, ?_⟩))
local macro_rules | `(tactic| wtm_at "gal") => `(tactic| wtm_at "mk")
local macro_rules | `(tactic| wtm_at "gal") => `(tactic| wtm_at "nw")
local macro_rules | `(tactic| wtm_at "gal") => `(tactic| (with_reducible refine exV (fun p H' e h1 => ?_)))
local macro_rules | `(tactic| wtm_at "gal") => `(tactic| (with_reducible refine exT (fun p H' e h0 h1 => ?_)))
local macro_rules | `(tactic| wtm_at "gal") => `(tactic| (with_reducible refine exI (fun H' e => ?_)))
local macro_rules | `(tactic| wtm_at "gre") => `(tactic| (with_reducible refine gTQ ?_))
local macro_rules | `(tactic| wtm_at "gre") => `(tactic| (with_reducible refine gDNewT (fun p H2 hp e h => ?_)))
local macro_rules | `(tactic| wtm_at "gre") => `(tactic| (with_reducible refine gDNewK (fun p H2 hp e h => ?_)))
local macro_rules | `(tactic| wtm_at "gre") => `(tactic| (with_reducible refine gDPop1 ?_))
local macro_rules | `(tactic| wtm_at "gre") => `(tactic| (with_reducible refine gDPut ?_))
local macro_rules | `(tactic| wtm_at "gre") => `(tactic| (with_reducible refine gDGet_ ?_))
local macro_rules | `(tactic| wtm_at "gre") => `(tactic| (with_reducible refine gDGet2 ?_))
local macro_rules | `(tactic| wtm_at "gre") => `(tactic| (with_reducible refine gDGet1 ?_))
local macro_rules | `(tactic| wtm_at "gre") => `(tactic| (with_reducible refine gDNotIn ?_))
local macro_rules | `(tactic| wtm_at "gre") => `(tactic| (with_reducible refine gDIn ?_))
local macro_rules | `(tactic| wtm_at "gre") => `(tactic| (with_reducible refine gAttr_ ?_))
local macro_rules | `(tactic| wtm_at "gre") => `(tactic| (with_reducible refine gSlL (by wtm_at "tr") (fun q H2 hq e h => ?_)))
local macro_rules | `(tactic| wtm_at "gre") => `(tactic| (with_reducible refine gPartition rfl (by wtm_at "tr") (fun p H2 hp e h => ?_)))
local macro_rules | `(tactic| wtm_at "gre") => `(tactic| (with_reducible refine gTgT (by wtm_at "tr") (by with_unfolding_all rfl) ?_))
local macro_rules | `(tactic| wtm_at "gre") => `(tactic| (with_reducible refine gIxL (by wtm_at "tr") (by with_unfolding_all rfl) ?_))
local macro_rules | `(tactic| wtm_at "gre") => `(tactic| (with_reducible refine gIxT (by wtm_at "tr") (by with_unfolding_all rfl) ?_))
local macro_rules | `(tactic| wtm_at "gor") => `(tactic| (with_reducible refine Or.inr ⟨_, rfl, ?_⟩))
local macro_rules | `(tactic| wtm_at "gor") => `(tactic| (with_reducible refine Or.inl ⟨_, rfl, ?_⟩))
local macro_rules | `(tactic| wtm_at "go1") => `(tactic| wtm_at "mk")
local macro_rules | `(tactic| wtm_at "go1") => `(tactic| wtm_at "nw")
local macro_rules | `(tactic| wtm_at "go1") => `(tactic| ((with_reducible refine isOr ?_); wtm_at "gor"))
local macro_rules | `(tactic| wtm_at "go1") => `(tactic| wtm_at "gre")
local macro_rules | `(tactic| wtm_at "go1") => `(tactic| ((with_reducible refine isAll ?_); wtm_at "gal"))
local macro_rules | `(tactic| wtm_at "go1") => `(tactic| ((with_reducible refine isAnd ?_); wtm_at "gan"))
local macro_rules | `(tactic| wtm_at "go1") => `(tactic| ((with_reducible refine isEx ?_); wtm_at "gex"))
local macro_rules | `(tactic| wtm_at "go1") => `(tactic| with_reducible refine gVar rfl ?_)
local macro_rules | `(tactic| wtm_at "go1") => `(tactic| with_reducible refine Stp.go ?_)
local macro_rules | `(tactic| wtm_at "go") => `(tactic| repeat (first | wtm_at "go1" | (with_reducible dsimp only) | (dsimp only [cxK, List.cons_append, List.nil_append, List.append_nil])))
local macro_rules | `(tactic| wtm_at "gob") => `(tactic| repeat (first | wtm_at "go1" | (with_reducible dsimp only) | (dsimp only [cxK, List.cons_append, List.nil_append, List.append_nil]) | (refine blT (by decide) ?_) | (refine blF (by decide) ?_)))
local macro_rules | `(tactic| wtm_at "gos") => `(tactic| repeat' (first | wtm_at "go1" | (with_reducible dsimp only) | (dsimp only [cxK, List.cons_append, List.nil_append, List.append_nil]) | (with_reducible refine ifd (fun _ => ?_) (fun _ => ?_)) | (with_reducible refine ifb (fun _ => ?_) (fun _ => ?_))))

/-! ### replicas -/
def key (k : Nat) : Key := Sum.inl (k : Int)
/-- what the k-th revision changes -/
def chT (T : Nat → Gr → Bool) (k : Nat) : List Gr × List Gr := (tb fun g => T k g && !T (k - 1) g, tb fun g => T (k - 1) g && !T k g)
structure LT (T : Nat → Gr → Bool) (H : Hp) (kvs : List (Key × V)) (ks : List Nat) : Prop where
  keys : kvs.map (·.1) = ks.map key
  vals : ∀ k v, valV kvs (key k) = some v → TD AnyL H v (chD (chT T k))
abbrev repF (n : Nat) (tl ld : Addr) : List (Str × V) := [("name", .str "main"), ("number", .int n), ("table", .ref tl), ("later", .ref ld)]
def Rep (K : PySem.W.Frag) (T : Nat → Gr → Bool) (H : Hp) (r ld : Addr) (n : Nat) (ks : List Nat) : Prop := ∃ dx tl ws kvs, H r = some (.ins (He.ga K "Replica") dx (repF n tl ld)) ∧ H tl = some (.lst ws) ∧ TDs NoL H ws ((tb (T n)).map gD) ∧
  H ld = some (.dK kvs) ∧ LT T H kvs ks
theorem key_inj {a b : Nat} (h : key a = key b) : a = b := by
  have := Sum.inl.inj h
  omega
theorem fits_next (T : Nat → Gr → Bool) (n : Nat) : fitsB (tb (T n)) (chT T (n + 1)) = true := by
  unfold fitsB chT
  rw [Bool.and_eq_true, List.all_eq_true, List.all_eq_true]
  constructor
  · intro g hg
    rw [mem_tb] at hg
    simp [mem_tb] at hg ⊢
    simp [hg]
  · intro g hg
    rw [mem_tb] at hg
    simp [mem_tb] at hg ⊢
    simp [hg]
theorem TD.keep {S : List Addr} {H H' : Hp} {v : V} {d : PyData} (h : TD AnyL H v d) (e : Ch S H H') (hS : ∀ x ∈ S, ∀ xs, H x ≠ some (.lst xs)) : TD AnyL H' v d := (TD.c (TD.on d v h) e fun x hx k => by
  obtain ⟨_, xs, q⟩ := k
  exact hS x hx xs q).w fun _ _ => trivial
def del (n : Nat) (ks : List Nat) : List Nat := ks.filter fun k => !decide (k = n)
theorem filter_lt {n : Nat} {ks : List Nat} (h : n ∈ ks) : (del n ks).length < ks.length :=
  List.length_filter_lt_length_iff_exists.mpr ⟨n, h, by simp⟩
/-- take what waits: revision, what still waits -/
def adv (n : Nat) (ks : List Nat) : Nat × List Nat :=
  if h : n + 1 ∈ ks then adv (n + 1) (del (n + 1) ks) else (n, ks)
termination_by ks.length
decreasing_by exact filter_lt h
theorem adv_yes {n : Nat} {ks : List Nat} (h : n + 1 ∈ ks) : adv n ks = adv (n + 1) (del (n + 1) ks) := by
  rw [adv, dif_pos h]
theorem adv_no {n : Nat} {ks : List Nat} (h : n + 1 ∉ ks) : adv n ks = (n, ks) := by
  rw [adv, dif_neg h]
theorem valV_key {kvs : List (Key × V)} {ks : List Nat} {k : Nat} (hk : kvs.map (·.1) = ks.map key) : (valV kvs (key k)).isSome = decide (k ∈ ks) := by
  rw [← valV_any, Bool.eq_iff_iff, List.any_eq_true, decide_eq_true_eq]
  constructor
  · rintro ⟨p, hp, h⟩
    have q : p.1 ∈ kvs.map (·.1) := List.mem_map.mpr ⟨p, hp, rfl⟩
    rw [hk] at q
    obtain ⟨x, hx, e⟩ := List.mem_map.mp q
    have := key_inj (e.trans (of_decide_eq_true h))
    subst this
    exact hx
  · intro h
    have q : key k ∈ kvs.map (·.1) := by rw [hk]; exact List.mem_map.mpr ⟨k, h, rfl⟩
    obtain ⟨p, hp, e⟩ := List.mem_map.mp q
    exact ⟨p, hp, decide_eq_true e⟩
theorem drop_keys {n : Nat} : ∀ {kvs : List (Key × V)} {ks : List Nat}, kvs.map (·.1) = ks.map key → (dropK kvs (key n)).map (·.1) = (del n ks).map key
  | [], [], _ => rfl
  | [], _ :: _, h => by cases h
  | _ :: _, [], h => by cases h
  | p :: kvs, k :: ks, h => by
    rw [List.map_cons, List.map_cons, List.cons.injEq] at h
    have ih := drop_keys (n := n) h.2
    unfold dropK del at ih ⊢
    by_cases e : k = n
    · subst e
      rw [List.filter_cons_of_neg (by simp [h.1]), List.filter_cons_of_neg (by simp)]
      exact ih
    · have e' : ¬ p.1 = key n := fun z => e (key_inj (h.1.symm.trans z))
      rw [List.filter_cons_of_pos (by simp [e']), List.filter_cons_of_pos (by simp [e]), List.map_cons, List.map_cons, ih, h.1]
theorem drop_none {k : Key} (kvs : List (Key × V)) : valV (dropK kvs k) k = none := by
  have z := valV_any k (dropK kvs k)
  cases q : valV (dropK kvs k) k with
  | none => rfl
  | some v =>
    rw [q, Option.isSome_some, List.any_eq_true] at z
    obtain ⟨p, hp, h⟩ := z
    exact absurd (of_decide_eq_true h) (of_decide_eq_true (List.mem_filter.mp hp).2)
theorem drop_val {n k : Key} {v : V} : ∀ {kvs : List (Key × V)}, valV (dropK kvs n) k = some v → valV kvs k = some v
  | [], h => by cases h
  | p :: r, h => by
    by_cases hk : k = n
    · subst hk
      rw [drop_none] at h
      cases h
    · by_cases e : p.1 = n
      · have e2 : ¬ p.1 = k := fun z => hk (z.symm.trans e)
        have h' : valV (dropK r n) k = some v := by
          unfold dropK at h ⊢
          rw [List.filter_cons_of_neg (by simp [e])] at h
          exact h
        rw [valV_neg e2]
        exact drop_val h'
      · have h' : valV (p :: dropK r n) k = some v := by
          unfold dropK at h ⊢
          rw [List.filter_cons_of_pos (by simp [e])] at h
          exact h
        by_cases e2 : p.1 = k
        · rw [valV_pos e2] at h' ⊢
          exact h'
        · rw [valV_neg e2] at h' ⊢
          exact drop_val h'
theorem chT_ok (T : Nat → Gr → Bool) (k : Nat) : (chT T k).2.Nodup ∧ (chT T k).2.length ≤ 27 ∧ (chT T k).1.length ≤ 27 ∧ (chT T k).1.Nodup ∧ (∀ g ∈ (chT T k).1, g ∈ Uni) ∧ (∀ g ∈ (chT T k).2, g ∈ Uni) := by
  have h : ∀ S g, g ∈ tb S → g ∈ Uni := fun S g hg => (mem_tb.mp hg).1
  unfold chT
  exact ⟨tb_nodup (fun g => T (k - 1) g && !T k g), tb_len (fun g => T (k - 1) g && !T k g), tb_len (fun g => T k g && !T (k - 1) g), tb_nodup (fun g => T k g && !T (k - 1) g), h (fun g => T k g && !T (k - 1) g), h (fun g => T (k - 1) g && !T k g)⟩
theorem Rep.ex {K : PySem.W.Frag} {T : Nat → Gr → Bool} {H H' : Hp} {r ld : Addr} {n : Nat} {ks : List Nat} (h : Rep K T H r ld n ks) (e : Ex H H') : Rep K T H' r ld n ks := by
  obtain ⟨dx, tl, ws, kvs, hr0, htl, tt, hld, hlt⟩ := h
  exact ⟨dx, tl, ws, kvs, e.at hr0, e.at htl, tt.e e, e.at hld, hlt.keys, fun k v hv => (hlt.vals k v hv).e e⟩
theorem eqvAll_gs : ∀ gs : List Gr, PyData.eqvAll (gs.map gD) (gs.map gD) = true
  | [] => by simp [PyData.eqvAll]
  | g :: gs => by simp [PyData.eqvAll, eqv_g, eqvAll_gs gs]
theorem eqv_gs (gs : List Gr) : PyData.eqv (gsD gs) (gsD gs) = true := by
  unfold gsD
  simp only [PyData.eqv]
  exact eqvAll_gs gs
theorem eqv_ch (c : List Gr × List Gr) : PyData.eqv (chD c) (chD c) = true := by
  simp only [chD, PyData.eqv, PyData.eqvAll, eqv_gs]
  rfl
theorem fine_ch {c : List Gr × List Gr} (h1 : ∀ g ∈ c.1, g ∈ Uni) (h2 : ∀ g ∈ c.2, g ∈ Uni) : Fine 3 (chD c) := fine_tup fun d hd => by
  simp only [List.mem_cons, List.not_mem_nil, or_false] at hd
  rcases hd with rfl | rfl
  · exact fine_gs h1
  · exact fine_gs h2
theorem fine_none : Fine 0 .none := ⟨by simp [PyData.canLay0], by simp [PyData.depth]⟩
theorem nats_of {ks : List Nat} {ys : List Int} (hp : ys.Perm (ks.map fun k => ((k : Nat) : Int))) (hs : ys.Pairwise (· ≤ ·)) : ∃ ms : List Nat, ms.Perm ks ∧ ms.Pairwise (· ≤ ·) ∧ ys = ms.map fun k => ((k : Nat) : Int) := by
  have hy : ys = (ys.map Int.toNat).map fun k => ((k : Nat) : Int) := by
    rw [List.map_map]
    have z : ys.map (fun y => ((y.toNat : Nat) : Int)) = ys.map id := List.map_congr_left fun y hy => by
      obtain ⟨k, _, rfl⟩ := List.mem_map.mp (hp.mem_iff.mp hy)
      simp
    rw [List.map_id] at z
    exact z.symm
  refine ⟨ys.map Int.toNat, ?_, ?_, hy⟩
  · have z := hp.map Int.toNat
    rw [List.map_map] at z
    have e : (Int.toNat ∘ fun k : Nat => ((k : Nat) : Int)) = id := by funext k; simp
    rw [e, List.map_id] at z
    exact z
  · rw [hy] at hs
    exact (List.pairwise_map.mp hs).imp fun {a b} h => by omega
/-- a comprehension over told items; what is made holds any lists but the new one -/
theorem lcB {J : It} {G : Hp → Prop} {g : TG} {tt : TT} {te : TE} {us : List Nat} {σ : L2.St} {H1 : Hp} {D : Addr} {Qd : Hp → Prop} {A0 : Addr → Prop} {α : Type} {enc : α → PyData} {xs : List α} {vs : List V}
    (w : Walk J vs.length G (YAt vs)) (ht : TDs A0 H1 vs (xs.map enc)) (hn : vs.length ≤ sizeLine) (hD : H1 D = none) (hG : ∀ H', Ex H1 H' → G H') (f : α → PyData)
    (hs : ∀ (i : Nat) (x : α) v H (P : V → Hp → Prop) (P0 : Hp → Prop), xs[i]? = some x → TD A0 H v (enc x) → Ex H1 H → (∀ y H4, Ex H H4 → TD (fun x => x ≠ D) H4 y (f x) → P y H4) →
      g v (wipe σ us) H fun σ2 H2 => wipe σ2 us = wipe σ us ∧ tt σ2 H2 fun b H3 => if b = true then te σ2 H3 P else P0 H3)
    (hd : ∀ H' ys, Ex H1 H' → H' D = some (.lst ys) → TDs (fun x => x ≠ D) H' ys (xs.map f) → Qd H') :
    ∃ W : Nat → Nat → Hp → Prop, (∃ m, W 0 m (upd H1 D (.lst []))) ∧ ∀ i m H, W i m H →
      (J.stop i H ∧ Qd H) ∨ (J.go i H ∧ ∃ Nx : Hp → Prop, (∀ H', Nx H' → ∃ m', m' < m ∧ W (i + 1) m' H') ∧ ∀ x H', J.yld i H x H' → g x (wipe σ us) H' fun σ2 H2 => wipe σ2 us = wipe σ us ∧ tt σ2 H2 fun b H3 =>
        if b = true then te σ2 H3 fun y H4 => ∃ acc, H4 D = some (.lst acc) ∧ acc.length < sizeLine ∧ Nx (upd H4 D (.lst (acc ++ [y]))) else Nx H3) := by
  have hl : vs.length = xs.length := by rw [ht.len, List.length_map]
  refine lc_it w (fun i H => Ex H1 H ∧ ∃ ys, H D = some (.lst ys) ∧ TDs (fun x => x ≠ D) H ys ((xs.take i).map f)) ?_ ?_ ?_ ?_
  · exact ⟨Ex.new hD, [], upd_same, .nil⟩
  · exact fun i H _ p => hG H p.1
  · rintro i v H H' hi ⟨e, ys, hx, hy⟩ ⟨rfl, hv⟩
    obtain ⟨x, hxi, tx⟩ := ht.atM hv
    refine hs i x v H' _ _ hxi (tx.e e) e fun y H4 e4 td => ?_
    · have h4 : H4 D = some (.lst ys) := e4.at hx
      have c4 : Ch [D] H4 (upd H4 D (.lst (ys ++ [y]))) := Ch.put h4
      have nD : ∀ z ∈ [D], ¬ z ≠ D := fun z hz k => k (List.mem_singleton.mp hz)
      refine ⟨ys, h4, ?_, exD (e.trans e4) hD c4, ys ++ [y], upd_same, ?_⟩
      · rw [hy.len, List.length_map, List.length_take]
        omega
      · rw [take_next hxi, List.map_append]
        exact TDs.app ((hy.e e4).c c4 nD) (.one (td.c c4 nD))
  · rintro H ⟨e, ys, hx, hy⟩
    rw [hl, List.take_length] at hy
    exact hd H ys e hx hy
theorem next_table (T : Nat → Gr → Bool) (n : Nat) (g : Gr) (hg : g ∈ Uni) : T (n + 1) g = ((T n g && !decide (g ∈ (chT T (n + 1)).2)) || decide (g ∈ (chT T (n + 1)).1)) := by
  have e1 : decide (g ∈ (chT T (n + 1)).1) = (T (n + 1) g && !T n g) := by
    rw [Bool.eq_iff_iff, decide_eq_true_eq]
    unfold chT
    rw [mem_tb]
    exact ⟨fun h => h.2, fun h => ⟨hg, h⟩⟩
  have e2 : decide (g ∈ (chT T (n + 1)).2) = (T n g && !T (n + 1) g) := by
    rw [Bool.eq_iff_iff, decide_eq_true_eq]
    unfold chT
    rw [mem_tb]
    exact ⟨fun h => h.2, fun h => ⟨hg, h⟩⟩
  rw [e1, e2]
  cases T n g <;> cases T (n + 1) g <;> rfl
section
variable {P : Program} {w : World} {K : PySem.W.Frag} {mg : Str → Option Value} {base : Heap}
abbrev sp_rep_id (K : PySem.W.Frag) : Sp := fun vs H Q _ => ∃ T r ld n ks, vs = [.ref r] ∧ Rep K T H r ld n ks ∧ Q (.str "main") H
abbrev N_Replica_store_id : List Str := ["self"]
theorem sc_Replica_store_id : FnScope N_Replica_store_id ["self"] (defScope s_Replica_store_id) := ⟨rfl, rfl, rfl, by decide +kernel, rfl, by decide +kernel, by decide +kernel⟩
theorem ok_Replica_store_id (T : Tx w K mg base) : FnOk P w K mg base CX0 1 (a_Replica_store_id K) (fd_Replica_store_id K) ["self"] (sp_rep_id K) := by
  refine T.f_Replica_store_id.ok sc_Replica_store_id (fun vs H Q E h => ?_) (fun cdv A outer s H vs Q E hr h => ?_)
  · obtain ⟨T0, r, ld, n, ks, rfl, _⟩ := h
    rfl
  obtain ⟨T0, r, ld, n, ks, rfl, hR, k⟩ := h
  refine ⟨_, PSs.nox (pss_one (ps_ret (pe_fld (pv 0) rfl))), ?_⟩
  obtain ⟨dx, tl, ws, kvs, hr0, htl, tt, hld, hlt⟩ := hR
  wtm_at "go"
  exact k
abbrev sp_rep_rev (K : PySem.W.Frag) : Sp := fun vs H Q _ => ∃ T r ld n ks, vs = [.ref r] ∧ Rep K T H r ld n ks ∧ Q (.int n) H
abbrev N_Replica_revision : List Str := ["self"]
theorem sc_Replica_revision : FnScope N_Replica_revision ["self"] (defScope s_Replica_revision) := ⟨rfl, rfl, rfl, by decide +kernel, rfl, by decide +kernel, by decide +kernel⟩
theorem ok_Replica_revision (T : Tx w K mg base) : FnOk P w K mg base CX0 1 (a_Replica_revision K) (fd_Replica_revision K) ["self"] (sp_rep_rev K) := by
  refine T.f_Replica_revision.ok sc_Replica_revision (fun vs H Q E h => ?_) (fun cdv A outer s H vs Q E hr h => ?_)
  · obtain ⟨T0, r, ld, n, ks, rfl, _⟩ := h
    rfl
  obtain ⟨T0, r, ld, n, ks, rfl, hR, k⟩ := h
  refine ⟨_, PSs.nox (pss_one (ps_ret (pe_fld (pv 0) rfl))), ?_⟩
  obtain ⟨dx, tl, ws, kvs, hr0, htl, tt, hld, hlt⟩ := hR
  wtm_at "go"
  exact k
abbrev sp_rep_fits (K : PySem.W.Frag) : Sp := fun vs H Q _ => ∃ T r ld n ks v, vs = [.ref r, v] ∧ Tabs K H ∧ Rep K T H r ld n ks ∧ TD AnyL H v (chD (chT T (n + 1))) ∧ ∀ H', Ex H H' → Q (.bl true) H'
abbrev N_Replica_fits : List Str := ["self", "change"]
theorem sc_Replica_fits : FnScope N_Replica_fits ["self", "change"] (defScope s_Replica_fits) := ⟨rfl, rfl, rfl, by decide +kernel, rfl, by decide +kernel, by decide +kernel⟩
theorem ok_Replica_fits (T : Tx w K mg base) : FnOk P w K mg base CX0 4 (a_Replica_fits K) (fd_Replica_fits K) ["self", "change"] (sp_rep_fits K) := by
  refine T.f_Replica_fits.ok sc_Replica_fits (fun vs H Q E h => ?_) (fun cdv A outer s H vs Q E hr h => ?_)
  · obtain ⟨T0, r, ld, n, ks, v, rfl, _⟩ := h
    rfl
  obtain ⟨T0, r, ld, n, ks, v, rfl, tb_, hR, tc, k⟩ := h
  refine ⟨_, PSs.nox (pss_one (ps_ret (pe_and (pe_call (ok_applies T) (hr.mono (by decide)) rfl T.g_applies T.f_applies.kp T.b_applies .nil pass0 (pa_cons (pe_fld (pv 0) rfl) (pa_cons (pv 1) pa_nil))) (pe_one (pe_cmpR (op_le) (pe_op op_sub (pe_op op_add (pe_callB call_len_seq (by rfl) T.n_len (by decide +kernel) (pa_cons (pe_fld (pv 0) rfl) pa_nil)) (pe_callB call_len_seq (by rfl) T.n_len (by decide +kernel) (pa_cons (pe_ix ix_tup (pv 1) pe_int (fun _ _ => rfl)) pa_nil))) (pe_callB call_len_seq (by rfl) T.n_len (by decide +kernel) (pa_cons (pe_ix ix_tup (pv 1) pe_int (fun _ _ => rfl)) pa_nil))) (pe_gint T.i_MOST_GRANTS) (nomark _)))))), ?_⟩
  obtain ⟨dx, tl, ws, kvs, hr0, htl, tt, hld, hlt⟩ := hR
  wtm_at "go"
  refine ⟨tl, v, ws, _, _, rfl, tb_, htl, tt, tb_nodup _, tb_len _, tc, fun H1 e1 => ?_⟩
  rw [fits_next]
  obtain ⟨a, lg, wg, ll, wl, rfl, ha, hlg, _, tlg, hll, _, tll⟩ := (tc.e e1).ch_
  wtm_at "gob"
  have h1 : ws.length ≤ 27 := by rw [tt.len, List.length_map]; exact tb_len _
  have h2 : wg.length ≤ 27 := by rw [tlg.len, List.length_map]; exact tb_len (fun g => T0 (n + 1) g && !T0 n g)
  rw [decide_eq_true (by omega)]
  exact k _ e1
abbrev sp_rep_init (K : PySem.W.Frag) : Sp := fun vs H Q _ => ∃ (T : Nat → Gr → Bool) (r dx : Addr) (n : Nat) (v : V), vs = [.ref r, v] ∧ H r = some (.ins (He.ga K "Replica") dx []) ∧ TD AnyL H v (snD n (tb (T n))) ∧ ∀ ld H', Ch [r] H H' → H ld = none → Rep K T H' r ld n [] → Q .non H'
abbrev N_Replica_init : List Str := ["self", "snapshot", "grants"]
theorem sc_Replica_init : FnScope N_Replica_init ["self", "snapshot"] (defScope s_Replica_init) := ⟨rfl, rfl, rfl, by decide +kernel, rfl, by decide +kernel, by decide +kernel⟩
theorem ok_Replica_init (T : Tx w K mg base) : FnOk P w K mg base CX0 1 (a_Replica_init K) (fd_Replica_init K) ["self", "snapshot"] (sp_rep_init K) := by
  refine T.f_Replica_init.ok sc_Replica_init (fun vs H Q E h => ?_) (fun cdv A outer s H vs Q E hr h => ?_)
  · obtain ⟨T0, r, dx, n, v, rfl, _⟩ := h
    rfl
  obtain ⟨T0, r, dx, n, v, rfl, hr0, ts, k⟩ := h
  refine ⟨_, PSs.nox (pss_cons (ps_asg (pv 1) (pg_tup rfl (pgs_cons (pg_attr (pv 0)) (pgs_cons (pg_attr (pv 0)) (pgs_cons (pg_name (i := 2) sc_Replica_init.nd rfl (Or.inl rfl)) pgs_nil))))) (pss_cons (ps_fld (pv 0) (pe_callB (cr_sortedTS hr) (by rfl) T.n_sorted (by decide +kernel) (pa_cons (pv 2) pa_nil)) rfl) (pss_one (ps_fld (pv 0) pe_dnewK rfl)))), ?_⟩
  obtain ⟨a, l, ws, rfl, ha, hl, _, tg⟩ := ts.sn_
  have nl : l ≠ r := fun z => by rw [z, hr0] at hl; cases hl
  wtm_at "go"
  rename_i H1 e1 h1 H2 e2 h2
  have E2 := e1.trans e2
  refine gSortT (S := T0 n) (E2.at1 hl nl) (tg.p E2) (tb_nodup _) (fun g => mem_tb) fun p3 H3 ys e3 hp3 h3 t3 => ?_
  wtm_at "go"
  rename_i H4 e4 h4 ld H5 hld e5 h5 H6 e6 h6
  have n3 : p3 ≠ r := fun z => by rw [z, h2] at hp3; cases hp3
  have nd : ld ≠ r := fun z => by rw [z, h4] at hld; cases hld
  refine k ld H6 ((((E2.trans e3.wk).trans e4).trans e5.wk).trans e6) ?_ ⟨dx, p3, ys, [], h6, ?_, ?_, ?_, ⟨rfl, fun k v z => nomatch z⟩⟩
  · cases hq : H ld with
    | none => rfl
    | some o =>
      obtain ⟨o', q⟩ := (((E2.trans e3.wk).trans e4)).there ld o hq
      rw [hld] at q
      cases q
  · exact e6.at1 (e5.at (e4.at1 h3 n3)) n3
  · exact ((t3.p e4).e e5).p e6
  · exact e6.at1 h5 nd
abbrev sp_rep_check_entry (K : PySem.W.Frag) : Sp := fun vs H Q _ => ∃ (T : Nat → Gr → Bool) (r ld : Addr) (n : Nat) (ks : List Nat) (m : Nat) (v : V), vs = [.ref r, .int m, v] ∧ Tabs K H ∧ Rep K T H r ld n ks ∧ m ∉ ks ∧ m ≤ n + 40 ∧ TD AnyL H v (chD (chT T m)) ∧ ∀ H', Ex H H' → Q .non H'
abbrev N_Replica_check_entry : List Str := ["self", "number", "change"]
theorem sc_Replica_check_entry : FnScope N_Replica_check_entry ["self", "number", "change"] (defScope s_Replica_check_entry) := ⟨rfl, rfl, rfl, by decide +kernel, rfl, by decide +kernel, by decide +kernel⟩
theorem ok_Replica_check_entry (T : Tx w K mg base) : FnOk P w K mg base CX0 5 (a_Replica_check_entry K) (fd_Replica_check_entry K) ["self", "number", "change"] (sp_rep_check_entry K) := by
  refine T.f_Replica_check_entry.ok sc_Replica_check_entry (fun vs H Q E h => ?_) (fun cdv A outer s H vs Q E hr h => ?_)
  · obtain ⟨T0, r, ld, n, ks, m, v, rfl, _⟩ := h
    rfl
  obtain ⟨T0, r, ld, n, ks, m, v, rfl, tb_, hR, hm, hmn, tc, k⟩ := h
  refine ⟨_, PSs.nox (pss_cons (ps_if (pt_cmp (pc_din (hu_of hr) (pv 1) (pe_fld (pv 0) rfl))) pss_never pss_nil) (pss_cons (ps_if (pt_cmpR (op_gt) (pv 1) (pe_op op_add (pe_fld (pv 0) rfl) (pe_gint T.i_MOST_AHEAD)) (nomark _)) pss_never pss_nil) (pss_one (ps_if (PW.pt (pw_and (pt_cmpR (op_eq) (pv 1) (pe_op op_add (pe_fld (pv 0) rfl) pe_int) (nomark _)) (pw_and1 (pt_not (pt_val (pe_meth (pv 0) T.c_Replica T.m_Replica_fits (ok_Replica_fits T) (hr.mono (by decide)) T.b_Replica_fits .nil pass0 (pa_cons (pv 2) pa_nil))))))) pss_never pss_nil)))), ?_⟩
  have hR0 := hR
  obtain ⟨dx, tl, ws, kvs, hr0, htl, tt, hld, hlt⟩ := hR
  wtm_at "go"
  have hkn : valV kvs (key m) = none := by
    cases hq : valV kvs (key m) with
    | none => rfl
    | some v' =>
      exfalso
      have q : (kvs.map (·.1)).any (fun x => decide (x = key m)) = true := by
        rw [List.any_map]
        have z := valV_any (key m) kvs
        rw [hq] at z
        exact z
      rw [hlt.keys, List.any_map, List.any_eq_true] at q
      obtain ⟨x, hx, hq2⟩ := q
      have := key_inj (of_decide_eq_true hq2)
      subst this
      exact hm hx
  have dg := DGet.k (H := H) (k := key m) hld
  rw [hkn] at dg
  refine ⟨ld, none, rfl, dg, ?_⟩
  wtm_at "gob"
  refine blF (decide_eq_false (by omega)) ?_
  wtm_at "gob"
  refine ifd (fun h => ?_) (fun h => ?_)
  · have hm1 : m = n + 1 := by omega
    subst hm1
    wtm_at "go"
    refine ⟨T0, r, ld, n, ks, v, rfl, tb_, hR0, tc, fun H1 e1 => ?_⟩
    wtm_at "gob"
    exact k _ e1
  · wtm_at "gob"
    exact k _ (Ch.refl _ _)
abbrev sp_rep_tw (K : PySem.W.Frag) : Sp := fun vs H Q _ => ∃ (T : Nat → Gr → Bool) (r ld : Addr) (n : Nat) (ks : List Nat), vs = [.ref r] ∧ Tabs K H ∧ Rep K T H r ld n ks ∧
  ∀ H', Ch [r, ld] H H' → n ≤ (adv n ks).1 → Rep K T H' r ld (adv n ks).1 (adv n ks).2 → Q (.int ((adv n ks).1 - n : Nat)) H'
abbrev N_Replica_take_waiting : List Str := ["self", "applied", "change"]
theorem sc_Replica_take_waiting : FnScope N_Replica_take_waiting ["self"] (defScope s_Replica_take_waiting) := ⟨rfl, rfl, rfl, by decide +kernel, rfl, by decide +kernel, by decide +kernel⟩
theorem ok_Replica_take_waiting (T : Tx w K mg base) : FnOk P w K mg base CX0 5 (a_Replica_take_waiting K) (fd_Replica_take_waiting K) ["self"] (sp_rep_tw K) := by
  refine T.f_Replica_take_waiting.ok sc_Replica_take_waiting (fun vs H Q E h => ?_) (fun cdv A outer s H vs Q E hr h => ?_)
  · obtain ⟨T0, r, ld, n, ks, rfl, _⟩ := h
    rfl
  obtain ⟨T0, r, ld, n, ks, rfl, tb_, hR, k⟩ := h
  refine ⟨_, PSs.nox (pss_cons (ps_set (i := 1) sc_Replica_take_waiting.nd rfl (Or.inl rfl) pe_int) (pss_cons (ps_while PassesOwn.never (pt_cmp (pc_din (hu_of hr) (pe_op op_add (pe_fld (pv 0) rfl) pe_int) (pe_fld (pv 0) rfl))) (pss_cons (ps_set (i := 2) sc_Replica_take_waiting.nd rfl (Or.inl rfl) (pe_dpop1 (pe_fld (pv 0) rfl) (pe_op op_add (pe_fld (pv 0) rfl) pe_int) ⟨rfl, rfl, rfl, rfl⟩)) (pss_cons (ps_if (pt_not (pt_val (pe_meth (pv 0) T.c_Replica T.m_Replica_fits (ok_Replica_fits T) (hr.mono (by decide)) T.b_Replica_fits .nil pass0 (pa_cons (pv 2) pa_nil)))) (pss_one (ps_ret (pv 1))) pss_nil) (pss_cons (ps_fld (pv 0) (pe_call (ok_apply_change T) (hr.mono (by decide)) rfl T.g_apply_change T.f_apply_change.kp T.b_apply_change .nil pass0 (pa_cons (pe_fld (pv 0) rfl) (pa_cons (pv 2) pa_nil))) rfl) (pss_cons (ps_fld (pv 0) (pe_op op_add (pe_fld (pv 0) rfl) pe_int) rfl) (pss_one (ps_set (i := 1) sc_Replica_take_waiting.nd rfl (Or.inl rfl) (pe_op op_add (pv 1) pe_int)))))))) (pss_one (ps_ret (pv 1))))), ?_⟩
  wtm_at "go"
  refine ⟨fun m σ H1 => ∃ n1 ks1 x, m = ks1.length ∧ n ≤ n1 ∧ adv n1 ks1 = adv n ks ∧ Ch [r, ld] H H1 ∧ Rep K T0 H1 r ld n1 ks1 ∧ σ = [some (.ref r), some (.int (n1 - n : Nat)), x], ⟨ks.length, n, ks, _, rfl, Nat.le_refl _, rfl, Ch.refl _ _, hR, by rw [Nat.sub_self]; rfl⟩, ?_⟩
  rintro m σ H1 ⟨n1, ks1, x, rfl, hn1, hadv, e1, hR1, rfl⟩
  have hR1' := hR1
  obtain ⟨dx, tl, ws, kvs, hr0, htl, tt, hld, hlt⟩ := hR1
  wtm_at "go"
  have dg := DGet.k (H := H1) (k := key (n1 + 1)) hld
  refine ⟨ld, _, rfl, dg, _, rfl, ?_⟩
  have hsome := valV_key (k := n1 + 1) hlt.keys
  by_cases hin : n1 + 1 ∈ ks1
  · rw [decide_eq_true hin] at hsome
    refine blT hsome ?_
    obtain ⟨v, hv⟩ := Option.isSome_iff_exists.mp hsome
    have hf := filter_lt hin
    refine ⟨_, fun σ' H' q => ⟨(del (n1 + 1) ks1).length, hf, q⟩, ?_⟩
    have tc := hlt.vals _ _ hv
    wtm_at "go"
    refine ⟨.inl ⟨_, .inl hld⟩, ?_⟩
    wtm_at "go"
    refine ⟨kvs, key (n1 + 1), v, hld, rfl, hv, ?_⟩
    wtm_at "pu"
    rename_i H2 e2 h2
    have nrl : r ≠ ld := fun z => by rw [z, hld] at hr0; cases hr0
    have ntl : tl ≠ ld := fun z => by rw [z, hld] at htl; cases htl
    have hS : ∀ z ∈ [ld], ∀ xs, H1 z ≠ some (.lst xs) := fun z hz xs q => by
      rw [List.mem_singleton.mp hz, hld] at q
      cases q
    have tc2 := tc.keep e2 hS
    have hlt2 : LT T0 H2 (dropK kvs (key (n1 + 1))) (del (n1 + 1) ks1) := ⟨drop_keys hlt.keys, fun k v hv => (hlt.vals k v (drop_val hv)).keep e2 hS⟩
    have hr2 := e2.at1 hr0 nrl
    have htl2 := e2.at1 htl ntl
    have tb2 : Tabs K H2 := tabs_ (tabs_ tb_ e1) e2
    wtm_at "go"
    refine ⟨T0, r, ld, n1, _, v, rfl, tb2, ⟨dx, tl, ws, _, hr2, htl2, tt.p e2, h2, hlt2⟩, tc2, fun H3 e3 => ?_⟩
    wtm_at "go"
    refine ⟨tl, v, ws, T0 n1, chT T0 (n1 + 1), T0 (n1 + 1), rfl, tabs_ tb2 e3, e3.at htl2, (tt.p e2).e e3, tc2.e e3, fits_next T0 n1, (chT_ok T0 _).1, (chT_ok T0 _).2.1, (chT_ok T0 _).2.2.1, (chT_ok T0 _).2.2.2.1, next_table T0 n1, (chT_ok T0 _).2.2.2.2.1, fun p H4 ys e4 hp4 h4 t4 => ?_⟩
    wtm_at "go"
    rename_i H5 e5 h5 H6 e6 h6
    have E4 : Ex H2 H4 := e3.trans e4
    have hld4 := E4.at h2
    have nlr : ld ≠ r := Ne.symm nrl
    have n4 : p ≠ r := fun z => by rw [z, e3.at hr2] at hp4; cases hp4
    have E6 := e5.trans e6
    have hS6 : ∀ z ∈ [r], ∀ xs, H4 z ≠ some (.lst xs) := fun z hz xs q => by
      rw [List.mem_singleton.mp hz, E4.at hr2] at q
      cases q
    have C1 : Ch [r, ld] H1 H6 := ((e2.mono fun z hz => by simp at hz ⊢; exact .inr hz).trans E4.wk).trans (E6.mono fun z hz => by simp at hz ⊢; exact .inl hz)
    have hsub : (n1 + 1 - n : Nat) = n1 - n + 1 := by omega
    refine ⟨n1 + 1, del (n1 + 1) ks1, some v, rfl, by omega, ?_, e1.trans C1, ⟨dx, p, ys, _, h6, E6.at1 h4 n4, t4.p E6, E6.at1 hld4 nlr, ⟨hlt2.keys, fun k v hv => ((hlt2.vals k v hv).e E4).keep E6 hS6⟩⟩, ?_⟩
    · rw [← adv_yes hin]
      exact hadv
    · rw [hsub]
      rfl
  · rw [decide_eq_false hin] at hsome
    refine blF hsome ?_
    wtm_at "go"
    rw [adv_no hin] at hadv
    rw [← hadv] at k
    exact k _ e1 hn1 hR1'
def enT (T : Nat → Gr → Bool) (k : Nat) : En := (k, chT T k)
/-- what an entry does to a replica -/
def recv (n : Nat) (ks : List Nat) (k : Nat) : Nat × List Nat := if k ≤ n ∨ k ∈ ks then (n, ks) else adv n (ks ++ [k])
abbrev sp_rep_receive (K : PySem.W.Frag) : Sp := fun vs H Q _ => ∃ (T : Nat → Gr → Bool) (r ld : Addr) (n : Nat) (ks : List Nat) (k : Nat) (v : V), vs = [.ref r, v] ∧ Tabs K H ∧ Rep K T H r ld n ks ∧ TD AnyL H v (enD (enT T k)) ∧ k ≤ n + 40 ∧ ks.length ≤ 100 ∧
  ∀ H', Ch [r, ld] H H' → n ≤ (recv n ks k).1 → Rep K T H' r ld (recv n ks k).1 (recv n ks k).2 → Q (.int ((recv n ks k).1 - n : Nat)) H'
abbrev N_Replica_receive : List Str := ["self", "entry", "name", "number", "gained", "lost", "change"]
theorem sc_Replica_receive : FnScope N_Replica_receive ["self", "entry"] (defScope s_Replica_receive) := ⟨rfl, rfl, rfl, by decide +kernel, rfl, by decide +kernel, by decide +kernel⟩
theorem ok_Replica_receive (T : Tx w K mg base) : FnOk P w K mg base CX0 6 (a_Replica_receive K) (fd_Replica_receive K) ["self", "entry"] (sp_rep_receive K) := by
  refine T.f_Replica_receive.ok sc_Replica_receive (fun vs H Q E h => ?_) (fun cdv A outer s H vs Q E hr h => ?_)
  · obtain ⟨T0, r, ld, n, ks, m, v, rfl, _⟩ := h
    rfl
  obtain ⟨T0, r, ld, n, ks, m, v, rfl, tb_, hR, te, hm, hkl, k⟩ := h
  refine ⟨_, PSs.nox (pss_cons (ps_asg (pv 1) (pg_tup rfl (pgs_cons (pg_name (i := 2) sc_Replica_receive.nd rfl (Or.inl rfl)) (pgs_cons (pg_name (i := 3) sc_Replica_receive.nd rfl (Or.inl rfl)) (pgs_cons (pg_name (i := 4) sc_Replica_receive.nd rfl (Or.inl rfl)) (pgs_cons (pg_name (i := 5) sc_Replica_receive.nd rfl (Or.inl rfl)) pgs_nil)))))) (pss_cons (ps_set (i := 6) sc_Replica_receive.nd rfl (Or.inl rfl) (pe_tup (pa_cons (pe_callTy call_list_of (by rfl) T.n_list (by decide +kernel) (pa_cons (pv 4) pa_nil)) (pa_cons (pe_callTy call_list_of (by rfl) T.n_list (by decide +kernel) (pa_cons (pv 5) pa_nil)) pa_nil)))) (pss_cons (ps_if (pt_cmpR (op_ne) (pv 2) (pe_fld (pv 0) rfl) (nomark _)) pss_never pss_nil) (pss_cons (ps_if (PW.pt (pw_or (pt_cmpR (op_le) (pv 3) (pe_fld (pv 0) rfl) (nomark _)) (pw_or1 (pt_cmpR (op_eqD (Nat.lt_of_succ_lt (hu_w hr))) (pe_dget1 (hu_of hr) (pe_fld (pv 0) rfl) (pv 3) ⟨rfl, rfl, rfl, rfl⟩) (pv 6) (nomark _))))) (pss_one (ps_ret pe_int)) pss_nil) (pss_cons (ps_expr (pe_meth (pv 0) T.c_Replica T.m_Replica_check_entry (ok_Replica_check_entry T) (hr.mono (by decide)) T.b_Replica_check_entry .nil pass0 (pa_cons (pv 3) (pa_cons (pv 6) pa_nil)))) (pss_cons (ps_dput (hu_of hr) (pe_fld (pv 0) rfl) (pv 3) (pv 6) rfl) (pss_one (ps_ret (pe_meth0 (pv 0) T.c_Replica T.m_Replica_take_waiting (ok_Replica_take_waiting T) (hr.mono (by decide)) T.b_Replica_take_waiting .nil pass0))))))))), ?_⟩
  have hR0 := hR
  obtain ⟨dx, tl, ws, kvs, hr0, htl, tt, hld, hlt⟩ := hR
  obtain ⟨a, lg, wg, ll, wl, rfl, ha, hlg, _, tg, hll, _, tl'⟩ := te.en_
  wtm_at "gob"
  rename_i q1 hq1 H1 e1 h1 q2 hq2 H2 e2 h2 q3 hq3 H3 e3 h3
  have E3 : Ex H H3 := (e1.trans e2).trans e3
  have tc : TD AnyL H3 (.ref q3) (chD (chT T0 m)) := TD.chm h3 (e3.at (e2.at h1)) trivial (tg.e E3) (e3.at h2) trivial (tl'.e E3)
  have hR3 := hR0.ex E3
  have dg := DGet.k (H := H3) (k := key m) (E3.at hld)
  have hsome := valV_key (k := m) hlt.keys
  refine ifd (fun h => ?_) (fun h => ?_)
  · have h : m ≤ n := by have h : (m : Int) ≤ n := h; omega
    wtm_at "gob"
    have er : recv n ks m = (n, ks) := if_pos (.inl h)
    rw [er, Nat.sub_self] at k
    exact k _ E3.wk (Nat.le_refl _) hR3
  · have h : ¬ m ≤ n := by have h : ¬ (m : Int) ≤ n := h; omega
    wtm_at "gob"
    have fc : SeqAt.shaped (chD (chT T0 m)) = true := (fine_ch (chT_ok T0 m).2.2.2.2.1 (chT_ok T0 m).2.2.2.2.2).shaped (by decide)
    refine ⟨.inl ⟨_, .inl (E3.at hld)⟩, ?_⟩
    wtm_at "gob"
    refine ⟨_, dg, ?_⟩
    wtm_at "gob"
    by_cases hin : m ∈ ks
    · rw [decide_eq_true hin] at hsome
      obtain ⟨v, hv⟩ := Option.isSome_iff_exists.mp hsome
      rw [hv]
      refine ⟨_, _, ((hlt.vals m v hv).e E3).dp, tc.dp, fc, fc, ?_⟩
      rw [eqv_ch]
      wtm_at "gob"
      have er : recv n ks m = (n, ks) := if_pos (.inr hin)
      rw [er, Nat.sub_self] at k
      exact k _ E3.wk (Nat.le_refl _) hR3
    · rw [decide_eq_false hin] at hsome
      have hv : valV kvs (key m) = none := by
        cases q : valV kvs (key m) with
        | none => rfl
        | some v => rw [q] at hsome; cases hsome
      rw [hv]
      have en : PyData.eqv .none (chD (chT T0 m)) = false := by simp [PyData.eqv, chD]
      refine ⟨.none, _, .non, tc.dp, fine_none.shaped (by decide), fc, ?_⟩
      rw [en]
      wtm_at "gob"
      refine ⟨T0, r, ld, n, ks, m, _, rfl, tabs_ tb_ E3, hR3, hin, hm, tc, fun H4 e4 => ?_⟩
      wtm_at "gob"
      have E4 : Ex H H4 := E3.trans e4
      refine ⟨ld, _, rfl, DPut.k (k := key m) (E4.at hld) ?_, ?_⟩
      · have q := congrArg List.length hlt.keys
        rw [List.length_map, List.length_map] at q
        rw [q]
        exact Nat.lt_of_le_of_lt hkl (by decide)
      · have nrl : r ≠ ld := fun z => by rw [z, hld] at hr0; cases hr0
        have ntl : tl ≠ ld := fun z => by rw [z, hld] at htl; cases htl
        have hS : ∀ z ∈ [ld], ∀ xs, H4 z ≠ some (.lst xs) := fun z hz xs q => by
          rw [List.mem_singleton.mp hz, E4.at hld] at q
          cases q
        generalize hH : upd H4 ld (.dK (putK kvs (key m) (.ref q3))) = H5
        obtain ⟨e5, h5⟩ := chO (E4.at hld) (by trivial) hH
        clear hH
        have hr5 := e5.at1 (E4.at hr0) nrl
        wtm_at "gob"
        have hk5 : (putK kvs (key m) (V.ref q3)).map (·.1) = (ks ++ [m]).map key := by
          rw [putK_new _ hv, List.map_append, hlt.keys, List.map_append]
          rfl
        refine ⟨T0, r, ld, n, ks ++ [m], rfl, tabs_ (tabs_ tb_ E4) e5, ⟨dx, tl, ws, _, e5.at1 (E4.at hr0) nrl, e5.at1 (E4.at htl) ntl, (tt.e E4).p e5, h5, hk5, fun k v hv' => ?_⟩, fun H6 e6 hn6 hR6 => ?_⟩
        · rw [valV_put] at hv'
          by_cases ek : key k = key m
          · rw [if_pos ek] at hv'
            cases hv'
            rw [key_inj ek]
            exact (tc.e e4).keep e5 hS
          · rw [if_neg ek] at hv'
            exact ((hlt.vals k v hv').e E4).keep e5 hS
        · have er : recv n ks m = adv n (ks ++ [m]) := if_neg (fun z => z.elim h hin)
          rw [er] at k
          exact k _ ((E4.wk.trans (e5.mono fun z hz => by simp at hz ⊢; exact .inr hz)).trans e6) hn6 hR6
abbrev sp_rep_waiting (K : PySem.W.Frag) : Sp := fun vs H Q _ => ∃ (T : Nat → Gr → Bool) (r ld : Addr) (n : Nat) (ks : List Nat), vs = [.ref r] ∧ Rep K T H r ld n ks ∧ ks.length ≤ 50 ∧
  ∀ p H' (ms : List Nat), Ex H H' → H p = none → ms.Perm ks → ms.Pairwise (· ≤ ·) → H' p = some (.lst (ms.map fun k => V.int (k : Nat))) → Q (.ref p) H'
abbrev N_Replica_waiting : List Str := ["self"]
theorem sc_Replica_waiting : FnScope N_Replica_waiting ["self"] (defScope s_Replica_waiting) := ⟨rfl, rfl, rfl, by decide +kernel, rfl, by decide +kernel, by decide +kernel⟩
theorem ok_Replica_waiting (T : Tx w K mg base) : FnOk P w K mg base CX0 1 (a_Replica_waiting K) (fd_Replica_waiting K) ["self"] (sp_rep_waiting K) := by
  refine T.f_Replica_waiting.ok sc_Replica_waiting (fun vs H Q E h => ?_) (fun cdv A outer s H vs Q E hr h => ?_)
  · obtain ⟨T0, r, ld, n, ks, rfl, _⟩ := h
    rfl
  obtain ⟨T0, r, ld, n, ks, rfl, hR, hkl, k⟩ := h
  refine ⟨_, PSs.nox (pss_one (ps_ret (pe_callB (call_sortedDI rfl) (by rfl) T.n_sorted (by decide +kernel) (pa_cons (pe_fld (pv 0) rfl) pa_nil)))), ?_⟩
  obtain ⟨dx, tl, ws, kvs, hr0, htl, tt, hld, hlt⟩ := hR
  wtm_at "go"
  have ek : kvs.map (·.1) = (ks.map fun k => ((k : Nat) : Int)).map Sum.inl := by
    rw [hlt.keys, List.map_map]
    rfl
  refine ⟨ld, kvs, ks.map fun k => ((k : Nat) : Int), rfl, .inl hld, ek, by rw [List.length_map]; omega, fun ys p hp hs hq => ?_⟩
  obtain ⟨ms, hms, hso, rfl⟩ := nats_of hp hs
  refine k p _ ms (Ex.new hq) hq hms hso ?_
  rw [upd_same, List.map_map]
  rfl
end


theorem tok_split : ∀ n : Fin 101, splitTok (tokOf "main" n.val) = some (some (("main" : Str), n.val)) ∧ tokOf "main" n.val ≠ "" := by decide +kernel
theorem gCatT {K : PySem.W.Frag} {H : Hp} {Q : VK} {a b : Addr} {xs ys : List V} (ha : H a = some (.tup xs)) (hb : H b = some (.tup ys)) (nx : xs ≠ []) (ny : ys ≠ []) (hl : xs.length + ys.length ≤ sizeLine)
    (q : ∀ p H2, H p = none → Ex H H2 → H2 p = some (.tup (xs ++ ys)) → Q (.ref p) H2) : rCatA K (.ref a) (.ref b) H Q :=
  ⟨a, b, xs, ys, rfl, rfl, sqT_ ha, sqT_ hb, hl, fun z => absurd z nx, fun _ z => absurd z ny, fun _ _ p hp => q p _ hp (Ex.new hp) upd_same⟩
section
variable {P : Program} {w : World} {K : PySem.W.Frag} {mg : Str → Option Value} {base : Heap}
abbrev sp_rep_wes (K : PySem.W.Frag) : Sp := fun vs H Q _ => ∃ (T : Nat → Gr → Bool) (r ld : Addr) (n : Nat) (ks : List Nat), vs = [.ref r] ∧ Rep K T H r ld n ks ∧ ks.length ≤ 50 ∧
  ∀ v H' (ms : List Nat), Ex H H' → ms.Perm ks → ms.Pairwise (· ≤ ·) → TD AnyL H' v (.list (ms.map fun k => enD (enT T k))) → Q v H'
abbrev N_Replica_waiting_entries : List Str := ["self", "number"]
theorem sc_Replica_waiting_entries : FnScope N_Replica_waiting_entries ["self"] (defScope s_Replica_waiting_entries) := ⟨rfl, rfl, rfl, by decide +kernel, rfl, by decide +kernel, by decide +kernel⟩
theorem ok_Replica_waiting_entries (T : Tx w K mg base) : FnOk P w K mg base CX0 1 (a_Replica_waiting_entries K) (fd_Replica_waiting_entries K) ["self"] (sp_rep_wes K) := by
  refine T.f_Replica_waiting_entries.ok sc_Replica_waiting_entries (fun vs H Q E h => ?_) (fun cdv A outer s H vs Q E hr h => ?_)
  · obtain ⟨T0, r, ld, n, ks, rfl, _⟩ := h
    rfl
  obtain ⟨T0, r, ld, n, ks, rfl, hR, hkl, k⟩ := h
  refine ⟨_, PSs.nox (pss_one (ps_ret (pe_lc (own := [("number", 1)]) rfl sc_Replica_waiting_entries.nd (pi_list (pe_callB (call_sortedDI rfl) (by rfl) T.n_sorted (by decide +kernel) (pa_cons (pe_fld (pv 0) rfl) pa_nil))) (blkOk_by (own := [("number", 1)]) (N := N_Replica_waiting_entries) (sc := defScope s_Replica_waiting_entries) (by decide +kernel)) (fun _ _ _ _ _ => (pg_name (i := 1) sc_Replica_waiting_entries.nd rfl (Or.inl rfl))) (fun _ _ _ _ _ => pts_nil) (fun _ _ _ _ _ => (pe_op (op_catAK (K := K) rfl) (pe_tup (pa_cons (pe_fldK (K := K) rfl (pv 0) rfl) (pa_cons (pv 1) pa_nil))) (pe_dget (hu_of hr) (pe_fldK (K := K) rfl (pv 0) rfl) (pv 1) (fun _ _ => rfl))))))), ?_⟩
  obtain ⟨dx, tl, ws, kvs, hr0, htl, tt, hld, hlt⟩ := hR
  have ek : kvs.map (·.1) = (ks.map fun k => ((k : Nat) : Int)).map Sum.inl := by
    rw [hlt.keys, List.map_map]
    rfl
  wtm_at "go"
  refine gLc ?_
  wtm_at "go"
  refine ⟨ld, kvs, ks.map fun k => ((k : Nat) : Int), rfl, .inl hld, ek, by rw [List.length_map]; omega, fun ys p hp hs hq => ?_⟩
  obtain ⟨ms, hms, hso, rfl⟩ := nats_of hp hs
  generalize hH : upd H p _ = H1
  obtain ⟨e1, h1⟩ := exO hq hH
  clear hH
  have ti : TDs NoL H1 ((ms.map fun k => ((k : Nat) : Int)).map V.int) (ms.map fun k => PyData.int ((k : Nat) : Int)) := by
    have z := TDs.ints (A := NoL) (H := H1) (ms.map fun k => ((k : Nat) : Int))
    rw [List.map_map (g := PyData.int)] at z
    exact z
  refine ⟨p, rfl, ⟨_, sqL_ h1⟩, fun D hD => lcB walk_list ti ?_ hD (fun H' e => sqL_ (e.at h1)) (fun k => enD (enT T0 k)) (fun i m v H2 P P0 hx tv e2 kk => ?_) (fun H' ys e h t => ?_)⟩
  · rw [List.length_map, List.length_map, hms.length_eq]
    exact sl_big (by omega)
  · obtain rfl := tv.int_
    wtm_at "go"
    refine ⟨rfl, ?_⟩
    wtm_at "go"
    rename_i q2 hq2 H3 e3 h3
    have E3 : Ex H H3 := (e1.trans e2).trans e3
    have hmk : m ∈ ks := hms.mem_iff.mp (List.mem_of_getElem? hx)
    have hsome := valV_key (k := m) hlt.keys
    rw [decide_eq_true hmk] at hsome
    obtain ⟨v, hv⟩ := Option.isSome_iff_exists.mp hsome
    have dg := DGet.k (H := H3) (k := key m) (E3.at hld)
    rw [hv] at dg
    refine ⟨ld, v, rfl, dg, ?_⟩
    have tc := hlt.vals m v hv
    obtain ⟨a, lg, wg, ll, wl, rfl, ha, hlg, _, tg, hll, _, tl'⟩ := tc.ch_
    have nD : ∀ {b : Addr} {xs : List V}, H b = some (.lst xs) → b ≠ D := fun {b xs} h z => by
      rw [z, (e1.free hD)] at h
      cases h
    refine gCatT h3 (E3.at ha) (by simp) (by simp) (Nat.le_of_ble_eq_true rfl) fun q4 H4 hq4 e4 h4 => ?_
    have E4 : Ex H H4 := E3.trans e4
    exact kk _ _ (e3.trans e4) (TD.en (e := enT T0 m) h4 (E4.at hlg) (nD hlg) (tg.e E4) (E4.at hll) (nD hll) (tl'.e E4))
  · exact k _ _ ms (e1.trans e) hms hso (.lst h trivial (t.w fun _ _ => trivial))
abbrev sp_rep_check (K : PySem.W.Frag) : Sp := fun vs H Q _ => ∃ (T : Nat → Gr → Bool) (r ld : Addr) (n : Nat) (ks : List Nat) (g : Gr), vs = [.ref r, .str g.1, .str g.2.1, .str g.2.2, .str (tokOf "main" n)] ∧ Tabs K H ∧ Rep K T H r ld n ks ∧ n ≤ 100 ∧ g ∈ Uni ∧
  ∀ p H', Ex H H' → H p = none → H' p = some (.tup [.bl (T n g), .str (tokOf "main" n)]) → Q (.ref p) H'
abbrev N_Replica_check : List Str := ["self", "target", "name", "subject", "at_least", "store", "number"]
theorem sc_Replica_check : FnScope N_Replica_check ["self", "target", "name", "subject", "at_least"] (defScope s_Replica_check) := ⟨rfl, rfl, rfl, by decide +kernel, rfl, by decide +kernel, by decide +kernel⟩
theorem ok_Replica_check (T : Tx w K mg base) : FnOk P w K mg base CX0 7 (a_Replica_check K) (fd_Replica_check K) ["self", "target", "name", "subject", "at_least"] (sp_rep_check K) := by
  refine T.f_Replica_check.ok sc_Replica_check (fun vs H Q E h => ?_) (fun cdv A outer s H vs Q E hr h => ?_)
  · obtain ⟨T0, r, ld, n, ks, g, rfl, _⟩ := h
    rfl
  obtain ⟨T0, r, ld, n, ks, g, rfl, tb_, hR, hn, hg, k⟩ := h
  refine ⟨_, PSs.nox (pss_cons (ps_if (pt_cmpR (op_ne) (pv 4) pe_str (nomark _)) (pss_cons (ps_asg (pe_call (ok_split_token T) (hr.mono (by decide)) rfl T.g_split_token T.f_split_token.kp T.b_split_token .nil pass0 (pa_cons (pv 4) pa_nil)) (pg_tup rfl (pgs_cons (pg_name (i := 5) sc_Replica_check.nd rfl (Or.inl rfl)) (pgs_cons (pg_name (i := 6) sc_Replica_check.nd rfl (Or.inl rfl)) pgs_nil)))) (pss_cons (ps_if (pt_cmpR (op_ne) (pv 5) (pe_fld (pv 0) rfl) (nomark _)) pss_never pss_nil) (pss_one (ps_if (pt_cmpR (op_gt) (pv 6) (pe_fld (pv 0) rfl) (nomark _)) pss_never pss_nil)))) pss_nil) (pss_one (ps_ret (pe_tup (pa_cons (pe_cmpR (op_inD (hu_w hr)) (pe_tup (pa_cons (pv 1) (pa_cons (pv 2) (pa_cons (pv 3) pa_nil)))) (pe_fld (pv 0) rfl) (by rfl)) (pa_cons (pe_call (ok_token_of T) (hr.mono (by decide)) rfl T.g_token_of T.f_token_of.kp T.b_token_of .nil pass0 (pa_cons (pe_fld (pv 0) rfl) (pa_cons (pe_fld (pv 0) rfl) pa_nil))) pa_nil)))))), ?_⟩
  obtain ⟨dx, tl, ws, kvs, hr0, htl, tt, hld, hlt⟩ := hR
  obtain ⟨hts, htn⟩ := tok_split ⟨n, by omega⟩
  have htl' : (tokOf "main" n).length ≤ 1005 := tok_len (by decide) (by omega)
  wtm_at "gob"
  refine blT (by rw [decide_eq_false htn]; rfl) ?_
  wtm_at "gob"
  refine ⟨sl_big (by omega), fun z => (nomatch z), fun s m z q H1 e1 hq h1 => ?_⟩
  cases z
  wtm_at "gob"
  refine blF (decide_eq_false (by omega)) ?_
  wtm_at "gob"
  rename_i q2 hq2 H2 e2 h2
  have E2 : Ex H H2 := e1.trans e2
  refine gInG (g := g) h2 (E2.at htl) (tt.e E2) (fine_g hg) (fun x hx => fine_g (mem_tb.mp hx).1) ?_
  have eT : decide (g ∈ tb (T0 n)) = T0 n g := by
    rw [Bool.eq_iff_iff, decide_eq_true_eq, mem_tb]
    exact ⟨fun h => h.2, fun h => ⟨hg, h⟩⟩
  rw [eT]
  wtm_at "gob"
  refine ⟨by omega, ?_⟩
  wtm_at "gob"
  rename_i p hp H3 e3 h3
  exact k p H3 (E2.trans e3) (E2.free hp) h3
end
end Z
set_option Elab.async false
set_option linter.all false
set_option maxRecDepth 100000
set_option maxHeartbeats 4000000
namespace Z
open PySem PySem.Spec PyProof.Rows L2

local macro_rules | `(tactic| wtm_at "ex") => `(tactic| first | assumption | exact Ch.refl _ _ | (refine Ch.trans ?_ (by assumption); wtm_at "ex"))
local macro_rules | `(tactic| wtm_at "no") => `(tactic| first | assumption | (refine Ch.free (S := []) (p := _) ?_ (by assumption); wtm_at "ex"))
local macro_rules | `(tactic| wtm_at "tr") => `(tactic| first | assumption | (with_reducible refine tabs_ (S := []) (by assumption) ?_; wtm_at "ex") | (with_reducible refine atT_ (S := []) (by assumption) ?_; wtm_at "ex") | (with_reducible refine atL_ (by assumption) ?_; wtm_at "ex") | (with_reducible refine atN_ (by assumption) ?_; wtm_at "ex") | (with_reducible refine atK_ (by assumption) ?_; wtm_at "ex") | (with_reducible refine atD_ (by assumption) ?_; wtm_at "ex") | (with_reducible refine atF_ (by assumption) ?_; wtm_at "ex") | (with_reducible refine TD.e (by assumption) ?_; wtm_at "ex") | (with_reducible refine TDs.e (by assumption) ?_; wtm_at "ex") | wtm_at "ex")
local macro_rules | `(tactic| wtm_at "nw") => `(tactic| (intro p hp; generalize hH : upd _ p _ = H2; have e := exO hp hH; have ⟨e1, e2⟩ := e; clear e hH))
local macro_rules | `(tactic| wtm_at "mk") => `(tactic| (intro x dx hx hd hn; generalize hH : upd (upd _ dx _) x _ = H2; have e := exO2 hx hd hn hH; have ⟨e1, e2⟩ := e; clear e hH))
local macro_rules | `(tactic| wtm_at "pu") => `(tactic| (generalize hH : upd _ _ _ = H2; have e := chO (by wtm_at "tr") (by trivial) hH; have ⟨e1, e2⟩ := e; clear e hH))
local macro_rules | `(tactic| wtm_at "cl") => `(tactic| first | exact Tx.c_Replica (by assumption) | exact Tx.c_Follower (by assumption) | exact Tx.c_Line (by assumption) | exact Tx.c_Graph (by assumption) | exact Tx.c_Revision (by assumption) | exact Tx.c_Primary (by assumption))
local macro_rules | `(tactic| wtm_at "na") => `(tactic| first | exact Tx.n_Replica_name (by assumption) | exact Tx.n_Replica_number (by assumption) | exact Tx.n_Replica_table (by assumption) | exact Tx.n_Replica_later (by assumption) | exact Tx.n_Follower_replica (by assumption) | exact Tx.n_Line_number (by assumption) | exact Tx.n_Line_parts (by assumption) | exact Tx.n_Line_at (by assumption) | exact Tx.n_Graph_schema (by assumption) | exact Tx.n_Graph_strata (by assumption) | exact Tx.n_Graph_subjects (by assumption) | exact Tx.n_Graph_objects (by assumption) | exact Tx.n_Graph_people (by assumption) | exact Tx.n_Revision_schema (by assumption) | exact Tx.n_Revision_relationships (by assumption) | exact Tx.n_Revision_table (by assumption) | exact Tx.n_Primary_name (by assumption) | exact Tx.n_Primary_first (by assumption) | exact Tx.n_Primary_revisions (by assumption))
local macro_rules | `(tactic| wtm_at "gex") => `(tactic| (with_reducible refine ⟨_, _, _, _, rfl, ?_⟩))
local macro_rules | `(tactic| wtm_at "gex") => `(tactic| (with_reducible refine ⟨_, _, _, rfl, ?_⟩))
local macro_rules | `(tactic| wtm_at "gex") => `(tactic| (with_reducible refine ⟨_, _, rfl, ?_⟩))
local macro_rules | `(tactic| wtm_at "gex") => `(tactic| (with_reducible refine ⟨_, _, rfl, rfl, ?_⟩))
local macro_rules | `(tactic| wtm_at "gex") => `(tactic| (with_reducible refine ⟨_, rfl, ?_⟩))
local macro_rules | `(tactic| wtm_at "gex") => `(tactic| (with_reducible refine ⟨_, _, _, rfl, by wtm_at "tr", by with_unfolding_all rfl, ?_⟩))
local macro_rules | `(tactic| wtm_at "gex") => `(tactic| ((with_reducible refine ⟨_, _, _, _, rfl, by wtm_at "tr", by wtm_at "cl", by wtm_at "na", by with_unfolding_all exact Nat.le_of_ble_eq_true rfl, ?_⟩); wtm_at "pu"))
local macro_rules | `(tactic| wtm_at "gex") => `(tactic| (with_reducible refine ⟨_, _, _, _, _, rfl, by wtm_at "tr", by wtm_at "cl", by wtm_at "na", by with_unfolding_all rfl, ?_⟩))
local macro_rules | `(tactic| wtm_at "gex") => `(tactic| (with_reducible refine ⟨_, _, rfl, by assumption, by assumption, ?_⟩))
local macro_rules | `(tactic| wtm_at "gex") => `(tactic| (with_reducible refine ⟨_, rfl, ⟨_, sqT_ (by wtm_at "tr")⟩, ?_⟩))
local macro_rules | `(tactic| wtm_at "gex") => `(tactic| (with_reducible refine ⟨_, rfl, ⟨_, sqL_ (by wtm_at "tr")⟩, ?_⟩))
local macro_rules | `(tactic| wtm_at "gex") => `(tactic| (with_reducible refine ⟨_, _, rfl, sqL_ (by wtm_at "tr"), ?_⟩))
local macro_rules | `(tactic| wtm_at "gex") => `(tactic| (with_reducible refine ⟨_, truL (by wtm_at "tr"), ?_⟩))
local macro_rules | `(tactic| wtm_at "gex") => `(tactic| (with_reducible refine ⟨_, _, rfl, sqOrT (by wtm_at "tr"), ?_⟩))
local macro_rules | `(tactic| wtm_at "gex") => `(tactic| (with_reducible refine ⟨_, _, rfl, sqOrL (by wtm_at "tr"), ?_⟩))
local macro_rules | `(tactic| wtm_at "gan") => `(tactic| (with_reducible refine And.intro (by wtm_at "tr") ?_))
local macro_rules | `(tactic| wtm_at "gan") => `(tactic| (with_reducible refine And.intro (by (with_unfolding_all decide)) ?_))
local macro_rules | `(tactic| wtm_at "gan") => `(tactic| (with_reducible refine And.intro (len_le (by with_unfolding_all rfl)) ?_))
local macro_rules | `(tactic| wtm_at "gan") => `(tactic| (with_reducible refine And.intro (tyL (by wtm_at "tr")) ?_))
local macro_rules | `(tactic| wtm_at "gan") => `(tactic| (with_reducible refine ⟨⟨_, rfl⟩, ?_⟩))
local macro_rules | `(tactic| wtm_at "gal") => `(tactic| wtm_at "mk")
local macro_rules | `(tactic| wtm_at "gal") => `(tactic| wtm_at "nw")
local macro_rules | `(tactic| wtm_at "gal") => `(tactic| (with_reducible refine exV (fun p H' e h1 => ?_)))
local macro_rules | `(tactic| wtm_at "gal") => `(tactic| (with_reducible refine exT (fun p H' e h0 h1 => ?_)))
local macro_rules | `(tactic| wtm_at "gal") => `(tactic| (with_reducible refine exI (fun H' e => ?_)))
local macro_rules | `(tactic| wtm_at "gre") => `(tactic| (with_reducible refine gTQ ?_))
local macro_rules | `(tactic| wtm_at "gre") => `(tactic| (with_reducible refine gInT (by wtm_at "tr") (by with_unfolding_all rfl) (by with_unfolding_all rfl) ?_))
local macro_rules | `(tactic| wtm_at "gre") => `(tactic| (with_reducible refine gNotInT (by wtm_at "tr") (by with_unfolding_all rfl) (by with_unfolding_all rfl) ?_))
local macro_rules | `(tactic| wtm_at "gre") => `(tactic| (with_reducible refine gDNewT (fun p H2 hp e h => ?_)))
local macro_rules | `(tactic| wtm_at "gre") => `(tactic| (with_reducible refine gDNewK (fun p H2 hp e h => ?_)))
local macro_rules | `(tactic| wtm_at "gre") => `(tactic| (with_reducible refine gDPop1 ?_))
local macro_rules | `(tactic| wtm_at "gre") => `(tactic| (with_reducible refine gDPut ?_))
local macro_rules | `(tactic| wtm_at "gre") => `(tactic| (with_reducible refine gDGet_ ?_))
local macro_rules | `(tactic| wtm_at "gre") => `(tactic| (with_reducible refine gDGet2 ?_))
local macro_rules | `(tactic| wtm_at "gre") => `(tactic| (with_reducible refine gDGet1 ?_))
local macro_rules | `(tactic| wtm_at "gre") => `(tactic| (with_reducible refine gDNotIn ?_))
local macro_rules | `(tactic| wtm_at "gre") => `(tactic| (with_reducible refine gDIn ?_))
local macro_rules | `(tactic| wtm_at "gre") => `(tactic| (with_reducible refine gAttr_ ?_))
local macro_rules | `(tactic| wtm_at "gre") => `(tactic| (with_reducible refine gSlL (by wtm_at "tr") (fun q H2 hq e h => ?_)))
local macro_rules | `(tactic| wtm_at "gre") => `(tactic| (with_reducible refine gPartition rfl (by wtm_at "tr") (fun p H2 hp e h => ?_)))
local macro_rules | `(tactic| wtm_at "gre") => `(tactic| (with_reducible refine gTgT (by wtm_at "tr") (by with_unfolding_all rfl) ?_))
local macro_rules | `(tactic| wtm_at "gre") => `(tactic| (with_reducible refine gIxL (by wtm_at "tr") (by with_unfolding_all rfl) ?_))
local macro_rules | `(tactic| wtm_at "gre") => `(tactic| (with_reducible refine gIxT (by wtm_at "tr") (by with_unfolding_all rfl) ?_))
local macro_rules | `(tactic| wtm_at "gor") => `(tactic| (with_reducible refine Or.inr ⟨_, rfl, ?_⟩))
local macro_rules | `(tactic| wtm_at "gor") => `(tactic| (with_reducible refine Or.inl ⟨_, rfl, ?_⟩))
local macro_rules | `(tactic| wtm_at "go1") => `(tactic| wtm_at "mk")
local macro_rules | `(tactic| wtm_at "go1") => `(tactic| wtm_at "nw")
local macro_rules | `(tactic| wtm_at "go1") => `(tactic| ((with_reducible refine isOr ?_); wtm_at "gor"))
local macro_rules | `(tactic| wtm_at "go1") => `(tactic| wtm_at "gre")
local macro_rules | `(tactic| wtm_at "go1") => `(tactic| ((with_reducible refine isAll ?_); wtm_at "gal"))
local macro_rules | `(tactic| wtm_at "go1") => `(tactic| ((with_reducible refine isAnd ?_); wtm_at "gan"))
local macro_rules | `(tactic| wtm_at "go1") => `(tactic| ((with_reducible refine isEx ?_); wtm_at "gex"))
local macro_rules | `(tactic| wtm_at "go1") => `(tactic| with_reducible refine gVar rfl ?_)
local macro_rules | `(tactic| wtm_at "go1") => `(tactic| with_reducible refine Stp.go ?_)
local macro_rules | `(tactic| wtm_at "go") => `(tactic| repeat (first | wtm_at "go1" | (with_reducible dsimp only) | (dsimp only [cxK, List.cons_append, List.nil_append, List.append_nil])))
local macro_rules | `(tactic| wtm_at "gob") => `(tactic| repeat (first | wtm_at "go1" | (with_reducible dsimp only) | (dsimp only [cxK, List.cons_append, List.nil_append, List.append_nil]) | (refine blT (by decide) ?_) | (refine blF (by decide) ?_) | (refine blF (by rfl) ?_) | (refine blT (by rfl) ?_)))
local macro_rules | `(tactic| wtm_at "gos") => `(tactic| repeat' (first | wtm_at "go1" | (with_reducible dsimp only) | (dsimp only [cxK, List.cons_append, List.nil_append, List.append_nil]) | (with_reducible refine ifd (fun _ => ?_) (fun _ => ?_)) | (with_reducible refine ifb (fun _ => ?_) (fun _ => ?_))))

/-! ### requests, as texts -/
def numS (k : Nat) : Str := toString (k : Int)
def waitT (ms : List Nat) : Str := Txt.join "," (ms.map numS)
def wantT (n : Nat) : Str := Str.empty ++ "want " ++ "main" ++ " " ++ numS n
def reqText (n : Nat) (ms : List Nat) : Str := if ms = [] then wantT n else wantT n ++ " without " ++ waitT ms
def reqParts (n : Nat) (ms : List Nat) : List Str := if ms = [] then ["want", "main", numS n] else ["want", "main", numS n, "without", waitT ms]
theorem num_facts : ∀ k : Fin 101, 44 ∉ TL.tl (numS k.val) ∧ 32 ∉ TL.tl (numS k.val) ∧ (numS k.val).length ≤ 4 ∧ splitTok ("x@" ++ numS k.val) = some (some (("x" : Str), k.val)) ∧ splitTok ("main@" ++ numS k.val) = some (some (("main" : Str), k.val)) ∧
  splitTok ("main" ++ "@" ++ numS k.val) = some (some (("main" : Str), k.val)) ∧ numS k.val ≠ "" := by decide +kernel
theorem mem_joinL {S : List Nat} {c : Nat} : ∀ {ls : List (List Nat)}, c ∈ TL.joinL S ls → c ∈ S ∨ ∃ l ∈ ls, c ∈ l
  | [], h => by cases h
  | [p], h => .inr ⟨p, List.mem_cons_self, h⟩
  | p :: q :: r, h => by
    rw [TL.joinL, List.mem_append, List.mem_append] at h
    rcases h with h | h | h
    · exact .inr ⟨p, List.mem_cons_self, h⟩
    · exact .inl h
    · rcases mem_joinL h with h | ⟨l, hl, h⟩
      · exact .inl h
      · exact .inr ⟨l, List.mem_cons_of_mem _ hl, h⟩
theorem joinL_len1 {S : List Nat} (hS : S.length = 1) {c : Nat} : ∀ {ls : List (List Nat)}, (∀ l ∈ ls, l.length ≤ c) → (TL.joinL S ls).length ≤ ls.length * (c + 1)
  | [], _ => by simp [TL.joinL]
  | [p], h => by
    have := h p List.mem_cons_self
    simp [TL.joinL]
    omega
  | p :: q :: r, h => by
    have h1 := h p List.mem_cons_self
    have h2 := joinL_len1 hS (ls := q :: r) fun l hl => h l (List.mem_cons_of_mem _ hl)
    rw [TL.joinL, List.length_append, List.length_append, List.length_cons (a := p), Nat.add_mul, hS]
    simp only [List.length_cons] at h2 ⊢
    omega
theorem nums_le {ms : List Nat} (hm : ∀ m ∈ ms, m ≤ 100) : ∀ y ∈ ms.map numS, y.length ≤ 4 := fun y hy => by
  obtain ⟨m, h, rfl⟩ := List.mem_map.mp hy
  exact (num_facts ⟨m, by have := hm m h; omega⟩).2.2.1
theorem waitT_len {ms : List Nat} (hm : ∀ m ∈ ms, m ≤ 100) (hl : ms.length ≤ 50) : (waitT ms).length ≤ 250 := by
  have e : TL.tl ("," : Str) = [44] := rfl
  unfold waitT
  rw [TL.join_eq, TL.len_tl, TL.tl_join, e]
  refine Nat.le_trans (joinL_len1 rfl (c := 4) fun l h => ?_) ?_
  · obtain ⟨y, hy, rfl⟩ := List.mem_map.mp h
    rw [← TL.len_tl]
    exact nums_le hm y hy
  · simp only [List.length_map]
    omega
theorem waitT_split {ms : List Nat} (hm : ∀ m ∈ ms, m ≤ 100) (hne : ms ≠ []) : Txt.split (waitT ms) "," = ms.map numS := by
  refine TL.split_join (s := 44) (S := []) rfl (by decide +kernel) (by simpa using hne) fun p hp => ?_
  obtain ⟨m, h, rfl⟩ := List.mem_map.mp hp
  exact (num_facts ⟨m, by have := hm m h; omega⟩).1
theorem waitT_no {ms : List Nat} (hm : ∀ m ∈ ms, m ≤ 100) : 32 ∉ TL.tl (waitT ms) := fun h => by
  have e : TL.tl ("," : Str) = [44] := rfl
  unfold waitT at h
  rw [TL.join_eq, TL.tl_join, e] at h
  rcases mem_joinL h with h | ⟨l, hl, h⟩
  · revert h
    decide
  · obtain ⟨y, hy, rfl⟩ := List.mem_map.mp hl
    obtain ⟨m, q, rfl⟩ := List.mem_map.mp hy
    exact (num_facts ⟨m, by have := hm m q; omega⟩).2.1 h
theorem waitT_ne {ms : List Nat} (hm : ∀ m ∈ ms, m ≤ 100) (hne : ms ≠ []) : waitT ms ≠ "" := fun z => by
  have h := waitT_split hm hne
  rw [z] at h
  have e0 : Txt.split ("" : Str) "," = ([""] : List Str) := by decide +kernel
  rw [e0] at h
  cases ms with
  | nil => exact hne rfl
  | cons m r =>
    rw [List.map_cons] at h
    exact (num_facts ⟨m, by have := hm m List.mem_cons_self; omega⟩).2.2.2.2.2.2 (List.cons.inj h).1.symm
theorem req_join (n : Nat) (ms : List Nat) : reqText n ms = Txt.join " " (reqParts n ms) := by
  refine TL.ext_tl ?_
  unfold reqText reqParts
  rw [TL.join_eq, TL.tl_join]
  by_cases h : ms = []
  · rw [if_pos h, if_pos h]
    simp only [wantT, TL.tl_append, List.map_cons, List.map_nil, TL.joinL]
    have e1 : TL.tl Str.empty = [] := rfl
    have e2 : TL.tl ("want " : Str) = TL.tl ("want" : Str) ++ TL.tl (" " : Str) := by decide
    rw [e1, e2]
    simp
  · rw [if_neg h, if_neg h]
    simp only [wantT, TL.tl_append, List.map_cons, List.map_nil, TL.joinL]
    have e1 : TL.tl Str.empty = [] := rfl
    have e2 : TL.tl ("want " : Str) = TL.tl ("want" : Str) ++ TL.tl (" " : Str) := by decide
    have e3 : TL.tl (" without " : Str) = TL.tl (" " : Str) ++ (TL.tl ("without" : Str) ++ TL.tl (" " : Str)) := by decide
    rw [e1, e2, e3]
    simp
theorem req_split {n : Nat} {ms : List Nat} (hn : n ≤ 100) (hm : ∀ m ∈ ms, m ≤ 100) : Txt.split (reqText n ms) " " = reqParts n ms := by
  rw [req_join]
  have h0 := (num_facts ⟨n, by omega⟩).2.1
  refine TL.split_join (s := 32) (S := []) rfl (by decide +kernel) ?_ fun p hp => ?_
  · unfold reqParts
    split <;> simp
  · unfold reqParts at hp
    have h1 : 32 ∉ TL.tl ("want" : Str) := by decide
    have h2 : 32 ∉ TL.tl ("main" : Str) := by decide
    have h3 : 32 ∉ TL.tl ("without" : Str) := by decide
    split at hp
    · simp only [List.mem_cons, List.not_mem_nil, or_false] at hp
      rcases hp with rfl | rfl | rfl <;> assumption
    · simp only [List.mem_cons, List.not_mem_nil, or_false] at hp
      rcases hp with rfl | rfl | rfl | rfl | rfl
      · assumption
      · assumption
      · assumption
      · assumption
      · exact waitT_no hm
theorem want_len {n : Nat} (hn : n ≤ 100) : (wantT n).length ≤ 20 := by
  have h := (num_facts ⟨n, by omega⟩).2.2.1
  have h : (numS n).length ≤ 4 := h
  unfold wantT
  have e0 : Str.empty.length = 0 := rfl
  have e1 : ("want " : Str).length = 5 := rfl
  have e2 : ("main" : Str).length = 4 := rfl
  have e3 : (" " : Str).length = 1 := rfl
  rw [str_len, str_len, str_len, str_len, e0, e1, e2, e3]
  omega
theorem req_len {n : Nat} {ms : List Nat} (hn : n ≤ 100) (hm : ∀ m ∈ ms, m ≤ 100) (hl : ms.length ≤ 50) : (reqText n ms).length ≤ 300 := by
  have h1 := want_len hn
  have h2 := waitT_len hm hl
  unfold reqText
  have e1 : (" without " : Str).length = 9 := rfl
  split
  · omega
  · rw [str_len, str_len, e1]
    omega
section
variable {P : Program} {w : World} {K : PySem.W.Frag} {mg : Str → Option Value} {base : Heap}
/-! ### links.py -/
abbrev intsV (ms : List Nat) : List V := ms.map fun m => V.int (m : Nat)
abbrev sp_revisions_of (K : PySem.W.Frag) : Sp := fun vs H Q _ => ∃ ms : List Nat, vs = [.str (waitT ms)] ∧ Tabs K H ∧ ms ≠ [] ∧ (∀ m ∈ ms, m ≤ 100) ∧ ms.Pairwise (· < ·) ∧ ms.length ≤ 50 ∧ ∀ p H', Ex H H' → H p = none → H' p = some (.lst (intsV ms)) → Q (.ref p) H'
abbrev N_revisions_of : List Str := ["text", "found", "word", "pair"]
theorem sc_revisions_of : FnScope N_revisions_of ["text"] (defScope s_revisions_of) := ⟨rfl, rfl, rfl, by decide +kernel, rfl, by decide +kernel, by decide +kernel⟩
theorem ok_revisions_of (T : Tx w K mg base) : FnOk P w K mg base CX0 7 (a_revisions_of K) (fd_revisions_of K) ["text"] (sp_revisions_of K) := by
  refine T.f_revisions_of.ok sc_revisions_of (fun vs H Q E h => ?_) (fun cdv A outer s H vs Q E hr h => ?_)
  · obtain ⟨ms, rfl, _⟩ := h
    rfl
  obtain ⟨ms, rfl, tb_, hne, hm, hs, hl, k⟩ := h
  refine ⟨_, PSs.nox (pss_cons (ps_set (i := 1) sc_revisions_of.nd rfl (Or.inl rfl) (pe_lst pa_nil)) (pss_cons (ps_for PassesOwn.never rfl (pi_list (pe_split (pv 0) pe_str)) (pg_name (i := 2) sc_revisions_of.nd rfl (Or.inl rfl)) (pss_cons (ps_set (i := 3) sc_revisions_of.nd rfl (Or.inl rfl) (pe_call (ok_split_token T) (hr.mono (by decide)) rfl T.g_split_token T.f_split_token.kp T.b_split_token .nil pass0 (pa_cons (pe_op op_add_str pe_str (pv 2)) pa_nil))) (pss_cons (ps_if (PW.pt (pw_or (pt_cmpR (op_isN1) (pv 3) pe_non (nomark _)) (pw_or1 (PW.pt (pw_and (pt_truth (pv 1) (by intro _; rfl)) (pw_and1 (pt_cmpR (op_le) (pe_ix ix_tup (pv 3) pe_int (fun _ _ => rfl)) (pe_ix ix_list (pv 1) (pe_un un_neg pe_int) (fun _ _ => rfl)) (nomark _)))))))) (pss_one (ps_ret pe_non)) pss_nil) (pss_one (ps_expr (pe_bm PySem.F.plainAttrs_list PySem.F.slot_list_append PySem.F.type_list_append mt_append (pv 1) (pa_cons (pe_ix ix_tup (pv 3) pe_int (fun _ _ => rfl)) pa_nil))))))) (pss_one (ps_ret (pv 1))))), ?_⟩
  have hsp := waitT_split hm hne
  have hlen := waitT_len hm hl
  wtm_at "go"
  rename_i L hL H1 e1 h1
  refine ⟨Nat.le_trans (Nat.add_le_add_right hlen 2) (by decide), ?_⟩
  rw [hsp]
  wtm_at "go"
  rename_i p hp H2 e2 h2
  have hpL : p ≠ L := fun z => by rw [z, h1] at hp; cases hp
  have tl : TDs NoL H2 ((ms.map numS).map V.str) (ms.map fun m => PyData.str (numS m)) := by
    have z := TDs.strs (A := NoL) (H := H2) (ms.map numS)
    rw [List.map_map (g := PyData.str)] at z
    exact z
  refine forA walk_list tl (fun d σ H' => Ex H H' ∧ H' L = some (.lst (intsV d)) ∧ H' p = some (.lst ((ms.map numS).map V.str)) ∧ ∃ x2 x3, σ = [some (.str (waitT ms)), some (.ref L), x2, x3]) ?_ ?_ ?_ ?_
  · exact ⟨e1.trans e2, e2.at h1, h2, _, _, rfl⟩
  · exact fun d σ H' h => sqL_ h.2.2.1
  · rintro d m r v σ H3 ed tv ⟨eH, hL3, hp3, x2, x3, rfl⟩
    obtain rfl := tv.str_
    have hmm := hm m (by rw [ed]; simp)
    obtain ⟨f1, f2, f3, f4, f5⟩ := num_facts ⟨m, by omega⟩
    have f3 : (numS m).length ≤ 4 := f3
    have e0 : ("x@" : Str).length = 2 := rfl
    have hlx : ("x@" ++ numS m).length ≤ 6 := by rw [str_len, e0]; omega
    wtm_at "go"
    refine ⟨sl_big (by omega), ?_⟩
    wtm_at "go"
    refine ⟨_, _, rfl, f4, tabs_ tb_ eH, sl_big (by omega), fun z => (nomatch z), fun s m' z q H4 e4 hq h4 => ?_⟩
    cases z
    wtm_at "gob"
    have hL4 := e4.at hL3
    have fin : ∀ H5, Ch [L] H4 H5 → H5 L = some (.lst (intsV d ++ [.int m])) → Ex H H5 ∧ H5 L = some (.lst (intsV (d ++ [m]))) ∧ H5 p = some (.lst ((ms.map numS).map V.str)) := fun H5 e5 h5 => by
      refine ⟨exD (eH.trans e4) hL e5, ?_, e5.at1 (e4.at hp3) hpL⟩
      rw [h5, intsV, intsV, List.map_append]
      rfl
    have hdl : (intsV d).length < sizeLine := by
      rw [List.length_map]
      have : d.length ≤ ms.length := by rw [ed]; simp
      exact Nat.lt_of_le_of_lt (Nat.le_trans this hl) (by decide)
    rcases List.eq_nil_or_concat d with rfl | ⟨d', y, rfl⟩
    · wtm_at "gob"
      refine gApp hL4 hdl fun H5 e5 h5 => ?_
      wtm_at "gob"
      exact ⟨(fin H5 e5 h5).1, (fin H5 e5 h5).2.1, (fin H5 e5 h5).2.2, _, _, rfl⟩
    · rw [List.concat_eq_append] at *
      have ei : intsV (d' ++ [y]) = intsV d' ++ [.int y] := by rw [intsV, List.map_append]; rfl
      rw [ei] at hL4 hdl
      rw [ei]
      refine blT (by simp) ?_
      wtm_at "gob"
      refine gIxL hL4 atI_last ?_
      wtm_at "gob"
      have hlt : y < m := by
        rw [ed] at hs
        exact (List.pairwise_append.mp hs).2.2 y (by simp) m (by simp)
      refine blF (decide_eq_false (by omega)) ?_
      wtm_at "gob"
      refine gApp hL4 hdl fun H5 e5 h5 => ?_
      wtm_at "gob"
      rw [← ei] at h5
      exact ⟨(fin H5 e5 h5).1, (fin H5 e5 h5).2.1, (fin H5 e5 h5).2.2, _, _, rfl⟩
  · rintro σ H3 ⟨eH, hL3, hp3, x2, x3, rfl⟩
    wtm_at "go"
    exact k L H3 eH hL hL3
abbrev sp_read_request (K : PySem.W.Frag) : Sp := fun vs H Q _ => ∃ (n : Nat) (ms : List Nat), vs = [.str (reqText n ms)] ∧ Tabs K H ∧ n ≤ 100 ∧ (∀ m ∈ ms, m ≤ 100) ∧ ms.Pairwise (· < ·) ∧ ms.length ≤ 50 ∧
  ∀ p l H', Ex H H' → H p = none → H l = none → H' l = some (.lst (intsV ms)) → H' p = some (.tup [.str "main", .int n, .ref l]) → Q (.ref p) H'
abbrev N_read_request : List Str := ["text", "parts", "waiting", "pair"]
theorem sc_read_request : FnScope N_read_request ["text"] (defScope s_read_request) := ⟨rfl, rfl, rfl, by decide +kernel, rfl, by decide +kernel, by decide +kernel⟩
theorem ok_read_request (T : Tx w K mg base) : FnOk P w K mg base CX0 8 (a_read_request K) (fd_read_request K) ["text"] (sp_read_request K) := by
  refine T.f_read_request.ok sc_read_request (fun vs H Q E h => ?_) (fun cdv A outer s H vs Q E hr h => ?_)
  · obtain ⟨n, ms, rfl, _⟩ := h
    rfl
  obtain ⟨n, ms, rfl, tb_, hn, hm, hs, hl, k⟩ := h
  refine ⟨_, PSs.nox (pss_cons (ps_set (i := 1) sc_read_request.nd rfl (Or.inl rfl) (pe_split (pv 0) pe_str)) (pss_cons (ps_set (i := 2) sc_read_request.nd rfl (Or.inl rfl) (pe_lst pa_nil)) (pss_cons (ps_if (PW.pt (pw_and (pt_cmpR (op_eq) (pe_callB call_len_seq (by rfl) T.n_len (by decide +kernel) (pa_cons (pv 1) pa_nil)) pe_int (nomark _)) (pw_and1 (pt_cmpR (op_eq) (pe_ix ix_list (pv 1) pe_int (fun _ _ => rfl)) pe_str (nomark _))))) (pss_one (ps_set (i := 2) sc_read_request.nd rfl (Or.inl rfl) (pe_call (ok_revisions_of T) (hr.mono (by decide)) rfl T.g_revisions_of T.f_revisions_of.kp T.b_revisions_of .nil pass0 (pa_cons (pe_ix ix_list (pv 1) pe_int (fun _ _ => rfl)) pa_nil)))) pss_nil) (pss_cons (ps_if (PW.pt (pw_or (pt_cmpR (op_notIn_seq) (pe_callB call_len_seq (by rfl) T.n_len (by decide +kernel) (pa_cons (pv 1) pa_nil)) (pe_tup (pa_cons pe_int (pa_cons pe_int pa_nil))) (by rfl)) (pw_or (pt_cmpR (op_ne) (pe_ix ix_list (pv 1) pe_int (fun _ _ => rfl)) pe_str (nomark _)) (pw_or (pt_not (pt_val (pe_call (ok_is_identifier T) (hr.mono (by decide)) rfl T.g_is_identifier T.f_is_identifier.kp T.b_is_identifier .nil pass0 (pa_cons (pe_ix ix_list (pv 1) pe_int (fun _ _ => rfl)) pa_nil)))) (pw_or1 (pt_cmpR (op_isN1) (pv 2) pe_non (nomark _))))))) pss_never pss_nil) (pss_cons (ps_set (i := 3) sc_read_request.nd rfl (Or.inl rfl) (pe_call (ok_split_token T) (hr.mono (by decide)) rfl T.g_split_token T.f_split_token.kp T.b_split_token .nil pass0 (pa_cons (pe_op op_add_str (pe_op op_add_str (pe_ix ix_list (pv 1) pe_int (fun _ _ => rfl)) pe_str) (pe_ix ix_list (pv 1) pe_int (fun _ _ => rfl))) pa_nil))) (pss_cons (ps_if (PW.pt (pw_or (pt_cmpR (op_isN1) (pv 3) pe_non (nomark _)) (pw_or1 (PW.pt (pw_and (pt_cmpR (op_eq) (pe_callB call_len_seq (by rfl) T.n_len (by decide +kernel) (pa_cons (pv 1) pa_nil)) pe_int (nomark _)) (pw_and1 (pt_not (pt_truth (pv 2) (by intro _; rfl))))))))) pss_never pss_nil) (pss_one (ps_ret (pe_tup (pa_cons (pe_ix ix_tup (pv 3) pe_int (fun _ _ => rfl)) (pa_cons (pe_ix ix_tup (pv 3) pe_int (fun _ _ => rfl)) (pa_cons (pv 2) pa_nil)))))))))))), ?_⟩
  have hsp := req_split hn hm
  have hlen := req_len hn hm hl
  obtain ⟨f1, f2, f3, f4, f5, f6, f7⟩ := num_facts ⟨n, by omega⟩
  have f3 : (numS n).length ≤ 4 := f3
  have e0 : ("main" : Str).length = 4 := rfl
  have e1' : ("@" : Str).length = 1 := rfl
  have hl1 : ("main" ++ "@" : Str).length ≤ 5 := by rw [str_len, e0, e1']; omega
  have hl2 : ("main" ++ "@" ++ numS n : Str).length ≤ 9 := by rw [str_len, str_len, e0, e1']; omega
  wtm_at "go"
  refine ⟨Nat.le_trans (Nat.add_le_add_right hlen 2) (by decide), ?_⟩
  rw [hsp]
  by_cases hne : ms = []
  · subst hne
    have er : reqParts n [] = ([("want" : Str), "main", numS n] : List Str) := if_pos rfl
    rw [er]
    wtm_at "gob"
    refine ⟨sl_big (by omega), ?_⟩
    wtm_at "gob"
    refine ⟨_, _, rfl, f6, by wtm_at "tr", sl_big (by omega), fun z => (nomatch z), fun s m' z q H4 e4 hq h4 => ?_⟩
    cases z
    wtm_at "gob"
    refine k _ _ _ ?_ ?_ ?_ ?_ (by assumption)
    · wtm_at "ex"
    · wtm_at "no"
    · wtm_at "no"
    · show _ = some (HO.lst [])
      wtm_at "tr"
  · have er : reqParts n ms = ([("want" : Str), "main", numS n, "without", waitT ms] : List Str) := if_neg hne
    rw [er]
    have hwl : (waitT ms).length ≤ 250 := waitT_len hm hl
    wtm_at "gob"
    refine ⟨sl_big (by omega), ?_⟩
    wtm_at "gob"
    refine ⟨_, _, rfl, f6, by wtm_at "tr", sl_big (by omega), fun z => (nomatch z), fun s m' z q H4 e4 hq h4 => ?_⟩
    cases z
    wtm_at "gob"
    refine blF (by cases ms with | nil => exact absurd rfl hne | cons _ _ => rfl) ?_
    wtm_at "gob"
    refine k _ _ _ ?_ ?_ ?_ ?_ (by assumption)
    · wtm_at "ex"
    · wtm_at "no"
    · wtm_at "no"
    · wtm_at "tr"
end


/-! ### followers -/
def Fol (K : PySem.W.Frag) (T : Nat → Gr → Bool) (H : Hp) (f r ld : Addr) (n : Nat) (ks : List Nat) : Prop := ∃ dx, H f = some (.ins (He.ga K "Follower") dx [("replica", .ref r)]) ∧ Rep K T H r ld n ks
theorem Fol.ex {K : PySem.W.Frag} {T : Nat → Gr → Bool} {H H' : Hp} {f r ld : Addr} {n : Nat} {ks : List Nat} (h : Fol K T H f r ld n ks) (e : Ex H H') : Fol K T H' f r ld n ks := by
  obtain ⟨dx, h1, h2⟩ := h
  exact ⟨dx, e.at h1, h2.ex e⟩
section
variable {P : Program} {w : World} {K : PySem.W.Frag} {mg : Str → Option Value} {base : Heap}
abbrev sp_fol_init (K : PySem.W.Frag) : Sp := fun vs H Q _ => ∃ (T : Nat → Gr → Bool) (f dx : Addr) (n : Nat) (v : V), vs = [.ref f, v] ∧ H f = some (.ins (He.ga K "Follower") dx []) ∧ TD AnyL H v (snD n (tb (T n))) ∧ ∀ r ld H', Ch [f] H H' → H r = none → H ld = none → Fol K T H' f r ld n [] → Q .non H'
abbrev N_Follower_init : List Str := ["self", "snapshot"]
theorem sc_Follower_init : FnScope N_Follower_init ["self", "snapshot"] (defScope s_Follower_init) := ⟨rfl, rfl, rfl, by decide +kernel, rfl, by decide +kernel, by decide +kernel⟩
theorem ok_Follower_init (T : Tx w K mg base) : FnOk P w K mg base CX0 3 (a_Follower_init K) (fd_Follower_init K) ["self", "snapshot"] (sp_fol_init K) := by
  refine T.f_Follower_init.ok sc_Follower_init (fun vs H Q E h => ?_) (fun cdv A outer s H vs Q E hr h => ?_)
  · obtain ⟨T0, f, dx, n, v, rfl, _⟩ := h
    rfl
  obtain ⟨T0, f, dx, n, v, rfl, hf, ts, k⟩ := h
  refine ⟨_, PSs.nox (pss_one (ps_fld (pv 0) (pe_make T.k_Replica (ok_Replica_init T) (hr.mono (by decide)) rfl T.g_Replica T.b_Replica_init .nil pass0 (pa_cons (pv 1) pa_nil)) rfl)), ?_⟩
  wtm_at "go"
  rename_i r dr hr0 hdr hne H1 e1 h1
  refine ⟨T0, r, dr, n, v, rfl, h1, ts.e e1, fun ld H2 e2 hld hR => ?_⟩
  have E2 : Ex H H2 := exD e1 hr0 e2
  have hf2 := E2.at hf
  have nrf : r ≠ f := fun z => by rw [z, hf] at hr0; cases hr0
  wtm_at "go"
  rename_i H3 e3 h3
  have hR3 : Rep K T0 H3 r ld n [] := by
    obtain ⟨dx', tl, ws, kvs, hr2, htl, tt, hld2, hlt⟩ := hR
    have n1 : tl ≠ f := fun z => by rw [z, hf2] at htl; cases htl
    have n2 : ld ≠ f := fun z => by rw [z, hf2] at hld2; cases hld2
    exact ⟨dx', tl, ws, kvs, e3.at1 hr2 nrf, e3.at1 htl n1, tt.p e3, e3.at1 hld2 n2, hlt.keys, fun k v hv => (hlt.vals k v hv).keep e3 fun x hx xs q => by
      rw [List.mem_singleton.mp hx, hf2] at q
      cases q⟩
  exact k r ld H3 (E2.wk.trans e3) hr0 (e1.free hld) ⟨dx, h3, hR3⟩
abbrev sp_fol_id (K : PySem.W.Frag) : Sp := fun vs H Q _ => ∃ T f r ld n ks, vs = [.ref f] ∧ Fol K T H f r ld n ks ∧ Q (.str "main") H
abbrev N_Follower_store_id : List Str := ["self"]
theorem sc_Follower_store_id : FnScope N_Follower_store_id ["self"] (defScope s_Follower_store_id) := ⟨rfl, rfl, rfl, by decide +kernel, rfl, by decide +kernel, by decide +kernel⟩
theorem ok_Follower_store_id (T : Tx w K mg base) : FnOk P w K mg base CX0 2 (a_Follower_store_id K) (fd_Follower_store_id K) ["self"] (sp_fol_id K) := by
  refine T.f_Follower_store_id.ok sc_Follower_store_id (fun vs H Q E h => ?_) (fun cdv A outer s H vs Q E hr h => ?_)
  · obtain ⟨T0, f, r, ld, n, ks, rfl, _⟩ := h
    rfl
  obtain ⟨T0, f, r, ld, n, ks, rfl, hF, k⟩ := h
  refine ⟨_, PSs.nox (pss_one (ps_ret (pe_meth0 (pe_fld (pv 0) rfl) T.c_Replica T.m_Replica_store_id (ok_Replica_store_id T) (hr.mono (by decide)) T.b_Replica_store_id .nil pass0))), ?_⟩
  obtain ⟨dx, hf, hR⟩ := hF
  have hR0 := hR
  obtain ⟨dx', tl, ws, kvs, hr0, htl, tt, hld, hlt⟩ := hR
  wtm_at "go"
  exact ⟨T0, r, ld, n, ks, rfl, hR0, k⟩
abbrev sp_fol_rev (K : PySem.W.Frag) : Sp := fun vs H Q _ => ∃ T f r ld n ks, vs = [.ref f] ∧ Fol K T H f r ld n ks ∧ Q (.int n) H
abbrev N_Follower_revision : List Str := ["self"]
theorem sc_Follower_revision : FnScope N_Follower_revision ["self"] (defScope s_Follower_revision) := ⟨rfl, rfl, rfl, by decide +kernel, rfl, by decide +kernel, by decide +kernel⟩
theorem ok_Follower_revision (T : Tx w K mg base) : FnOk P w K mg base CX0 2 (a_Follower_revision K) (fd_Follower_revision K) ["self"] (sp_fol_rev K) := by
  refine T.f_Follower_revision.ok sc_Follower_revision (fun vs H Q E h => ?_) (fun cdv A outer s H vs Q E hr h => ?_)
  · obtain ⟨T0, f, r, ld, n, ks, rfl, _⟩ := h
    rfl
  obtain ⟨T0, f, r, ld, n, ks, rfl, hF, k⟩ := h
  refine ⟨_, PSs.nox (pss_one (ps_ret (pe_meth0 (pe_fld (pv 0) rfl) T.c_Replica T.m_Replica_revision (ok_Replica_revision T) (hr.mono (by decide)) T.b_Replica_revision .nil pass0))), ?_⟩
  obtain ⟨dx, hf, hR⟩ := hF
  have hR0 := hR
  obtain ⟨dx', tl, ws, kvs, hr0, htl, tt, hld, hlt⟩ := hR
  wtm_at "go"
  exact ⟨T0, r, ld, n, ks, rfl, hR0, k⟩
abbrev sp_fol_check (K : PySem.W.Frag) : Sp := fun vs H Q _ => ∃ (T : Nat → Gr → Bool) (f r ld : Addr) (n : Nat) (ks : List Nat) (g : Gr), vs = [.ref f, .str g.1, .str g.2.1, .str g.2.2, .str (tokOf "main" n)] ∧ Tabs K H ∧ Fol K T H f r ld n ks ∧ n ≤ 100 ∧ g ∈ Uni ∧
  ∀ p H', Ex H H' → H p = none → H' p = some (.tup [.bl (T n g), .str (tokOf "main" n)]) → Q (.ref p) H'
abbrev N_Follower_check : List Str := ["self", "target", "name", "subject", "at_least"]
theorem sc_Follower_check : FnScope N_Follower_check ["self", "target", "name", "subject", "at_least"] (defScope s_Follower_check) := ⟨rfl, rfl, rfl, by decide +kernel, rfl, by decide +kernel, by decide +kernel⟩
theorem ok_Follower_check (T : Tx w K mg base) : FnOk P w K mg base CX0 8 (a_Follower_check K) (fd_Follower_check K) ["self", "target", "name", "subject", "at_least"] (sp_fol_check K) := by
  refine T.f_Follower_check.ok sc_Follower_check (fun vs H Q E h => ?_) (fun cdv A outer s H vs Q E hr h => ?_)
  · obtain ⟨T0, f, r, ld, n, ks, g, rfl, _⟩ := h
    rfl
  obtain ⟨T0, f, r, ld, n, ks, g, rfl, tb_, hF, hn, hg, k⟩ := h
  refine ⟨_, PSs.nox (pss_one (ps_ret (pe_meth (pe_fld (pv 0) rfl) T.c_Replica T.m_Replica_check (ok_Replica_check T) (hr.mono (by decide)) T.b_Replica_check .nil pass0 (pa_cons (pv 1) (pa_cons (pv 2) (pa_cons (pv 3) (pa_cons (pv 4) pa_nil))))))), ?_⟩
  obtain ⟨dx, hf, hR⟩ := hF
  have hR0 := hR
  obtain ⟨dx', tl, ws, kvs, hr0, htl, tt, hld, hlt⟩ := hR
  wtm_at "go"
  exact ⟨T0, r, ld, n, ks, g, rfl, tb_, hR0, hn, hg, k⟩
abbrev sp_fol_ask (K : PySem.W.Frag) : Sp := fun vs H Q _ => ∃ (T : Nat → Gr → Bool) (f r ld : Addr) (n : Nat) (ks : List Nat), vs = [.ref f] ∧ Tabs K H ∧ Fol K T H f r ld n ks ∧ n ≤ 100 ∧ ks.length ≤ 50 ∧ (∀ k ∈ ks, k ≤ 100) ∧ ks.Nodup ∧
  ∀ (ms : List Nat) H', Ex H H' → ms.Perm ks → ms.Pairwise (· < ·) → Q (.str (reqText n ms)) H'
abbrev N_Follower_ask : List Str := ["self", "waiting", "request", "number"]
theorem sc_Follower_ask : FnScope N_Follower_ask ["self"] (defScope s_Follower_ask) := ⟨rfl, rfl, rfl, by decide +kernel, rfl, by decide +kernel, by decide +kernel⟩
theorem ok_Follower_ask (T : Tx w K mg base) : FnOk P w K mg base CX0 3 (a_Follower_ask K) (fd_Follower_ask K) ["self"] (sp_fol_ask K) := by
  refine T.f_Follower_ask.ok sc_Follower_ask (fun vs H Q E h => ?_) (fun cdv A outer s H vs Q E hr h => ?_)
  · obtain ⟨T0, f, r, ld, n, ks, rfl, _⟩ := h
    rfl
  obtain ⟨T0, f, r, ld, n, ks, rfl, tb_, hF, hn, hkl, hk1, hnd, k⟩ := h
  refine ⟨_, PSs.nox (pss_cons (ps_set (i := 1) sc_Follower_ask.nd rfl (Or.inl rfl) (pe_join pe_str (pe_lc (own := [("number", 3)]) rfl sc_Follower_ask.nd (pi_list (pe_meth0 (pe_fld (pv 0) rfl) T.c_Replica T.m_Replica_waiting (ok_Replica_waiting T) (hr.mono (by decide)) T.b_Replica_waiting .nil pass0)) (blkOk_by (own := [("number", 3)]) (N := N_Follower_ask) (sc := defScope s_Follower_ask) (by decide +kernel)) (fun _ _ _ _ _ => (pg_name (i := 3) sc_Follower_ask.nd rfl (Or.inl rfl))) (fun _ _ _ _ _ => pts_nil) (fun _ _ _ _ _ => (pe_callTy call_str_int (by rfl) T.n_str (by decide +kernel) (pa_cons (pv 3) pa_nil)))))) (pss_cons (ps_set (i := 2) sc_Follower_ask.nd rfl (Or.inl rfl) (pe_joined (.cons pe_str (.cons (pe_fmt (pe_meth0 (pv 0) T.c_Follower T.m_Follower_store_id (ok_Follower_store_id T) (hr.mono (by decide)) T.b_Follower_store_id .nil pass0)) (.cons pe_str (.cons (pe_fmt (pe_meth0 (pv 0) T.c_Follower T.m_Follower_revision (ok_Follower_revision T) (hr.mono (by decide)) T.b_Follower_revision .nil pass0)) .nil)))))) (pss_one (ps_ret (pe_ifExp (pt_cmpR (op_ne) (pv 1) pe_str (nomark _)) (pe_op op_add_str (pe_op op_add_str (pv 2) pe_str) (pv 1)) (pv 2)))))), ?_⟩
  have hF0 := hF
  obtain ⟨dx, hf, hR⟩ := hF
  have hR0 := hR
  obtain ⟨dx', tl, ws, kvs, hr0, htl, tt, hld, hlt⟩ := hR
  wtm_at "go"
  refine gLc ?_
  wtm_at "go"
  refine ⟨T0, r, ld, n, ks, rfl, hR0, hkl, fun p H1 ms e1 hp hpm hso h1 => ?_⟩
  have hms : ms.Pairwise (· < ·) := by
    have hn2 := hpm.nodup_iff.mpr hnd
    exact (hso.and hn2).imp fun {a b} h => by omega
  have hm1 : ∀ m ∈ ms, m ≤ 100 := fun m hm => hk1 m (hpm.mem_iff.mp hm)
  have hml : ms.length ≤ 50 := by rw [hpm.length_eq]; exact hkl
  have ti : TDs NoL H1 (ms.map fun k => V.int (k : Nat)) (ms.map fun k => PyData.int ((k : Nat) : Int)) := by
    have z := TDs.ints (A := NoL) (H := H1) (ms.map fun k => ((k : Nat) : Int))
    rw [List.map_map, List.map_map] at z
    exact z
  refine ⟨p, rfl, ⟨_, sqL_ h1⟩, fun D hD => lcB walk_list ti ?_ hD (fun H' e => sqL_ (e.at h1)) (fun k => .str (numS k)) (fun i m v H2 P P0 hx tv e2 kk => ?_) (fun H2 ys e2 hy t => ?_)⟩
  · rw [List.length_map]
    exact sl_big (by omega)
  · obtain rfl := tv.int_
    wtm_at "go"
    refine ⟨rfl, ?_⟩
    wtm_at "go"
    refine ⟨log_le (by have := hm1 m (List.mem_of_getElem? hx); omega), ?_⟩
    wtm_at "go"
    exact kk _ _ (Ch.refl _ _) (.str _)
  · have ey : ys = (ms.map numS).map V.str := by
      refine TDs.strs_ (A := fun x => x ≠ D) (H := H2) ?_
      rw [List.map_map]
      exact t
    rw [ey] at hy
    have E2 : Ex H H2 := e1.trans e2
    refine ⟨_, D, ms.map numS, rfl, rfl, sqOrL hy, join_ok (c := 4) (m := 50) (nums_le hm1) (by rw [List.length_map]; exact hml) (by decide) (by decide), ?_⟩
    have hf2 := E2.at hf
    have hF2 := hF0.ex E2
    have hwt := want_len hn
    have hwl := waitT_len hm1 hml
    wtm_at "go"
    refine ⟨T0, f, r, ld, n, ks, rfl, hF2, ?_⟩
    wtm_at "gob"
    refine ⟨T0, f, r, ld, n, ks, rfl, hF2, ?_⟩
    wtm_at "gob"
    refine ⟨log_le (by omega), ?_⟩
    wtm_at "gob"
    refine ⟨sl_big (Nat.le_trans hwt (by decide)), ?_⟩
    wtm_at "gob"
    by_cases hne : ms = []
    · subst hne
      refine blF (by rfl) ?_
      wtm_at "gob"
      exact k [] H2 E2 hpm hms
    · have hw : waitT ms ≠ "" := waitT_ne hm1 hne
      have er : reqText n ms = wantT n ++ " without " ++ waitT ms := if_neg hne
      have e9 : (" without " : Str).length = 9 := rfl
      refine blT (by show (!decide (waitT ms = "")) = true; rw [decide_eq_false hw]; rfl) ?_
      wtm_at "gob"
      refine ⟨sl_big (Nat.le_trans (Nat.add_le_add_right hwt _) (by rw [e9]; decide)), ?_⟩
      wtm_at "gob"
      have hw2 : (wantT n ++ " without ").length ≤ 29 := by rw [str_len, e9]; omega
      refine ⟨sl_big (Nat.le_trans (Nat.add_le_add hw2 hwl) (by decide)), ?_⟩
      wtm_at "gob"
      have q := k ms H2 E2 hpm hms
      rw [er] at q
      exact q
end
end Z
set_option Elab.async false
set_option linter.all false
set_option maxRecDepth 100000
set_option maxHeartbeats 4000000
namespace Z
open PySem PySem.Spec PyProof.Rows L2
section
variable {K : PySem.W.Frag} {σ : L2.St} {H : Hp} {Q : VK} {D : Ends} {td ty tv tx : TE}
instance {ty td : TE} : Stp (tDIn ty td σ H Q) (ty σ H fun y H1 => td σ H1 fun x H2 => ∃ a o, x = .ref a ∧ DGet H2 a y o ∧ Q (.bl o.isSome) H2) := ⟨gDIn⟩
instance {ty td : TE} : Stp (tDNotIn ty td σ H Q) (ty σ H fun y H1 => td σ H1 fun x H2 => ∃ a o, x = .ref a ∧ DGet H2 a y o ∧ Q (.bl (!o.isSome)) H2) := ⟨gDNotIn⟩
end
section
variable {K : PySem.W.Frag} {σ : L2.St} {H : Hp} {Q : VK} {D : Ends} {td ty tv tx : TE}
instance {ta : TE} {f : Str} {v : V} {QS : L2.St → Hp → Prop} : Stp (gAttr K ta f v σ H QS) (ta σ H fun x H1 => ∃ a C dx fs, x = .ref a ∧ H1 a = some (.ins C dx fs) ∧ Cls K C ∧ NoAttr K C f ∧ fs.length < 1000 ∧ QS σ (upd H1 a (.ins C dx (putF f v fs)))) := ⟨gAttr_⟩
instance : Stp (tDGet1 td ty σ H Q) (td σ H fun x H1 => ∃ a, x = .ref a ∧ IsD H1 a ∧ ty σ H1 fun y H2 => ∃ o, DGet H2 a y o ∧ Q (o.getD .non) H2) := ⟨gDGet1⟩
instance : Stp (tDGet2 td ty tx σ H Q) (td σ H fun x H1 => ∃ a, x = .ref a ∧ IsD H1 a ∧ ty σ H1 fun y H2 => tx σ H2 fun z H3 => ∃ o, DGet H3 a y o ∧ Q (o.getD z) H3) := ⟨gDGet2⟩
instance : Stp (tDGet td ty σ H Q) (td σ H fun x H1 => ty σ H1 fun y H2 => ∃ a v, x = .ref a ∧ DGet H2 a y (some v) ∧ Q v H2) := ⟨gDGet_⟩
instance : Stp (sDPut td ty tv D σ H) (tv σ H fun v H1 => td σ H1 fun x H2 => ty σ H2 fun y H3 => ∃ a H4, x = .ref a ∧ DPut H3 a y v H4 ∧ D.nx σ H4) := ⟨gDPut⟩
instance : Stp (tDPop1 td ty σ H Q) (td σ H fun x H1 => ∃ a, x = .ref a ∧ IsD H1 a ∧ ty σ H1 fun y H2 => ∃ kvs k v, H2 a = some (.dK kvs) ∧ y = kV k ∧ valV kvs k = some v ∧ Q v (upd H2 a (.dK (dropK kvs k)))) := ⟨gDPop1⟩
end
end Z
set_option Elab.async false
set_option linter.all false
set_option maxRecDepth 100000
set_option maxHeartbeats 4000000
namespace Z
open PySem PySem.Spec PyProof.Rows L2

local macro_rules | `(tactic| wtm_at "ex") => `(tactic| first | assumption | exact Ch.refl _ _ | (refine Ch.trans ?_ (by assumption); wtm_at "ex"))
local macro_rules | `(tactic| wtm_at "no") => `(tactic| first | assumption | (refine Ch.free (S := []) (p := _) ?_ (by assumption); wtm_at "ex"))
local macro_rules | `(tactic| wtm_at "tr") => `(tactic| first | assumption | (with_reducible refine tabs_ (S := []) (by assumption) ?_; wtm_at "ex") | (with_reducible refine atT_ (S := []) (by assumption) ?_; wtm_at "ex") | (with_reducible refine atL_ (by assumption) ?_; wtm_at "ex") | (with_reducible refine atN_ (by assumption) ?_; wtm_at "ex") | (with_reducible refine atK_ (by assumption) ?_; wtm_at "ex") | (with_reducible refine atD_ (by assumption) ?_; wtm_at "ex") | (with_reducible refine atF_ (by assumption) ?_; wtm_at "ex") | (with_reducible refine TD.e (by assumption) ?_; wtm_at "ex") | (with_reducible refine TDs.e (by assumption) ?_; wtm_at "ex") | wtm_at "ex")
local macro_rules | `(tactic| wtm_at "nw") => `(tactic| (intro p hp; generalize hH : upd _ p _ = H2; have e := exO hp hH; have ⟨e1, e2⟩ := e; clear e hH))
local macro_rules | `(tactic| wtm_at "mk") => `(tactic| (intro x dx hx hd hn; generalize hH : upd (upd _ dx _) x _ = H2; have e := exO2 hx hd hn hH; have ⟨e1, e2⟩ := e; clear e hH))
local macro_rules | `(tactic| wtm_at "pu") => `(tactic| (generalize hH : upd _ _ _ = H2; have e := chO (by wtm_at "tr") (by trivial) hH; have ⟨e1, e2⟩ := e; clear e hH))
local macro_rules | `(tactic| wtm_at "cl") => `(tactic| first | exact Tx.c_Replica (by assumption) | exact Tx.c_Follower (by assumption) | exact Tx.c_Line (by assumption) | exact Tx.c_Graph (by assumption) | exact Tx.c_Revision (by assumption) | exact Tx.c_Primary (by assumption))
local macro_rules | `(tactic| wtm_at "na") => `(tactic| first | exact Tx.n_Replica_name (by assumption) | exact Tx.n_Replica_number (by assumption) | exact Tx.n_Replica_table (by assumption) | exact Tx.n_Replica_later (by assumption) | exact Tx.n_Follower_replica (by assumption) | exact Tx.n_Line_number (by assumption) | exact Tx.n_Line_parts (by assumption) | exact Tx.n_Line_at (by assumption) | exact Tx.n_Graph_schema (by assumption) | exact Tx.n_Graph_strata (by assumption) | exact Tx.n_Graph_subjects (by assumption) | exact Tx.n_Graph_objects (by assumption) | exact Tx.n_Graph_people (by assumption) | exact Tx.n_Revision_schema (by assumption) | exact Tx.n_Revision_relationships (by assumption) | exact Tx.n_Revision_table (by assumption) | exact Tx.n_Primary_name (by assumption) | exact Tx.n_Primary_first (by assumption) | exact Tx.n_Primary_revisions (by assumption))
local macro_rules | `(tactic| wtm_at "gex") => `(tactic| (with_reducible refine ⟨_, _, _, _, rfl, ?_⟩))
local macro_rules | `(tactic| wtm_at "gex") => `(tactic| (with_reducible refine ⟨_, _, _, rfl, ?_⟩))
local macro_rules | `(tactic| wtm_at "gex") => `(tactic| (with_reducible refine ⟨_, _, rfl, ?_⟩))
local macro_rules | `(tactic| wtm_at "gex") => `(tactic| (with_reducible refine ⟨_, _, rfl, rfl, ?_⟩))
local macro_rules | `(tactic| wtm_at "gex") => `(tactic| (with_reducible refine ⟨_, rfl, ?_⟩))
local macro_rules | `(tactic| wtm_at "gex") => `(tactic| (with_reducible refine ⟨_, _, _, rfl, by wtm_at "tr", by with_unfolding_all rfl, ?_⟩))
local macro_rules | `(tactic| wtm_at "gex") => `(tactic| ((with_reducible refine ⟨_, _, by wtm_at "tr", by with_unfolding_all exact Nat.le_of_ble_eq_true rfl, ?_⟩); wtm_at "pu"))
local macro_rules | `(tactic| wtm_at "gex") => `(tactic| ((with_reducible refine ⟨_, _, _, _, rfl, by wtm_at "tr", by wtm_at "cl", by wtm_at "na", by with_unfolding_all exact Nat.le_of_ble_eq_true rfl, ?_⟩); wtm_at "pu"))
local macro_rules | `(tactic| wtm_at "gex") => `(tactic| (with_reducible refine ⟨_, _, _, _, _, rfl, by wtm_at "tr", by wtm_at "cl", by wtm_at "na", by with_unfolding_all rfl, ?_⟩))
local macro_rules | `(tactic| wtm_at "gex") => `(tactic| (with_reducible refine ⟨_, _, rfl, by assumption, by assumption, ?_⟩))
local macro_rules | `(tactic| wtm_at "gex") => `(tactic| (with_reducible refine ⟨_, rfl, ⟨_, sqT_ (by wtm_at "tr")⟩, ?_⟩))
local macro_rules | `(tactic| wtm_at "gex") => `(tactic| (with_reducible refine ⟨_, rfl, ⟨_, sqL_ (by wtm_at "tr")⟩, ?_⟩))
local macro_rules | `(tactic| wtm_at "gex") => `(tactic| (with_reducible refine ⟨_, _, rfl, sqL_ (by wtm_at "tr"), ?_⟩))
local macro_rules | `(tactic| wtm_at "gex") => `(tactic| (with_reducible refine ⟨_, truL (by wtm_at "tr"), ?_⟩))
local macro_rules | `(tactic| wtm_at "gex") => `(tactic| (with_reducible refine ⟨_, _, rfl, sqOrT (by wtm_at "tr"), ?_⟩))
local macro_rules | `(tactic| wtm_at "gex") => `(tactic| (with_reducible refine ⟨_, _, rfl, sqOrL (by wtm_at "tr"), ?_⟩))
local macro_rules | `(tactic| wtm_at "gan") => `(tactic| (with_reducible refine And.intro (by wtm_at "tr") ?_))
local macro_rules | `(tactic| wtm_at "gan") => `(tactic| (with_reducible refine And.intro (by (with_unfolding_all decide)) ?_))
local macro_rules | `(tactic| wtm_at "gan") => `(tactic| (with_reducible refine And.intro (len_le (by with_unfolding_all rfl)) ?_))
local macro_rules | `(tactic| wtm_at "gan") => `(tactic| (with_reducible refine And.intro (tyL (by wtm_at "tr")) ?_))
local macro_rules | `(tactic| wtm_at "gan") => `(tactic| (with_reducible refine ⟨⟨_, rfl⟩, ?_⟩))
local macro_rules | `(tactic| wtm_at "gal") => `(tactic| wtm_at "mk")
local macro_rules | `(tactic| wtm_at "gal") => `(tactic| wtm_at "nw")
local macro_rules | `(tactic| wtm_at "gal") => `(tactic| (with_reducible refine exV (fun p H' e h1 => ?_)))
local macro_rules | `(tactic| wtm_at "gal") => `(tactic| (with_reducible refine exT (fun p H' e h0 h1 => ?_)))
local macro_rules | `(tactic| wtm_at "gal") => `(tactic| (with_reducible refine exI (fun H' e => ?_)))
local macro_rules | `(tactic| wtm_at "gre") => `(tactic| (with_reducible refine gTQ ?_))
local macro_rules | `(tactic| wtm_at "gre") => `(tactic| (with_reducible refine gInT (by wtm_at "tr") (by with_unfolding_all rfl) (by with_unfolding_all rfl) ?_))
local macro_rules | `(tactic| wtm_at "gre") => `(tactic| (with_reducible refine gNotInT (by wtm_at "tr") (by with_unfolding_all rfl) (by with_unfolding_all rfl) ?_))
local macro_rules | `(tactic| wtm_at "gre") => `(tactic| (with_reducible refine gDNewT (fun p H2 hp e h => ?_)))
local macro_rules | `(tactic| wtm_at "gre") => `(tactic| (with_reducible refine gDNewK (fun p H2 hp e h => ?_)))
local macro_rules | `(tactic| wtm_at "gre") => `(tactic| (with_reducible refine gSlL (by wtm_at "tr") (fun q H2 hq e h => ?_)))
local macro_rules | `(tactic| wtm_at "gre") => `(tactic| (with_reducible refine gPartition rfl (by wtm_at "tr") (fun p H2 hp e h => ?_)))
local macro_rules | `(tactic| wtm_at "gre") => `(tactic| (with_reducible refine gTgT (by wtm_at "tr") (by with_unfolding_all rfl) ?_))
local macro_rules | `(tactic| wtm_at "gre") => `(tactic| (with_reducible refine gIxL (by wtm_at "tr") (by with_unfolding_all rfl) ?_))
local macro_rules | `(tactic| wtm_at "gre") => `(tactic| (with_reducible refine gIxT (by wtm_at "tr") (by with_unfolding_all rfl) ?_))
local macro_rules | `(tactic| wtm_at "gre") => `(tactic| (with_reducible refine gCKw ?_))
local macro_rules | `(tactic| wtm_at "gre") => `(tactic| (with_reducible refine gRng2 ?_))
local macro_rules | `(tactic| wtm_at "gre") => `(tactic| (with_reducible refine gRng1 ?_))
local macro_rules | `(tactic| wtm_at "gor") => `(tactic| (with_reducible refine Or.inr ⟨_, rfl, ?_⟩))
local macro_rules | `(tactic| wtm_at "gor") => `(tactic| (with_reducible refine Or.inl ⟨_, rfl, ?_⟩))
local macro_rules | `(tactic| wtm_at "go1") => `(tactic| wtm_at "mk")
local macro_rules | `(tactic| wtm_at "go1") => `(tactic| wtm_at "nw")
local macro_rules | `(tactic| wtm_at "go1") => `(tactic| ((with_reducible refine isOr ?_); wtm_at "gor"))
local macro_rules | `(tactic| wtm_at "go1") => `(tactic| wtm_at "gre")
local macro_rules | `(tactic| wtm_at "go1") => `(tactic| ((with_reducible refine isAll ?_); wtm_at "gal"))
local macro_rules | `(tactic| wtm_at "go1") => `(tactic| ((with_reducible refine isAnd ?_); wtm_at "gan"))
local macro_rules | `(tactic| wtm_at "go1") => `(tactic| ((with_reducible refine isEx ?_); wtm_at "gex"))
local macro_rules | `(tactic| wtm_at "go1") => `(tactic| with_reducible refine gVar rfl ?_)
local macro_rules | `(tactic| wtm_at "go1") => `(tactic| with_reducible refine Stp.go ?_)
local macro_rules | `(tactic| wtm_at "go") => `(tactic| repeat (first | wtm_at "go1" | (with_reducible dsimp only) | (dsimp only [cxK, List.cons_append, List.nil_append, List.append_nil])))
local macro_rules | `(tactic| wtm_at "gob") => `(tactic| repeat (first | wtm_at "go1" | (with_reducible dsimp only) | (dsimp only [cxK, List.cons_append, List.nil_append, List.append_nil]) | (refine blT (by decide) ?_) | (refine blF (by decide) ?_) | (refine blF (by rfl) ?_) | (refine blT (by rfl) ?_)))
local macro_rules | `(tactic| wtm_at "gos") => `(tactic| repeat' (first | wtm_at "go1" | (with_reducible dsimp only) | (dsimp only [cxK, List.cons_append, List.nil_append, List.append_nil]) | (with_reducible refine ifd (fun _ => ?_) (fun _ => ?_)) | (with_reducible refine ifb (fun _ => ?_) (fun _ => ?_))))
local macro_rules | `(tactic| wtm_at "galc") => `(tactic| (with_reducible refine exV (fun p H' e h1 => ?_)))
local macro_rules | `(tactic| wtm_at "galc") => `(tactic| (with_reducible refine exT (fun p H' e h0 h1 => ?_)))
local macro_rules | `(tactic| wtm_at "galc") => `(tactic| (with_reducible refine exI (fun H' e => ?_)))
local macro_rules | `(tactic| wtm_at "go1c") => `(tactic| ((with_reducible refine isOr ?_); wtm_at "gor"))
local macro_rules | `(tactic| wtm_at "go1c") => `(tactic| wtm_at "gre")
local macro_rules | `(tactic| wtm_at "go1c") => `(tactic| ((with_reducible refine isAll ?_); wtm_at "galc"))
local macro_rules | `(tactic| wtm_at "go1c") => `(tactic| ((with_reducible refine isAnd ?_); wtm_at "gan"))
local macro_rules | `(tactic| wtm_at "go1c") => `(tactic| ((with_reducible refine isEx ?_); wtm_at "gex"))
local macro_rules | `(tactic| wtm_at "go1c") => `(tactic| with_reducible refine gVar rfl ?_)
local macro_rules | `(tactic| wtm_at "go1c") => `(tactic| with_reducible refine Stp.go ?_)
local macro_rules | `(tactic| wtm_at "goc") => `(tactic| repeat (first | wtm_at "go1c" | (with_reducible dsimp only) | (dsimp only [cxK, List.cons_append, List.nil_append, List.append_nil])))

/-- entries received one by one -/
def recvs (s : Nat × List Nat) (js : List Nat) : Nat × List Nat := js.foldl (fun s k => recv s.1 s.2 k) s
theorem del_len (n : Nat) (ks : List Nat) : (del n ks).length ≤ ks.length := List.length_filter_le _ _
theorem adv_len : ∀ (m n : Nat) (ks : List Nat), ks.length = m → (adv n ks).2.length ≤ ks.length := by
  intro m
  induction m using Nat.strongRecOn with
  | ind m ih =>
    intro n ks hm
    by_cases h : n + 1 ∈ ks
    · rw [adv_yes h]
      have hf := filter_lt h
      exact Nat.le_trans (ih _ (by rw [← hm]; exact hf) (n + 1) _ rfl) (Nat.le_of_lt hf)
    · rw [adv_no h]
      exact Nat.le_refl _
theorem recv_len (n : Nat) (ks : List Nat) (k : Nat) : (recv n ks k).2.length ≤ ks.length + 1 := by
  unfold recv
  split
  · exact Nat.le_succ _
  · have := adv_len _ n (ks ++ [k]) rfl
    simpa using this
theorem recvs_app (s : Nat × List Nat) (js : List Nat) (k : Nat) : recvs s (js ++ [k]) = recv (recvs s js).1 (recvs s js).2 k := by
  simp [recvs, List.foldl_append]
theorem recvs_len : ∀ (js : List Nat) (s : Nat × List Nat), (recvs s js).2.length ≤ s.2.length + js.length
  | [], s => Nat.le_refl _
  | k :: js, s => by
    have h1 : recvs s (k :: js) = recvs (recv s.1 s.2 k) js := rfl
    have h2 := recvs_len js (recv s.1 s.2 k)
    have h3 := recv_len s.1 s.2 k
    rw [h1, List.length_cons]
    omega
section
variable {P : Program} {w : World} {K : PySem.W.Frag} {mg : Str → Option Value} {base : Heap}
abbrev sp_fol_ts (K : PySem.W.Frag) : Sp := fun vs H Q _ => ∃ (T : Nat → Gr → Bool) (f r ld : Addr) (n : Nat) (ks : List Nat) (m : Nat) (v : V), vs = [.ref f, v] ∧ Tabs K H ∧ Fol K T H f r ld n ks ∧ TD AnyL H v (snD m (tb (T m))) ∧ ks.length ≤ 50 ∧ (∀ k ∈ ks, k ≤ 40) ∧
  (m ≤ n → ∀ H', Ex H H' → Q .non H') ∧ (n < m → ∀ (ms : List Nat) r' ld' H', ms.Perm ks → ms.Pairwise (· ≤ ·) → H r' = none → H ld' = none → Ch [f] H H' → Fol K T H' f r' ld' (recvs (m, []) ms).1 (recvs (m, []) ms).2 → Q .non H')
abbrev N_Follower_take_snapshot : List Str := ["self", "snapshot", "later", "entry"]
theorem sc_Follower_take_snapshot : FnScope N_Follower_take_snapshot ["self", "snapshot"] (defScope s_Follower_take_snapshot) := ⟨rfl, rfl, rfl, by decide +kernel, rfl, by decide +kernel, by decide +kernel⟩
theorem ok_Follower_take_snapshot (T : Tx w K mg base) : FnOk P w K mg base CX0 7 (a_Follower_take_snapshot K) (fd_Follower_take_snapshot K) ["self", "snapshot"] (sp_fol_ts K) := by
  refine T.f_Follower_take_snapshot.ok sc_Follower_take_snapshot (fun vs H Q E h => ?_) (fun cdv A outer s H vs Q E hr h => ?_)
  · obtain ⟨T0, f, r, ld, n, ks, m, v, rfl, _⟩ := h
    rfl
  obtain ⟨T0, f, r, ld, n, ks, m, v, rfl, tb_, hF, ts, hkl, hk40, k0, k⟩ := h
  refine ⟨_, PSs.nox (pss_cons (ps_if (pt_cmpR (op_ne) (pe_ix ix_tup (pv 1) pe_int (fun _ _ => rfl)) (pe_meth0 (pv 0) T.c_Follower T.m_Follower_store_id (ok_Follower_store_id T) (hr.mono (by decide)) T.b_Follower_store_id .nil pass0) (nomark _)) pss_never pss_nil) (pss_cons (ps_if (pt_cmpR (op_le) (pe_ix ix_tup (pv 1) pe_int (fun _ _ => rfl)) (pe_meth0 (pv 0) T.c_Follower T.m_Follower_revision (ok_Follower_revision T) (hr.mono (by decide)) T.b_Follower_revision .nil pass0) (nomark _)) (pss_one ps_retN) pss_nil) (pss_cons (ps_set (i := 2) sc_Follower_take_snapshot.nd rfl (Or.inl rfl) (pe_meth0 (pe_fld (pv 0) rfl) T.c_Replica T.m_Replica_waiting_entries (ok_Replica_waiting_entries T) (hr.mono (by decide)) T.b_Replica_waiting_entries .nil pass0)) (pss_cons (ps_fld (pv 0) (pe_make T.k_Replica (ok_Replica_init T) (hr.mono (by decide)) rfl T.g_Replica T.b_Replica_init .nil pass0 (pa_cons (pv 1) pa_nil)) rfl) (pss_one (ps_for PassesOwn.never rfl (pi_list (pv 2)) (pg_name (i := 3) sc_Follower_take_snapshot.nd rfl (Or.inl rfl)) (pss_one (ps_expr (pe_meth (pe_fld (pv 0) rfl) T.c_Replica T.m_Replica_receive (ok_Replica_receive T) (hr.mono (by decide)) T.b_Replica_receive .nil pass0 (pa_cons (pv 3) pa_nil)))))))))), ?_⟩
  have hF0 := hF
  obtain ⟨dx, hf, hR⟩ := hF
  have hR0 := hR
  obtain ⟨dx', tl, ws, kvs, hr0, htl, tt, hld, hlt⟩ := hR
  have ts0 := ts
  obtain ⟨a, l, gv, rfl, ha, hl, _, tg⟩ := ts.sn_
  wtm_at "gob"
  refine ⟨T0, f, r, ld, n, ks, rfl, hF0, ?_⟩
  wtm_at "gob"
  refine ⟨T0, f, r, ld, n, ks, rfl, hF0, ?_⟩
  wtm_at "gob"
  refine ifd (fun h => ?_) (fun h => ?_)
  · wtm_at "gob"
    exact k0 (by omega) _ (Ch.refl _ _)
  · wtm_at "gob"
    refine ⟨T0, r, ld, n, ks, rfl, hR0, hkl, fun ve H1 ms e1 hpm hso te => ?_⟩
    wtm_at "gob"
    rename_i r' dr hr' hdr hne H2 e2 h2
    have E2 : Ex H H2 := e1.trans e2
    refine ⟨T0, r', dr, m, _, rfl, h2, ts0.e E2, fun ld' H3 e3 hld' hR' => ?_⟩
    have hr'0 : H1 r' = none := hr'
    have E3 : Ex H1 H3 := exD e2 hr'0 e3
    have hf3 := E3.at (e1.at hf)
    wtm_at "gob"
    rename_i B eB hB
    have hS : ∀ z ∈ [f], ∀ xs, H3 z ≠ some (.lst xs) := fun z hz xs q => by
      rw [List.mem_singleton.mp hz, hf3] at q
      cases q
    have teB := (te.e E3).keep eB hS
    obtain ⟨L, evs, rfl, hL, _, tes⟩ := teB.lst_
    have nrf : r' ≠ f := fun z => by rw [z, e1.at hf] at hr'0; cases hr'0
    have hRB : Rep K T0 B r' ld' m [] := by
      obtain ⟨dx', tl, ws, kvs, hr2, htl, tt, hld2, hlt⟩ := hR'
      have n1 : tl ≠ f := fun z => by rw [z, hf3] at htl; cases htl
      have n2 : ld' ≠ f := fun z => by rw [z, hf3] at hld2; cases hld2
      exact ⟨dx', tl, ws, kvs, eB.at1 hr2 nrf, eB.at1 htl n1, tt.p eB, eB.at1 hld2 n2, hlt.keys, fun k v hv => (hlt.vals k v hv).keep eB hS⟩
    have hld0 : H ld' = none := (e1.trans e2).free hld'
    have hr0' : H r' = none := e1.free hr'0
    have hFB : Fol K T0 B f r' ld' m [] := ⟨dx, hB, hRB⟩
    have hRB0 := hRB
    obtain ⟨dx2, tl2, ws2, kvs2, hr2, htl2, tt2, hld2, hlt2⟩ := hRB
    have hSB : ∀ z ∈ [r', ld'], ∀ xs, B z ≠ some (.lst xs) := fun z hz xs q => by
      simp only [List.mem_cons, List.not_mem_nil, or_false] at hz
      rcases hz with rfl | rfl
      · rw [hr2] at q; cases q
      · rw [hld2] at q; cases q
    have nLr : L ≠ r' := fun z => hSB r' (by simp) evs (by rw [← z]; exact hL)
    have nLd : L ≠ ld' := fun z => hSB ld' (by simp) evs (by rw [← z]; exact hL)
    have nfr : f ≠ r' := Ne.symm nrf
    have nfd : f ≠ ld' := fun z => by rw [← z, hB] at hld2; cases hld2
    have EB : Ch [f] H B := (e1.wk.trans E3.wk).trans eB
    have tbB : Tabs K B := tabs_ tb_ EB
    have hat : ∀ {H' : Hp} {b : Addr} {o : HO}, Ch [r', ld'] B H' → B b = some o → b ≠ r' → b ≠ ld' → NT o → H' b = some o := fun {H' b o} e h q1 q2 nt => e.keep b o h nt fun z => by
      simp only [List.mem_cons, List.not_mem_nil, or_false] at z
      exact z.elim q1 q2
    wtm_at "gob"
    refine forA walk_list tes (fun d σ H' => Ch [r', ld'] B H' ∧ Rep K T0 H' r' ld' (recvs (m, []) d).1 (recvs (m, []) d).2 ∧ m ≤ (recvs (m, []) d).1 ∧ ∃ x3, σ = [some (.ref f), some (.ref a), some (.ref L), x3]) ?_ ?_ ?_ ?_
    · exact ⟨Ch.refl _ _, hRB0, Nat.le_refl _, _, rfl⟩
    · exact fun d σ H' q => sqL_ (hat q.1 hL nLr nLd trivial)
    · rintro d j rr v σ H4 ed tv ⟨e4, hR4, hm4, x3, rfl⟩
      have hf4 := hat e4 hB nfr nfd trivial
      have tv4 := tv.keep e4 hSB
      have hjk : j ∈ ks := hpm.mem_iff.mp (by rw [ed]; simp)
      have hdl := recvs_len d (m, [])
      have hdl2 : d.length ≤ ms.length := by rw [ed]; simp
      have hml := hpm.length_eq
      have hR4' := hR4
      obtain ⟨dx4, tl4, ws4, kvs4, hr4, htl4, tt4, hld4, hlt4⟩ := hR4'
      wtm_at "gob"
      refine ⟨T0, r', ld', _, _, j, v, rfl, tabs_ tbB e4, hR4, tv4, ?_, ?_, fun H5 e5 hn5 hR5 => ?_⟩
      · have := hk40 j hjk
        omega
      · have : (recvs (m, []) d).2.length ≤ 0 + d.length := hdl
        omega
      · rw [← recvs_app] at hn5 hR5
        wtm_at "gob"
        exact ⟨Nat.le_trans hm4 hn5, _, rfl⟩
    · rintro σ H4 ⟨e4, hR4, hm4, x3, rfl⟩
      wtm_at "gob"
      refine k (by omega) ms r' ld' H4 hpm hso hr0' hld0 ?_ ⟨dx, hat e4 hB nfr nfd trivial, hR4⟩
      refine Ch.drop (S := [f, r', ld']) ((EB.mono fun z hz => by simp at hz ⊢; exact .inl hz).trans (e4.mono fun z hz => by simp at hz ⊢; exact .inr hz)) fun z hz => ?_
      simp only [List.mem_cons, List.not_mem_nil, or_false] at hz
      rcases hz with rfl | rfl | rfl
      · exact .inl (by simp)
      · exact .inr hr0'
      · exact .inr hld0
end


theorem join_head (h : Str) (t : List Str) : ∃ y, Txt.join "\n" (h :: t) = h ++ y := by
  cases t with
  | nil => exact ⟨Str.empty, TL.ext_tl (by rw [TL.join_eq, TL.tl_join, TL.tl_append]; exact (List.append_nil _).symm)⟩
  | cons q r => exact ⟨"\n" ++ Txt.join "\n" (q :: r), TL.ext_tl (by
      rw [TL.join_eq, TL.tl_join, TL.tl_append, TL.tl_append, TL.join_eq, TL.tl_join]
      rfl)⟩
theorem starts_facts : ∀ n : Fin 101, Txt.startswith (snapHead n.val) "snapshot" = true ∧ Txt.startswith (entHead n.val) "snapshot" = false ∧ 8 ≤ (snapHead n.val).length ∧ 8 ≤ (entHead n.val).length := by decide +kernel
theorem snap_starts {n : Nat} {gs : List Gr} (hn : n ≤ 100) : Txt.startswith (snapText n gs) "snapshot" = true := by
  obtain ⟨y, e⟩ := join_head (snapHead n) (gs.map (lineOf "="))
  obtain ⟨h1, _, h2, _⟩ := starts_facts ⟨n, by omega⟩
  unfold snapText snapLines
  rw [e, PySem.W.KAf.starts_left (a := snapHead n) (d := "snapshot") h2]
  exact h1
theorem feed_starts {es : List En} (hok : ∀ e ∈ es, EnOk e) : Txt.startswith (feedText es) "snapshot" = false := by
  cases es with
  | nil => decide +kernel
  | cons e r =>
    obtain ⟨y, q⟩ := join_head (entHead e.1) ((e.2.1.map (lineOf "+") ++ e.2.2.map (lineOf "-")) ++ r.flatMap entLines)
    have hn := (hok e List.mem_cons_self).1
    obtain ⟨_, h1, _, h2⟩ := starts_facts ⟨e.1, by omega⟩
    unfold feedText
    have ee : (e :: r).flatMap entLines = entHead e.1 :: ((e.2.1.map (lineOf "+") ++ e.2.2.map (lineOf "-")) ++ r.flatMap entLines) := rfl
    rw [ee, q, PySem.W.KAf.starts_left (a := entHead e.1) (d := "snapshot") h2]
    exact h1
theorem enT_good (T : Nat → Gr → Bool) {k : Nat} (h1 : 1 ≤ k) (h2 : k ≤ 100) : EnGood (enT T k) := by
  have ok := chT_ok T k
  refine ⟨⟨h2, ok.2.2.2.2.1, ok.2.2.2.2.2, ok.2.2.1, ok.2.1⟩, h1, ?_, ?_, fun g hg hg' => ?_⟩
  · exact tb_sorted (fun g => T k g && !T (k - 1) g)
  · exact tb_sorted (fun g => T (k - 1) g && !T k g)
  · have a := (mem_tb (S := fun g => T (k - 1) g && !T k g)).mp hg
    have b := (mem_tb (S := fun g => T k g && !T (k - 1) g)).mp hg'
    have a2 := a.2
    have b2 := b.2
    simp at a2 b2
    rw [a2.1] at b2
    exact absurd b2.2 (by simp)
section
variable {P : Program} {w : World} {K : PySem.W.Frag} {mg : Str → Option Value} {base : Heap}
abbrev sp_fol_take (K : PySem.W.Frag) : Sp := fun vs H Q _ => ∃ (T : Nat → Gr → Bool) (f r ld : Addr) (n : Nat) (ks : List Nat) (x : Str), vs = [.ref f, .str x] ∧ Tabs K H ∧ Fol K T H f r ld n ks ∧ ks.length ≤ 50 ∧ (∀ k ∈ ks, k ≤ 40) ∧
  ((∃ m, x = snapText m (tb (T m)) ∧ m ≤ 40 ∧ (m ≤ n → ∀ H', Ex H H' → Q (.int ((n : Int) - n)) H') ∧
      (n < m → ∀ (ms : List Nat) r' ld' H', ms.Perm ks → ms.Pairwise (· ≤ ·) → H r' = none → H ld' = none → Ch [f] H H' → Fol K T H' f r' ld' (recvs (m, []) ms).1 (recvs (m, []) ms).2 → Q (.int (((recvs (m, []) ms).1 : Int) - n)) H')) ∨
   (∃ js : List Nat, x = feedText (js.map (enT T)) ∧ js.length ≤ 20 ∧ (∀ j ∈ js, 1 ≤ j ∧ j ≤ 40) ∧
      ∀ H', Ch [r, ld] H H' → n ≤ (recvs (n, ks) js).1 → Fol K T H' f r ld (recvs (n, ks) js).1 (recvs (n, ks) js).2 → Q (.int (((recvs (n, ks) js).1 : Int) - n)) H'))
abbrev N_Follower_take : List Str := ["self", "text", "before", "entry"]
theorem sc_Follower_take : FnScope N_Follower_take ["self", "text"] (defScope s_Follower_take) := ⟨rfl, rfl, rfl, by decide +kernel, rfl, by decide +kernel, by decide +kernel⟩
theorem ok_Follower_take (T : Tx w K mg base) : FnOk P w K mg base CX0 9 (a_Follower_take K) (fd_Follower_take K) ["self", "text"] (sp_fol_take K) := by
  refine T.f_Follower_take.ok sc_Follower_take (fun vs H Q E h => ?_) (fun cdv A outer s H vs Q E hr h => ?_)
  · obtain ⟨T0, f, r, ld, n, ks, x, rfl, _⟩ := h
    rfl
  obtain ⟨T0, f, r, ld, n, ks, x, rfl, tb_, hF, hkl, hk40, hx⟩ := h
  refine ⟨_, PSs.nox (pss_cons (ps_set (i := 2) sc_Follower_take.nd rfl (Or.inl rfl) (pe_meth0 (pv 0) T.c_Follower T.m_Follower_revision (ok_Follower_revision T) (hr.mono (by decide)) T.b_Follower_revision .nil pass0)) (pss_cons (ps_if (pt_val (pe_m1 PySem.F.slot_str_startswith PySem.F.type_str_startswith mt_startswith (pv 1) pe_str)) (pss_one (ps_expr (pe_meth (pv 0) T.c_Follower T.m_Follower_take_snapshot (ok_Follower_take_snapshot T) (hr.mono (by decide)) T.b_Follower_take_snapshot .nil pass0 (pa_cons (pe_call (ok_read_snapshot T) (hr.mono (by decide)) rfl T.g_read_snapshot T.f_read_snapshot.kp T.b_read_snapshot .nil pass0 (pa_cons (pv 1) pa_nil)) pa_nil)))) (pss_one (ps_for PassesOwn.never rfl (pi_list (pe_call (ok_read_feed T) (hr.mono (by decide)) rfl T.g_read_feed T.f_read_feed.kp T.b_read_feed .nil pass0 (pa_cons (pv 1) pa_nil))) (pg_name (i := 3) sc_Follower_take.nd rfl (Or.inl rfl)) (pss_one (ps_expr (pe_meth (pe_fld (pv 0) rfl) T.c_Replica T.m_Replica_receive (ok_Replica_receive T) (hr.mono (by decide)) T.b_Replica_receive .nil pass0 (pa_cons (pv 3) pa_nil))))))) (pss_one (ps_ret (pe_op op_sub (pe_meth0 (pv 0) T.c_Follower T.m_Follower_revision (ok_Follower_revision T) (hr.mono (by decide)) T.b_Follower_revision .nil pass0) (pv 2)))))), ?_⟩
  have hF0 := hF
  obtain ⟨dx, hf, hR⟩ := hF
  have hR0 := hR
  obtain ⟨dx', tl, ws, kvs, hr0, htl, tt, hld, hlt⟩ := hR
  wtm_at "gob"
  refine ⟨T0, f, r, ld, n, ks, rfl, hF0, ?_⟩
  wtm_at "gob"
  rcases hx with ⟨m, rfl, hm, k0, k⟩ | ⟨js, rfl, hjl, hj, k⟩
  · refine blT (snap_starts (by omega)) ?_
    wtm_at "gob"
    refine ⟨by omega, fun g hg => (mem_tb.mp hg).1, tb_len _, tb_sorted _, fun v H1 e1 ts => ?_⟩
    have hF1 := hF0.ex e1
    have hf1 := e1.at hf
    wtm_at "gob"
    refine ⟨T0, f, r, ld, n, ks, m, v, rfl, tabs_ tb_ e1, hF1, ts.any, hkl, hk40, fun h H2 e2 => ?_, fun h ms r' ld' H2 hpm hso hr2 hl2 e2 hF2 => ?_⟩
    · have hF2 := hF1.ex e2
      have hf2 := e2.at hf1
      wtm_at "gob"
      refine ⟨T0, f, r, ld, n, ks, rfl, hF2, ?_⟩
      wtm_at "gob"
      exact k0 h _ (e1.trans e2)
    · have hF2' := hF2
      obtain ⟨dx2, hf2, hR2⟩ := hF2'
      wtm_at "gob"
      refine ⟨T0, f, r', ld', _, _, rfl, hF2, ?_⟩
      wtm_at "gob"
      exact k h ms r' ld' H2 hpm hso (e1.free hr2) (e1.free hl2) (e1.wk.trans e2) hF2
  · have hok : ∀ e ∈ js.map (enT T0), EnGood e := fun e he => by
      obtain ⟨j, hjj, rfl⟩ := List.mem_map.mp he
      have := hj j hjj
      exact enT_good T0 this.1 (by omega)
    refine blF (feed_starts fun e he => (hok e he).1) ?_
    wtm_at "gob"
    refine ⟨by rw [List.length_map]; exact hjl, fun v B eB te => ?_⟩
    obtain ⟨L, evs, rfl, hL, hLn, tes⟩ := te.lst_
    rw [List.map_map] at tes
    have tes' : TDs AnyL B evs (js.map fun j => enD (enT T0 j)) := tes.w fun _ _ => trivial
    have hRB := hR0.ex eB
    have hfB := eB.at hf
    have hSB : ∀ z ∈ [r, ld], ∀ xs, B z ≠ some (.lst xs) := fun z hz xs q => by
      simp only [List.mem_cons, List.not_mem_nil, or_false] at hz
      rcases hz with rfl | rfl
      · rw [eB.at hr0] at q; cases q
      · rw [eB.at hld] at q; cases q
    have nLr : L ≠ r := fun z => hSB r (by simp) evs (by rw [← z]; exact hL)
    have nLd : L ≠ ld := fun z => hSB ld (by simp) evs (by rw [← z]; exact hL)
    have nfd : f ≠ ld := fun z => by rw [← z, hf] at hld; cases hld
    have nfr : f ≠ r := fun z => by
      rw [← z, hf] at hr0
      have q := HO.ins.inj (Option.some.inj hr0)
      have q2 := congrArg List.length q.2.2
      cases q2
    have hat : ∀ {H' : Hp} {b : Addr} {o : HO}, Ch [r, ld] B H' → B b = some o → b ≠ r → b ≠ ld → NT o → H' b = some o := fun {H' b o} e h q1 q2 nt => e.keep b o h nt fun z => by
      simp only [List.mem_cons, List.not_mem_nil, or_false] at z
      exact z.elim q1 q2
    wtm_at "gob"
    refine forA walk_list tes' (fun d σ H' => Ch [r, ld] B H' ∧ Rep K T0 H' r ld (recvs (n, ks) d).1 (recvs (n, ks) d).2 ∧ n ≤ (recvs (n, ks) d).1 ∧ ∃ x3, σ = [some (.ref f), some (.str (feedText (js.map (enT T0)))), some (.int n), x3]) ?_ ?_ ?_ ?_
    · exact ⟨Ch.refl _ _, hRB, Nat.le_refl _, _, rfl⟩
    · exact fun d σ H' q => sqL_ (hat q.1 hL nLr nLd trivial)
    · rintro d j rr v σ H4 ed tv ⟨e4, hR4, hm4, x3, rfl⟩
      have hf4 := hat e4 hfB nfr nfd trivial
      have tv4 := tv.keep e4 hSB
      have hjk := hj j (by rw [ed]; simp)
      have hdl : (recvs (n, ks) d).2.length ≤ ks.length + d.length := recvs_len d (n, ks)
      have hdl2 : d.length ≤ js.length := by rw [ed]; simp
      have hR4' := hR4
      obtain ⟨dx4, tl4, ws4, kvs4, hr4, htl4, tt4, hld4, hlt4⟩ := hR4'
      wtm_at "gob"
      refine ⟨T0, r, ld, _, _, j, v, rfl, tabs_ (tabs_ tb_ eB) e4, hR4, tv4, by omega, by omega, fun H5 e5 hn5 hR5 => ?_⟩
      rw [← recvs_app] at hn5 hR5
      wtm_at "gob"
      exact ⟨Nat.le_trans hm4 hn5, _, rfl⟩
    · rintro σ H4 ⟨e4, hR4, hm4, x3, rfl⟩
      have hf4 := hat e4 hfB nfr nfd trivial
      have hF4 : Fol K T0 H4 f r ld (recvs (n, ks) js).1 (recvs (n, ks) js).2 := ⟨dx, hf4, hR4⟩
      wtm_at "gob"
      refine ⟨T0, f, r, ld, _, _, rfl, hF4, ?_⟩
      wtm_at "gob"
      exact k H4 (eB.wk.trans e4) hm4 hF4
end


/-! ### schema.py: lines -/
abbrev lnF (num : Int) (lp : Addr) (i : Nat) : List (Str × V) := [("number", .int num), ("parts", .ref lp), ("at", .int i)]
def Ln (K : PySem.W.Frag) (H : Hp) (a : Addr) (num : Int) (ps : List Str) (i : Nat) : Prop := ∃ dx lp, H a = some (.ins (He.ga K "Line") dx (lnF num lp i)) ∧ H lp = some (.lst (ps.map V.str))
theorem Ln.ex {K : PySem.W.Frag} {H H' : Hp} {a : Addr} {num : Int} {ps : List Str} {i : Nat} (h : Ln K H a num ps i) (e : Ex H H') : Ln K H' a num ps i := by
  obtain ⟨dx, lp, h1, h2⟩ := h
  exact ⟨dx, lp, e.at h1, e.at h2⟩
section
variable {P : Program} {w : World} {K : PySem.W.Frag} {mg : Str → Option Value} {base : Heap}
abbrev sp_ln_init (K : PySem.W.Frag) : Sp := fun vs H Q _ => ∃ (a dx lp : Addr) (num : Int) (ps : List Str), vs = [.ref a, .int num, .ref lp] ∧ H a = some (.ins (He.ga K "Line") dx []) ∧ H lp = some (.lst (ps.map V.str)) ∧ ∀ H', Ch [a] H H' → Ln K H' a num ps 0 → Q .non H'
abbrev N_Line_init : List Str := ["self", "number", "parts"]
theorem sc_Line_init : FnScope N_Line_init ["self", "number", "parts"] (defScope s_Line_init) := ⟨rfl, rfl, rfl, by decide +kernel, rfl, by decide +kernel, by decide +kernel⟩
theorem ok_Line_init (T : Tx w K mg base) : FnOk P w K mg base CX0 1 (a_Line_init K) (fd_Line_init K) ["self", "number", "parts"] (sp_ln_init K) := by
  refine T.f_Line_init.ok sc_Line_init (fun vs H Q E h => ?_) (fun cdv A outer s H vs Q E hr h => ?_)
  · obtain ⟨a, dx, lp, num, ps, rfl, _⟩ := h
    rfl
  obtain ⟨a, dx, lp, num, ps, rfl, ha, hlp, k⟩ := h
  refine ⟨_, PSs.nox (pss_cons (ps_fld (pv 0) (pv 1) rfl) (pss_cons (ps_fld (pv 0) (pv 2) rfl) (pss_one (ps_fld (pv 0) pe_int rfl)))), ?_⟩
  have n1 : lp ≠ a := fun z => by rw [z, ha] at hlp; cases hlp
  wtm_at "go"
  rename_i H1 e1 h1 H2 e2 h2 H3 e3 h3
  have E : Ch [a] H H3 := (e1.trans e2).trans e3
  exact k H3 E ⟨dx, lp, h3, E.at1 hlp n1⟩
abbrev sp_ln_np (K : PySem.W.Frag) : Sp := fun vs H Q _ => ∃ (a : Addr) (num : Int) (ps : List Str) (i : Nat), vs = [.ref a] ∧ Ln K H a num ps i ∧ Q (.str (ps.getD i "")) H
abbrev N_Line_next_part : List Str := ["self"]
theorem sc_Line_next_part : FnScope N_Line_next_part ["self"] (defScope s_Line_next_part) := ⟨rfl, rfl, rfl, by decide +kernel, rfl, by decide +kernel, by decide +kernel⟩
theorem ok_Line_next_part (T : Tx w K mg base) : FnOk P w K mg base CX0 1 (a_Line_next_part K) (fd_Line_next_part K) ["self"] (sp_ln_np K) := by
  refine T.f_Line_next_part.ok sc_Line_next_part (fun vs H Q E h => ?_) (fun cdv A outer s H vs Q E hr h => ?_)
  · obtain ⟨a, num, ps, i, rfl, _⟩ := h
    rfl
  obtain ⟨a, num, ps, i, rfl, hL, k⟩ := h
  refine ⟨_, PSs.nox (pss_one (ps_ret (pe_ifExp (pt_cmpR (op_lt) (pe_fld (pv 0) rfl) (pe_callB call_len_seq (by rfl) T.n_len (by decide +kernel) (pa_cons (pe_fld (pv 0) rfl) pa_nil)) (nomark _)) (pe_ix ix_list (pe_fld (pv 0) rfl) (pe_fld (pv 0) rfl) (fun _ _ => rfl)) pe_str))), ?_⟩
  obtain ⟨dx, lp, h1, h2⟩ := hL
  wtm_at "go"
  refine ifd (fun h => ?_) (fun h => ?_)
  · have hi : i < ps.length := by
      have h : (i : Int) < (ps.map V.str).length := h
      rw [List.length_map] at h
      omega
    wtm_at "go"
    have e : (ps.map V.str)[i]? = some (.str (ps.getD i "")) := by
      rw [List.getElem?_map, List.getElem?_eq_getElem hi, List.getD_eq_getElem?_getD, List.getElem?_eq_getElem hi]
      rfl
    exact gIxL h2 (atI_nat e) k
  · have hi : ¬ i < ps.length := by
      have h : ¬ (i : Int) < (ps.map V.str).length := h
      rw [List.length_map] at h
      omega
    wtm_at "go"
    have e : ps.getD i "" = "" := by
      rw [List.getD_eq_getElem?_getD, List.getElem?_eq_none (by omega)]
      rfl
    rw [e] at k
    exact k
abbrev sp_ln_take (K : PySem.W.Frag) : Sp := fun vs H Q _ => ∃ (a : Addr) (num : Int) (ps : List Str) (i : Nat), vs = [.ref a] ∧ Ln K H a num ps i ∧ ∀ H', Ch [a] H H' → Ln K H' a num ps (i + 1) → Q (.str (ps.getD i "")) H'
abbrev N_Line_take : List Str := ["self", "found"]
theorem sc_Line_take : FnScope N_Line_take ["self"] (defScope s_Line_take) := ⟨rfl, rfl, rfl, by decide +kernel, rfl, by decide +kernel, by decide +kernel⟩
theorem ok_Line_take (T : Tx w K mg base) : FnOk P w K mg base CX0 2 (a_Line_take K) (fd_Line_take K) ["self"] (sp_ln_take K) := by
  refine T.f_Line_take.ok sc_Line_take (fun vs H Q E h => ?_) (fun cdv A outer s H vs Q E hr h => ?_)
  · obtain ⟨a, num, ps, i, rfl, _⟩ := h
    rfl
  obtain ⟨a, num, ps, i, rfl, hL, k⟩ := h
  refine ⟨_, PSs.nox (pss_cons (ps_set (i := 1) sc_Line_take.nd rfl (Or.inl rfl) (pe_meth0 (pv 0) T.c_Line T.m_Line_next_part (ok_Line_next_part T) (hr.mono (by decide)) T.b_Line_next_part .nil pass0)) (pss_cons (ps_fldaug (pv 0) pe_int in_add) (pss_one (ps_ret (pv 1))))), ?_⟩
  have hL0 := hL
  obtain ⟨dx, lp, h1, h2⟩ := hL
  have n1 : lp ≠ a := fun z => by rw [z, h1] at h2; cases h2
  wtm_at "go"
  refine ⟨a, num, ps, i, rfl, hL0, ?_⟩
  wtm_at "go"
  rename_i H1 e1 h1'
  exact k H1 e1 ⟨dx, lp, h1', e1.at1 h2 n1⟩
abbrev sp_ln_expect (K : PySem.W.Frag) : Sp := fun vs H Q _ => ∃ (a : Addr) (num : Int) (ps : List Str) (i : Nat) (x : Str), vs = [.ref a, .str x] ∧ Ln K H a num ps i ∧ ps.getD i "" = x ∧ ∀ H', Ch [a] H H' → Ln K H' a num ps (i + 1) → Q .non H'
abbrev N_Line_expect : List Str := ["self", "part"]
theorem sc_Line_expect : FnScope N_Line_expect ["self", "part"] (defScope s_Line_expect) := ⟨rfl, rfl, rfl, by decide +kernel, rfl, by decide +kernel, by decide +kernel⟩
theorem ok_Line_expect (T : Tx w K mg base) : FnOk P w K mg base CX0 3 (a_Line_expect K) (fd_Line_expect K) ["self", "part"] (sp_ln_expect K) := by
  refine T.f_Line_expect.ok sc_Line_expect (fun vs H Q E h => ?_) (fun cdv A outer s H vs Q E hr h => ?_)
  · obtain ⟨a, num, ps, i, x, rfl, _⟩ := h
    rfl
  obtain ⟨a, num, ps, i, x, rfl, hL, hx, k⟩ := h
  refine ⟨_, PSs.nox (pss_one (ps_if (pt_cmpR (op_ne) (pe_meth0 (pv 0) T.c_Line T.m_Line_take (ok_Line_take T) (hr.mono (by decide)) T.b_Line_take .nil pass0) (pv 1) (nomark _)) (pss_one ps_never) pss_nil)), ?_⟩
  have hL0 := hL
  obtain ⟨dx, lp, h1, h2⟩ := hL
  wtm_at "go"
  refine ⟨a, num, ps, i, rfl, hL0, fun H1 e1 hL1 => ?_⟩
  wtm_at "go"
  refine blF (by rw [hx]; simp) ?_
  wtm_at "go"
  exact k H1 e1 hL1
abbrev sp_ln_name (K : PySem.W.Frag) : Sp := fun vs H Q _ => ∃ (a : Addr) (num : Int) (ps : List Str) (i : Nat), vs = [.ref a] ∧ Tabs K H ∧ Ln K H a num ps i ∧ isIdent (ps.getD i "") = true ∧ (ps.getD i "").length ≤ 100 ∧ ∀ H', Ch [a] H H' → Ln K H' a num ps (i + 1) → Q (.str (ps.getD i "")) H'
abbrev N_Line_name : List Str := ["self", "found"]
theorem sc_Line_name : FnScope N_Line_name ["self"] (defScope s_Line_name) := ⟨rfl, rfl, rfl, by decide +kernel, rfl, by decide +kernel, by decide +kernel⟩
theorem ok_Line_name (T : Tx w K mg base) : FnOk P w K mg base CX0 5 (a_Line_name K) (fd_Line_name K) ["self"] (sp_ln_name K) := by
  refine T.f_Line_name.ok sc_Line_name (fun vs H Q E h => ?_) (fun cdv A outer s H vs Q E hr h => ?_)
  · obtain ⟨a, num, ps, i, rfl, _⟩ := h
    rfl
  obtain ⟨a, num, ps, i, rfl, tb_, hL, hx, hlen, k⟩ := h
  refine ⟨_, PSs.nox (pss_cons (ps_set (i := 1) sc_Line_name.nd rfl (Or.inl rfl) (pe_meth0 (pv 0) T.c_Line T.m_Line_take (ok_Line_take T) (hr.mono (by decide)) T.b_Line_take .nil pass0)) (pss_cons (ps_if (pt_not (pt_val (pe_call (ok_is_identifier T) (hr.mono (by decide)) rfl T.g_is_identifier T.f_is_identifier.kp T.b_is_identifier .nil pass0 (pa_cons (pv 1) pa_nil)))) (pss_one ps_never) pss_nil) (pss_one (ps_ret (pv 1))))), ?_⟩
  have hL0 := hL
  obtain ⟨dx, lp, h1, h2⟩ := hL
  wtm_at "go"
  refine ⟨a, num, ps, i, rfl, hL0, fun H1 e1 hL1 => ?_⟩
  wtm_at "go"
  refine ⟨tabs_ tb_ e1, sl_big (by omega), fun H2 e2 => ?_⟩
  rw [hx]
  wtm_at "gob"
  exact k H2 (e1.trans e2.wk) (hL1.ex e2)
abbrev sp_ln_acc (K : PySem.W.Frag) : Sp := fun vs H Q _ => ∃ (a : Addr) (num : Int) (ps : List Str) (i : Nat) (x : Str), vs = [.ref a, .str x] ∧ Ln K H a num ps i ∧
  (ps.getD i "" = x → ∀ H', Ch [a] H H' → Ln K H' a num ps (i + 1) → Q (.bl true) H') ∧ (ps.getD i "" ≠ x → Q (.bl false) H)
abbrev N_Line_accepts : List Str := ["self", "part"]
theorem sc_Line_accepts : FnScope N_Line_accepts ["self", "part"] (defScope s_Line_accepts) := ⟨rfl, rfl, rfl, by decide +kernel, rfl, by decide +kernel, by decide +kernel⟩
theorem ok_Line_accepts (T : Tx w K mg base) : FnOk P w K mg base CX0 2 (a_Line_accepts K) (fd_Line_accepts K) ["self", "part"] (sp_ln_acc K) := by
  refine T.f_Line_accepts.ok sc_Line_accepts (fun vs H Q E h => ?_) (fun cdv A outer s H vs Q E hr h => ?_)
  · obtain ⟨a, num, ps, i, x, rfl, _⟩ := h
    rfl
  obtain ⟨a, num, ps, i, x, rfl, hL, k1, k0⟩ := h
  refine ⟨_, PSs.nox (pss_cons (ps_if (pt_cmpR (op_ne) (pe_meth0 (pv 0) T.c_Line T.m_Line_next_part (ok_Line_next_part T) (hr.mono (by decide)) T.b_Line_next_part .nil pass0) (pv 1) (nomark _)) (pss_one (ps_ret pe_bl)) pss_nil) (pss_cons (ps_fldaug (pv 0) pe_int in_add) (pss_one (ps_ret pe_bl)))), ?_⟩
  have hL0 := hL
  obtain ⟨dx, lp, h1, h2⟩ := hL
  have n1 : lp ≠ a := fun z => by rw [z, h1] at h2; cases h2
  wtm_at "go"
  refine ⟨a, num, ps, i, rfl, hL0, ?_⟩
  wtm_at "go"
  refine ifb (fun h => ?_) (fun h => ?_)
  · wtm_at "go"
    exact k0 (by simpa using h)
  · wtm_at "go"
    rename_i H1 e1 h1'
    exact k1 (by simpa using h) H1 e1 ⟨dx, lp, h1', e1.at1 h2 n1⟩
abbrev sp_ln_fin (K : PySem.W.Frag) : Sp := fun vs H Q _ => ∃ (a : Addr) (num : Int) (ps : List Str) (i : Nat), vs = [.ref a] ∧ Ln K H a num ps i ∧ ps.length ≤ i ∧ Q .non H
abbrev N_Line_finish : List Str := ["self"]
theorem sc_Line_finish : FnScope N_Line_finish ["self"] (defScope s_Line_finish) := ⟨rfl, rfl, rfl, by decide +kernel, rfl, by decide +kernel, by decide +kernel⟩
theorem ok_Line_finish (T : Tx w K mg base) : FnOk P w K mg base CX0 1 (a_Line_finish K) (fd_Line_finish K) ["self"] (sp_ln_fin K) := by
  refine T.f_Line_finish.ok sc_Line_finish (fun vs H Q E h => ?_) (fun cdv A outer s H vs Q E hr h => ?_)
  · obtain ⟨a, num, ps, i, rfl, _⟩ := h
    rfl
  obtain ⟨a, num, ps, i, rfl, hL, hi, k⟩ := h
  refine ⟨_, PSs.nox (pss_one (ps_if (pt_cmpR (op_lt) (pe_fld (pv 0) rfl) (pe_callB call_len_seq (by rfl) T.n_len (by decide +kernel) (pa_cons (pe_fld (pv 0) rfl) pa_nil)) (nomark _)) (pss_one ps_never) pss_nil)), ?_⟩
  obtain ⟨dx, lp, h1, h2⟩ := hL
  wtm_at "go"
  refine blF (decide_eq_false (by rw [List.length_map]; omega)) ?_
  wtm_at "go"
  exact k
end


theorem forS {z : Str} {g : TG} {tb : TS} {D : Ends} {σ : L2.St} {H1 : Hp} (Pv : List Nat → L2.St → Hp → Prop) (h0 : Pv [] σ H1)
    (hs : ∀ (d : List Nat) (c : Nat) (r : List Nat) σ H, z.cps.toList = d ++ c :: r → Pv d σ H → g (.str ⟨#[c]⟩) σ H fun σ2 H2 => tb { D with nx := Pv (d ++ [c]), ct := Pv (d ++ [c]), bk := D.nx } σ2 H2) (hd : ∀ σ H, Pv z.cps.toList σ H → D.nx σ H) : FW (Its z) g tb D σ H1 := by
  refine for_it walk_str (fun i => Pv (z.cps.toList.take i)) h0 (fun _ _ _ _ _ => trivial) ?_ ?_
  · rintro i v σ H H' hi p ⟨rfl, c, hc, rfl⟩
    have hx : z.cps.toList[i]? = some c := by rw [Array.getElem?_toList]; exact hc
    obtain ⟨e, _⟩ := split_at hx
    have q := hs (z.cps.toList.take i) c _ σ H' e p
    rw [← take_next hx] at q
    exact q
  · intro σ H p
    refine hd σ H ?_
    have p : Pv (z.cps.toList.take z.cps.size) σ H := p
    rw [← Array.length_toList, List.take_length] at p
    exact p
def inMarks (c : Nat) : Bool := !(Builtin.Str.occurrences ":,#=.|&-" ⟨#[c]⟩ 0 (":,#=.|&-" : Str).length 1).isEmpty
def partsStep (s : List Str × Bool) (c : Nat) : Option (List Str × Bool) :=
  if isSign ⟨#[c]⟩ then
    (if s.2 then
      match s.1.reverse with
      | x :: r => some ((r.reverse ++ [x ++ ⟨#[c]⟩]), true)
      | [] => none
    else some (s.1 ++ [⟨#[c]⟩], true))
  else if inMarks c then some (s.1 ++ [⟨#[c]⟩], false)
  else if (⟨#[c]⟩ : Str) = " " then some (s.1, false) else none
def partsRun : List Str × Bool → List Nat → Option (List Str × Bool)
  | s, [] => some s
  | s, c :: r => match partsStep s c with
    | some s' => partsRun s' r
    | none => none
def partsOf (x : Str) : Option (List Str) := (partsRun ([], false) x.cps.toList).map (·.1)
theorem partsRun_app : ∀ (d r : List Nat) (s : List Str × Bool), partsRun s (d ++ r) = (partsRun s d).bind fun s' => partsRun s' r
  | [], r, s => rfl
  | c :: d, r, s => by
    show (match partsStep s c with | some s' => partsRun s' (d ++ r) | none => none) = (match partsStep s c with | some s' => partsRun s' d | none => none).bind _
    cases partsStep s c with
    | none => rfl
    | some s' => exact partsRun_app d r s'
theorem gSub_ {to ti : TE} {t : TSet} {v : V} {σ : L2.St} {H : Hp} {QS : L2.St → Hp → Prop} (h : to σ H fun o H1 => ti σ H1 fun i H2 => t o i v H2 fun H3 => QS σ H3) : L2.gSub to ti t v σ H QS := h
theorem gSetLast {l : Addr} {xs : List V} {x v : V} {H : Hp} {Q : Hp → Prop} (h : H l = some (.lst (xs ++ [x]))) (q : ∀ H2, Ch [l] H H2 → H2 l = some (.lst (xs ++ [v])) → Q H2) : rSetL (.ref l) (.int (-1)) v H Q := by
  refine ⟨l, xs ++ [x], -1, xs.length, rfl, rfl, h, ?_, q _ (Ch.put h) ?_⟩
  · unfold ixN
    rw [if_neg (by decide), List.length_append, List.length_singleton, if_pos (by omega)]
    congr 1
    omega
  · rw [upd_same]
    simp
section
variable {P : Program} {w : World} {K : PySem.W.Frag} {mg : Str → Option Value} {base : Heap}
abbrev sp_parts : Sp := fun vs H Q _ => ∃ (num : Int) (x : Str) (ps : List Str), vs = [.int num, .str x] ∧ partsOf x = some ps ∧ x.length ≤ 200 ∧ ∀ p H', Ex H H' → H p = none → H' p = some (.lst (ps.map V.str)) → Q (.ref p) H'
abbrev N_parts_of_line : List Str := ["number", "text", "parts", "is_inside", "sign"]
theorem sc_parts_of_line : FnScope N_parts_of_line ["number", "text"] (defScope s_parts_of_line) := ⟨rfl, rfl, rfl, by decide +kernel, rfl, by decide +kernel, by decide +kernel⟩
theorem ok_parts_of_line (T : Tx w K mg base) : FnOk P w K mg base CX0 2 (a_parts_of_line K) (fd_parts_of_line K) ["number", "text"] sp_parts := by
  refine T.f_parts_of_line.ok sc_parts_of_line (fun vs H Q E h => ?_) (fun cdv A outer s H vs Q E hr h => ?_)
  · obtain ⟨num, x, ps, rfl, _⟩ := h
    rfl
  obtain ⟨num, x, ps, rfl, hps, hlen, k⟩ := h
  refine ⟨_, PSs.nox (pss_cons (ps_set (i := 2) sc_parts_of_line.nd rfl (Or.inl rfl) (pe_lst pa_nil)) (pss_cons (ps_set (i := 3) sc_parts_of_line.nd rfl (Or.inl rfl) pe_bl) (pss_cons (ps_for PassesOwn.never rfl (pi_str (pv 1)) (pg_name (i := 4) sc_parts_of_line.nd rfl (Or.inl rfl)) (pss_cons (ps_if (pt_val (pe_call (ok_is_sign T) (hr.mono (by decide)) rfl T.g_is_sign T.f_is_sign.kp T.b_is_sign .nil pass0 (pa_cons (pv 4) pa_nil))) (pss_one (ps_if (pt_val (pv 3)) (pss_one (ps_asg (pe_op op_add_str (pe_ix ix_list (pv 2) (pe_un un_neg pe_int) (fun _ _ => rfl)) (pv 4)) (pg_sub (pv 2) (pe_un un_neg pe_int) set_list))) (pss_one (ps_expr (pe_bm PySem.F.plainAttrs_list PySem.F.slot_list_append PySem.F.type_list_append mt_append (pv 2) (pa_cons (pv 4) pa_nil)))))) (pss_one (ps_if (pt_cmpR (op_in_str) (pv 4) pe_str (by rfl)) (pss_one (ps_expr (pe_bm PySem.F.plainAttrs_list PySem.F.slot_list_append PySem.F.type_list_append mt_append (pv 2) (pa_cons (pv 4) pa_nil)))) (pss_one (ps_if (pt_cmpR (op_ne) (pv 4) pe_str (nomark _)) pss_never pss_nil))))) (pss_one (ps_set (i := 3) sc_parts_of_line.nd rfl (Or.inl rfl) (pe_call (ok_is_sign T) (hr.mono (by decide)) rfl T.g_is_sign T.f_is_sign.kp T.b_is_sign .nil pass0 (pa_cons (pv 4) pa_nil)))))) (pss_one (ps_ret (pv 2)))))), ?_⟩
  wtm_at "go"
  rename_i L hL H1 e1 h1
  have hrun : ∃ b, partsRun ([], false) x.cps.toList = some (ps, b) := by
    unfold partsOf at hps
    cases q : partsRun ([], false) x.cps.toList with
    | none => rw [q] at hps; cases hps
    | some s => rw [q] at hps; cases hps; exact ⟨s.2, rfl⟩
  have hxl : x.cps.toList.length ≤ 200 := by rw [Array.length_toList]; exact hlen
  refine forS (fun d σ H' => Ex H H' ∧ ∃ s, partsRun ([], false) d = some s ∧ H' L = some (.lst (s.1.map V.str)) ∧ s.1.length ≤ d.length ∧ (∀ y ∈ s.1, y.length ≤ d.length) ∧ ∃ x4, σ = [some (.int num), some (.str x), some (.ref L), some (.bl s.2), x4]) ?_ ?_ ?_
  · exact ⟨e1, ([], false), rfl, h1, Nat.le_refl _, fun y hy => (nomatch hy), _, rfl⟩
  · rintro d c r σ H3 ed ⟨eH, s, hs, hL3, hsl, hsy, x4, rfl⟩
    obtain ⟨b, hb⟩ := hrun
    rw [ed, partsRun_app, hs] at hb
    have hdl : d.length < 200 := by rw [ed] at hxl; simp at hxl; omega
    obtain ⟨s', hs'⟩ : ∃ s', partsStep s c = some s' := by
      cases q : partsStep s c with
      | none =>
        have hb' : (match partsStep s c with | some s' => partsRun s' r | none => none) = some (ps, b) := hb
        rw [q] at hb'
        cases hb'
      | some s' => exact ⟨s', rfl⟩
    have hrun' : partsRun ([], false) (d ++ [c]) = some s' := by
      rw [partsRun_app, hs]
      show (match partsStep s c with | some s' => partsRun s' [] | none => none) = some s'
      rw [hs']
      rfl
    have e1c : ((⟨#[c]⟩ : Str)).length = 1 := rfl
    have fin : ∀ H4 b4, Ch [L] H3 H4 → H4 L = some (.lst (s'.1.map V.str)) → b4 = s'.2 → s'.1.length ≤ d.length + 1 → (∀ y ∈ s'.1, y.length ≤ d.length + 1) → Ex H H4 ∧ ∃ s, partsRun ([], false) (d ++ [c]) = some s ∧ H4 L = some (.lst (s.1.map V.str)) ∧ s.1.length ≤ (d ++ [c]).length ∧ (∀ y ∈ s.1, y.length ≤ (d ++ [c]).length) ∧ ∃ x4, [some (V.int num), some (V.str x), some (V.ref L), some (V.bl b4), some (V.str ⟨#[c]⟩)] = [some (.int num), some (.str x), some (.ref L), some (.bl s.2), x4] := fun H4 b4 e4 h4 hb4 l1 l2 => by
      refine ⟨exD eH hL e4, s', hrun', h4, by simpa using l1, by simpa using l2, _, by rw [hb4]⟩
    have hsm : (s.1.map V.str).length < sizeLine := by
      rw [List.length_map]
      exact Nat.lt_of_le_of_lt (Nat.le_trans hsl (Nat.le_of_lt hdl)) (by decide)
    unfold partsStep at hs'
    wtm_at "gob"
    refine ifb (fun h => ?_) (fun h => ?_)
    · rw [if_pos h] at hs'
      wtm_at "gob"
      refine ifb (fun h2 => ?_) (fun h2 => ?_)
      · rw [if_pos h2] at hs'
        cases q : s.1.reverse with
        | nil => rw [q] at hs'; cases hs'
        | cons y rr =>
          rw [q] at hs'
          have es : s.1 = rr.reverse ++ [y] := by
            have z := congrArg List.reverse q
            rw [List.reverse_reverse, List.reverse_cons] at z
            exact z
          have hs' : some (rr.reverse ++ [y ++ (⟨#[c]⟩ : Str)], true) = some s' := hs'
          cases hs'
          have em : s.1.map V.str = rr.reverse.map V.str ++ [.str y] := by rw [es, List.map_append]; rfl
          rw [em] at hL3
          have hyl := hsy y (by rw [es]; simp)
          wtm_at "gob"
          refine gIxL hL3 atI_last ?_
          wtm_at "gob"
          refine ⟨sl_big (by rw [e1c]; omega), ?_⟩
          refine gSub_ ?_
          wtm_at "gob"
          refine gSetLast hL3 fun H4 e4 h4 => ?_
          wtm_at "gob"
          rw [h]
          refine fin H4 true e4 ?_ rfl ?_ ?_
          · rw [h4, List.map_append]
            rfl
          · rw [es] at hsl
            simp at hsl ⊢
            omega
          · intro z hz
            rcases List.mem_append.mp hz with hz | hz
            · have := hsy z (by rw [es]; simp [List.mem_reverse.mp hz])
              omega
            · rw [List.mem_singleton.mp hz, str_len, e1c]
              omega
      · rw [if_neg (by rw [h2]; exact Bool.false_ne_true)] at hs'
        cases hs'
        wtm_at "gob"
        refine gApp hL3 hsm fun H4 e4 h4 => ?_
        wtm_at "gob"
        rw [h]
        refine fin H4 true e4 ?_ rfl ?_ ?_
        · rw [h4, List.map_append]
          rfl
        · simp
          exact hsl
        · intro z hz
          rcases List.mem_append.mp hz with hz | hz
          · have := hsy z hz
            omega
          · rw [List.mem_singleton.mp hz, e1c]
            omega
    · rw [if_neg (by rw [h]; exact Bool.false_ne_true)] at hs'
      wtm_at "gob"
      refine ifb (fun h2 => ?_) (fun h2 => ?_)
      · have h2' : inMarks c = true := h2
        rw [if_pos h2'] at hs'
        cases hs'
        wtm_at "gob"
        refine gApp hL3 hsm fun H4 e4 h4 => ?_
        wtm_at "gob"
        rw [h]
        refine fin H4 false e4 ?_ rfl ?_ ?_
        · rw [h4, List.map_append]
          rfl
        · simp
          exact hsl
        · intro z hz
          rcases List.mem_append.mp hz with hz | hz
          · have := hsy z hz
            omega
          · rw [List.mem_singleton.mp hz, e1c]
            omega
      · have h2' : inMarks c = false := h2
        rw [if_neg (by rw [h2']; exact Bool.false_ne_true)] at hs'
        wtm_at "gob"
        by_cases h3 : (⟨#[c]⟩ : Str) = " "
        · rw [if_pos h3] at hs'
          cases hs'
          refine blF (by rw [decide_eq_true h3]; rfl) ?_
          wtm_at "gob"
          rw [h]
          exact (fin H3 false (Ch.refl _ _) hL3 rfl (by simpa using Nat.le_succ_of_le hsl) fun z hz => Nat.le_succ_of_le (hsy z hz)).2
        · rw [if_neg h3] at hs'
          cases hs'
  · rintro σ H3 ⟨eH, s, hs, hL3, hsl, hsy, x4, rfl⟩
    obtain ⟨b, hb⟩ := hrun
    rw [hb] at hs
    cases hs
    wtm_at "gob"
    exact k L H3 eH hL hL3
end


def nameAt (ps : List Str) (i : Nat) : Option Str := if isIdent (ps.getD i "") && decide ((ps.getD i "").length ≤ 100) then some (ps.getD i "") else none
theorem nameAt_ok {ps : List Str} {i : Nat} {x : Str} (h : nameAt ps i = some x) : isIdent (ps.getD i "") = true ∧ (ps.getD i "").length ≤ 100 ∧ ps.getD i "" = x := by
  unfold nameAt at h
  split at h
  · rename_i q
    rw [Bool.and_eq_true, decide_eq_true_eq] at q
    cases h
    exact ⟨q.1, q.2, rfl⟩
  · cases h
def subjAt (ps : List Str) (i : Nat) : Option ((Str × Str) × Nat) :=
  match nameAt ps i with
  | some kind => if ps.getD (i + 1) "" = "#" then (match nameAt ps (i + 2) with | some n => some ((kind, n), i + 3) | none => none) else some ((kind, ""), i + 1)
  | none => none
def subjsAt (ps : List Str) : Nat → Nat → List (Str × Str) → Option (List (Str × Str) × Nat)
  | 0, _, _ => none
  | f + 1, i, acc => if ps.getD i "" = "," then (match subjAt ps (i + 1) with | some (s, j) => subjsAt ps f j (acc ++ [s]) | none => none) else some (acc, i)
def prD (s : Str × Str) : PyData := .tuple [.str s.1, .str s.2]
abbrev Ent := Str × Str × List (List Str)
def tsD (p : List Str) : PyData := .tuple (p.map .str)
def entD (e : Ent) : PyData := .tuple [.str e.1, .str e.2.1, .tuple (e.2.2.map tsD)]
def relAt (ps : List Str) (i : Nat) : Option Ent :=
  match nameAt ps i with
  | some n => if ps.getD (i + 1) "" = ":" then
      match subjAt ps (i + 2) with
      | some (s, j) => match subjsAt ps 8 j [s] with
        | some (ss, j') => if ps.length ≤ j' ∧ ss.length ≤ 8 then some (n, "relation", ss.map fun s => [s.1, s.2]) else none
        | none => none
      | none => none
    else none
  | none => none
section
variable {P : Program} {w : World} {K : PySem.W.Frag} {mg : Str → Option Value} {base : Heap}
abbrev sp_read_subject (K : PySem.W.Frag) : Sp := fun vs H Q _ => ∃ (a : Addr) (num : Int) (ps : List Str) (i : Nat) (s : Str × Str) (j : Nat), vs = [.ref a] ∧ Tabs K H ∧ Ln K H a num ps i ∧ subjAt ps i = some (s, j) ∧
  ∀ v H', Ch [a] H H' → Ln K H' a num ps j → TD NoL H' v (prD s) → Q v H'
abbrev N_read_subject : List Str := ["line", "kind"]
theorem sc_read_subject : FnScope N_read_subject ["line"] (defScope s_read_subject) := ⟨rfl, rfl, rfl, by decide +kernel, rfl, by decide +kernel, by decide +kernel⟩
theorem ok_read_subject (T : Tx w K mg base) : FnOk P w K mg base CX0 6 (a_read_subject K) (fd_read_subject K) ["line"] (sp_read_subject K) := by
  refine T.f_read_subject.ok sc_read_subject (fun vs H Q E h => ?_) (fun cdv A outer s H vs Q E hr h => ?_)
  · obtain ⟨a, num, ps, i, s, j, rfl, _⟩ := h
    rfl
  obtain ⟨a, num, ps, i, s, j, rfl, tb_, hL, hs, k⟩ := h
  refine ⟨_, PSs.nox (pss_cons (ps_set (i := 1) sc_read_subject.nd rfl (Or.inl rfl) (pe_meth0 (pv 0) T.c_Line T.m_Line_name (ok_Line_name T) (hr.mono (by decide)) T.b_Line_name .nil pass0)) (pss_one (ps_ret (pe_tup (pa_cons (pv 1) (pa_cons (pe_ifExp (pt_val (pe_meth (pv 0) T.c_Line T.m_Line_accepts (ok_Line_accepts T) (hr.mono (by decide)) T.b_Line_accepts .nil pass0 (pa_cons pe_str pa_nil))) (pe_meth0 (pv 0) T.c_Line T.m_Line_name (ok_Line_name T) (hr.mono (by decide)) T.b_Line_name .nil pass0) pe_str) pa_nil)))))), ?_⟩
  have hL0 := hL
  obtain ⟨dx, lp, h1, h2⟩ := hL
  unfold subjAt at hs
  cases q : nameAt ps i with
  | none => rw [q] at hs; cases hs
  | some kind =>
    rw [q] at hs
    obtain ⟨n1, n2, n3⟩ := nameAt_ok q
    have hs : (if ps.getD (i + 1) "" = "#" then (match nameAt ps (i + 2) with | some n => some ((kind, n), i + 3) | none => none) else some ((kind, ("" : Str)), i + 1)) = some (s, j) := hs
    wtm_at "go"
    refine ⟨a, num, ps, i, rfl, tb_, hL0, n1, n2, fun H1 e1 hL1 => ?_⟩
    have hL1' := hL1
    obtain ⟨dx1, lp1, h11, h21⟩ := hL1'
    wtm_at "go"
    refine ⟨a, num, ps, i + 1, "#", rfl, hL1, fun hy H2 e2 hL2 => ?_, fun hn => ?_⟩
    · rw [if_pos hy] at hs
      cases q2 : nameAt ps (i + 2) with
      | none => rw [q2] at hs; cases hs
      | some n =>
        rw [q2] at hs
        cases hs
        obtain ⟨m1, m2, m3⟩ := nameAt_ok q2
        have hL2' := hL2
        obtain ⟨dx2, lp2, h12, h22⟩ := hL2'
        wtm_at "gob"
        refine ⟨a, num, ps, i + 2, rfl, tabs_ (tabs_ tb_ e1) e2, hL2, m1, m2, fun H3 e3 hL3 => ?_⟩
        wtm_at "gob"
        rename_i p hp H4 e4 h4
        refine k _ H4 (((e1.trans e2).trans e3).trans e4.wk) (hL3.ex e4) (.tup h4 (.cons ?_ (.cons ?_ .nil)))
        · rw [n3]; exact .str _
        · rw [m3]; exact .str _
    · rw [if_neg hn] at hs
      cases hs
      wtm_at "gob"
      rename_i p hp H4 e4 h4
      refine k _ H4 (e1.trans e4.wk) (hL1.ex e4) (.tup h4 (.cons ?_ (.cons (.str _) .nil)))
      rw [n3]; exact .str _
theorem refs_ne {A : Addr → Prop} {H : Hp} {α : Type} {f : α → PyData} (hf : ∀ x, ∃ ds, f x = .tuple ds) {acc : List α} {vs : List V} {ps : List Str} (t : TDs A H vs (acc.map f)) (hne : acc ≠ []) : vs ≠ ps.map V.str := fun z => by
  cases acc with
  | nil => exact hne rfl
  | cons x r =>
    obtain ⟨v, ws, rfl, h1, _⟩ := TDs.cons_ t
    obtain ⟨ds, e⟩ := hf x
    rw [e] at h1
    obtain ⟨a, _, rfl, _, _⟩ := h1.tup_
    cases ps with
    | nil => cases z
    | cons p ps =>
      rw [List.map_cons] at z
      cases (List.cons.inj z).1
theorem Ln.put {K : PySem.W.Frag} {H H' : Hp} {a L : Addr} {num : Int} {ps : List Str} {i : Nat} {vs : List V} (h : Ln K H a num ps i) (hL : H L = some (.lst vs)) (hne : vs ≠ ps.map V.str) (e : Ch [L] H H') : Ln K H' a num ps i := by
  obtain ⟨dx, lp, h1, h2⟩ := h
  refine ⟨dx, lp, e.at1 h1 fun z => ?_, e.at1 h2 fun z => ?_⟩
  · rw [z, hL] at h1
    cases h1
  · rw [z, hL] at h2
    cases h2
    exact hne rfl
theorem prD_ts (s : Str × Str) : prD s = tsD [s.1, s.2] := rfl
abbrev sp_read_relation (K : PySem.W.Frag) : Sp := fun vs H Q _ => ∃ (a : Addr) (num : Int) (ps : List Str) (i : Nat) (e : Ent), vs = [.ref a] ∧ Tabs K H ∧ Ln K H a num ps i ∧ relAt ps i = some e ∧ ∀ v j H', Ch [a] H H' → Ln K H' a num ps j → TD NoL H' v (entD e) → Q v H'
abbrev N_read_relation : List Str := ["line", "name", "subjects"]
theorem sc_read_relation : FnScope N_read_relation ["line"] (defScope s_read_relation) := ⟨rfl, rfl, rfl, by decide +kernel, rfl, by decide +kernel, by decide +kernel⟩
theorem ok_read_relation (T : Tx w K mg base) : FnOk P w K mg base CX0 7 (a_read_relation K) (fd_read_relation K) ["line"] (sp_read_relation K) := by
  refine T.f_read_relation.ok sc_read_relation (fun vs H Q E h => ?_) (fun cdv A outer s H vs Q E hr h => ?_)
  · obtain ⟨a, num, ps, i0, e, rfl, _⟩ := h
    rfl
  obtain ⟨a, num, ps, i0, e, rfl, tb_, hL, he, k⟩ := h
  refine ⟨_, PSs.nox (pss_cons (ps_set (i := 1) sc_read_relation.nd rfl (Or.inl rfl) (pe_meth0 (pv 0) T.c_Line T.m_Line_name (ok_Line_name T) (hr.mono (by decide)) T.b_Line_name .nil pass0)) (pss_cons (ps_expr (pe_meth (pv 0) T.c_Line T.m_Line_expect (ok_Line_expect T) (hr.mono (by decide)) T.b_Line_expect .nil pass0 (pa_cons pe_str pa_nil))) (pss_cons (ps_set (i := 2) sc_read_relation.nd rfl (Or.inl rfl) (pe_lst (pa_cons (pe_call (ok_read_subject T) (hr.mono (by decide)) rfl T.g_read_subject T.f_read_subject.kp T.b_read_subject .nil pass0 (pa_cons (pv 0) pa_nil)) pa_nil))) (pss_cons (ps_while PassesOwn.never (pt_val (pe_meth (pv 0) T.c_Line T.m_Line_accepts (ok_Line_accepts T) (hr.mono (by decide)) T.b_Line_accepts .nil pass0 (pa_cons pe_str pa_nil))) (pss_one (ps_expr (pe_bm PySem.F.plainAttrs_list PySem.F.slot_list_append PySem.F.type_list_append mt_append (pv 2) (pa_cons (pe_call (ok_read_subject T) (hr.mono (by decide)) rfl T.g_read_subject T.f_read_subject.kp T.b_read_subject .nil pass0 (pa_cons (pv 0) pa_nil)) pa_nil))))) (pss_cons (ps_expr (pe_meth0 (pv 0) T.c_Line T.m_Line_finish (ok_Line_finish T) (hr.mono (by decide)) T.b_Line_finish .nil pass0)) (pss_cons (ps_if (pt_cmpR (op_gt) (pe_callB call_len_seq (by rfl) T.n_len (by decide +kernel) (pa_cons (pv 2) pa_nil)) (pe_gint T.i_SUBJECTS_MOST) (nomark _)) (pss_one ps_never) pss_nil) (pss_one (ps_ret (pe_tup (pa_cons (pv 1) (pa_cons pe_str (pa_cons (pe_callTy call_tuple_of (by rfl) T.n_tuple (by decide +kernel) (pa_cons (pv 2) pa_nil)) pa_nil)))))))))))), ?_⟩
  have hL0 := hL
  obtain ⟨dx, lp, h1, h2⟩ := hL
  unfold relAt at he
  cases q : nameAt ps i0 with
  | none => rw [q] at he; cases he
  | some nm =>
    rw [q] at he
    obtain ⟨n1, n2, n3⟩ := nameAt_ok q
    dsimp only at he
    by_cases hc : ps.getD (i0 + 1) "" = ":"
    · rw [if_pos hc] at he
      cases q2 : subjAt ps (i0 + 2) with
      | none => rw [q2] at he; cases he
      | some sj =>
        obtain ⟨s1, j1⟩ := sj
        rw [q2] at he
        dsimp only at he
        cases q3 : subjsAt ps 8 j1 [s1] with
        | none => rw [q3] at he; cases he
        | some ssj =>
          obtain ⟨ss, j2⟩ := ssj
          rw [q3] at he
          dsimp only at he
          by_cases hend : ps.length ≤ j2 ∧ ss.length ≤ 8
          · rw [if_pos hend] at he
            cases he
            wtm_at "gob"
            refine ⟨a, num, ps, i0, rfl, tb_, hL0, n1, n2, fun H1 e1 hL1 => ?_⟩
            have hL1' := hL1
            obtain ⟨dx1, lp1, h11, h21⟩ := hL1'
            wtm_at "gob"
            refine ⟨a, num, ps, i0 + 1, ":", rfl, hL1, hc, fun H2 e2 hL2 => ?_⟩
            have hL2' := hL2
            obtain ⟨dx2, lp2, h12, h22⟩ := hL2'
            wtm_at "gob"
            refine ⟨a, num, ps, i0 + 2, s1, j1, rfl, tabs_ (tabs_ tb_ e1) e2, hL2, q2, fun v H3 e3 hL3 tv => ?_⟩
            wtm_at "gob"
            rename_i L hLn B eB hB
            have C3 : Ch [a] H H3 := (e1.trans e2).trans e3
            have hL0n : H L = none := C3.free hLn
            have hLB : Ln K B a num ps j1 := hL3.ex eB
            have nLa : L ≠ a := fun z => by
              obtain ⟨_, _, q, _⟩ := hL3
              rw [← z, hLn] at q
              cases q
            have tbB : Tabs K B := tabs_ (tabs_ tb_ C3) eB
            refine ⟨fun f σ H' => ∃ i acc vs, Ch [a, L] B H' ∧ Ln K H' a num ps i ∧ subjsAt ps f i acc = some (ss, j2) ∧ H' L = some (.lst vs) ∧ TDs NoL H' vs (acc.map prD) ∧ acc ≠ [] ∧ acc.length + f ≤ 9 ∧ σ = [some (.ref a), some (.str (ps.getD i0 "")), some (.ref L)],
              ⟨8, j1, [s1], [v], Ch.refl _ _, hLB, q3, hB, .one (tv.e eB), by simp, Nat.le_refl 9, rfl⟩, ?_⟩
            rintro f σ H' ⟨i', acc, vs, eC, hLi, hsub, hLv, tvs, hane, hfl, rfl⟩
            have hvl : vs.length ≤ 9 := by rw [tvs.len, List.length_map]; omega
            have hLi' := hLi
            obtain ⟨dx4, lp4, h14, h24⟩ := hLi'
            have hvne : vs ≠ ps.map V.str := refs_ne (fun s => ⟨_, rfl⟩) tvs hane
            cases f with
            | zero => cases hsub
            | succ f =>
              unfold subjsAt at hsub
              wtm_at "go"
              refine ⟨a, num, ps, i', ",", rfl, hLi, fun hy H4 e4 hL4 => ?_, fun hn => ?_⟩
              · rw [if_pos hy] at hsub
                cases q4 : subjAt ps (i' + 1) with
                | none => rw [q4] at hsub; cases hsub
                | some sj =>
                  obtain ⟨s4, j4⟩ := sj
                  rw [q4] at hsub
                  have hsub : subjsAt ps f j4 (acc ++ [s4]) = some (ss, j2) := hsub
                  have hLv4 := e4.at1 hLv nLa
                  wtm_at "gob"
                  refine ⟨_, fun σ' H'' q => ⟨f, Nat.lt_succ_self f, q⟩, ?_⟩
                  wtm_at "gob"
                  refine ⟨a, num, ps, i' + 1, s4, j4, rfl, tabs_ (tabs_ tbB eC) e4, hL4, q4, fun v5 H5 e5 hL5 tv5 => ?_⟩
                  have hLv5 := e5.at1 hLv4 nLa
                  wtm_at "gob"
                  refine gApp hLv5 (Nat.lt_of_le_of_lt hvl (by decide)) fun H6 e6 h6 => ?_
                  wtm_at "gob"
                  refine ⟨j4, acc ++ [s4], vs ++ [v5], ?_, hL5.put hLv5 hvne e6, hsub, h6, ?_, by simp, by simp; omega, rfl⟩
                  · refine ((eC.trans ((e4.trans e5).mono fun z hz => ?_)).trans (e6.mono fun z hz => ?_))
                    · simp at hz ⊢; exact .inl hz
                    · simp at hz ⊢; exact .inr hz
                  · rw [List.map_append]
                    exact (((tvs.p e4).p e5).p e6).app (.one (tv5.p e6))
              · rw [if_neg hn] at hsub
                cases hsub
                wtm_at "gob"
                refine ⟨a, num, ps, j2, rfl, hLi, hend.1, ?_⟩
                wtm_at "gob"
                refine blF (decide_eq_false (by rw [tvs.len, List.length_map]; omega)) ?_
                wtm_at "gob"
                refine ⟨L, vs, rfl, .inl ⟨sqL_ hLv, ?_⟩⟩
                wtm_at "gob"
                rename_i q5 hq5 H5 e5 h5 q6 hq6 H6 e6 h6
                have e56 : Ex H' H6 := e5.trans e6
                refine k _ j2 H6 ?_ (hLi.ex e56) (.tup h6 (.cons ?_ (.cons (.str _) (.cons (.tup (e6.at h5) ?_) .nil))))
                · refine Ch.drop (S := [a, L]) ((C3.mono fun z hz => ?_).trans (eB.wk.trans (eC.trans e56.wk))) fun z hz => ?_
                  · simp at hz ⊢; exact .inl hz
                  · simp only [List.mem_cons, List.not_mem_nil, or_false] at hz
                    rcases hz with rfl | rfl
                    · exact .inl (by simp)
                    · exact .inr hL0n
                · rw [n3]; exact .str _
                · have z := tvs.e e56
                  rw [List.map_map]
                  exact z
          · rw [if_neg hend] at he
            cases he
    · rw [if_neg hc] at he
      cases he
end


def termAt (ps : List Str) (i : Nat) (op : Str) : Option (List Str × Nat) :=
  match nameAt ps i with
  | some x => if ps.getD (i + 1) "" = "." then (match nameAt ps (i + 2) with | some n => some ([op, x, n], i + 3) | none => none) else some ([op, "", x], i + 1)
  | none => none
def opers : List Str := ["|", "&", "-"]
def termsAt (ps : List Str) : Nat → Nat → List (List Str) → Option (List (List Str) × Nat)
  | 0, _, _ => none
  | f + 1, i, acc => if ps.getD i "" ∈ opers then (match termAt ps (i + 1) (ps.getD i "") with | some (s, j) => termsAt ps f j (acc ++ [s]) | none => none) else some (acc, i)
def permAt (ps : List Str) (i : Nat) : Option Ent :=
  match nameAt ps i with
  | some n => if ps.getD (i + 1) "" = "=" then
      match termAt ps (i + 2) "" with
      | some (s, j) => match termsAt ps 16 j [s] with
        | some (ss, j') => if ps.length ≤ j' ∧ ss.length ≤ 16 then some (n, "permission", ss) else none
        | none => none
      | none => none
    else none
  | none => none
theorem in_opers (x : Str) : inV (V.str x) [.str "|", .str "&", .str "-"] = decide (x ∈ opers) := by
  rw [Bool.eq_iff_iff]
  simp only [inV, eqV, opers, List.any_cons, List.any_nil, Bool.or_false, Bool.or_eq_true, beq_iff_eq, decide_eq_true_eq, List.mem_cons, List.not_mem_nil, or_false]
  constructor <;> (intro h; rcases h with h | h | h <;> simp [h])
section
variable {P : Program} {w : World} {K : PySem.W.Frag} {mg : Str → Option Value} {base : Heap}
abbrev sp_read_term (K : PySem.W.Frag) : Sp := fun vs H Q _ => ∃ (a : Addr) (num : Int) (ps : List Str) (i : Nat) (op : Str) (s : List Str) (j : Nat), vs = [.ref a, .str op] ∧ Tabs K H ∧ Ln K H a num ps i ∧ termAt ps i op = some (s, j) ∧
  ∀ v H', Ch [a] H H' → Ln K H' a num ps j → TD NoL H' v (tsD s) → Q v H'
abbrev N_read_term : List Str := ["line", "operator", "first"]
theorem sc_read_term : FnScope N_read_term ["line", "operator"] (defScope s_read_term) := ⟨rfl, rfl, rfl, by decide +kernel, rfl, by decide +kernel, by decide +kernel⟩
theorem ok_read_term (T : Tx w K mg base) : FnOk P w K mg base CX0 6 (a_read_term K) (fd_read_term K) ["line", "operator"] (sp_read_term K) := by
  refine T.f_read_term.ok sc_read_term (fun vs H Q E h => ?_) (fun cdv A outer s H vs Q E hr h => ?_)
  · obtain ⟨a, num, ps, i, op, s, j, rfl, _⟩ := h
    rfl
  obtain ⟨a, num, ps, i, op, s, j, rfl, tb_, hL, hs, k⟩ := h
  refine ⟨_, PSs.nox (pss_cons (ps_set (i := 2) sc_read_term.nd rfl (Or.inl rfl) (pe_meth0 (pv 0) T.c_Line T.m_Line_name (ok_Line_name T) (hr.mono (by decide)) T.b_Line_name .nil pass0)) (pss_cons (ps_if (pt_val (pe_meth (pv 0) T.c_Line T.m_Line_accepts (ok_Line_accepts T) (hr.mono (by decide)) T.b_Line_accepts .nil pass0 (pa_cons pe_str pa_nil))) (pss_one (ps_ret (pe_tup (pa_cons (pv 1) (pa_cons (pv 2) (pa_cons (pe_meth0 (pv 0) T.c_Line T.m_Line_name (ok_Line_name T) (hr.mono (by decide)) T.b_Line_name .nil pass0) pa_nil)))))) pss_nil) (pss_one (ps_ret (pe_tup (pa_cons (pv 1) (pa_cons pe_str (pa_cons (pv 2) pa_nil)))))))), ?_⟩
  have hL0 := hL
  obtain ⟨dx, lp, h1, h2⟩ := hL
  unfold termAt at hs
  cases q : nameAt ps i with
  | none => rw [q] at hs; cases hs
  | some kind =>
    rw [q] at hs
    obtain ⟨n1, n2, n3⟩ := nameAt_ok q
    have hs : (if ps.getD (i + 1) "" = "." then (match nameAt ps (i + 2) with | some n => some ([op, kind, n], i + 3) | none => none) else some ([op, ("" : Str), kind], i + 1)) = some (s, j) := hs
    wtm_at "go"
    refine ⟨a, num, ps, i, rfl, tb_, hL0, n1, n2, fun H1 e1 hL1 => ?_⟩
    have hL1' := hL1
    obtain ⟨dx1, lp1, h11, h21⟩ := hL1'
    wtm_at "go"
    refine ⟨a, num, ps, i + 1, ".", rfl, hL1, fun hy H2 e2 hL2 => ?_, fun hn => ?_⟩
    · rw [if_pos hy] at hs
      cases q2 : nameAt ps (i + 2) with
      | none => rw [q2] at hs; cases hs
      | some n =>
        rw [q2] at hs
        cases hs
        obtain ⟨m1, m2, m3⟩ := nameAt_ok q2
        have hL2' := hL2
        obtain ⟨dx2, lp2, h12, h22⟩ := hL2'
        wtm_at "gob"
        refine ⟨a, num, ps, i + 2, rfl, tabs_ (tabs_ tb_ e1) e2, hL2, m1, m2, fun H3 e3 hL3 => ?_⟩
        wtm_at "gob"
        rename_i p hp H4 e4 h4
        refine k _ H4 (((e1.trans e2).trans e3).trans e4.wk) (hL3.ex e4) (.tup h4 (.cons (.str _) (.cons ?_ (.cons ?_ .nil))))
        · rw [n3]; exact .str _
        · rw [m3]; exact .str _
    · rw [if_neg hn] at hs
      cases hs
      wtm_at "gob"
      rename_i p hp H4 e4 h4
      refine k _ H4 (e1.trans e4.wk) (hL1.ex e4) (.tup h4 (.cons (.str _) (.cons (.str _) (.cons ?_ .nil))))
      rw [n3]; exact .str _
abbrev sp_read_permission (K : PySem.W.Frag) : Sp := fun vs H Q _ => ∃ (a : Addr) (num : Int) (ps : List Str) (i : Nat) (e : Ent), vs = [.ref a] ∧ Tabs K H ∧ Ln K H a num ps i ∧ permAt ps i = some e ∧ ∀ v j H', Ch [a] H H' → Ln K H' a num ps j → TD NoL H' v (entD e) → Q v H'
abbrev N_read_permission : List Str := ["line", "name", "terms"]
theorem sc_read_permission : FnScope N_read_permission ["line"] (defScope s_read_permission) := ⟨rfl, rfl, rfl, by decide +kernel, rfl, by decide +kernel, by decide +kernel⟩
theorem ok_read_permission (T : Tx w K mg base) : FnOk P w K mg base CX0 7 (a_read_permission K) (fd_read_permission K) ["line"] (sp_read_permission K) := by
  refine T.f_read_permission.ok sc_read_permission (fun vs H Q E h => ?_) (fun cdv A outer s H vs Q E hr h => ?_)
  · obtain ⟨a, num, ps, i0, e, rfl, _⟩ := h
    rfl
  obtain ⟨a, num, ps, i0, e, rfl, tb_, hL, he, k⟩ := h
  refine ⟨_, PSs.nox (pss_cons (ps_set (i := 1) sc_read_permission.nd rfl (Or.inl rfl) (pe_meth0 (pv 0) T.c_Line T.m_Line_name (ok_Line_name T) (hr.mono (by decide)) T.b_Line_name .nil pass0)) (pss_cons (ps_expr (pe_meth (pv 0) T.c_Line T.m_Line_expect (ok_Line_expect T) (hr.mono (by decide)) T.b_Line_expect .nil pass0 (pa_cons pe_str pa_nil))) (pss_cons (ps_set (i := 2) sc_read_permission.nd rfl (Or.inl rfl) (pe_lst (pa_cons (pe_call (ok_read_term T) (hr.mono (by decide)) rfl T.g_read_term T.f_read_term.kp T.b_read_term .nil pass0 (pa_cons (pv 0) (pa_cons pe_str pa_nil))) pa_nil))) (pss_cons (ps_while PassesOwn.never (pt_cmpR (op_in_seq) (pe_meth0 (pv 0) T.c_Line T.m_Line_next_part (ok_Line_next_part T) (hr.mono (by decide)) T.b_Line_next_part .nil pass0) (pe_glob (v := .ref (He.ga K "OPERATORS")) rfl T.g_OPERATORS rfl) (by rfl)) (pss_one (ps_expr (pe_bm PySem.F.plainAttrs_list PySem.F.slot_list_append PySem.F.type_list_append mt_append (pv 2) (pa_cons (pe_call (ok_read_term T) (hr.mono (by decide)) rfl T.g_read_term T.f_read_term.kp T.b_read_term .nil pass0 (pa_cons (pv 0) (pa_cons (pe_meth0 (pv 0) T.c_Line T.m_Line_take (ok_Line_take T) (hr.mono (by decide)) T.b_Line_take .nil pass0) pa_nil))) pa_nil))))) (pss_cons (ps_expr (pe_meth0 (pv 0) T.c_Line T.m_Line_finish (ok_Line_finish T) (hr.mono (by decide)) T.b_Line_finish .nil pass0)) (pss_cons (ps_if (pt_cmpR (op_gt) (pe_callB call_len_seq (by rfl) T.n_len (by decide +kernel) (pa_cons (pv 2) pa_nil)) (pe_gint T.i_TERMS_MOST) (nomark _)) (pss_one ps_never) pss_nil) (pss_one (ps_ret (pe_tup (pa_cons (pv 1) (pa_cons pe_str (pa_cons (pe_callTy call_tuple_of (by rfl) T.n_tuple (by decide +kernel) (pa_cons (pv 2) pa_nil)) pa_nil)))))))))))), ?_⟩
  have hL0 := hL
  obtain ⟨dx, lp, h1, h2⟩ := hL
  unfold permAt at he
  cases q : nameAt ps i0 with
  | none => rw [q] at he; cases he
  | some nm =>
    rw [q] at he
    obtain ⟨n1, n2, n3⟩ := nameAt_ok q
    dsimp only at he
    by_cases hc : ps.getD (i0 + 1) "" = "="
    · rw [if_pos hc] at he
      cases q2 : termAt ps (i0 + 2) "" with
      | none => rw [q2] at he; cases he
      | some sj =>
        obtain ⟨s1, j1⟩ := sj
        rw [q2] at he
        dsimp only at he
        cases q3 : termsAt ps 16 j1 [s1] with
        | none => rw [q3] at he; cases he
        | some ssj =>
          obtain ⟨ss, j2⟩ := ssj
          rw [q3] at he
          dsimp only at he
          by_cases hend : ps.length ≤ j2 ∧ ss.length ≤ 16
          · rw [if_pos hend] at he
            cases he
            wtm_at "gob"
            refine ⟨a, num, ps, i0, rfl, tb_, hL0, n1, n2, fun H1 e1 hL1 => ?_⟩
            have hL1' := hL1
            obtain ⟨dx1, lp1, h11, h21⟩ := hL1'
            wtm_at "gob"
            refine ⟨a, num, ps, i0 + 1, "=", rfl, hL1, hc, fun H2 e2 hL2 => ?_⟩
            have hL2' := hL2
            obtain ⟨dx2, lp2, h12, h22⟩ := hL2'
            wtm_at "gob"
            refine ⟨a, num, ps, i0 + 2, "", s1, j1, rfl, tabs_ (tabs_ tb_ e1) e2, hL2, q2, fun v H3 e3 hL3 tv => ?_⟩
            wtm_at "gob"
            rename_i L hLn B eB hB
            have C3 : Ch [a] H H3 := (e1.trans e2).trans e3
            have hL0n : H L = none := C3.free hLn
            have hLB : Ln K B a num ps j1 := hL3.ex eB
            have nLa : L ≠ a := fun z => by
              obtain ⟨_, _, q, _⟩ := hL3
              rw [← z, hLn] at q
              cases q
            have tbB : Tabs K B := tabs_ (tabs_ tb_ C3) eB
            refine ⟨fun f σ H' => ∃ i acc vs, Ch [a, L] B H' ∧ Ln K H' a num ps i ∧ termsAt ps f i acc = some (ss, j2) ∧ H' L = some (.lst vs) ∧ TDs NoL H' vs (acc.map tsD) ∧ acc ≠ [] ∧ acc.length + f ≤ 17 ∧ σ = [some (.ref a), some (.str (ps.getD i0 "")), some (.ref L)],
              ⟨16, j1, [s1], [v], Ch.refl _ _, hLB, q3, hB, .one (tv.e eB), by simp, Nat.le_refl 17, rfl⟩, ?_⟩
            rintro f σ H' ⟨i', acc, vs, eC, hLi, hsub, hLv, tvs, hane, hfl, rfl⟩
            have hvl : vs.length ≤ 17 := by rw [tvs.len, List.length_map]; omega
            have hLi' := hLi
            obtain ⟨dx4, lp4, h14, h24⟩ := hLi'
            have hvne : vs ≠ ps.map V.str := refs_ne (fun s => ⟨_, rfl⟩) tvs hane
            cases f with
            | zero => cases hsub
            | succ f =>
              unfold termsAt at hsub
              wtm_at "go"
              refine ⟨a, num, ps, i', rfl, hLi, ?_⟩
              wtm_at "go"
              refine ⟨_, _, rfl, .inr (T.ops H'), rfl, rfl, ?_⟩
              have eo : (if false = true then !inV (V.str (ps.getD i' "")) [.str "|", .str "&", .str "-"] else inV (V.str (ps.getD i' "")) [.str "|", .str "&", .str "-"]) = decide (ps.getD i' "" ∈ opers) := by
                rw [if_neg Bool.false_ne_true]
                exact in_opers _
              rw [eo]
              wtm_at "go"
              refine ifd (fun hy => ?_) (fun hn => ?_)
              · rw [if_pos hy] at hsub
                cases q4 : termAt ps (i' + 1) (ps.getD i' "") with
                | none => rw [q4] at hsub; cases hsub
                | some sj =>
                  obtain ⟨s4, j4⟩ := sj
                  rw [q4] at hsub
                  have hsub : termsAt ps f j4 (acc ++ [s4]) = some (ss, j2) := hsub
                  refine ⟨_, fun σ' H'' q => ⟨f, Nat.lt_succ_self f, q⟩, ?_⟩
                  wtm_at "gob"
                  refine ⟨a, num, ps, i', rfl, hLi, fun H4 e4 hL4 => ?_⟩
                  have hLv4 := e4.at1 hLv nLa
                  wtm_at "gob"
                  refine ⟨a, num, ps, i' + 1, _, s4, j4, rfl, tabs_ (tabs_ tbB eC) e4, hL4, q4, fun v5 H5 e5 hL5 tv5 => ?_⟩
                  have hLv5 := e5.at1 hLv4 nLa
                  wtm_at "gob"
                  refine gApp hLv5 (Nat.lt_of_le_of_lt hvl (by decide)) fun H6 e6 h6 => ?_
                  wtm_at "gob"
                  refine ⟨j4, acc ++ [s4], vs ++ [v5], ?_, hL5.put hLv5 hvne e6, hsub, h6, ?_, by simp, by simp; omega, rfl⟩
                  · refine ((eC.trans ((e4.trans e5).mono fun z hz => ?_)).trans (e6.mono fun z hz => ?_))
                    · simp at hz ⊢; exact .inl hz
                    · simp at hz ⊢; exact .inr hz
                  · rw [List.map_append]
                    exact (((tvs.p e4).p e5).p e6).app (.one (tv5.p e6))
              · rw [if_neg hn] at hsub
                cases hsub
                wtm_at "gob"
                refine ⟨a, num, ps, j2, rfl, hLi, hend.1, ?_⟩
                wtm_at "gob"
                refine blF (decide_eq_false (by rw [tvs.len, List.length_map]; omega)) ?_
                wtm_at "gob"
                refine ⟨L, vs, rfl, .inl ⟨sqL_ hLv, ?_⟩⟩
                wtm_at "gob"
                rename_i q5 hq5 H5 e5 h5 q6 hq6 H6 e6 h6
                have e56 : Ex H' H6 := e5.trans e6
                refine k _ j2 H6 ?_ (hLi.ex e56) (.tup h6 (.cons ?_ (.cons (.str _) (.cons (.tup (e6.at h5) (tvs.e e56)) .nil))))
                · refine Ch.drop (S := [a, L]) ((C3.mono fun z hz => ?_).trans (eB.wk.trans (eC.trans e56.wk))) fun z hz => ?_
                  · simp at hz ⊢; exact .inl hz
                  · simp only [List.mem_cons, List.not_mem_nil, or_false] at hz
                    rcases hz with rfl | rfl
                    · exact .inl (by simp)
                    · exact .inr hL0n
                · rw [n3]; exact .str _
          · rw [if_neg hend] at he
            cases he
    · rw [if_neg hc] at he
      cases he
end


abbrev Ty := Str × List Ent
def tyD (t : Ty) : PyData := .tuple [.str t.1, .tuple (t.2.map entD)]
def schD (s : List Ty) : PyData := .tuple (s.map tyD)
def optD : Option Ent → PyData
  | none => .none
  | some e => entD e
def entOf (s : List Ty) (k n : Str) : Option Ent := ((s.filter fun t => decide (t.1 = k)).flatMap Prod.snd).find? fun e => decide (e.1 = n)
theorem entOf_app {d : List Ty} {t : Ty} {r : List Ty} {k n : Str} (h : entOf d k n = none) : entOf (d ++ t :: r) k n = (if t.1 = k then (t.2.find? fun e => decide (e.1 = n)) else none).or (entOf r k n) := by
  unfold entOf at h ⊢
  rw [List.filter_append, List.flatMap_append, List.find?_append, h, Option.none_or, List.filter_cons]
  by_cases q : t.1 = k
  · simp [q]
  · simp [q]
theorem TD.ty_ {v : V} {t : Ty} (h : TD A H v (tyD t)) : ∃ a b vs, v = .ref a ∧ H a = some (.tup [.str t.1, .ref b]) ∧ H b = some (.tup vs) ∧ TDs A H vs (t.2.map entD) := by
  obtain ⟨a, vs, rfl, ha, ht⟩ := TD.tup_ h
  obtain ⟨v1, ws, rfl, h1, ht⟩ := ht.cons_
  obtain ⟨v2, ws, rfl, h2, ht⟩ := ht.cons_
  cases ht
  obtain rfl := h1.str_
  obtain ⟨b, vs, rfl, hb, tb⟩ := TD.tup_ h2
  exact ⟨a, b, vs, rfl, ha, hb, tb⟩
theorem TD.ent_ {v : V} {e : Ent} (h : TD A H v (entD e)) : ∃ a b vs, v = .ref a ∧ H a = some (.tup [.str e.1, .str e.2.1, .ref b]) ∧ H b = some (.tup vs) ∧ TDs A H vs (e.2.2.map tsD) := by
  obtain ⟨a, vs, rfl, ha, ht⟩ := TD.tup_ h
  obtain ⟨v1, ws, rfl, h1, ht⟩ := ht.cons_
  obtain ⟨v2, ws, rfl, h2, ht⟩ := ht.cons_
  obtain ⟨v3, ws, rfl, h3, ht⟩ := ht.cons_
  cases ht
  obtain rfl := h1.str_
  obtain rfl := h2.str_
  obtain ⟨b, vs, rfl, hb, tb⟩ := TD.tup_ h3
  exact ⟨a, b, vs, rfl, ha, hb, tb⟩
section
variable {P : Program} {w : World} {K : PySem.W.Frag} {mg : Str → Option Value} {base : Heap}
abbrev sp_entry_of : Sp := fun vs H Q _ => ∃ (v0 : V) (s : List Ty) (k n : Str), vs = [v0, .str k, .str n] ∧ TD NoL H v0 (schD s) ∧ (∀ v, TD NoL H v (optD (entOf s k n)) → Q v H)
abbrev N_entry_of : List Str := ["schema", "kind", "name", "other", "entries", "entry"]
theorem sc_entry_of : FnScope N_entry_of ["schema", "kind", "name"] (defScope s_entry_of) := ⟨rfl, rfl, rfl, by decide +kernel, rfl, by decide +kernel, by decide +kernel⟩
theorem ok_entry_of (T : Tx w K mg base) : FnOk P w K mg base CX0 1 (a_entry_of K) (fd_entry_of K) ["schema", "kind", "name"] sp_entry_of := by
  refine T.f_entry_of.ok sc_entry_of (fun vs H Q E h => ?_) (fun cdv A outer s H vs Q E hr h => ?_)
  · obtain ⟨v0, s, k, n, rfl, _⟩ := h
    rfl
  obtain ⟨v0, s, k, n, rfl, ts, kk⟩ := h
  refine ⟨_, PSs.nox (pss_cons (ps_for PassesOwn.never rfl (pi_tup (pv 0)) (pg_tup (n := 2) rfl (pgs_cons (pg_name (i := 3) sc_entry_of.nd rfl (Or.inl rfl)) (pgs_cons (pg_name (i := 4) sc_entry_of.nd rfl (Or.inl rfl)) pgs_nil))) (pss_one (ps_if (pt_cmpR (op_eq) (pv 3) (pv 1) (nomark _)) (pss_one (ps_for PassesOwn.never rfl (pi_tup (pv 4)) (pg_name (i := 5) sc_entry_of.nd rfl (Or.inl rfl)) (pss_one (ps_if (pt_cmpR (op_eq) (pe_ix ix_tup (pv 5) pe_int (fun _ _ => rfl)) (pv 2) (nomark _)) (pss_one (ps_ret (pv 5))) pss_nil)))) pss_nil))) (pss_one (ps_ret pe_non))), ?_⟩
  obtain ⟨a, vs, rfl, ha, tvs⟩ := TD.tup_ ts
  wtm_at "go"
  refine forA walk_tup tvs (fun d σ H' => H' = H ∧ entOf d k n = none ∧ ∃ x3 x4 x5, σ = [some (.ref a), some (.str k), some (.str n), x3, x4, x5]) ?_ ?_ ?_ ?_
  · exact ⟨rfl, rfl, _, _, _, rfl⟩
  · rintro d σ H' ⟨rfl, _⟩
    exact sqT_ ha
  · rintro d t r v σ H' ed tv ⟨rfl, hd, x3, x4, x5, rfl⟩
    obtain ⟨b, c, ws, rfl, hb, hc, tc⟩ := tv.ty_
    wtm_at "go"
    refine ifd (fun hk => ?_) (fun hk => ?_)
    · wtm_at "go"
      refine forA walk_tup tc (fun d2 σ H2 => H2 = H' ∧ (∀ e ∈ d2, e.1 ≠ n) ∧ ∃ x5, σ = [some (.ref a), some (.str k), some (.str n), some (.str t.1), some (.ref c), x5]) ?_ ?_ ?_ ?_
      · exact ⟨rfl, by simp, _, rfl⟩
      · rintro d2 σ H2 ⟨rfl, _⟩
        exact sqT_ hc
      · rintro d2 e r2 v σ H2 ed2 tv2 ⟨rfl, hd2, x5, rfl⟩
        have tv2' := tv2
        obtain ⟨b2, c2, ws2, rfl, hb2, hc2, tc2⟩ := tv2.ent_
        wtm_at "go"
        refine ifd (fun hn => ?_) (fun hn => ?_)
        · wtm_at "go"
          refine kk _ ?_
          rw [ed, entOf_app hd, if_pos hk, ed2, List.find?_append, List.find?_eq_none.2 fun x hx => by simpa using hd2 x hx, Option.none_or, List.find?_cons_of_pos (by simpa using hn)]
          exact tv2'
        · wtm_at "go"
          refine ⟨rfl, fun x hx => ?_, _, rfl⟩
          rcases List.mem_append.1 hx with hx | hx
          · exact hd2 x hx
          · cases List.mem_singleton.1 hx
            exact hn
      · rintro σ H2 ⟨rfl, hd2, x5, rfl⟩
        wtm_at "go"
        refine ⟨rfl, ?_, _, _, _, rfl⟩
        rw [entOf_app hd, if_pos hk, List.find?_eq_none.2 fun x hx => by simpa using hd2 x hx]
        rfl
    · wtm_at "go"
      refine ⟨rfl, ?_, _, _, _, rfl⟩
      rw [entOf_app hd, if_neg hk]
      rfl
  · rintro σ H' ⟨rfl, hd, x3, x4, x5, rfl⟩
    wtm_at "go"
    refine kk _ ?_
    rw [hd]
    exact .non
theorem entOD_some {o : Option Ent} {v : V} {H : Hp} (h : TD NoL H v (optD o)) : (o = none ∧ v = .non) ∨ ∃ e a b vs, o = some e ∧ v = .ref a ∧ H a = some (.tup [.str e.1, .str e.2.1, .ref b]) ∧ H b = some (.tup vs) ∧ TDs NoL H vs (e.2.2.map tsD) := by
  cases o with
  | none => cases h; exact .inl ⟨rfl, rfl⟩
  | some e => obtain ⟨a, b, vs, e1, e2, e3, e4⟩ := TD.ent_ h; exact .inr ⟨e, a, b, vs, rfl, e1, e2, e3, e4⟩
def defD : Option Ent → PyData
  | none => .none
  | some e => .tuple [.str e.2.1, .tuple (e.2.2.map tsD)]
abbrev sp_definition : Sp := fun vs H Q _ => ∃ (v0 : V) (s : List Ty) (k n : Str), vs = [v0, .str k, .str n] ∧ TD NoL H v0 (schD s) ∧ (∀ v H', Ex H H' → TD NoL H' v (defD (entOf s k n)) → Q v H')
abbrev N_definition : List Str := ["schema", "kind", "name", "entry"]
theorem sc_definition : FnScope N_definition ["schema", "kind", "name"] (defScope s_definition) := ⟨rfl, rfl, rfl, by decide +kernel, rfl, by decide +kernel, by decide +kernel⟩
theorem ok_definition (T : Tx w K mg base) : FnOk P w K mg base CX0 2 (a_definition K) (fd_definition K) ["schema", "kind", "name"] sp_definition := by
  refine T.f_definition.ok sc_definition (fun vs H Q E h => ?_) (fun cdv A outer s H vs Q E hr h => ?_)
  · obtain ⟨v0, s, k, n, rfl, _⟩ := h
    rfl
  obtain ⟨v0, s, k, n, rfl, ts, kk⟩ := h
  refine ⟨_, PSs.nox (pss_cons (ps_set (i := 3) sc_definition.nd rfl (Or.inl rfl) (pe_call (ok_entry_of T) (hr.mono (by decide)) rfl T.g_entry_of T.f_entry_of.kp T.b_entry_of .nil pass0 (pa_cons (pv 0) (pa_cons (pv 1) (pa_cons (pv 2) pa_nil))))) (pss_one (ps_ret (pe_ifExp (pt_cmpR (op_isN1) (pv 3) pe_non (nomark _)) pe_non (pe_tup (pa_cons (pe_ix ix_tup (pv 3) pe_int (fun _ _ => rfl)) (pa_cons (pe_ix ix_tup (pv 3) pe_int (fun _ _ => rfl)) pa_nil))))))), ?_⟩
  wtm_at "go"
  refine ⟨v0, s, k, n, rfl, ts, fun v tv => ?_⟩
  wtm_at "go"
  rcases entOD_some tv with ⟨e0, rfl⟩ | ⟨e, a, b, ws, e0, rfl, ha, hb, tb⟩
  · wtm_at "gob"
    refine kk _ _ (Ch.refl _ _) ?_
    rw [e0]
    exact .non
  · wtm_at "gob"
    rename_i p hp H2 e1 h1
    refine kk _ _ e1 ?_
    rw [e0]
    exact .tup h1 (.cons (.str _) (.cons (.tup (e1.at hb) (tb.e e1)) .nil))
end


/-! ### more rules -/
section
variable {X : Cx}
/-- an expression that is never read -/
theorem pe_never {e : Expr} : PE X e (fun _ _ _ => False) := ⟨fun _ _ _ _ _ _ h => h.elim⟩
theorem gRng1 {ta : TA} {σ : L2.St} {H : Hp} {R : It → Hp → Prop} (h : ta σ H fun vs H1 => ∃ j : Int, vs = [.int j] ∧ -(2 ^ 62) ≤ j ∧ j < 2 ^ 62 ∧ R (Itr 0 j.toNat) H1) : iRng1 ta σ H R := h
theorem gRng2 {ta : TA} {σ : L2.St} {H : Hp} {R : It → Hp → Prop} (h : ta σ H fun vs H1 => ∃ i j : Int, vs = [.int i, .int j] ∧ (-(2 ^ 62) ≤ i ∧ i < 2 ^ 62 ∧ -(2 ^ 62) ≤ j ∧ j < 2 ^ 62) ∧ R (Itr i (j - i).toNat) H1) : iRng2 ta σ H R := h
theorem gCKw {r : List V → List V → Hp → VK → Prop} {t tk : TA} {σ : L2.St} {H : Hp} {Q : VK} (h : t σ H fun vs H1 => tk σ H1 fun zs H2 => r vs zs H2 Q) : tCKw r t tk σ H Q := h
theorem gMaxd {K : PySem.W.Frag} {H : Hp} {Q : VK} {a : Addr} {ns : List Int} {d : V} (ha : H a = some (.lst (ns.map V.int))) (h0 : ns = [] → Q d H) (h1 : ∀ n ns', ns = n :: ns' → Q (.int (ns'.foldl max n)) H) : rMaxd K [.ref a] [d] H Q :=
  ⟨a, ns, d, rfl, rfl, sqL_ ha, h0, h1⟩
theorem gMind {K : PySem.W.Frag} {H : Hp} {Q : VK} {a : Addr} {ns : List Int} {d : V} (ha : H a = some (.lst (ns.map V.int))) (h0 : ns = [] → Q d H) (h1 : ∀ n ns', ns = n :: ns' → Q (.int (ns'.foldl min n)) H) : rMind K [.ref a] [d] H Q :=
  ⟨a, ns, d, rfl, rfl, sqL_ ha, h0, h1⟩
end
/-- what is locked, and unlocked, with changes elsewhere -/
theorem lockCh {S : List Addr} {d : Addr} {H : Hp} {u : HO} {o : Obj} {H' : Hp} (hd : H d = some u) (n : Mu u) (e : Ch S (upd H d (.frz o u)) H') : Ch S H (upd H' d u) where
  keep := fun b v h nt hs => by
    by_cases hb : b = d
    · subst hb
      rw [hd] at h
      cases h
      exact upd_same
    · rw [upd_ne hb]
      exact e.keep b v (by rw [upd_ne hb]; exact h) nt hs
  tup := fun b xs h => by
    have hb : b ≠ d := fun z => by
      rw [z, hd] at h
      cases h
      exact n
    rw [upd_ne hb]
    exact e.tup b xs (by rw [upd_ne hb]; exact h)
  tab := fun b ps h => by
    have hb : b ≠ d := fun z => by
      rw [z, hd] at h
      cases h
      exact n
    rw [upd_ne hb]
    exact e.tab b ps (by rw [upd_ne hb]; exact h)
  there := fun b v h => by
    by_cases hb : b = d
    · exact ⟨u, by rw [hb]; exact upd_same⟩
    · rw [upd_ne hb]
      exact e.there b v (by rw [upd_ne hb]; exact h)
/-! data without lists -/
mutual
def noLs : PyData → Bool
  | .list _ => false
  | .tuple ds => noLsA ds
  | _ => true
def noLsA : List PyData → Bool
  | [] => true
  | d :: ds => noLs d && noLsA ds
end
section
variable {A : Addr → Prop} {H : Hp}
mutual
theorem TD.nl : ∀ (d : PyData) (v : V), noLs d = true → TD A H v d → TD NoL H v d
  | .none, _, _, h => by cases h; exact .non
  | .bool b, _, _, h => by cases h; exact .bl b
  | .int i, _, _, h => by cases h; exact .int i
  | .str x, _, _, h => by cases h; exact .str x
  | .list ds, _, q, h => by simp [noLs] at q
  | .tuple ds, _, q, h => by
    cases h with
    | tup hs hd => exact .tup hs (TDs.nl ds _ (by simpa [noLs] using q) hd)
  | .dict _, _, _, h => by cases h
theorem TDs.nl : ∀ (ds : List PyData) (vs : List V), noLsA ds = true → TDs A H vs ds → TDs NoL H vs ds
  | [], _, _, h => by cases h; exact .nil
  | d :: ds, _, q, h => by
    cases h with
    | cons h1 h2 =>
      simp only [noLsA, Bool.and_eq_true] at q
      exact .cons (TD.nl d _ q.1 h1) (TDs.nl ds _ q.2 h2)
end
theorem noLsA_map {α : Type} {f : α → PyData} (h : ∀ x, noLs (f x) = true) : ∀ xs : List α, noLsA (xs.map f) = true
  | [] => rfl
  | x :: xs => by rw [List.map_cons, noLsA, h x, noLsA_map h xs]; rfl
theorem TDs.nlM {α : Type} {f : α → PyData} {xs : List α} {vs : List V} (h : ∀ x, noLs (f x) = true) (t : TDs A H vs (xs.map f)) : TDs NoL H vs (xs.map f) := TDs.nl _ _ (noLsA_map h xs) t
end
/-! ### == of two dicts whose keys are tuples, their values ints -/
section
variable {prog : Program} {w : World} {KK : Type} [DecidableEq KK] {knd : HeapKind prog w KK} {A : Around} {E : Value → Shared → Prop} {s : Shared}
/-- each entry of the one in the other: r is what comes out -/
inductive Twin (ys : List (KK × Addr × Value)) : List (KK × Addr × Value) → Bool → Prop
  | nil : Twin ys [] true
  | miss {k : KK} {a : Addr} {v : Value} {r : List (KK × Addr × Value)} : (∀ (j : Nat) (p : Addr × Value), ys[j]? ≠ some (k, p)) → Twin ys ((k, a, v) :: r) false
  | hit {k : KK} {a b : Addr} {i j : Int} {t u : Tok} {n : Nat} {r : List (KK × Addr × Value)} {e : Bool} : ys[n]? = some (k, b, .int j u) → Twin ys r e → Twin ys ((k, a, .int i t) :: r) (decide (i = j) && e)
theorem samePairsH {nm : String} {a b : Addr} {xs ys : List (KK × Addr × Value)} {r : Bool} {Q : Bool → Shared → Prop} (ha : (a == sysModules) = false) (hb : (b == sysModules) = false) (hu : knd.room A)
    (da : s.heap.DictOfH knd a xs) (db : s.heap.DictOfH knd b ys) (hits : xs.length = ys.length → Twin ys xs r) (h : Q (decide (xs.length = ys.length) && r) s) :
    wpAny (model prog w) A (Builtin.Dict.samePairs nm a b) Q E s := by
  obtain ⟨o1, e1, p1, g1, x1, d1, l1, i1, n1⟩ := da
  obtain ⟨o2, e2, p2, g2, x2, d2, l2, i2, n2⟩ := db
  have z1 : e1.size = xs.length := size_of_entries l1
  have z2 : e2.size = ys.length := size_of_entries l2
  unfold Builtin.Dict.samePairs Builtin.Dict.showsAll
  rw [if_neg (by rw [ha]; exact Bool.false_ne_true), if_neg (by rw [hb]; exact Bool.false_ne_true)]
  refine wpAny_bind (wpAny_pure (wpAny_bind (wpAny_pure (wpAny_bind (wpAny_dictEntries g1 d1 ?_)))))
  dsimp only
  refine wpAny_bind (wpAny_dictEntries g2 d2 ?_)
  by_cases hz : xs.length = ys.length
  · rw [decide_eq_true hz, Bool.true_and] at h
    have tw := hits hz
    rw [if_neg (by rw [z1, z2, hz]; simp)]
    refine wpAny_bind (wpAny_dictEpoch g1 d1 (wpAny_bind ?_))
    rw [Std.Legacy.Range.forIn_eq_forIn_range']
    simp only [Std.Legacy.Range.size, Nat.sub_zero, Nat.add_sub_cancel, Nat.div_one]
    refine wpAny_forIn_list _ (fun rest q s' => s' = s ∧ q = (none, ()) ∧ ∃ i, rest = List.range' i (e1.size - i) ∧ i ≤ e1.size ∧ Twin ys (xs.drop i) r) _ ?_ ?_ _ _ ⟨rfl, rfl, 0, by simp, Nat.zero_le _, by simpa using tw⟩
    · rintro x rest q s' ⟨rfl, rfl, i, hr, hi, hpre⟩
      have hlt : i < e1.size := by
        refine Nat.lt_of_not_le fun z => ?_
        rw [Nat.sub_eq_zero_of_le z] at hr
        cases hr
      have es : e1.size - i = (e1.size - (i + 1)) + 1 := by omega
      rw [es, List.range'_succ] at hr
      obtain ⟨rfl, rfl⟩ := List.cons.inj hr
      refine wpAny_bind (wpAny_dictEntries g1 d1 ?_)
      have hx : x < xs.length := by omega
      obtain ⟨⟨k, ad, v⟩, hkv⟩ : ∃ y, xs[x]? = some y := ⟨xs[x], List.getElem?_eq_getElem _⟩
      have hex : e1[x]? = some ⟨knd.hash k, .ref ad, v⟩ := by
        rw [entry_at l1 x, hkv]
        all_goals rfl
      have hdr : xs.drop x = (k, ad, v) :: xs.drop (x + 1) := by
        rw [List.getElem?_eq_getElem hx] at hkv
        rw [List.drop_eq_getElem_cons hx, Option.some.inj hkv]
      have isk : knd.is s'.heap k ad := i1 _ (List.mem_of_getElem? hkv)
      rw [hdr] at hpre
      rw [hex]
      dsimp only
      refine wpAny_bind (wpAny_holding (wpAny_bind (wpAny_dictFind_heap hu isk g2 d2 l2 i2 n2 (fun hnone => ?_) (fun j p hj => ?_))))
      · cases hpre with
        | miss _ =>
          refine wpAny_pure ?_
          show wpAny _ _ (if (!false) = true then _ else _) _ _ _
          rw [if_pos (by decide)]
          exact wpAny_pure (wpAny_pure h)
        | hit hy _ => exact absurd hy (hnone _ _)
      · have hey : e2[j]? = some ⟨knd.hash k, .ref p.1, p.2⟩ := by
          rw [entry_at l2 j, hj]
          all_goals rfl
        refine wpAny_bind (wpAny_dictEntries g2 d2 ?_)
        rw [hey]
        dsimp only
        cases hpre with
        | miss hn => exact absurd hj (hn _ _)
        | @hit _ _ b' iv jv t u n _ e hy hr2 =>
          have ej : j = n := idxH_unique n2 hj hy
          subst ej
          rw [hj] at hy
          obtain ⟨_, rfl⟩ := Prod.mk.inj (Option.some.inj hy)
          refine wpAny_holding (SeqAt.EqAt.int_int iv t jv u prog w _ _ ?_)
          have eb : (iv == jv) = decide (iv = jv) := rfl
          rw [eb]
          cases hd : decide (iv = jv) with
          | false =>
            rw [hd, Bool.false_and] at h
            show wpAny _ _ (if (!false) = true then _ else _) _ _ _
            rw [if_pos (by decide)]
            exact wpAny_pure (wpAny_pure h)
          | true =>
            rw [hd, Bool.true_and] at h
            show wpAny _ _ (if (!true) = true then _ else _) _ _ _
            rw [if_neg (by decide)]
            refine wpAny_bind (wpAny_dictEpoch g1 d1 ?_)
            rw [if_neg (by simp)]
            refine wpAny_pure ⟨rfl, rfl, x + 1, rfl, hlt, ?_⟩
            rw [Bool.true_and]
            exact hr2
    · rintro q s' ⟨rfl, rfl, i, hr, hi, hpre⟩
      have hin : i = e1.size := by
        refine Nat.le_antisymm hi (Nat.le_of_not_lt fun hlt => ?_)
        have es : e1.size - i = (e1.size - (i + 1)) + 1 := by omega
        rw [es, List.range'_succ] at hr
        cases hr
      rw [hin, z1, List.drop_length] at hpre
      cases hpre
      exact wpAny_pure h
  · rw [decide_eq_false hz, Bool.false_and] at h
    rw [if_pos (by rw [z1, z2]; simpa using hz)]
    exact wpAny_bind (wpAny_rule (wpAny_pure h))
end
section
variable {X : Cx}
/-- the second dict's value at a key of the first -/
def twinB (kb : List (List Key × V)) (ka : List (List Key × V)) : Bool := ka.all fun p => decide (valV kb p.1 = some p.2)
def intsB (ka : List (List Key × V)) : Prop := ∀ p ∈ ka, ∃ i, p.2 = .int i
theorem atKey_some {ys : List (List Key × Addr × Value)} {k : List Key} {p : Addr × Value} (h : atKey ys k = some p) : ∃ n : Nat, ys[n]? = some (k, p) := by
  unfold atKey at h
  obtain ⟨y, hy, rfl⟩ := Option.map_eq_some_iff.mp h
  have hm := List.mem_of_find?_eq_some hy
  have hk := List.find?_some hy
  obtain ⟨n, hn⟩ := List.mem_iff_getElem?.mp hm
  refine ⟨n, hn.trans ?_⟩
  rw [← of_decide_eq_true hk]
theorem atKey_none {ys : List (List Key × Addr × Value)} {k : List Key} (h : atKey ys k = none) : ∀ (j : Nat) (p : Addr × Value), ys[j]? ≠ some (k, p) := fun j p z => by
  unfold atKey at h
  rw [Option.map_eq_none_iff, List.find?_eq_none] at h
  exact h _ (List.mem_of_getElem? z) (by simp)
theorem twin_of {H : Hp} {kb : List (List Key × V)} {ys : List (List Key × Addr × Value)} (rb : KT H kb ys) (ib : intsB kb) : ∀ {ka : List (List Key × V)} {xs : List (List Key × Addr × Value)}, KT H ka xs → intsB ka → Twin ys xs (twinB kb ka)
  | _, _, .nil, _ => .nil
  | _, _, .cons (a := p) (b := q) hpq r, ia => by
    obtain ⟨h1, h2, h3⟩ := hpq
    obtain ⟨k, v⟩ := p
    obtain ⟨k', ad, u⟩ := q
    cases h1
    obtain ⟨i, hi⟩ := ia _ List.mem_cons_self
    cases hi
    obtain ⟨t, rfl⟩ : ∃ t, u = Value.int i t := h3
    have ih := twin_of rb ib r fun p hp => ia p (List.mem_cons_of_mem _ hp)
    have rv := rb.val k
    unfold twinB
    rw [List.all_cons]
    cases hv : valV kb k with
    | none =>
      rw [hv] at rv
      cases ha : atKey ys k with
      | some p => rw [ha] at rv; exact (show False from rv).elim
      | none =>
        rw [decide_eq_false (fun z => nomatch z), Bool.false_and]
        exact .miss (atKey_none ha)
    | some v' =>
      rw [hv] at rv
      cases ha : atKey ys k with
      | none => rw [ha] at rv; exact (show False from rv).elim
      | some p =>
        rw [ha] at rv
        obtain ⟨n, hn⟩ := atKey_some ha
        have hmem : ∃ q ∈ kb, q.2 = v' := by
          unfold valV at hv
          obtain ⟨q, hq, e⟩ := Option.map_eq_some_iff.mp hv
          exact ⟨q, List.mem_of_find?_eq_some hq, e⟩
        obtain ⟨q, hq, rfl⟩ := hmem
        obtain ⟨j, hj⟩ := ib q hq
        rw [hj] at rv ⊢
        obtain ⟨t', e'⟩ : ∃ t, p.2 = Value.int j t := rv
        obtain ⟨pa, pv⟩ := p
        cases e'
        have ed : decide (some (V.int j) = some (V.int i)) = decide (i = j) := by simp [eq_comm]
        rw [ed]
        exact .hit hn ih
theorem op_eq_dT (hu : X.A.units + 65 < cLine) : OpR X (compareOp .Eq) (fun x y H Q => ∃ (a b : Addr) (ka kb : List (List Key × V)), x = .ref a ∧ y = .ref b ∧ H a = some (.dT ka) ∧ H b = some (.dT kb) ∧ intsB ka ∧ intsB kb ∧ Q (.bl (decide (ka.length = kb.length) && twinB kb ka)) H) := by
  intro pins s σ H x y v u Q I rx ry h
  obtain ⟨a, b, ka, kb, rfl, rfl, ha, hb, ia, ib, q⟩ := h
  cases rx
  cases ry
  obtain ⟨_, ma, xs, ra, da⟩ := dt_of I.hok ha
  obtain ⟨_, mb, ys, rb, db⟩ := dt_of I.hok hb
  have hxl : xs.length = ka.length := (Paired.length ra).symm
  have hyl : ys.length = kb.length := (Paired.length rb).symm
  show wpAny (model X.prog X.w) X.A (compareOp .Eq (.ref a) (.ref b)) (EP X pins σ Q) X.xe s
  refine wpAny_richCompare_same_room (op := .Eq) da.typeIs db.typeIs PySem.F.slot_dict_eq (wpAny_call_entry PySem.F.slot_dict_eq da.typeIs PySem.F.entry_dict_eq ?_ (PySem.F.args_dict_eq_2 _ _)) (by omega)
  show wpAny _ _ (Builtin.Dict.dictSlotArgs "__eq__" ⟨[.ref a, .ref b], []⟩ >>= _) _ _ s
  refine wpAny_bind ?_
  unfold Builtin.Dict.dictSlotArgs
  refine wpAny_bind (wpAny_notOrdered_dict da.typeIs ?_)
  refine wpAny_pure (wpAny_bind (wpAny_isInstance (T := "dict") db.typeIs PySem.F.sub_dict_dict ?_))
  simp only [Bool.not_true, Bool.false_eq_true, if_false]
  refine wpAny_bind (wpAny_pure (wpAny_bind (wpAny_pure (wpAny_bind (samePairsH ma mb (tupleKind_room_in1 (by omega)) da db (fun _ => twin_of rb ib ra ia) ?_)))))
  rw [hxl, hyl]
  refine wpAny_pure ⟨_, rfl, (fun x => nomatch x), ?_⟩
  have eb : ∀ b : Bool, (b == true) = b := fun b => by cases b <;> rfl
  rw [eb]
  exact ⟨.bl _, H, I, rfl, q⟩
end
end Z
set_option Elab.async false
set_option linter.all false
set_option maxRecDepth 100000
set_option maxHeartbeats 4000000
namespace Z
open PySem PySem.Spec PyProof.Rows L2
local macro_rules | `(tactic| wtm_at "ex") => `(tactic| first | assumption | exact Ch.refl _ _ | (refine Ch.trans ?_ (by assumption); wtm_at "ex"))
local macro_rules | `(tactic| wtm_at "no") => `(tactic| first | assumption | (refine Ch.free (S := []) (p := _) ?_ (by assumption); wtm_at "ex"))
local macro_rules | `(tactic| wtm_at "tr") => `(tactic| first | assumption | (with_reducible refine tabs_ (S := []) (by assumption) ?_; wtm_at "ex") | (with_reducible refine atT_ (S := []) (by assumption) ?_; wtm_at "ex") | (with_reducible refine atL_ (by assumption) ?_; wtm_at "ex") | (with_reducible refine atN_ (by assumption) ?_; wtm_at "ex") | (with_reducible refine atK_ (by assumption) ?_; wtm_at "ex") | (with_reducible refine atD_ (by assumption) ?_; wtm_at "ex") | (with_reducible refine atF_ (by assumption) ?_; wtm_at "ex") | (with_reducible refine TD.e (by assumption) ?_; wtm_at "ex") | (with_reducible refine TDs.e (by assumption) ?_; wtm_at "ex") | wtm_at "ex")
local macro_rules | `(tactic| wtm_at "nw") => `(tactic| (intro p hp; generalize hH : upd _ p _ = H2; have e := exO hp hH; have ⟨e1, e2⟩ := e; clear e hH))
local macro_rules | `(tactic| wtm_at "mk") => `(tactic| (intro x dx hx hd hn; generalize hH : upd (upd _ dx _) x _ = H2; have e := exO2 hx hd hn hH; have ⟨e1, e2⟩ := e; clear e hH))
local macro_rules | `(tactic| wtm_at "pu") => `(tactic| (generalize hH : upd _ _ _ = H2; have e := chO (by wtm_at "tr") (by trivial) hH; have ⟨e1, e2⟩ := e; clear e hH))
local macro_rules | `(tactic| wtm_at "cl") => `(tactic| first | exact Tx.c_Replica (by assumption) | exact Tx.c_Follower (by assumption) | exact Tx.c_Line (by assumption) | exact Tx.c_Graph (by assumption) | exact Tx.c_Revision (by assumption) | exact Tx.c_Primary (by assumption))
local macro_rules | `(tactic| wtm_at "na") => `(tactic| first | exact Tx.n_Replica_name (by assumption) | exact Tx.n_Replica_number (by assumption) | exact Tx.n_Replica_table (by assumption) | exact Tx.n_Replica_later (by assumption) | exact Tx.n_Follower_replica (by assumption) | exact Tx.n_Line_number (by assumption) | exact Tx.n_Line_parts (by assumption) | exact Tx.n_Line_at (by assumption) | exact Tx.n_Graph_schema (by assumption) | exact Tx.n_Graph_strata (by assumption) | exact Tx.n_Graph_subjects (by assumption) | exact Tx.n_Graph_objects (by assumption) | exact Tx.n_Graph_people (by assumption) | exact Tx.n_Revision_schema (by assumption) | exact Tx.n_Revision_relationships (by assumption) | exact Tx.n_Revision_table (by assumption) | exact Tx.n_Primary_name (by assumption) | exact Tx.n_Primary_first (by assumption) | exact Tx.n_Primary_revisions (by assumption))
local macro_rules | `(tactic| wtm_at "gex") => `(tactic| (with_reducible refine ⟨_, _, _, _, rfl, ?_⟩))
local macro_rules | `(tactic| wtm_at "gex") => `(tactic| (with_reducible refine ⟨_, _, _, rfl, ?_⟩))
local macro_rules | `(tactic| wtm_at "gex") => `(tactic| (with_reducible refine ⟨_, _, rfl, ?_⟩))
local macro_rules | `(tactic| wtm_at "gex") => `(tactic| (with_reducible refine ⟨_, _, rfl, rfl, ?_⟩))
local macro_rules | `(tactic| wtm_at "gex") => `(tactic| (with_reducible refine ⟨_, rfl, ?_⟩))
local macro_rules | `(tactic| wtm_at "gex") => `(tactic| (with_reducible refine ⟨_, _, _, rfl, by wtm_at "tr", by with_unfolding_all rfl, ?_⟩))
local macro_rules | `(tactic| wtm_at "gex") => `(tactic| ((with_reducible refine ⟨_, _, by wtm_at "tr", by with_unfolding_all exact Nat.le_of_ble_eq_true rfl, ?_⟩); wtm_at "pu"))
local macro_rules | `(tactic| wtm_at "gex") => `(tactic| ((with_reducible refine ⟨_, _, _, _, rfl, by wtm_at "tr", by wtm_at "cl", by wtm_at "na", by with_unfolding_all exact Nat.le_of_ble_eq_true rfl, ?_⟩); wtm_at "pu"))
local macro_rules | `(tactic| wtm_at "gex") => `(tactic| (with_reducible refine ⟨_, _, _, _, _, rfl, by wtm_at "tr", by wtm_at "cl", by wtm_at "na", by with_unfolding_all rfl, ?_⟩))
local macro_rules | `(tactic| wtm_at "gex") => `(tactic| (with_reducible refine ⟨_, _, rfl, by assumption, by assumption, ?_⟩))
local macro_rules | `(tactic| wtm_at "gex") => `(tactic| (with_reducible refine ⟨_, rfl, ⟨_, sqT_ (by wtm_at "tr")⟩, ?_⟩))
local macro_rules | `(tactic| wtm_at "gex") => `(tactic| (with_reducible refine ⟨_, rfl, ⟨_, sqL_ (by wtm_at "tr")⟩, ?_⟩))
local macro_rules | `(tactic| wtm_at "gex") => `(tactic| (with_reducible refine ⟨_, _, rfl, sqL_ (by wtm_at "tr"), ?_⟩))
local macro_rules | `(tactic| wtm_at "gex") => `(tactic| (with_reducible refine ⟨_, truL (by wtm_at "tr"), ?_⟩))
local macro_rules | `(tactic| wtm_at "gex") => `(tactic| (with_reducible refine ⟨_, _, rfl, sqOrT (by wtm_at "tr"), ?_⟩))
local macro_rules | `(tactic| wtm_at "gex") => `(tactic| (with_reducible refine ⟨_, _, rfl, sqOrL (by wtm_at "tr"), ?_⟩))
local macro_rules | `(tactic| wtm_at "gan") => `(tactic| (with_reducible refine And.intro (by wtm_at "tr") ?_))
local macro_rules | `(tactic| wtm_at "gan") => `(tactic| (with_reducible refine And.intro (by (with_unfolding_all decide)) ?_))
local macro_rules | `(tactic| wtm_at "gan") => `(tactic| (with_reducible refine And.intro (len_le (by with_unfolding_all rfl)) ?_))
local macro_rules | `(tactic| wtm_at "gan") => `(tactic| (with_reducible refine And.intro (tyL (by wtm_at "tr")) ?_))
local macro_rules | `(tactic| wtm_at "gan") => `(tactic| (with_reducible refine ⟨⟨_, rfl⟩, ?_⟩))
local macro_rules | `(tactic| wtm_at "gal") => `(tactic| wtm_at "mk")
local macro_rules | `(tactic| wtm_at "gal") => `(tactic| wtm_at "nw")
local macro_rules | `(tactic| wtm_at "gal") => `(tactic| (with_reducible refine exV (fun p H' e h1 => ?_)))
local macro_rules | `(tactic| wtm_at "gal") => `(tactic| (with_reducible refine exT (fun p H' e h0 h1 => ?_)))
local macro_rules | `(tactic| wtm_at "gal") => `(tactic| (with_reducible refine exI (fun H' e => ?_)))
local macro_rules | `(tactic| wtm_at "gre") => `(tactic| (with_reducible refine gTQ ?_))
local macro_rules | `(tactic| wtm_at "gre") => `(tactic| (with_reducible refine gInT (by wtm_at "tr") (by with_unfolding_all rfl) (by with_unfolding_all rfl) ?_))
local macro_rules | `(tactic| wtm_at "gre") => `(tactic| (with_reducible refine gNotInT (by wtm_at "tr") (by with_unfolding_all rfl) (by with_unfolding_all rfl) ?_))
local macro_rules | `(tactic| wtm_at "gre") => `(tactic| (with_reducible refine gDNewT (fun p H2 hp e h => ?_)))
local macro_rules | `(tactic| wtm_at "gre") => `(tactic| (with_reducible refine gDNewK (fun p H2 hp e h => ?_)))
local macro_rules | `(tactic| wtm_at "gre") => `(tactic| (with_reducible refine gSlL (by wtm_at "tr") (fun q H2 hq e h => ?_)))
local macro_rules | `(tactic| wtm_at "gre") => `(tactic| (with_reducible refine gPartition rfl (by wtm_at "tr") (fun p H2 hp e h => ?_)))
local macro_rules | `(tactic| wtm_at "gre") => `(tactic| (with_reducible refine gTgT (by wtm_at "tr") (by with_unfolding_all rfl) ?_))
local macro_rules | `(tactic| wtm_at "gre") => `(tactic| (with_reducible refine gIxL (by wtm_at "tr") (by with_unfolding_all rfl) ?_))
local macro_rules | `(tactic| wtm_at "gre") => `(tactic| (with_reducible refine gIxT (by wtm_at "tr") (by with_unfolding_all rfl) ?_))
local macro_rules | `(tactic| wtm_at "gre") => `(tactic| (with_reducible refine gCKw ?_))
local macro_rules | `(tactic| wtm_at "gre") => `(tactic| (with_reducible refine gRng2 ?_))
local macro_rules | `(tactic| wtm_at "gre") => `(tactic| (with_reducible refine gRng1 ?_))
local macro_rules | `(tactic| wtm_at "gor") => `(tactic| (with_reducible refine Or.inr ⟨_, rfl, ?_⟩))
local macro_rules | `(tactic| wtm_at "gor") => `(tactic| (with_reducible refine Or.inl ⟨_, rfl, ?_⟩))
local macro_rules | `(tactic| wtm_at "go1") => `(tactic| wtm_at "mk")
local macro_rules | `(tactic| wtm_at "go1") => `(tactic| wtm_at "nw")
local macro_rules | `(tactic| wtm_at "go1") => `(tactic| ((with_reducible refine isOr ?_); wtm_at "gor"))
local macro_rules | `(tactic| wtm_at "go1") => `(tactic| wtm_at "gre")
local macro_rules | `(tactic| wtm_at "go1") => `(tactic| ((with_reducible refine isAll ?_); wtm_at "gal"))
local macro_rules | `(tactic| wtm_at "go1") => `(tactic| ((with_reducible refine isAnd ?_); wtm_at "gan"))
local macro_rules | `(tactic| wtm_at "go1") => `(tactic| ((with_reducible refine isEx ?_); wtm_at "gex"))
local macro_rules | `(tactic| wtm_at "go1") => `(tactic| with_reducible refine gVar rfl ?_)
local macro_rules | `(tactic| wtm_at "go1") => `(tactic| with_reducible refine Stp.go ?_)
local macro_rules | `(tactic| wtm_at "go") => `(tactic| repeat (first | wtm_at "go1" | (with_reducible dsimp only) | (dsimp only [cxK, List.cons_append, List.nil_append, List.append_nil])))
local macro_rules | `(tactic| wtm_at "gob") => `(tactic| repeat (first | wtm_at "go1" | (with_reducible dsimp only) | (dsimp only [cxK, List.cons_append, List.nil_append, List.append_nil]) | (refine blT (by decide) ?_) | (refine blF (by decide) ?_) | (refine blF (by rfl) ?_) | (refine blT (by rfl) ?_)))
local macro_rules | `(tactic| wtm_at "gos") => `(tactic| repeat' (first | wtm_at "go1" | (with_reducible dsimp only) | (dsimp only [cxK, List.cons_append, List.nil_append, List.append_nil]) | (with_reducible refine ifd (fun _ => ?_) (fun _ => ?_)) | (with_reducible refine ifb (fun _ => ?_) (fun _ => ?_))))
local macro_rules | `(tactic| wtm_at "galc") => `(tactic| (with_reducible refine exV (fun p H' e h1 => ?_)))
local macro_rules | `(tactic| wtm_at "galc") => `(tactic| (with_reducible refine exT (fun p H' e h0 h1 => ?_)))
local macro_rules | `(tactic| wtm_at "galc") => `(tactic| (with_reducible refine exI (fun H' e => ?_)))
local macro_rules | `(tactic| wtm_at "go1c") => `(tactic| ((with_reducible refine isOr ?_); wtm_at "gor"))
local macro_rules | `(tactic| wtm_at "go1c") => `(tactic| wtm_at "gre")
local macro_rules | `(tactic| wtm_at "go1c") => `(tactic| ((with_reducible refine isAll ?_); wtm_at "galc"))
local macro_rules | `(tactic| wtm_at "go1c") => `(tactic| ((with_reducible refine isAnd ?_); wtm_at "gan"))
local macro_rules | `(tactic| wtm_at "go1c") => `(tactic| ((with_reducible refine isEx ?_); wtm_at "gex"))
local macro_rules | `(tactic| wtm_at "go1c") => `(tactic| with_reducible refine gVar rfl ?_)
local macro_rules | `(tactic| wtm_at "go1c") => `(tactic| with_reducible refine Stp.go ?_)
local macro_rules | `(tactic| wtm_at "goc") => `(tactic| repeat (first | wtm_at "go1c" | (with_reducible dsimp only) | (dsimp only [cxK, List.cons_append, List.nil_append, List.append_nil])))


/-! ### the law's one schema -/
def scL : List Ty := [("u", []), ("g", [("m", "relation", [["u", ""], ["g", "m"]])]),
  ("d", [("o", "relation", [["u", ""]]), ("w", "relation", [["u", ""], ["g", "m"]]), ("b", "relation", [["u", ""]]), ("v", "permission", [["", "", "o"], ["|", "", "w"], ["-", "", "b"]])])]
abbrev scD : PyData := schD scL
def needD (x : Str × Str × Bool) : PyData := .tuple [.str x.1, .str x.2.1, .bool x.2.2]
def needE (k : Str) (e : Ent) : List (Str × Str × Bool) :=
  if e.2.1 = "relation" then (e.2.2.filter fun p => !decide (p.getD 1 "" = ("" : Str))).map fun p => (p.getD 0 "", p.getD 1 "", false)
  else e.2.2.map fun p => (k, p.getD 2 "", decide (p.getD 0 "" = ("-" : Str)))
/-- an entry of the law's schema: no term leads to other objects -/
def EntOk (e : Ent) : Prop := e.2.2.length ≤ 16 ∧ (e.2.1 = "relation" ∧ (∀ p ∈ e.2.2, ∃ a b, p = [a, b]) ∨ e.2.1 = "permission" ∧ ∀ p ∈ e.2.2, ∃ a c, p = ([a, "", c] : List Str))
theorem need_nl (x : Str × Str × Bool) : noLs (needD x) = true := rfl
theorem TD.ts2_ {A : Addr → Prop} {H : Hp} {v : V} {a b : Str} (h : TD A H v (tsD [a, b])) : ∃ t, v = .ref t ∧ H t = some (.tup [.str a, .str b]) := by
  obtain ⟨t, vs, rfl, ht, tt⟩ := TD.tup_ h
  obtain rfl := TDs.strs_ (xs := [a, b]) tt
  exact ⟨t, rfl, ht⟩
theorem TD.ts3_ {A : Addr → Prop} {H : Hp} {v : V} {a b c : Str} (h : TD A H v (tsD [a, b, c])) : ∃ t, v = .ref t ∧ H t = some (.tup [.str a, .str b, .str c]) := by
  obtain ⟨t, vs, rfl, ht, tt⟩ := TD.tup_ h
  obtain rfl := TDs.strs_ (xs := [a, b, c]) tt
  exact ⟨t, rfl, ht⟩
section
variable {P : Program} {w : World} {K : PySem.W.Frag} {mg : Str → Option Value} {base : Heap}
abbrev sp_needs_of : Sp := fun vs H Q _ => ∃ (v0 v2 : V) (k : Str) (e : Ent), vs = [v0, .str k, v2] ∧ TD NoL H v2 (entD e) ∧ EntOk e ∧ (∀ a vs H', Ex H H' → H a = none → H' a = some (.lst vs) → TDs NoL H' vs ((needE k e).map needD) → Q (.ref a) H')
abbrev N_needs_of : List Str := ["schema", "kind", "entry", "found", "operator", "relation", "name", "kinds", "other", "inner"]
theorem sc_needs_of : FnScope N_needs_of ["schema", "kind", "entry"] (defScope s_needs_of) := ⟨rfl, rfl, rfl, by decide +kernel, rfl, by decide +kernel, by decide +kernel⟩
theorem ok_needs_of (T : Tx w K mg base) : FnOk P w K mg base CX0 1 (a_needs_of K) (fd_needs_of K) ["schema", "kind", "entry"] sp_needs_of := by
  refine T.f_needs_of.ok sc_needs_of (fun vs H Q E h => ?_) (fun cdv A outer s H vs Q E hr h => ?_)
  · obtain ⟨v0, v2, k, e, rfl, _⟩ := h
    rfl
  obtain ⟨v0, v2, k, e, rfl, te, eo, kk⟩ := h
  refine ⟨_, PSs.nox (pss_cons (ps_if (pt_cmpR (op_eq) (pe_ix ix_tup (pv 2) pe_int (fun _ _ => rfl)) pe_str (nomark _)) (pss_one (ps_ret (pe_lc (own := [("other", 8), ("inner", 9)]) rfl sc_needs_of.nd (pi_tup (pe_ix ix_tup (pv 2) pe_int (fun _ _ => rfl))) (blkOk_by (own := [("other", 8), ("inner", 9)]) (N := N_needs_of) (sc := defScope s_needs_of) (by decide +kernel)) (fun _ _ _ _ _ => (pg_tupK (K := K) (n := 2) rfl rfl (pgs_cons (pg_name (i := 8) sc_needs_of.nd rfl (Or.inl rfl)) (pgs_cons (pg_name (i := 9) sc_needs_of.nd rfl (Or.inl rfl)) pgs_nil)))) (fun _ _ _ _ _ => pts_one (pt_cmpR (op_ne) (pv 9) pe_str (nomark _))) (fun _ _ _ _ _ => (pe_tup (pa_cons (pv 8) (pa_cons (pv 9) (pa_cons pe_bl pa_nil)))))))) pss_nil) (pss_cons (ps_set (i := 3) sc_needs_of.nd rfl (Or.inl rfl) (pe_lst pa_nil)) (pss_cons (ps_for PassesOwn.never rfl (pi_tup (pe_ix ix_tup (pv 2) pe_int (fun _ _ => rfl))) (pg_tup (n := 3) rfl (pgs_cons (pg_name (i := 4) sc_needs_of.nd rfl (Or.inr rfl)) (pgs_cons (pg_name (i := 5) sc_needs_of.nd rfl (Or.inl rfl)) (pgs_cons (pg_name (i := 6) sc_needs_of.nd rfl (Or.inr rfl)) pgs_nil)))) (pss_cons (ps_set (i := 7) sc_needs_of.nd rfl (Or.inl rfl) (pe_ifExp (pt_cmpR (op_eq) (pv 5) pe_str (nomark _)) (pe_lst (pa_cons (pv 1) pa_nil)) pe_never)) (pss_one (ps_expr (pe_bm PySem.F.plainAttrs_list PySem.F.slot_list_extend PySem.F.type_list_extend mt_extend (pv 3) (pa_cons (pe_lc (own := [("other", 8)]) rfl sc_needs_of.nd (pi_list (pv 7)) (blkOk_by (own := [("other", 8)]) (N := N_needs_of) (sc := defScope s_needs_of) (by decide +kernel)) (fun _ _ _ _ _ => (pg_name (i := 8) sc_needs_of.nd rfl (Or.inl rfl))) (fun _ _ _ _ _ => pts_nil) (fun _ _ _ _ _ => (pe_tup (pa_cons (pv 8) (pa_cons (pv 6) (pa_cons (pe_cmpR (op_eq) (pv 4) pe_str (nomark _)) pa_nil)))))) pa_nil)))))) (pss_one (ps_ret (pv 3)))))), ?_⟩
  obtain ⟨a, b, ws, rfl, ha, hb, tb⟩ := te.ent_
  have hlen := tb.len
  rw [List.length_map] at hlen
  have el := eo.1
  wtm_at "go"
  rcases eo.2 with ⟨hr1, hp⟩ | ⟨hr1, hp⟩
  · refine blT (decide_eq_true hr1) ?_
    wtm_at "go"
    refine gLc ?_
    wtm_at "goc"
    intro D hD
    refine lcA walk_tup tb (sl_big (by omega)) hD (fun H' e => sqT_ (e.at hb)) (fun p => !decide (p.getD 1 "" = ("" : Str))) (fun p => needD (p.getD 0 "", p.getD 1 "", false)) (fun i p v H2 P P0 hx tv e2 k1 k0 => ?_) (fun H' ys e1 hy ty => ?_)
    · obtain ⟨x1, x2, rfl⟩ := hp p (List.mem_of_getElem? hx)
      obtain ⟨t, rfl, ht⟩ := tv.ts2_
      wtm_at "go"
      refine ⟨rfl, ?_⟩
      wtm_at "go"
      refine ifb (fun h => ?_) (fun h => ?_)
      · wtm_at "go"
        rename_i q hq H3 e3 h3
        exact k1 _ _ e3 (.tup h3 (.cons (.str _) (.cons (.str _) (.cons (.bl _) .nil)))) h
      · exact k0 _ (Ch.refl _ _) h
    · refine kk D ys H' e1 hD hy ?_
      unfold needE
      rw [if_pos hr1, List.map_map]
      exact TDs.nlM (fun p => need_nl (p.getD 0 "", p.getD 1 "", false)) ty
  · have hr2 : ¬ e.2.1 = "relation" := by rw [hr1]; decide
    refine blF (decide_eq_false hr2) ?_
    wtm_at "go"
    rename_i F hF H1 e1 h1
    refine forA walk_tup tb (fun d σ H' => ∃ fs x4 x5 x6 x7 x8 x9, Ex H H' ∧ H' F = some (.lst fs) ∧ TDs NoL H' fs ((d.map fun p => (k, p.getD 2 "", decide (p.getD 0 "" = ("-" : Str)))).map needD) ∧ σ = [some v0, some (.str k), some (.ref a), some (.ref F), x4, x5, x6, x7, x8, x9]) ?_ ?_ ?_ ?_
    · exact ⟨[], _, _, _, _, _, _, e1, h1, .nil, rfl⟩
    · rintro d σ H' ⟨fs, x4, x5, x6, x7, x8, x9, e2, _⟩
      exact sqT_ (e2.at hb)
    · rintro d p r v σ H2 ed tv ⟨fs, x4, x5, x6, x7, x8, x9, e2, h2, t2, rfl⟩
      obtain ⟨c1, c3, rfl⟩ := hp p (by rw [ed]; simp)
      obtain ⟨t, rfl, ht⟩ := (tv.e e2).ts3_
      have hfl : fs.length ≤ 16 := by
        rw [t2.len, List.length_map, List.length_map]
        have := congrArg List.length ed
        simp at this
        omega
      wtm_at "gob"
      rename_i kl hkl H3 e3 h3
      refine gLc ?_
      wtm_at "goc"
      intro D hD
      refine lcA (xs := [k]) (enc := PyData.str) walk_list (.cons (.str (A := NoL) _) .nil) (Nat.le_of_ble_eq_true rfl) hD (fun H' e => sqL_ (e.at h3)) (fun _ => true) (fun x => needD (x, c3, decide (c1 = ("-" : Str)))) (fun i p v H4 P P0 hx tv e4 k1 k0 => ?_) (fun H4 ys e4 hy ty => ?_)
      · obtain rfl := tv.str_
        wtm_at "go"
        refine ⟨rfl, ?_⟩
        wtm_at "go"
        rename_i q hq H5 e5 h5
        exact k1 _ _ e5 (.tup h5 (.cons (.str _) (.cons (.str _) (.cons (.bl _) .nil)))) rfl
      · have tl := ty.len
        rw [List.length_map] at tl
        have tl2 : ([k].filter fun _ => true).length = 1 := rfl
        have E4 := (e3.trans e4)
        wtm_at "go"
        refine gExt (E4.at h2) hy (Nat.le_trans (by omega : _ ≤ 100) (by decide)) fun H5 e5 h5 => ?_
        wtm_at "go"
        refine ⟨_, _, _, _, _, _, _, exD (e2.trans E4) hF e5, h5, ?_, rfl⟩
        rw [List.map_append, List.map_append]
        exact ((t2.e E4).app (TDs.nlM (fun p => need_nl (p, c3, decide (c1 = ("-" : Str)))) ty)).p e5
    · rintro σ H2 ⟨fs, x4, x5, x6, x7, x8, x9, e2, h2, t2, rfl⟩
      wtm_at "go"
      refine kk F fs H2 e2 hF h2 ?_
      unfold needE
      rw [if_neg hr2]
      exact t2
/-! ### strata -/
abbrev pk (a b : Str) : List Key := [Sum.inr a, Sum.inr b]
def KE : List (Str × Ent) := scL.flatMap fun t => t.2.map fun e => (t.1, e)
/-- a name's stratum as it is reckoned behind i rounds -/
def lev (i : Nat) (_a b : Str) : Int := if i = 0 then 0 else if b = "v" then 1 else 0
def lvd (l : List (Str × Ent)) (i : Nat) : List (List Key × V) := l.map fun x => (pk x.1 x.2.1, .int (lev i x.1 x.2.1))
abbrev lvS : List (List Key × V) := lvd KE 1
def maxI : List Int → Int
  | [] => 0
  | n :: r => r.foldl max n
def lows (i : Nat) (x : Str × Ent) : List Int := (needE x.1 x.2).map fun n => lev i n.1 n.2.1 + (if n.2.2 then 1 else 0)
theorem gMaxdI {K : PySem.W.Frag} {H : Hp} {Q : VK} {a : Addr} {ns : List Int} (ha : H a = some (.lst (ns.map V.int))) (q : Q (.int (maxI ns)) H) : rMaxd K [.ref a] [.int 0] H Q :=
  gMaxd ha (fun h => by rw [h] at q; exact q) (fun n r h => by rw [h] at q; exact q)
theorem lev_next : ∀ i : Fin 2, (KE.all fun x => decide (maxI (lows i.val x) = lev (i.val + 1) x.1 x.2.1)) = true := by decide +kernel
theorem ke_nodup : (KE.map fun x => (x.1, x.2.1)).Nodup := by decide +kernel
theorem ke_needs : (KE.all fun x => (needE x.1 x.2).all fun n => KE.any fun y => decide (y.1 = n.1 ∧ y.2.1 = n.2.1)) = true := by decide +kernel
theorem pk_inj {a b c d : Str} (h : pk a b = pk c d) : a = c ∧ b = d := by
  simp [pk] at h
  exact h
theorem pkv_val {f : Str → Str → V} {a b : Str} : ∀ {l : List (Str × Ent)}, (∃ y ∈ l, y.1 = a ∧ y.2.1 = b) → valV (l.map fun x => (pk x.1 x.2.1, f x.1 x.2.1)) (pk a b) = some (f a b)
  | [], h => by obtain ⟨y, hy, _⟩ := h; cases hy
  | x :: l, h => by
    rw [List.map_cons]
    by_cases e : pk x.1 x.2.1 = pk a b
    · obtain ⟨e1, e2⟩ := pk_inj e
      rw [valV_pos e, e1, e2]
    · rw [valV_neg e]
      refine pkv_val ?_
      obtain ⟨y, hy, e1, e2⟩ := h
      rcases List.mem_cons.mp hy with rfl | hy
      · exact absurd (by rw [e1, e2]) e
      · exact ⟨y, hy, e1, e2⟩
theorem pkv_none {f : Str → Str → V} {a b : Str} {l : List (Str × Ent)} (h : (a, b) ∉ l.map fun x => (x.1, x.2.1)) : valV (l.map fun x => (pk x.1 x.2.1, f x.1 x.2.1)) (pk a b) = none := by
  cases q : valV (l.map fun x => (pk x.1 x.2.1, f x.1 x.2.1)) (pk a b) with
  | none => rfl
  | some v =>
    exfalso
    have z := valV_any (pk a b) (l.map fun x => (pk x.1 x.2.1, f x.1 x.2.1))
    rw [q, Option.isSome_some, List.any_eq_true] at z
    obtain ⟨p, hp, e⟩ := z
    obtain ⟨x, hx, rfl⟩ := List.mem_map.mp hp
    obtain ⟨e1, e2⟩ := pk_inj (of_decide_eq_true e)
    exact h (List.mem_map.mpr ⟨x, hx, by rw [e1, e2]⟩)
theorem pkv_put {f : Str → Str → V} {d r : List (Str × Ent)} {x : Str × Ent} (h : KE = d ++ x :: r) : putK (d.map fun x => (pk x.1 x.2.1, f x.1 x.2.1)) (pk x.1 x.2.1) (f x.1 x.2.1) = (d ++ [x]).map fun x => (pk x.1 x.2.1, f x.1 x.2.1) := by
  have n := ke_nodup
  rw [h, List.map_append, List.map_cons] at n
  have n2 : (x.1, x.2.1) ∉ d.map fun x => (x.1, x.2.1) := fun z => (List.nodup_append.mp n).2.2 _ z _ List.mem_cons_self rfl
  rw [putK_new _ (pkv_none n2), List.map_append]
  rfl
theorem ke_ok : ∀ x ∈ KE, EntOk x.2 := by
  intro x hx
  have e : KE = ([("g", ("m", "relation", [["u", ""], ["g", "m"]])), ("d", ("o", "relation", [["u", ""]])), ("d", ("w", "relation", [["u", ""], ["g", "m"]])), ("d", ("b", "relation", [["u", ""]])), ("d", ("v", "permission", [["", "", "o"], ["|", "", "w"], ["-", "", "b"]]))] : List (Str × Ent)) := rfl
  rw [e] at hx
  simp only [List.mem_cons, List.not_mem_nil, or_false] at hx
  rcases hx with rfl | rfl | rfl | rfl | rfl
  · exact ⟨by decide, .inl ⟨rfl, by simp⟩⟩
  · exact ⟨by decide, .inl ⟨rfl, by simp⟩⟩
  · exact ⟨by decide, .inl ⟨rfl, by simp⟩⟩
  · exact ⟨by decide, .inl ⟨rfl, by simp⟩⟩
  · exact ⟨by decide, .inr ⟨rfl, by simp⟩⟩
/-- what is needed, in the heap -/
def NdOk (H : Hp) (nkv : List (List Key × V)) (l : List (Str × Ent)) : Prop := nkv.length ≤ l.length ∧ ∀ x ∈ l, ∃ a ws, valV nkv (pk x.1 x.2.1) = some (.ref a) ∧ H a = some (.lst ws) ∧ TDs NoL H ws ((needE x.1 x.2).map needD)
def flat (d : List Ty) : List (Str × Ent) := d.flatMap fun t => t.2.map fun e => (t.1, e)
theorem flat_app (d : List Ty) (t : Ty) : flat (d ++ [t]) = flat d ++ t.2.map fun e => (t.1, e) := by simp [flat]
theorem NdOk.ch {S : List Addr} {H H' : Hp} {nkv : List (List Key × V)} {l : List (Str × Ent)} (h : NdOk H nkv l) (e : Ch S H H') (hS : ∀ z ∈ S, ∀ ws, H z ≠ some (.lst ws)) : NdOk H' nkv l := ⟨h.1, fun x hx => by
  obtain ⟨a, ws, h1, h2, h3⟩ := h.2 x hx
  exact ⟨a, ws, h1, e.to h2 fun z => hS a z ws h2, h3.p e⟩⟩
theorem NdOk.put {H : Hp} {nkv : List (List Key × V)} {d r : List (Str × Ent)} {x : Str × Ent} {a : Addr} {ws : List V} (h : NdOk H nkv d) (hk : KE = d ++ x :: r) (ha : H a = some (.lst ws)) (t : TDs NoL H ws ((needE x.1 x.2).map needD)) : NdOk H (putK nkv (pk x.1 x.2.1) (.ref a)) (d ++ [x]) := by
  have n := ke_nodup
  rw [hk, List.map_append, List.map_cons] at n
  have n2 : (x.1, x.2.1) ∉ d.map fun x => (x.1, x.2.1) := fun z => (List.nodup_append.mp n).2.2 _ z _ List.mem_cons_self rfl
  refine ⟨?_, fun y hy => ?_⟩
  · have := length_putK nkv (pk x.1 x.2.1) (.ref a)
    have := h.1
    simp
    omega
  · rcases List.mem_append.mp hy with hy | hy
    · obtain ⟨b, us, h1, h2, h3⟩ := h.2 y hy
      refine ⟨b, us, ?_, h2, h3⟩
      rw [valV_put, if_neg (fun z => ?_)]
      · exact h1
      · obtain ⟨z1, z2⟩ := pk_inj z
        exact n2 (List.mem_map.mpr ⟨y, hy, by rw [z1, z2]⟩)
    · cases List.mem_singleton.mp hy
      exact ⟨a, ws, by rw [valV_put, if_pos rfl], ha, t⟩
theorem ke_len : KE.length = 5 := rfl
theorem part_le {d r : List (Str × Ent)} {x : Str × Ent} (h : KE = d ++ x :: r) : d.length < 5 := by
  have := congrArg List.length h
  rw [ke_len, List.length_append, List.length_cons] at this
  omega
theorem lvd_get {i j : Nat} {k : List Key} {v : V} (h : (lvd KE i)[j]? = some (k, v)) : ∃ x, KE[j]? = some x ∧ k = pk x.1 x.2.1 ∧ v = .int (lev i x.1 x.2.1) := by
  unfold lvd at h
  rw [List.getElem?_map] at h
  cases q : KE[j]? with
  | none => rw [q] at h; cases h
  | some x =>
    rw [q] at h
    cases h
    exact ⟨x, rfl, rfl, rfl⟩
theorem lvd_ints (l : List (Str × Ent)) (i : Nat) : intsB (lvd l i) := fun p hp => by
  obtain ⟨x, _, rfl⟩ := List.mem_map.mp hp
  exact ⟨_, rfl⟩
theorem lvd_same : twinB (lvd KE 1) (lvd KE 2) = true ∧ twinB (lvd KE 0) (lvd KE 1) = false := by
  constructor <;> decide +kernel
theorem lvd_two : lvd KE 2 = lvd KE 1 := rfl
theorem need_in {x : Str × Ent} (hx : x ∈ KE) {n : Str × Str × Bool} (hn : n ∈ needE x.1 x.2) : ∃ y ∈ KE, y.1 = n.1 ∧ y.2.1 = n.2.1 := by
  obtain ⟨y, hy, e⟩ := List.any_eq_true.mp (List.all_eq_true.mp (List.all_eq_true.mp ke_needs x hx) n hn)
  exact ⟨y, hy, of_decide_eq_true e⟩
theorem TD.need_ {A : Addr → Prop} {H : Hp} {v : V} {n : Str × Str × Bool} (h : TD A H v (needD n)) : ∃ t, v = .ref t ∧ H t = some (.tup [.str n.1, .str n.2.1, .bl n.2.2]) := by
  obtain ⟨t, vs, rfl, ht, t0⟩ := TD.tup_ h
  obtain ⟨v1, w1, rfl, h1, t1⟩ := t0.cons_
  obtain ⟨v2, w2, rfl, h2, t2⟩ := t1.cons_
  obtain ⟨v3, w3, rfl, h3, t3⟩ := t2.cons_
  obtain rfl := t3.nil_
  obtain rfl := h1.str_
  obtain rfl := h2.str_
  obtain rfl := h3.bl_
  exact ⟨t, rfl, ht⟩
abbrev sp_strata : Sp := fun vs H Q _ => ∃ v0, vs = [v0] ∧ TD NoL H v0 scD ∧ (∀ a H', Ex H H' → H a = none → H' a = some (.dT lvS) → Q (.ref a) H')
theorem nolst {H : Hp} {L : Addr} {o : HO} (h : H L = some o) (n : ∀ ws, o ≠ .lst ws) : ∀ z ∈ [L], ∀ ws, H z ≠ some (.lst ws) := fun z hz ws q => by
  rw [List.mem_singleton.mp hz, h] at q
  exact n ws (Option.some.inj q)
abbrev N_strata : List Str := ["schema", "levels", "needs", "kind", "entries", "entry", "round_number", "raised", "pair", "lower", "other", "name", "is_negative"]
theorem sc_strata : FnScope N_strata ["schema"] (defScope s_strata) := ⟨rfl, rfl, rfl, by decide +kernel, rfl, by decide +kernel, by decide +kernel⟩
theorem ok_strata (T : Tx w K mg base) : FnOk P w K mg base CX0 2 (a_strata K) (fd_strata K) ["schema"] sp_strata := by
  refine T.f_strata.ok sc_strata (fun vs H Q E h => ?_) (fun cdv A outer s H vs Q E hr h => ?_)
  · obtain ⟨v0, rfl, _⟩ := h
    rfl
  obtain ⟨v0, rfl, ts, kk⟩ := h
  refine ⟨_, PSs.nox (pss_cons (ps_set (i := 1) sc_strata.nd rfl (Or.inr rfl) pe_dnewT) (pss_cons (ps_set (i := 2) sc_strata.nd rfl (Or.inl rfl) pe_dnewT) (pss_cons (ps_for PassesOwn.never rfl (pi_tup (pv 0)) (pg_tup (n := 2) rfl (pgs_cons (pg_name (i := 3) sc_strata.nd rfl (Or.inl rfl)) (pgs_cons (pg_name (i := 4) sc_strata.nd rfl (Or.inl rfl)) pgs_nil))) (pss_one (ps_for PassesOwn.never rfl (pi_tup (pv 4)) (pg_name (i := 5) sc_strata.nd rfl (Or.inl rfl)) (pss_cons (ps_dput (hu_of hr) (pv 1) (pe_tup (pa_cons (pv 3) (pa_cons (pe_ix ix_tup (pv 5) pe_int (fun _ _ => rfl)) pa_nil))) pe_int rfl) (pss_one (ps_dput (hu_of hr) (pv 2) (pe_tup (pa_cons (pv 3) (pa_cons (pe_ix ix_tup (pv 5) pe_int (fun _ _ => rfl)) pa_nil))) (pe_call (ok_needs_of T) (hr.mono (by decide)) rfl T.g_needs_of T.f_needs_of.kp T.b_needs_of .nil pass0 (pa_cons (pv 0) (pa_cons (pv 3) (pa_cons (pv 5) pa_nil)))) rfl)))))) (pss_cons (ps_for PassesOwn.never rfl (pi_range1 (by rfl) T.n_range (pa_cons (pe_op op_add (pe_callB call_len_dT (by rfl) T.n_len (by decide +kernel) (pa_cons (pv 1) pa_nil)) pe_int) pa_nil)) (pg_name (i := 6) sc_strata.nd rfl (Or.inl rfl)) (pss_cons (ps_set (i := 7) sc_strata.nd rfl (Or.inl rfl) pe_dnewT) (pss_cons (ps_lock (ps_for PassesOwn.never rfl (pi_keys (pv 1)) (pg_name (i := 8) sc_strata.nd rfl (Or.inl rfl)) (pss_cons (ps_setLc (i := 9) (own := [("other", 10), ("name", 11), ("is_negative", 12)]) rfl sc_strata.nd rfl rfl (sw_true rfl rfl rfl (by decide +kernel)) (pi_list (pe_dget (hu_of hr) (pv 2) (pv 8) (fun _ _ => rfl))) (blkOk_by (own := [("other", 10), ("name", 11), ("is_negative", 12)]) (N := N_strata) (sc := defScope s_strata) (by decide +kernel)) (fun _ _ _ _ _ => (pg_tupK (K := K) (n := 3) rfl rfl (pgs_cons (pg_name (i := 10) sc_strata.nd rfl (Or.inl rfl)) (pgs_cons (pg_name (i := 11) sc_strata.nd rfl (Or.inl rfl)) (pgs_cons (pg_name (i := 12) sc_strata.nd rfl (Or.inl rfl)) pgs_nil))))) (fun _ _ _ _ _ => pts_nil) (fun _ _ _ _ _ => (pe_op op_add (pe_dget (hu_of hr) (pv 1) (pe_tup (pa_cons (pv 10) (pa_cons (pv 11) pa_nil))) (fun _ _ => rfl)) (pe_ifExp (pt_val (pv 12)) pe_int pe_int)))) (pss_one (ps_dput (hu_of hr) (pv 7) (pv 8) (pe_callBK (cr_maxd rfl (hu_w hr)) (by rfl) T.n_max (by decide +kernel) (pa_cons (pv 9) pa_nil) (pk_cons pe_int pk_nil)) rfl))))) (pss_cons (ps_if (pt_cmpR (op_eq_dT (hu_w hr)) (pv 7) (pv 1) (nomark _)) (pss_one (ps_ret (pv 1))) pss_nil) (pss_one (ps_set (i := 1) sc_strata.nd rfl (Or.inr rfl) (pv 7))))))) (pss_one ps_never))))), ?_⟩
  have ts0 := ts
  obtain ⟨a, vs, rfl, ha, tvs⟩ := TD.tup_ ts
  wtm_at "go"
  rename_i L H1 hL0 e1 h1 N H2 hN0 e2 h2
  have hN00 : H N = none := e1.free hN0
  have nNL : N ≠ L := fun z => by rw [z, h1] at hN0; cases hN0
  refine forA walk_tup tvs (fun d σ H' => ∃ nkv x3 x4 x5 x6 x7 x8 x9 x10 x11 x12, Ex H H' ∧ H' L = some (.dT (lvd (flat d) 0)) ∧ H' N = some (.dT nkv) ∧ NdOk H' nkv (flat d) ∧ σ = [some (.ref a), some (.ref L), some (.ref N), x3, x4, x5, x6, x7, x8, x9, x10, x11, x12]) ?_ ?_ ?_ ?_
  · exact ⟨[], _, _, _, _, _, _, _, _, _, _, e1.trans e2, e2.at h1, h2, ⟨Nat.le_refl _, fun x hx => nomatch hx⟩, rfl⟩
  · rintro d σ H' ⟨nkv, x3, x4, x5, x6, x7, x8, x9, x10, x11, x12, e3, _⟩
    exact sqT_ (e3.at ha)
  · rintro d t r v σ H3 ed tv ⟨nkv, x3, x4, x5, x6, x7, x8, x9, x10, x11, x12, e3, hL, hN, hnd, rfl⟩
    obtain ⟨b, c, ws, rfl, hb, hc, tc⟩ := (tv.e e3).ty_
    wtm_at "go"
    refine forA walk_tup tc (fun d2 σ H' => ∃ nkv x5 x6 x7 x8 x9 x10 x11 x12, Ex H H' ∧ Ch [L, N] H3 H' ∧ H' L = some (.dT (lvd (flat d ++ d2.map fun e => (t.1, e)) 0)) ∧ H' N = some (.dT nkv) ∧ NdOk H' nkv (flat d ++ d2.map fun e => (t.1, e)) ∧ σ = [some (.ref a), some (.ref L), some (.ref N), some (.str t.1), some (.ref c), x5, x6, x7, x8, x9, x10, x11, x12]) ?_ ?_ ?_ ?_
    · refine ⟨nkv, _, _, _, _, _, _, _, _, e3, Ch.refl _ _, ?_, hN, ?_, rfl⟩
      · rw [List.map_nil, List.append_nil]; exact hL
      · rw [List.map_nil, List.append_nil]; exact hnd
    · rintro d2 σ H' ⟨nkv, x5, x6, x7, x8, x9, x10, x11, x12, _, c4, _⟩
      exact sqT_ (c4.tup _ _ hc)
    · rintro d2 e r2 v σ H4 ed2 tv2 ⟨nkv, x5, x6, x7, x8, x9, x10, x11, x12, e4, c4, hL4, hN4, hnd4, rfl⟩
      have hke : KE = (flat d ++ d2.map fun e => (t.1, e)) ++ (t.1, e) :: ((r2.map fun e => (t.1, e)) ++ flat r) := by
        have : KE = flat scL := rfl
        rw [this, ed]
        simp [flat, ed2]
      have hdd2 : (flat d ++ (d2 ++ [e]).map fun e => (t.1, e)) = (flat d ++ d2.map fun e => (t.1, e)) ++ [(t.1, e)] := by simp
      rw [hdd2]
      generalize hdd : (flat d ++ d2.map fun e => (t.1, e)) = dd at hke hL4 hnd4 ⊢
      have hxk : (t.1, e) ∈ KE := by rw [hke]; simp
      have hl5 := part_le hke
      have tv4 := tv2.p c4
      have te4 := tv4
      obtain ⟨b2, c2, ws2, rfl, hb2, hc2, tc2⟩ := tv4.ent_
      wtm_at "go"
      rename_i q1 hq1 H5 e5 h5
      refine ⟨L, _, rfl, DPut.t (k := pk t.1 e.1) (e5.at hL4) h5 (Nat.lt_of_le_of_lt (by unfold lvd; rw [List.length_map]; omega : _ ≤ 100) (by decide)), ?_⟩
      have ep : putK (lvd dd 0) (pk t.1 e.1) (.int 0) = lvd (dd ++ [(t.1, e)]) 0 := pkv_put (f := fun a b => .int (lev 0 a b)) hke
      rw [ep]
      generalize hH6 : upd H5 L _ = H6
      obtain ⟨e6, h6⟩ := chO (e5.at hL4) (by trivial) hH6
      clear hH6
      wtm_at "go"
      refine ⟨.ref a, .ref b2, t.1, e, rfl, (te4.e e5).p e6, ke_ok _ hxk, fun nl us H7 e7 hnl h7 t7 => ?_⟩
      wtm_at "go"
      have hb7 := e7.tup _ _ (e6.tup _ _ (e5.tup _ _ hb2))
      wtm_at "go"
      rename_i q2 hq2 H8 e8 h8
      have hN8 : H8 N = some (.dT nkv) := e8.at (e7.at (e6.at1 (e5.at hN4) nNL))
      have hnd8 : NdOk H8 nkv dd := (((hnd4.ch e5 (fun z hz => nomatch hz)).ch e6 (nolst (e5.at hL4) fun ws z => nomatch z)).ch e7 (fun z hz => nomatch hz)).ch e8 (fun z hz => nomatch hz)
      refine ⟨N, _, rfl, DPut.t (k := pk t.1 e.1) hN8 h8 (Nat.lt_of_le_of_lt (by have := hnd8.1; omega : _ ≤ 100) (by decide)), ?_⟩
      generalize hH9 : upd H8 N _ = H9
      obtain ⟨e9, h9⟩ := chO hN8 (by trivial) hH9
      clear hH9
      refine ⟨_, _, _, _, _, _, _, _, _, exD ((exD (e4.trans e5) hL0 e6).trans (e7.trans e8)) hN00 e9, ?_, ?_, h9, ?_, rfl⟩
      · exact (((c4.trans e5.wk).trans (e6.mono fun z hz => by simp at hz ⊢; exact .inl hz)).trans (e7.trans e8).wk).trans (e9.mono fun z hz => by simp at hz ⊢; exact .inr hz)
      · exact e9.at1 (e8.at (e7.at h6)) (Ne.symm nNL)
      · exact (hnd8.put hke (e8.at h7) (t7.e e8)).ch e9 (nolst hN8 fun ws z => nomatch z)
    · rintro σ H4 ⟨nkv, x5, x6, x7, x8, x9, x10, x11, x12, e4, c4, hL4, hN4, hnd4, rfl⟩
      wtm_at "go"
      refine ⟨nkv, _, _, _, _, _, _, _, _, _, _, e4, ?_, hN4, ?_, rfl⟩
      · rw [flat_app]; exact hL4
      · rw [flat_app]; exact hnd4
  · rintro σ H3 ⟨nkv, x3, x4, x5, x6, x7, x8, x9, x10, x11, x12, e3, hL, hN, hnd, rfl⟩
    have hnd : NdOk H3 nkv KE := hnd
    wtm_at "go"
    refine ⟨L, lvd KE 0, rfl, hL, ?_⟩
    wtm_at "go"
    have e6 : ((((lvd KE 0).length : Nat) : Int) + 1) = 6 := rfl
    rw [e6]
    refine for_it walk_range (fun i σ H' => i ≤ 1 ∧ ∃ L' x3 x4 x5 x6 x7 x8 x9 x10 x11 x12, Ex H H' ∧ N ≠ L' ∧ H L' = none ∧ H' L' = some (.dT (lvd KE i)) ∧ H' N = some (.dT nkv) ∧ NdOk H' nkv KE ∧ σ = [some (.ref a), some (.ref L'), some (.ref N), x3, x4, x5, x6, x7, x8, x9, x10, x11, x12]) ?_ ?_ ?_ ?_
    · exact ⟨by omega, L, _, _, _, _, _, _, _, _, _, _, e3, nNL, hL0, hL, hN, hnd, rfl⟩
    · exact fun _ _ _ _ _ => trivial
    · rintro i v σ H4 H5 hi ⟨hi1, L', x3, x4, x5, x6, x7, x8, x9, x10, x11, x12, e4, nNL', hL'0, hL', hN', hnd', rfl⟩ ⟨rfl, rfl⟩
      wtm_at "go"
      rename_i R H6 hR0 e6 h6
      have nRL : L' ≠ R := fun z => by rw [← z, hL'] at hR0; cases hR0
      have nNR : N ≠ R := fun z => by rw [← z, hN'] at hR0; cases hR0
      have hL6 := e6.at hL'
      refine ⟨L', _, hL6, trivial, fun od => ?_⟩
      have cl : Ch [L'] H6 (upd H6 L' (.frz od (.dT (lvd KE i)))) := Ch.put hL6
      have hnl : NdOk (upd H6 L' (.frz od (.dT (lvd KE i)))) nkv KE := (hnd'.ch e6 (fun z hz => nomatch hz)).ch cl (nolst hL6 fun ws z => nomatch z)
      refine gFor (gVar rfl ⟨L', od, rfl, .inr ⟨lvd KE i, upd_same, ?_⟩⟩)
      refine for_it (walk_keysT (kvs := lvd KE i)) (fun j σ H' => ∃ x8 x9 x10 x11 x12, Ch [R] (upd H6 L' (.frz od (.dT (lvd KE i)))) H' ∧ H' R = some (.dT (lvd (KE.take j) (i + 1))) ∧ σ = [some (.ref a), some (.ref L'), some (.ref N), x3, x4, x5, some (.int (0 + (i : Nat))), some (.ref R), x8, x9, x10, x11, x12]) ?_ ?_ ?_ ?_
      · refine ⟨_, _, _, _, _, Ch.refl _ _, ?_, rfl⟩
        rw [upd_ne (Ne.symm nRL)]
        exact h6
      · rintro j σ H' hj ⟨x8, x9, x10, x11, x12, c7, _⟩
        exact c7.at1 upd_same nRL
      · rintro j v σ H8 H7 hj ⟨x8, x9, x10, x11, x12, c7, hR7, rfl⟩ ⟨rfl, kx, vx, q, hk, rfl, hq⟩
        obtain ⟨x, hx, rfl, rfl⟩ := lvd_get hk
        have hxk : x ∈ KE := List.mem_of_getElem? hx
        have hnd7 := hnl.ch c7 (nolst (show (upd H6 L' (.frz od (.dT (lvd KE i)))) R = some (.dT []) by rw [upd_ne (Ne.symm nRL)]; exact h6) fun ws z => nomatch z)
        obtain ⟨nl, nws, hv, hnl7, tnl⟩ := hnd7.2 x hxk
        have hN7 : H7 N = some (.dT nkv) := c7.at1 (cl.at1 (e6.at hN') nNL') nNR
        have hL7 : H7 L' = some (.frz od (.dT (lvd KE i))) := c7.at1 upd_same nRL
        wtm_at "go"
        refine gLc ?_
        wtm_at "goc"
        refine ⟨N, .ref nl, rfl, .inr ⟨nkv, pk x.1 x.2.1, q, .inl hN7, rfl, hq, hv.symm⟩, ?_⟩
        refine ⟨nl, rfl, ⟨_, sqL_ hnl7⟩, fun D hD => ?_⟩
        have hwl := tnl.len
        rw [List.length_map] at hwl
        have hnl5 : (needE x.1 x.2).length ≤ 16 := by
          have := (ke_ok x hxk).1
          unfold needE
          split
          · rw [List.length_map]
            exact Nat.le_trans (List.length_filter_le _ _) this
          · rw [List.length_map]
            exact this
        refine lcA walk_list tnl (sl_big (by omega)) hD (fun H' e => sqL_ (e.at hnl7)) (fun _ => true) (fun n => PyData.int (lev i n.1 n.2.1 + (if n.2.2 then 1 else 0))) (fun j n v H9 P P0 hx2 tv e9 k1 k0 => ?_) (fun H9 ys e9 hy ty => ?_)
        · obtain ⟨t, rfl, ht⟩ := tv.need_
          wtm_at "go"
          refine ⟨rfl, ?_⟩
          wtm_at "go"
          rename_i q2 hq2 H10 e10 h10
          have hL10 := e10.at (e9.at hL7)
          refine ⟨L', _, rfl, .inr ⟨lvd KE i, pk n.1 n.2.1, q2, .inr ⟨od, hL10⟩, rfl, h10, (pkv_val (f := fun a b => .int (lev i a b)) (need_in hxk (List.mem_of_getElem? hx2))).symm⟩, ?_⟩
          wtm_at "go"
          refine ifb (fun h => ?_) (fun h => ?_)
          · wtm_at "go"
            refine k1 _ _ e10 ?_ rfl
            rw [h]
            exact .int _
          · wtm_at "go"
            refine k1 _ _ e10 ?_ rfl
            rw [h]
            exact .int _
        · have ty2 : TDs (fun z => H7 z = none ∧ z ≠ D) H9 ys ((lows i x).map PyData.int) := by
            have ef : (needE x.1 x.2).filter (fun _ => true) = needE x.1 x.2 := List.filter_eq_self.mpr fun _ _ => rfl
            rw [ef] at ty
            unfold lows
            rw [List.map_map]
            exact ty
          obtain rfl := ty2.ints_
          have hlev : maxI (lows i x) = lev (i + 1) x.1 x.2.1 := of_decide_eq_true (List.all_eq_true.mp (lev_next ⟨i, by omega⟩) x hxk)
          have hke := (split_at hx).1
          have hjl : (KE.take j).length = j := (split_at hx).2
          have hR9 := e9.at hR7
          have hj5 : j < 5 := hj
          have ep : putK (lvd (KE.take j) (i + 1)) (pk x.1 x.2.1) (.int (maxI (lows i x))) = lvd (KE.take (j + 1)) (i + 1) := by
            rw [hlev, take_next hx]
            exact pkv_put (f := fun a b => .int (lev (i + 1) a b)) hke
          wtm_at "go"
          refine gMaxdI hy ?_
          wtm_at "go"
          refine ⟨R, _, rfl, DPut.t (k := pk x.1 x.2.1) hR9 (e9.at hq) (Nat.lt_of_le_of_lt (by unfold lvd; rw [List.length_map]; omega : _ ≤ 100) (by decide)), ?_⟩
          rw [ep]
          generalize hH10 : upd H9 R _ = H10
          obtain ⟨e10, h10⟩ := chO hR9 (by trivial) hH10
          clear hH10
          exact ⟨_, _, _, _, _, (c7.trans e9.wk).trans e10, h10, rfl⟩
      · rintro σ H7 ⟨x8, x9, x10, x11, x12, c7, hR7, rfl⟩
        have hL7 : H7 L' = some (.frz od (.dT (lvd KE i))) := c7.at1 upd_same nRL
        refine ⟨hL7, ?_⟩
        have c8 : Ch [R] H6 (upd H7 L' (.dT (lvd KE i))) := lockCh hL6 (by trivial) c7
        have cu : Ch [L'] H7 (upd H7 L' (.dT (lvd KE i))) := Ch.put hL7
        generalize hH8 : upd H7 L' (.dT (lvd KE i)) = H8 at c8 cu
        have hL8 : H8 L' = some (.dT (lvd KE i)) := by rw [← hH8]; exact upd_same
        have hR8 : H8 R = some (.dT (lvd KE (i + 1))) := by
          have := cu.at1 hR7 (Ne.symm nRL)
          exact this
        have hN8 : H8 N = some (.dT nkv) := c8.at1 (e6.at hN') nNR
        have hnd8 : NdOk H8 nkv KE := (hnd'.ch e6 (fun z hz => nomatch hz)).ch c8 (nolst h6 fun ws z => nomatch z)
        have E8 : Ex H H8 := exD (e4.trans e6) (e4.free hR0) c8
        clear hH8
        wtm_at "go"
        refine ⟨R, L', _, _, rfl, rfl, hR8, hL8, lvd_ints _ _, lvd_ints _ _, ?_⟩
        rcases (by omega : i = 0 ∨ i = 1) with rfl | rfl
        · rw [lvd_same.2]
          wtm_at "gob"
          exact ⟨R, _, _, _, _, _, _, _, _, _, _, E8, nNR, e4.free hR0, hR8, hN8, hnd8, rfl⟩
        · rw [lvd_same.1]
          wtm_at "gob"
          exact kk _ _ E8 hL'0 hL8
    · rintro σ H4 ⟨h6, _⟩
      exact absurd h6 (by decide)
end


/-! ### tables.py -/
def obU : List Str := ["d:p", "d:q", "g:x", "u:a", "u:b", "u:c"]
def PU : List (Str × Str) := (["d:p", "d:q"] : List Str).flatMap (fun d => (["o", "w", "b", "v"] : List Str).map fun n => ((d, n) : Str × Str)) ++ ([("g:x", "m")] : List (Str × Str))
def SU : List (Str × Str) := [("u:a", ""), ("u:b", ""), ("u:c", ""), ("g:x", "m")]
def vEnt : Ent := ("v", "permission", [["", "", "o"], ["|", "", "w"], ["-", "", "b"]])
theorem pu_ent : (PU.all fun p => match entOf scL (typeOf p.1) p.2 with | some e => if p.2 = "v" then decide (e = vEnt) else decide (e.2.1 = "relation") | none => false) = true := by decide +kernel
theorem pu_v {p : Str × Str} (h : p ∈ PU) (hv : p.2 = "v") : entOf scL (typeOf p.1) p.2 = some vEnt := by
  have z := List.all_eq_true.mp pu_ent p h
  cases q : entOf scL (typeOf p.1) p.2 with
  | none => rw [q] at z; cases z
  | some e =>
    rw [q] at z
    dsimp only at z
    rw [if_pos hv] at z
    rw [of_decide_eq_true z]
theorem pu_r {p : Str × Str} (h : p ∈ PU) (hv : ¬ p.2 = "v") : ∃ e, entOf scL (typeOf p.1) p.2 = some e ∧ e.2.1 = "relation" := by
  have z := List.all_eq_true.mp pu_ent p h
  cases q : entOf scL (typeOf p.1) p.2 with
  | none => rw [q] at z; cases z
  | some e =>
    rw [q] at z
    dsimp only at z
    rw [if_neg hv] at z
    exact ⟨e, rfl, of_decide_eq_true z⟩
theorem pu_short : (PU.all fun p => decide (p.1.length ≤ 20)) = true ∧ (SU.all fun p => decide (p.1.length ≤ 20)) = true ∧ (obU.all fun p => decide (p.length ≤ 20)) = true := by decide +kernel
theorem pu_len {p : Str × Str} (h : p ∈ PU) : p.1.length ≤ 20 := of_decide_eq_true (List.all_eq_true.mp pu_short.1 p h)
theorem su_len {p : Str × Str} (h : p ∈ SU) : p.1.length ≤ 20 := of_decide_eq_true (List.all_eq_true.mp pu_short.2.1 p h)
theorem ob_len {p : Str} (h : p ∈ obU) : p.length ≤ 20 := of_decide_eq_true (List.all_eq_true.mp pu_short.2.2 p h)
/-- what each pair leads to -/
def SubOk (H : Hp) (skv : List (List Key × V)) : Prop := ∀ k v, valV skv k = some v → ∃ (a : Addr) (ws : List V) (ps : List (Str × Str)), v = .ref a ∧ H a = some (.lst ws) ∧ TDs NoL H ws (ps.map prD) ∧ (∀ p ∈ ps, p ∈ SU) ∧ ps.length ≤ 30
abbrev gfF (sv : V) (ld sd ol pl : Addr) : List (Str × V) := [("schema", sv), ("strata", .ref ld), ("subjects", .ref sd), ("objects", .ref ol), ("people", .ref pl)]
def Gf (K : PySem.W.Frag) (H : Hp) (g : Addr) : Prop := ∃ dx sv ld sd ol pl skv, ∃ os ps : List Str, H g = some (.ins (He.ga K "Graph") dx (gfF sv ld sd ol pl)) ∧ TD NoL H sv scD ∧ H ld = some (.dT lvS) ∧ H sd = some (.dT skv) ∧ SubOk H skv ∧
  H ol = some (.lst (os.map V.str)) ∧ (∀ o ∈ os, o ∈ obU) ∧ os.length ≤ 60 ∧ H pl = some (.lst (ps.map V.str)) ∧ (∀ p ∈ ps, p ∈ us3) ∧ ps.length ≤ 60
theorem SubOk.ex {H H' : Hp} {skv : List (List Key × V)} (h : SubOk H skv) (e : Ex H H') : SubOk H' skv := fun k v hv => by
  obtain ⟨a, ws, ps, h1, h2, h3, h4⟩ := h k v hv
  exact ⟨a, ws, ps, h1, e.at h2, h3.e e, h4⟩
theorem Gf.ex {K : PySem.W.Frag} {H H' : Hp} {g : Addr} (h : Gf K H g) (e : Ex H H') : Gf K H' g := by
  obtain ⟨dx, sv, ld, sd, ol, pl, skv, os, ps, h1, h2, h3, h4, h5, h6, h7, h8, h9, h10⟩ := h
  exact ⟨dx, sv, ld, sd, ol, pl, skv, os, ps, e.at h1, h2.e e, e.at h3, e.at h4, h5.ex e, e.at h6, h7, h8, e.at h9, h10⟩
def oiV : Option Int → V
  | none => .non
  | some i => .int i
def oiD : Option Int → PyData
  | none => .none
  | some i => .int i
theorem TD.oi_ {A : Addr → Prop} {H : Hp} {v : V} {o : Option Int} (h : TD A H v (oiD o)) : v = oiV o := by
  cases o with
  | none => cases h; rfl
  | some i => cases h; rfl
theorem TD.oi {A : Addr → Prop} {H : Hp} (o : Option Int) : TD A H (oiV o) (oiD o) := by
  cases o with
  | none => exact .non
  | some i => exact .int i
theorem oi_nl (o : Option Int) : noLs (oiD o) = true := by cases o <;> rfl
theorem pr_nl (o : Str × Str) : noLs (prD o) = true := rfl
theorem TD.pr_ {A : Addr → Prop} {H : Hp} {v : V} {p : Str × Str} (h : TD A H v (prD p)) : ∃ t, v = .ref t ∧ H t = some (.tup [.str p.1, .str p.2]) := TD.ts2_ (a := p.1) (b := p.2) h
theorem TD.pr {A : Addr → Prop} {H : Hp} {t : Addr} {a b : Str} (h : H t = some (.tup [.str a, .str b])) : TD A H (.ref t) (prD (a, b)) := .tup h (.cons (.str _) (.cons (.str _) .nil))
theorem valV_mem {kvs : List (List Key × V)} {k : List Key} {v : V} (h : valV kvs k = some v) : ∃ p ∈ kvs, p.2 = v := by
  unfold valV at h
  obtain ⟨q, hq, e⟩ := Option.map_eq_some_iff.mp h
  exact ⟨q, List.mem_of_find?_eq_some hq, e⟩
theorem ints_val {kvs : List (List Key × V)} {k : List Key} {v : V} (i : intsB kvs) (h : valV kvs k = some v) : ∃ n, v = .int n := by
  obtain ⟨p, hp, rfl⟩ := valV_mem h
  exact i p hp
/-- a comprehension over told items whose elements are counts, or none -/
theorem lcX {J : It} {G : Hp → Prop} {g : TG} {tt : TT} {te : TE} {us : List Nat} {σ : L2.St} {H1 : Hp} {D : Addr} {Qd : Hp → Prop} {A0 : Addr → Prop} {α : Type} {enc : α → PyData} {xs : List α} {vs : List V}
    (w : Walk J vs.length G (YAt vs)) (ht : TDs A0 H1 vs (xs.map enc)) (hn : vs.length ≤ sizeLine) (hD : H1 D = none) (hG : ∀ H', Ex H1 H' → G H')
    (hs : ∀ (i : Nat) (x : α) v H (P : V → Hp → Prop) (P0 : Hp → Prop), xs[i]? = some x → TD A0 H v (enc x) → Ex H1 H → (∀ y H4 (o : Option Int), Ex H H4 → y = oiV o → P y H4) → (∀ H3, Ex H H3 → P0 H3) →
      g v (wipe σ us) H fun σ2 H2 => wipe σ2 us = wipe σ us ∧ tt σ2 H2 fun b H3 => if b = true then te σ2 H3 P else P0 H3)
    (hd : ∀ H' ys (os : List (Option Int)), Ex H1 H' → H' D = some (.lst ys) → TDs NoL H' ys (os.map oiD) → os.length ≤ xs.length → Qd H') :
    ∃ W : Nat → Nat → Hp → Prop, (∃ m, W 0 m (upd H1 D (.lst []))) ∧ ∀ i m H, W i m H →
      (J.stop i H ∧ Qd H) ∨ (J.go i H ∧ ∃ Nx : Hp → Prop, (∀ H', Nx H' → ∃ m', m' < m ∧ W (i + 1) m' H') ∧ ∀ x H', J.yld i H x H' → g x (wipe σ us) H' fun σ2 H2 => wipe σ2 us = wipe σ us ∧ tt σ2 H2 fun b H3 =>
        if b = true then te σ2 H3 fun y H4 => ∃ acc, H4 D = some (.lst acc) ∧ acc.length < sizeLine ∧ Nx (upd H4 D (.lst (acc ++ [y]))) else Nx H3) := by
  have hl : vs.length = xs.length := by rw [ht.len, List.length_map]
  refine lc_it w (fun i H => Ex H1 H ∧ ∃ ys, ∃ os : List (Option Int), H D = some (.lst ys) ∧ TDs NoL H ys (os.map oiD) ∧ os.length ≤ i) ?_ ?_ ?_ ?_
  · exact ⟨Ex.new hD, [], [], upd_same, .nil, Nat.le_refl _⟩
  · exact fun i H _ p => hG H p.1
  · rintro i v H H' hi ⟨e, ys, os, hx, hy, ho⟩ ⟨rfl, hv⟩
    obtain ⟨x, hxi, tx⟩ := ht.atM hv
    refine hs i x v H' _ _ hxi (tx.e e) e (fun y H4 o e4 hyo => ?_) (fun H3 e3 => ?_)
    · subst hyo
      have h4 : H4 D = some (.lst ys) := e4.at hx
      have c4 : Ch [D] H4 (upd H4 D (.lst (ys ++ [oiV o]))) := Ch.put h4
      refine ⟨ys, h4, ?_, exD (e.trans e4) hD c4, ys ++ [oiV o], os ++ [o], upd_same, ?_, ?_⟩
      · rw [hy.len, List.length_map]
        omega
      · rw [List.map_append]
        exact ((hy.e e4).p c4).app (.one (.oi o))
      · rw [List.length_append]
        exact Nat.succ_le_succ ho
    · exact ⟨e.trans e3, ys, os, e3.at hx, hy.e e3, Nat.le_succ_of_le ho⟩
  · rintro H ⟨e, ys, os, hx, hy, ho⟩
    exact hd H ys os e hx hy (by omega)
section
variable {P : Program} {w : World} {K : PySem.W.Frag} {mg : Str → Option Value} {base : Heap}
abbrev sp_subjects_of (K : PySem.W.Frag) : Sp := fun vs H Q _ => ∃ (g : Addr) (t n : Str), vs = [.ref g, .str t, .str n] ∧ Gf K H g ∧ ∀ (a : Addr) (ws : List V) (ps : List (Str × Str)) H', Ex H H' → H' a = some (.lst ws) → TDs NoL H' ws (ps.map prD) → (∀ p ∈ ps, p ∈ SU) → ps.length ≤ 30 → Q (.ref a) H'
abbrev N_Graph_subjects_of : List Str := ["self", "target", "relation"]
theorem sc_Graph_subjects_of : FnScope N_Graph_subjects_of ["self", "target", "relation"] (defScope s_Graph_subjects_of) := ⟨rfl, rfl, rfl, by decide +kernel, rfl, by decide +kernel, by decide +kernel⟩
theorem ok_Graph_subjects_of (T : Tx w K mg base) : FnOk P w K mg base CX0 1 (a_Graph_subjects_of K) (fd_Graph_subjects_of K) ["self", "target", "relation"] (sp_subjects_of K) := by
  refine T.f_Graph_subjects_of.ok sc_Graph_subjects_of (fun vs H Q E h => ?_) (fun cdv A outer s H vs Q E hr h => ?_)
  · obtain ⟨g, t, n, rfl, _⟩ := h
    rfl
  obtain ⟨g, t, n, rfl, hG, kk⟩ := h
  refine ⟨_, PSs.nox (pss_one (ps_ret (pe_dget2 (hu_of hr) (pe_fld (pv 0) rfl) (pe_tup (pa_cons (pv 1) (pa_cons (pv 2) pa_nil))) (pe_lst pa_nil) ⟨rfl, rfl, rfl, rfl⟩))), ?_⟩
  obtain ⟨dx, sv, ld, sd, ol, pl, skv, os, ps, h1, h2, h3, h4, h5, h6, h7, h8, h9, h10⟩ := hG
  wtm_at "go"
  refine ⟨.inr ⟨_, .inl h4⟩, ?_⟩
  wtm_at "go"
  rename_i q1 hq1 H1 e1 g1 q2 hq2 H2 e2 g2
  have E := e1.trans e2
  refine ⟨_, DGet.t (k := pk t n) (E.at h4) (e2.at g1), ?_⟩
  cases hv : valV skv (pk t n) with
  | none => exact kk _ [] [] _ E g2 .nil (fun p z => nomatch z) (by decide)
  | some v =>
    obtain ⟨a, ws, ps, rfl, z1, z2, z3, z4⟩ := h5 _ _ hv
    exact kk a ws ps _ E (E.at z1) (z2.e E) z3 z4
abbrev sp_stratum_of (K : PySem.W.Frag) : Sp := fun vs H Q _ => ∃ (g : Addr) (t n : Str), vs = [.ref g, .str t, .str n] ∧ Gf K H g ∧ t.length ≤ 20 ∧ ∀ (i : Int) H', Ex H H' → Q (.int i) H'
abbrev N_Graph_stratum_of : List Str := ["self", "target", "name"]
theorem sc_Graph_stratum_of : FnScope N_Graph_stratum_of ["self", "target", "name"] (defScope s_Graph_stratum_of) := ⟨rfl, rfl, rfl, by decide +kernel, rfl, by decide +kernel, by decide +kernel⟩
theorem ok_Graph_stratum_of (T : Tx w K mg base) : FnOk P w K mg base CX0 2 (a_Graph_stratum_of K) (fd_Graph_stratum_of K) ["self", "target", "name"] (sp_stratum_of K) := by
  refine T.f_Graph_stratum_of.ok sc_Graph_stratum_of (fun vs H Q E h => ?_) (fun cdv A outer s H vs Q E hr h => ?_)
  · obtain ⟨g, t, n, rfl, _⟩ := h
    rfl
  obtain ⟨g, t, n, rfl, hG, ht, kk⟩ := h
  refine ⟨_, PSs.nox (pss_one (ps_ret (pe_dget2 (hu_of hr) (pe_fld (pv 0) rfl) (pe_tup (pa_cons (pe_call (ok_type_of T) (hr.mono (by decide)) rfl T.g_type_of T.f_type_of.kp T.b_type_of .nil pass0 (pa_cons (pv 1) pa_nil)) (pa_cons (pv 2) pa_nil))) (pe_un un_neg pe_int) ⟨rfl, rfl, rfl, rfl⟩))), ?_⟩
  obtain ⟨dx, sv, ld, sd, ol, pl, skv, os, ps, h1, h2, h3, h4, h5, h6, h7, h8, h9, h10⟩ := hG
  wtm_at "go"
  refine ⟨.inr ⟨_, .inl h3⟩, ?_⟩
  wtm_at "go"
  refine ⟨sl_big (by omega), fun H1 e1 => ?_⟩
  wtm_at "go"
  rename_i q1 hq1 H2 e2 g2
  have E := e1.trans e2
  refine ⟨_, DGet.t (k := pk (typeOf t) n) (E.at h3) g2, ?_⟩
  cases hv : valV lvS (pk (typeOf t) n) with
  | none => exact kk _ _ E
  | some v =>
    obtain ⟨i, rfl⟩ := ints_val (lvd_ints KE 1) hv
    exact kk i _ E
abbrev sp_pairs_of (K : PySem.W.Frag) : Sp := fun vs H Q _ => ∃ (g : Addr) (t c1 c3 : Str) (v2 : V), vs = [.ref g, .str t, v2] ∧ TD NoL H v2 (tsD [c1, "", c3]) ∧ ∀ (a : Addr) (ws : List V) H', Ex H H' → H a = none → H' a = some (.lst ws) → TDs NoL H' ws ([(t, c3)].map prD) → Q (.ref a) H'
abbrev N_Graph_pairs_of : List Str := ["self", "target", "part", "operator", "relation", "name", "found", "other", "other_name"]
theorem sc_Graph_pairs_of : FnScope N_Graph_pairs_of ["self", "target", "part"] (defScope s_Graph_pairs_of) := ⟨rfl, rfl, rfl, by decide +kernel, rfl, by decide +kernel, by decide +kernel⟩
theorem ok_Graph_pairs_of (T : Tx w K mg base) : FnOk P w K mg base CX0 3 (a_Graph_pairs_of K) (fd_Graph_pairs_of K) ["self", "target", "part"] (sp_pairs_of K) := by
  refine T.f_Graph_pairs_of.ok sc_Graph_pairs_of (fun vs H Q E h => ?_) (fun cdv A outer s H vs Q E hr h => ?_)
  · obtain ⟨g, t, c1, c3, v2, rfl, _⟩ := h
    rfl
  obtain ⟨g, t, c1, c3, v2, rfl, tv, kk⟩ := h
  refine ⟨_, PSs.nox (pss_cons (ps_asg (pv 2) (pg_tup (n := 3) rfl (pgs_cons (pg_name (i := 3) sc_Graph_pairs_of.nd rfl (Or.inl rfl)) (pgs_cons (pg_name (i := 4) sc_Graph_pairs_of.nd rfl (Or.inl rfl)) (pgs_cons (pg_name (i := 5) sc_Graph_pairs_of.nd rfl (Or.inl rfl)) pgs_nil))))) (pss_cons (ps_if (pt_cmpR (op_eq) (pv 4) pe_str (nomark _)) (pss_one (ps_ret (pe_lst (pa_cons (pe_tup (pa_cons (pv 1) (pa_cons (pv 5) pa_nil))) pa_nil)))) pss_nil) (pss_cons (ps_set (i := 6) sc_Graph_pairs_of.nd rfl (Or.inl rfl) (pe_lst pa_nil)) (pss_cons (ps_for PassesOwn.never rfl (pi_list (pe_meth (pv 0) T.c_Graph T.m_Graph_subjects_of (ok_Graph_subjects_of T) (hr.mono (by decide)) T.b_Graph_subjects_of .nil pass0 (pa_cons (pv 1) (pa_cons (pv 4) pa_nil)))) (pg_tup (n := 2) rfl (pgs_cons (pg_name (i := 7) sc_Graph_pairs_of.nd rfl (Or.inl rfl)) (pgs_cons (pg_name (i := 8) sc_Graph_pairs_of.nd rfl (Or.inl rfl)) pgs_nil))) (pss_one (ps_if (PW.pt (pw_and (pt_cmpR (op_eq) (pv 8) pe_str (nomark _)) (pw_and1 (pt_cmpR (op_ge) (pe_meth (pv 0) T.c_Graph T.m_Graph_stratum_of (ok_Graph_stratum_of T) (hr.mono (by decide)) T.b_Graph_stratum_of .nil pass0 (pa_cons (pv 7) (pa_cons (pv 5) pa_nil))) pe_int (nomark _))))) (pss_one (ps_expr (pe_bm PySem.F.plainAttrs_list PySem.F.slot_list_append PySem.F.type_list_append mt_append (pv 6) (pa_cons (pe_tup (pa_cons (pv 7) (pa_cons (pv 5) pa_nil))) pa_nil)))) pss_nil))) (pss_one (ps_ret (pv 6))))))), ?_⟩
  obtain ⟨b, rfl, hb⟩ := tv.ts3_
  wtm_at "gob"
  rename_i q1 hq1 H1 e1 g1 q2 hq2 H2 e2 g2
  exact kk _ _ _ (e1.trans e2) (e1.free hq2) g2 (.one (TD.pr (e2.at g1)))
abbrev sp_depends_on (K : PySem.W.Frag) : Sp := fun vs H Q _ => ∃ (g : Addr) (t n : Str), vs = [.ref g, .str t, .str n] ∧ Gf K H g ∧ (t, n) ∈ PU ∧ ¬ n = "v" ∧ ∀ (a : Addr) (ws : List V) (ps : List (Str × Str)) H', Ex H H' → H' a = some (.lst ws) → TDs NoL H' ws (ps.map prD) → (∀ p ∈ ps, p ∈ SU) → ps.length ≤ 30 → Q (.ref a) H'
abbrev N_Graph_depends_on : List Str := ["self", "target", "name", "found", "pairs", "part", "pair"]
theorem sc_Graph_depends_on : FnScope N_Graph_depends_on ["self", "target", "name"] (defScope s_Graph_depends_on) := ⟨rfl, rfl, rfl, by decide +kernel, rfl, by decide +kernel, by decide +kernel⟩
theorem ok_Graph_depends_on (T : Tx w K mg base) : FnOk P w K mg base CX0 4 (a_Graph_depends_on K) (fd_Graph_depends_on K) ["self", "target", "name"] (sp_depends_on K) := by
  refine T.f_Graph_depends_on.ok sc_Graph_depends_on (fun vs H Q E h => ?_) (fun cdv A outer s H vs Q E hr h => ?_)
  · obtain ⟨g, t, n, rfl, _⟩ := h
    rfl
  obtain ⟨g, t, n, rfl, hG, hp, hv, kk⟩ := h
  refine ⟨_, PSs.nox (pss_cons (ps_set (i := 3) sc_Graph_depends_on.nd rfl (Or.inl rfl) (pe_call (ok_definition T) (hr.mono (by decide)) rfl T.g_definition T.f_definition.kp T.b_definition .nil pass0 (pa_cons (pe_fld (pv 0) rfl) (pa_cons (pe_call (ok_type_of T) (hr.mono (by decide)) rfl T.g_type_of T.f_type_of.kp T.b_type_of .nil pass0 (pa_cons (pv 1) pa_nil)) (pa_cons (pv 2) pa_nil))))) (pss_cons (ps_if (pt_cmpR (op_isN1) (pv 3) pe_non (nomark _)) (pss_one (ps_ret (pe_lst pa_nil))) pss_nil) (pss_cons (ps_if (pt_cmpR (op_eq) (pe_ix ix_tup (pv 3) pe_int (fun _ _ => rfl)) pe_str (nomark _)) (pss_one (ps_ret (pe_lc (own := [("pair", 6)]) rfl sc_Graph_depends_on.nd (pi_list (pe_meth (pv 0) T.c_Graph T.m_Graph_subjects_of (ok_Graph_subjects_of T) (hr.mono (by decide)) T.b_Graph_subjects_of .nil pass0 (pa_cons (pv 1) (pa_cons (pv 2) pa_nil)))) (blkOk_by (own := [("pair", 6)]) (N := N_Graph_depends_on) (sc := defScope s_Graph_depends_on) (by decide +kernel)) (fun _ _ _ _ _ => (pg_name (i := 6) sc_Graph_depends_on.nd rfl (Or.inl rfl))) (fun _ _ _ _ _ => pts_one (pt_cmpR (op_ne) (pe_ix (ix_tupK (K := K) rfl) (pv 6) pe_int (fun _ _ => rfl)) pe_str (nomark _))) (fun _ _ _ _ _ => (pv 6))))) pss_nil) (pss_cons (ps_set (i := 4) sc_Graph_depends_on.nd rfl (Or.inl rfl) (pe_lst pa_nil)) (pss_cons (ps_for PassesOwn.never rfl (pi_tup (pe_ix ix_tup (pv 3) pe_int (fun _ _ => rfl))) (pg_name (i := 5) sc_Graph_depends_on.nd rfl (Or.inl rfl)) (pss_one (ps_expr (pe_bm PySem.F.plainAttrs_list PySem.F.slot_list_extend PySem.F.type_list_extend mt_extend (pv 4) (pa_cons (pe_meth (pv 0) T.c_Graph T.m_Graph_pairs_of (ok_Graph_pairs_of T) (hr.mono (by decide)) T.b_Graph_pairs_of .nil pass0 (pa_cons (pv 1) (pa_cons (pv 5) pa_nil))) pa_nil))))) (pss_one (ps_ret (pv 4)))))))), ?_⟩
  have hG0 := hG
  obtain ⟨dx, sv, ld, sd, ol, pl, skv, os, ps, h1, h2, h3, h4, h5, h6, h7, h8, h9, h10⟩ := hG
  have hl := pu_len hp
  have hl : t.length ≤ 20 := hl
  obtain ⟨e, he, her⟩ := pu_r hp hv
  wtm_at "go"
  refine ⟨sl_big (by omega), fun H1 e1 => ?_⟩
  wtm_at "go"
  refine ⟨sv, scL, typeOf t, n, rfl, h2.e e1, fun v H2 e2 tv => ?_⟩
  have he : entOf scL (typeOf t) n = some e := he
  rw [he] at tv
  obtain ⟨b, vs, rfl, hb, tvs⟩ := TD.tup_ tv
  obtain ⟨v1, w1, rfl, t1, tv1⟩ := tvs.cons_
  obtain ⟨v2, w2, rfl, t2, tv2⟩ := tv1.cons_
  obtain rfl := tv2.nil_
  obtain rfl := t1.str_
  wtm_at "gob"
  refine blT (decide_eq_true her) ?_
  wtm_at "gob"
  refine gLc ?_
  have E := e1.trans e2
  have hG2 := hG0.ex E
  wtm_at "goc"
  intro a ws ps H3 e3 z1 z2 z3 z4
  refine ⟨a, rfl, ⟨_, sqL_ z1⟩, fun D hD => ?_⟩
  have hwl := z2.len
  rw [List.length_map] at hwl
  refine lcA walk_list z2 (sl_big (by omega)) hD (fun H' e => sqL_ (e.at z1)) (fun p => !decide (p.2 = "")) prD (fun i p v H4 P P0 hx tv e4 k1 k0 => ?_) (fun H4 ys e4 hy ty => ?_)
  · obtain ⟨q, rfl, hq⟩ := tv.pr_
    wtm_at "go"
    refine ⟨rfl, ?_⟩
    wtm_at "go"
    refine ifb (fun h => ?_) (fun h => ?_)
    · wtm_at "go"
      exact k1 _ _ (Ch.refl _ _) (TD.pr hq) h
    · exact k0 _ (Ch.refl _ _) h
  · refine kk D ys _ H4 ((E.trans e3).trans e4) hy (TDs.nlM pr_nl ty) (fun p hp => z3 p (List.mem_filter.mp hp).1) (Nat.le_trans (List.length_filter_le _ _) z4)
abbrev sp_count_of (K : PySem.W.Frag) : Sp := fun vs H Q _ => ∃ (g rd : Addr) (t n : Str) (p : Str × Str) (v3 : V) (rkv : List (List Key × V)), vs = [.ref g, .str t, .str n, v3, .ref rd] ∧ Gf K H g ∧ t.length ≤ 20 ∧ TD NoL H v3 (prD p) ∧ p.1.length ≤ 20 ∧ H rd = some (.dT rkv) ∧ intsB rkv ∧
  ∀ (r : Option Int) H', Ex H H' → Q (oiV r) H'
abbrev N_count_of : List Str := ["graph", "target", "name", "pair", "ranks", "rank"]
theorem sc_count_of : FnScope N_count_of ["graph", "target", "name", "pair", "ranks"] (defScope s_count_of) := ⟨rfl, rfl, rfl, by decide +kernel, rfl, by decide +kernel, by decide +kernel⟩
theorem ok_count_of (T : Tx w K mg base) : FnOk P w K mg base CX0 3 (a_count_of K) (fd_count_of K) ["graph", "target", "name", "pair", "ranks"] (sp_count_of K) := by
  refine T.f_count_of.ok sc_count_of (fun vs H Q E h => ?_) (fun cdv A outer s H vs Q E hr h => ?_)
  · obtain ⟨g, rd, t, n, p, v3, rkv, rfl, _⟩ := h
    rfl
  obtain ⟨g, rd, t, n, p, v3, rkv, rfl, hG, ht, tp, hp, hr0, hi, kk⟩ := h
  refine ⟨_, PSs.nox (pss_cons (ps_set (i := 5) sc_count_of.nd rfl (Or.inl rfl) (pe_dget2 (hu_of hr) (pv 4) (pv 3) pe_int ⟨rfl, rfl, rfl, rfl⟩)) (pss_cons (ps_if (pt_cmpR (op_eq) (pv 5) pe_int (nomark _)) (pss_one (ps_ret pe_non)) pss_nil) (pss_one (ps_ret (pe_ifExp (pt_cmpR (op_eq) (pe_meth (pv 0) T.c_Graph T.m_Graph_stratum_of (ok_Graph_stratum_of T) (hr.mono (by decide)) T.b_Graph_stratum_of .nil pass0 (pa_cons (pe_ix ix_tup (pv 3) pe_int (fun _ _ => rfl)) (pa_cons (pe_ix ix_tup (pv 3) pe_int (fun _ _ => rfl)) pa_nil))) (pe_meth (pv 0) T.c_Graph T.m_Graph_stratum_of (ok_Graph_stratum_of T) (hr.mono (by decide)) T.b_Graph_stratum_of .nil pass0 (pa_cons (pv 1) (pa_cons (pv 2) pa_nil))) (nomark _)) (pv 5) pe_int))))), ?_⟩
  obtain ⟨b, rfl, hb⟩ := tp.pr_
  have hG0 := hG
  obtain ⟨dx, sv, ld, sd, ol, pl, skv, os, ps, h1, h2, h3, h4, h5, h6, h7, h8, h9, h10⟩ := hG
  wtm_at "go"
  refine ⟨.inr ⟨_, .inl hr0⟩, ?_⟩
  wtm_at "go"
  refine ⟨_, DGet.t (k := pk p.1 p.2) hr0 hb, ?_⟩
  have hval : ∃ i, (valV rkv (pk p.1 p.2)).getD (.int 0) = .int i := by
    cases hv : valV rkv (pk p.1 p.2) with
    | none => exact ⟨0, rfl⟩
    | some v => obtain ⟨i, rfl⟩ := ints_val hi hv; exact ⟨i, rfl⟩
  obtain ⟨i, hval⟩ := hval
  rw [hval]
  wtm_at "go"
  refine ifd (fun h => ?_) (fun h => ?_)
  · wtm_at "go"
    exact kk none _ (Ch.refl _ _)
  · wtm_at "go"
    intro i2 H1 e1
    have hG1 := hG0.ex e1
    wtm_at "go"
    intro i3 H2 e2
    wtm_at "go"
    refine ifd (fun h => ?_) (fun h => ?_)
    · wtm_at "go"
      exact kk (some i) _ (e1.trans e2)
    · wtm_at "go"
      exact kk (some 0) _ (e1.trans e2)
abbrev sp_least : Sp := fun vs H Q _ => ∃ (a : Addr) (ws : List V) (os : List (Option Int)), vs = [.ref a] ∧ H a = some (.lst ws) ∧ TDs NoL H ws (os.map oiD) ∧ os.length ≤ 1000 ∧ ∀ (r : Option Int) H', Ex H H' → Q (oiV r) H'
abbrev N_least : List Str := ["counts", "count"]
theorem sc_least : FnScope N_least ["counts"] (defScope s_least) := ⟨rfl, rfl, rfl, by decide +kernel, rfl, by decide +kernel, by decide +kernel⟩
theorem ok_least (T : Tx w K mg base) : FnOk P w K mg base CX0 1 (a_least K) (fd_least K) ["counts"] sp_least := by
  refine T.f_least.ok sc_least (fun vs H Q E h => ?_) (fun cdv A outer s H vs Q E hr h => ?_)
  · obtain ⟨a, ws, os, rfl, _⟩ := h
    rfl
  obtain ⟨a, ws, os, rfl, ha, tw, hl, kk⟩ := h
  refine ⟨_, PSs.nox (pss_one (ps_ret (pe_callBK (cr_mind rfl (hu_w hr)) (by rfl) T.n_min (by decide +kernel) (pa_cons (pe_lc (own := [("count", 1)]) rfl sc_least.nd (pi_list (pv 0)) (blkOk_by (own := [("count", 1)]) (N := N_least) (sc := defScope s_least) (by decide +kernel)) (fun _ _ _ _ _ => (pg_name (i := 1) sc_least.nd rfl (Or.inl rfl))) (fun _ _ _ _ _ => pts_one (pt_cmpR (op_notN1) (pv 1) pe_non (nomark _))) (fun _ _ _ _ _ => (pv 1))) pa_nil) (pk_cons pe_non pk_nil)))), ?_⟩
  have hwl := tw.len
  rw [List.length_map] at hwl
  wtm_at "go"
  refine gLc ?_
  wtm_at "goc"
  intro D hD
  refine lcA walk_list tw (sl_big (by omega)) hD (fun H' e => sqL_ (e.at ha)) (fun o => o.isSome) (fun o => PyData.int (o.getD 0)) (fun i o v H2 P P0 hx tv e2 k1 k0 => ?_) (fun H' ys e1 hy ty => ?_)
  · obtain rfl := tv.oi_
    wtm_at "go"
    refine ⟨rfl, ?_⟩
    wtm_at "go"
    cases o with
    | none =>
      dsimp only [oiV]
      wtm_at "gob"
      exact k0 _ (Ch.refl _ _) rfl
    | some i =>
      dsimp only [oiV]
      wtm_at "gob"
      exact k1 _ _ (Ch.refl _ _) (.int i) rfl
  · have ty2 : TDs (fun x => H x = none ∧ x ≠ D) H' ys (((os.filter fun o => o.isSome).map fun o => o.getD 0).map PyData.int) := by
      rw [List.map_map]
      exact ty
    obtain rfl := ty2.ints_
    wtm_at "go"
    refine gMind hy (fun h => ?_) (fun n ns h => ?_)
    · wtm_at "go"
      exact kk none _ e1
    · wtm_at "go"
      exact kk (some _) _ e1
end


section
variable {P : Program} {w : World} {K : PySem.W.Frag} {mg : Str → Option Value} {base : Heap}
abbrev sp_both : Sp := fun vs H Q _ => ∃ (op : Str) (x y : Option Int), vs = [.str op, oiV x, oiV y] ∧ (op = "|" ∨ op = "-") ∧ ∀ (r : Option Int) H', Ex H H' → Q (oiV r) H'
abbrev N_both : List Str := ["operator", "one", "other"]
theorem sc_both : FnScope N_both ["operator", "one", "other"] (defScope s_both) := ⟨rfl, rfl, rfl, by decide +kernel, rfl, by decide +kernel, by decide +kernel⟩
theorem ok_both (T : Tx w K mg base) : FnOk P w K mg base CX0 2 (a_both K) (fd_both K) ["operator", "one", "other"] sp_both := by
  refine T.f_both.ok sc_both (fun vs H Q E h => ?_) (fun cdv A outer s H vs Q E hr h => ?_)
  · obtain ⟨op, x, y, rfl, _⟩ := h
    rfl
  obtain ⟨op, x, y, rfl, ho, kk⟩ := h
  refine ⟨_, PSs.nox (pss_cons (ps_if (pt_cmpR (op_eq) (pv 0) pe_str (nomark _)) (pss_one (ps_ret (pe_call (ok_least T) (hr.mono (by decide)) rfl T.g_least T.f_least.kp T.b_least .nil pass0 (pa_cons (pe_lst (pa_cons (pv 1) (pa_cons (pv 2) pa_nil))) pa_nil)))) pss_nil) (pss_cons (ps_if (pt_cmpR (op_eq) (pv 0) pe_str (nomark _)) (pss_one (ps_ret (pe_ifExp (pt_cmpR (op_isN1) (pv 2) pe_non (nomark _)) (pv 1) pe_non))) pss_nil) (pss_one (ps_ret (pe_ifExp (PW.pt (pw_or (pt_cmpR (op_isN1) (pv 1) pe_non (nomark _)) (pw_or1 (pt_cmpR (op_isN1) (pv 2) pe_non (nomark _))))) pe_non (pe_callB (call_max2 rfl) (by rfl) T.n_max (by decide +kernel) (pa_cons (pv 1) (pa_cons (pv 2) pa_nil)))))))), ?_⟩
  wtm_at "go"
  rcases ho with rfl | rfl
  · wtm_at "gob"
    rename_i q hq H1 e1 h1
    refine ⟨q, _, [x, y], rfl, h1, .cons (.oi x) (.cons (.oi y) .nil), (by show 2 ≤ 1000; decide), fun r H2 e2 => ?_⟩
    exact kk r _ (e1.trans e2)
  · wtm_at "gob"
    cases y with
    | none =>
      dsimp only [oiV]
      wtm_at "gob"
      exact kk x _ (Ch.refl _ _)
    | some i =>
      dsimp only [oiV]
      wtm_at "gob"
      exact kk none _ (Ch.refl _ _)
theorem us_fine : (us3.all fun u => (prD (u, "")).canLay0) = true ∧ (SU.all fun p => (prD p).canLay0) = true := by decide +kernel
theorem pr_depth (p : Str × Str) : (prD p).depth ≤ 1 := by simp [prD, PyData.depth, PyData.depthAll]
theorem fine_us {u : Str} (h : u ∈ us3) : Fine 1 (prD (u, "")) := ⟨List.all_eq_true.mp us_fine.1 u h, pr_depth _⟩
theorem fine_su {p : Str × Str} (h : p ∈ SU) : Fine 1 (prD p) := ⟨List.all_eq_true.mp us_fine.2 p h, pr_depth _⟩
abbrev sp_rule_count (K : PySem.W.Frag) : Sp := fun vs H Q _ => ∃ (g rd : Addr) (t n u : Str) (rkv : List (List Key × V)), vs = [.ref g, .str t, .str n, .str u, .ref rd] ∧ Gf K H g ∧ (t, n) ∈ PU ∧ u ∈ us3 ∧ H rd = some (.dT rkv) ∧ intsB rkv ∧ ∀ (r : Option Int) H', Ex H H' → Q (oiV r) H'
abbrev N_rule_count : List Str := ["graph", "target", "name", "subject", "ranks", "found", "counts", "total", "part", "count", "pair"]
theorem sc_rule_count : FnScope N_rule_count ["graph", "target", "name", "subject", "ranks"] (defScope s_rule_count) := ⟨rfl, rfl, rfl, by decide +kernel, rfl, by decide +kernel, by decide +kernel⟩
theorem ok_rule_count (T : Tx w K mg base) : FnOk P w K mg base CX0 5 (a_rule_count K) (fd_rule_count K) ["graph", "target", "name", "subject", "ranks"] (sp_rule_count K) := by
  refine T.f_rule_count.ok sc_rule_count (fun vs H Q E h => ?_) (fun cdv A outer s H vs Q E hr h => ?_)
  · obtain ⟨g, rd, t, n, u, rkv, rfl, _⟩ := h
    rfl
  obtain ⟨g, rd, t, n, u, rkv, rfl, hG, hp, hu, hrd, hri, kk⟩ := h
  refine ⟨_, PSs.nox (pss_cons (ps_set (i := 5) sc_rule_count.nd rfl (Or.inl rfl) (pe_call (ok_definition T) (hr.mono (by decide)) rfl T.g_definition T.f_definition.kp T.b_definition .nil pass0 (pa_cons (pe_fld (pv 0) rfl) (pa_cons (pe_call (ok_type_of T) (hr.mono (by decide)) rfl T.g_type_of T.f_type_of.kp T.b_type_of .nil pass0 (pa_cons (pv 1) pa_nil)) (pa_cons (pv 2) pa_nil))))) (pss_cons (ps_if (pt_cmpR (op_isN1) (pv 5) pe_non (nomark _)) (pss_one (ps_ret pe_non)) pss_nil) (pss_cons (ps_if (pt_cmpR (op_eq) (pe_ix ix_tup (pv 5) pe_int (fun _ _ => rfl)) pe_str (nomark _)) (pss_cons (ps_setLc (i := 6) (own := [("pair", 10)]) rfl sc_rule_count.nd rfl rfl (sw_true rfl rfl rfl (by decide +kernel)) (pi_list (pe_meth (pv 0) T.c_Graph T.m_Graph_subjects_of (ok_Graph_subjects_of T) (hr.mono (by decide)) T.b_Graph_subjects_of .nil pass0 (pa_cons (pv 1) (pa_cons (pv 2) pa_nil)))) (blkOk_by (own := [("pair", 10)]) (N := N_rule_count) (sc := defScope s_rule_count) (by decide +kernel)) (fun _ _ _ _ _ => (pg_name (i := 10) sc_rule_count.nd rfl (Or.inl rfl))) (fun _ _ _ _ _ => pts_one (pt_cmpR (op_eqDK (K := K) rfl (Nat.lt_of_succ_lt (hu_w hr))) (pv 10) (pe_tup (pa_cons (pv 3) (pa_cons pe_str pa_nil))) (nomark _))) (fun _ _ _ _ _ => pe_int)) (pss_cons (ps_expr (pe_bm PySem.F.plainAttrs_list PySem.F.slot_list_extend PySem.F.type_list_extend mt_extend (pv 6) (pa_cons (pe_lc (own := [("pair", 10)]) rfl sc_rule_count.nd (pi_list (pe_meth (pv 0) T.c_Graph T.m_Graph_depends_on (ok_Graph_depends_on T) (hr.mono (by decide)) T.b_Graph_depends_on .nil pass0 (pa_cons (pv 1) (pa_cons (pv 2) pa_nil)))) (blkOk_by (own := [("pair", 10)]) (N := N_rule_count) (sc := defScope s_rule_count) (by decide +kernel)) (fun _ _ _ _ _ => (pg_name (i := 10) sc_rule_count.nd rfl (Or.inl rfl))) (fun _ _ _ _ _ => pts_nil) (fun _ _ _ _ _ => (pe_call (ok_count_of T) (hr.mono (by decide)) rfl T.g_count_of T.f_count_of.kp T.b_count_of .nil pass0 (pa_cons (pv 0) (pa_cons (pv 1) (pa_cons (pv 2) (pa_cons (pv 10) (pa_cons (pv 4) pa_nil)))))))) pa_nil))) (pss_one (ps_ret (pe_call (ok_least T) (hr.mono (by decide)) rfl T.g_least T.f_least.kp T.b_least .nil pass0 (pa_cons (pv 6) pa_nil)))))) pss_nil) (pss_cons (ps_set (i := 7) sc_rule_count.nd rfl (Or.inl rfl) pe_non) (pss_cons (ps_for PassesOwn.never rfl (pi_tup (pe_ix ix_tup (pv 5) pe_int (fun _ _ => rfl))) (pg_name (i := 8) sc_rule_count.nd rfl (Or.inl rfl)) (pss_cons (ps_set (i := 9) sc_rule_count.nd rfl (Or.inl rfl) (pe_call (ok_least T) (hr.mono (by decide)) rfl T.g_least T.f_least.kp T.b_least .nil pass0 (pa_cons (pe_lc (own := [("pair", 10)]) rfl sc_rule_count.nd (pi_list (pe_meth (pv 0) T.c_Graph T.m_Graph_pairs_of (ok_Graph_pairs_of T) (hr.mono (by decide)) T.b_Graph_pairs_of .nil pass0 (pa_cons (pv 1) (pa_cons (pv 8) pa_nil)))) (blkOk_by (own := [("pair", 10)]) (N := N_rule_count) (sc := defScope s_rule_count) (by decide +kernel)) (fun _ _ _ _ _ => (pg_name (i := 10) sc_rule_count.nd rfl (Or.inl rfl))) (fun _ _ _ _ _ => pts_nil) (fun _ _ _ _ _ => (pe_call (ok_count_of T) (hr.mono (by decide)) rfl T.g_count_of T.f_count_of.kp T.b_count_of .nil pass0 (pa_cons (pv 0) (pa_cons (pv 1) (pa_cons (pv 2) (pa_cons (pv 10) (pa_cons (pv 4) pa_nil)))))))) pa_nil))) (pss_one (ps_set (i := 7) sc_rule_count.nd rfl (Or.inl rfl) (pe_ifExp (pt_cmpR (op_eq) (pe_ix ix_tup (pv 8) pe_int (fun _ _ => rfl)) pe_str (nomark _)) (pv 9) (pe_call (ok_both T) (hr.mono (by decide)) rfl T.g_both T.f_both.kp T.b_both .nil pass0 (pa_cons (pe_ix ix_tup (pv 8) pe_int (fun _ _ => rfl)) (pa_cons (pv 7) (pa_cons (pv 9) pa_nil))))))))) (pss_one (ps_ret (pv 7)))))))), ?_⟩
  have hG0 := hG
  obtain ⟨dx, sv, ld, sd, ol, pl, skv, os, ps, h1, h2, h3, h4, h5, h6, h7, h8, h9, h10⟩ := hG
  have hl : t.length ≤ 20 := pu_len hp
  wtm_at "go"
  refine ⟨sl_big (by omega), fun H1 e1 => ?_⟩
  have hsv := h2.e e1
  wtm_at "go"
  refine ⟨sv, scL, typeOf t, n, rfl, hsv, fun v H2 e2 tv => ?_⟩
  have E2 := e1.trans e2
  by_cases hv : n = "v"
  · have he : entOf scL (typeOf t) n = some vEnt := pu_v hp hv
    rw [he] at tv
    obtain ⟨b, vs, rfl, hb, tvs⟩ := TD.tup_ tv
    obtain ⟨v1, w1, rfl, t1, tv1⟩ := tvs.cons_
    obtain ⟨v2, w2, rfl, t2, tv2⟩ := tv1.cons_
    obtain rfl := tv2.nil_
    obtain rfl := t1.str_
    obtain ⟨c, ws, rfl, hc, tw⟩ := TD.tup_ t2
    have hwl := tw.len
    wtm_at "gob"
    refine forA walk_tup tw (fun d σ H' => ∃ (x6 : Option V) (r : Option Int) (x8 x9 x10 : Option V), Ex H2 H' ∧ σ = [some (.ref g), some (.str t), some (.str n), some (.str u), some (.ref rd), some (.ref b), x6, some (oiV r), x8, x9, x10]) ?_ ?_ ?_ ?_
    · exact ⟨_, none, _, _, _, Ch.refl _ _, rfl⟩
    · rintro d σ H' ⟨x6, r, x8, x9, x10, e3, _⟩
      exact sqT_ (e3.at hc)
    · rintro d p rr v σ H3 ed tp ⟨x6, r, x8, x9, x10, e3, rfl⟩
      have hpm : p ∈ vEnt.2.2 := by rw [ed]; simp
      obtain ⟨c1, c3, rfl, hc1⟩ : ∃ c1 c3 : Str, p = [c1, "", c3] ∧ (c1 = "" ∨ c1 = "|" ∨ c1 = "-") := by
        simp only [vEnt, List.mem_cons, List.not_mem_nil, or_false] at hpm
        rcases hpm with rfl | rfl | rfl
        · exact ⟨_, _, rfl, .inl rfl⟩
        · exact ⟨_, _, rfl, .inr (.inl rfl)⟩
        · exact ⟨_, _, rfl, .inr (.inr rfl)⟩
      have tp3 := tp.e e3
      obtain ⟨q, rfl, hq⟩ := tp3.ts3_
      have E3 := E2.trans e3
      have hG3 := hG0.ex E3
      have hrd3 := E3.at hrd
      wtm_at "go"
      refine gLc ?_
      have hg3 := E3.at h1
      wtm_at "goc"
      refine ⟨g, t, c1, c3, .ref q, rfl, tp3, fun pa pws H4 e4 hpa0 hpa tpa => ?_⟩
      refine ⟨pa, rfl, ⟨_, sqL_ hpa⟩, fun D hD => ?_⟩
      have hpl := tpa.len
      have hpl1 : pws.length = 1 := hpl
      refine lcX walk_list tpa (sl_big (by omega)) hD (fun H' e => sqL_ (e.at hpa)) (fun i p v H5 Pp P0 hx tv e5 k1 k0 => ?_) (fun H5 ys os e5 hy ty hol => ?_)
      · have hpp : p = (t, c3) := by
          have := List.mem_of_getElem? hx
          simpa using this
        subst hpp
        have hG5 := hG0.ex ((E3.trans e4).trans e5)
        have hrd5 := e5.at (e4.at hrd3)
        wtm_at "go"
        refine ⟨rfl, ?_⟩
        wtm_at "go"
        refine ⟨g, rd, t, n, (t, c3), v, rkv, rfl, hG5, hl, tv, hl, hrd5, hri, fun r H6 e6 => ?_⟩
        exact k1 _ _ r e6 rfl
      · have hol : os.length ≤ 1 := hol
        have E5 := e4.trans e5
        wtm_at "go"
        refine ⟨D, ys, os, rfl, hy, ty, by omega, fun r2 H6 e6 => ?_⟩
        wtm_at "go"
        have hq6 := e6.at (E5.at hq)
        wtm_at "go"
        rcases hc1 with rfl | rfl | rfl
        · wtm_at "gob"
          exact ⟨_, _, _, _, _, e3.trans (E5.trans e6), rfl⟩
        · wtm_at "gob"
          intro r3 H7 e7
          wtm_at "gob"
          exact ⟨_, _, _, _, _, (e3.trans (E5.trans e6)).trans e7, rfl⟩
        · wtm_at "gob"
          intro r3 H7 e7
          wtm_at "gob"
          exact ⟨_, _, _, _, _, (e3.trans (E5.trans e6)).trans e7, rfl⟩
    · rintro σ H3 ⟨x6, r, x8, x9, x10, e3, rfl⟩
      wtm_at "go"
      exact kk r _ (E2.trans e3)
  · obtain ⟨e, he, her⟩ := pu_r hp hv
    have he : entOf scL (typeOf t) n = some e := he
    rw [he] at tv
    obtain ⟨b, vs, rfl, hb, tvs⟩ := TD.tup_ tv
    obtain ⟨v1, w1, rfl, t1, tv1⟩ := tvs.cons_
    obtain ⟨v2, w2, rfl, t2, tv2⟩ := tv1.cons_
    obtain rfl := tv2.nil_
    obtain rfl := t1.str_
    wtm_at "gob"
    refine blT (decide_eq_true her) ?_
    have hG2 := hG0.ex E2
    wtm_at "gob"
    refine gLc ?_
    wtm_at "goc"
    intro a ws ps H3 e3 z1 z2 z3 z4
    have hzl := z2.len
    rw [List.length_map] at hzl
    refine ⟨a, rfl, ⟨_, sqL_ z1⟩, fun D hD => ?_⟩
    refine lcA walk_list z2 (sl_big (by omega)) hD (fun H' e => sqL_ (e.at z1)) (fun p => PyData.eqv (prD p) (prD (u, ""))) (fun p => PyData.int 0) (fun i p v H4 P P0 hx tv e4 k1 k0 => ?_) (fun H4 ys e4 hy ty => ?_)
    · have hps := z3 p (List.mem_of_getElem? hx)
      wtm_at "go"
      refine ⟨rfl, ?_⟩
      wtm_at "go"
      rename_i q hq H5 e5 h5
      refine ⟨prD p, prD (u, ""), (tv.e e5).dp, (TD.pr (A := NoL) h5).dp, (fine_su hps).shaped (by decide), (fine_us hu).shaped (by decide), ?_⟩
      wtm_at "go"
      refine ifb (fun h => ?_) (fun h => ?_)
      · wtm_at "go"
        exact k1 _ _ e5 (.int 0) h
      · exact k0 _ e5 h
    · have E4 := (E2.trans e3).trans e4
      have hG4 := hG0.ex E4
      have tl := ty.len
      rw [List.length_map] at tl
      have tl2 : ys.length ≤ 30 := by
        rw [tl]
        exact Nat.le_trans (List.length_filter_le _ _) z4
      have hrd4 := E4.at hrd
      wtm_at "go"
      refine gLc ?_
      wtm_at "goc"
      intro a2 ws2 ps2 H5 e5 y1 y2 y3 y4
      have hyl := y2.len
      rw [List.length_map] at hyl
      refine ⟨a2, rfl, ⟨_, sqL_ y1⟩, fun D2 hD2 => ?_⟩
      refine lcX walk_list y2 (sl_big (by omega)) hD2 (fun H' e => sqL_ (e.at y1)) (fun i p v H6 P P0 hx tv e6 k1 k0 => ?_) (fun H6 ys2 os e6 hy2 ty2 hol => ?_)
      · have hG6 := hG4.ex (e5.trans e6)
        have hrd6 := e6.at (e5.at hrd4)
        wtm_at "go"
        refine ⟨rfl, ?_⟩
        wtm_at "go"
        refine ⟨g, rd, t, n, p, v, rkv, rfl, hG6, hl, tv, su_len (y3 p (List.mem_of_getElem? hx)), hrd6, hri, fun r H7 e7 => ?_⟩
        exact k1 _ _ r e7 rfl
      · have E6 := e5.trans e6
        have tl6 := ty2.len
        rw [List.length_map] at tl6
        wtm_at "go"
        refine gExt (E6.at hy) hy2 (Nat.le_trans (by omega : _ ≤ 100) (by decide)) fun H7 e7 h7 => ?_
        have tall : TDs NoL H7 (ys ++ ys2) (((((ps.filter fun p => PyData.eqv (prD p) (prD (u, ""))).map fun _ => (some 0 : Option Int)) ++ os)).map oiD) := by
          rw [List.map_append, List.map_map]
          have t1 : TDs NoL H7 ys ((ps.filter fun p => PyData.eqv (prD p) (prD (u, ""))).map fun p => PyData.int 0) := ((TDs.nlM (fun p => rfl) ty).e E6).p e7
          exact t1.app (ty2.p e7)
        wtm_at "go"
        refine ⟨D, _, _, rfl, h7, tall, ?_, fun r H8 e8 => ?_⟩
        · have := List.length_filter_le (fun p => PyData.eqv (prD p) (prD (u, ""))) ps
          rw [List.length_append, List.length_map]
          omega
        · exact kk r _ ((exD (E4.trans E6) ((E2.trans e3).free hD) e7).trans e8)
end


/-! ### dicts, by keys -/
section
variable {κ : Type} [DecidableEq κ]
theorem putK_old {kvs : List (κ × V)} {k : κ} {v u : V} (h : valV kvs k = some u) : putK kvs k v = kvs.map (fun kv => if kv.1 = k then (kv.1, v) else kv) := by
  unfold putK
  rw [valV_any, h]
  exact if_pos rfl
theorem keys_put (kvs : List (κ × V)) (k : κ) (v : V) : (putK kvs k v).map (·.1) = if (valV kvs k).isSome then kvs.map (·.1) else kvs.map (·.1) ++ [k] := by
  cases h : valV kvs k with
  | none => rw [putK_new v h, List.map_append]; rfl
  | some u =>
    rw [putK_old h, List.map_map]
    refine List.map_congr_left fun p _ => ?_
    show (if p.1 = k then (p.1, v) else p).1 = p.1
    split <;> rfl
theorem len_old {kvs : List (κ × V)} {k : κ} {v u : V} (h : valV kvs k = some u) : (putK kvs k v).length = kvs.length := by rw [putK_old h, List.length_map]
theorem put_mem {kvs : List (κ × V)} {k : κ} {v : V} {p : κ × V} (h : p ∈ putK kvs k v) : p.2 = v ∨ p ∈ kvs := by
  cases e : valV kvs k with
  | none =>
    rw [putK_new v e] at h
    rcases List.mem_append.mp h with h | h
    · exact .inr h
    · cases List.mem_singleton.mp h
      exact .inl rfl
  | some u =>
    rw [putK_old e] at h
    obtain ⟨q, hq, rfl⟩ := List.mem_map.mp h
    by_cases c : q.1 = k
    · exact .inl (by rw [if_pos c])
    · exact .inr (by rw [if_neg c]; exact hq)
theorem put_key {kvs : List (κ × V)} {k : κ} {v : V} {p : κ × V} (h : p ∈ putK kvs k v) : p.1 = k ∨ p.1 ∈ kvs.map (·.1) := by
  have h : p.1 ∈ (putK kvs k v).map (·.1) := List.mem_map.mpr ⟨p, h, rfl⟩
  rw [keys_put] at h
  split at h
  · exact .inr h
  · rcases List.mem_append.mp h with h | h
    · exact .inr h
    · exact .inl (List.mem_singleton.mp h)
end
/-- pairs that are not there yet -/
def cnt (rkv : List (List Key × V)) : Nat := (PU.filter fun p => (valV rkv (pk p.1 p.2)).isNone).length
theorem pu_count : PU.length = 9 := rfl
theorem filter_sub {α : Type} {p q : α → Bool} (h : ∀ x, q x = true → p x = true) (l : List α) : l.filter q = (l.filter p).filter q := by
  rw [List.filter_filter]
  congr 1
  funext x
  cases e : q x with
  | false => rfl
  | true => rw [h x e]; rfl
theorem none_put {rkv : List (List Key × V)} {k j : List Key} {v : V} (h : (valV (putK rkv k v) j).isNone = true) : (valV rkv j).isNone = true := by
  rw [valV_put] at h
  split at h
  · cases h
  · exact h
theorem cnt_le (rkv : List (List Key × V)) (k : List Key) (v : V) : cnt (putK rkv k v) ≤ cnt rkv := by
  unfold cnt
  rw [filter_sub (p := fun p : Str × Str => (valV rkv (pk p.1 p.2)).isNone) (q := fun p : Str × Str => (valV (putK rkv k v) (pk p.1 p.2)).isNone) (fun x h => none_put h)]
  exact List.length_filter_le _ _
theorem cnt_lt {rkv : List (List Key × V)} {p : Str × Str} (v : V) (hp : p ∈ PU) (h : valV rkv (pk p.1 p.2) = none) : cnt (putK rkv (pk p.1 p.2) v) < cnt rkv := by
  unfold cnt
  rw [filter_sub (p := fun p : Str × Str => (valV rkv (pk p.1 p.2)).isNone) (q := fun q : Str × Str => (valV (putK rkv (pk p.1 p.2) v) (pk q.1 q.2)).isNone) (fun x h => none_put h)]
  refine List.length_filter_lt_length_iff_exists.mpr ⟨p, List.mem_filter.mpr ⟨hp, by rw [h]; rfl⟩, ?_⟩
  rw [valV_put, if_pos rfl]
  exact fun z => nomatch z
def RkOk (rkv : List (List Key × V)) : Prop := intsB rkv ∧ (∀ q ∈ rkv, ∃ p ∈ PU, q.1 = pk p.1 p.2) ∧ rkv.length + cnt rkv ≤ 9
theorem RkOk.nil : RkOk [] := ⟨fun p h => (nomatch h), fun p h => (nomatch h), by decide +kernel⟩
theorem RkOk.put {rkv : List (List Key × V)} {p : Str × Str} (h : RkOk rkv) (hp : p ∈ PU) (i : Int) : RkOk (putK rkv (pk p.1 p.2) (.int i)) := by
  obtain ⟨h1, h2, h3⟩ := h
  refine ⟨fun q hq => ?_, fun q hq => ?_, ?_⟩
  · rcases put_mem hq with e | hq
    · exact ⟨i, e⟩
    · exact h1 q hq
  · rcases put_key hq with e | hq
    · exact ⟨p, hp, e⟩
    · obtain ⟨r, hr, e⟩ := List.mem_map.mp hq
      obtain ⟨p', hp', e'⟩ := h2 r hr
      exact ⟨p', hp', e.symm.trans e'⟩
  · cases e : valV rkv (pk p.1 p.2) with
    | none =>
      have a := cnt_lt (.int i) hp e
      have b := length_putK rkv (pk p.1 p.2) (.int i)
      omega
    | some u =>
      have a := cnt_le rkv (pk p.1 p.2) (.int i)
      have b := len_old (v := .int i) e
      omega
/-- a list of pairs of the universe -/
def PL (H : Hp) (l : Addr) (n : Nat) : Prop := ∃ (ws : List V) (ps : List (Str × Str)), H l = some (.lst ws) ∧ TDs NoL H ws (ps.map prD) ∧ (∀ p ∈ ps, p ∈ PU) ∧ ps.length ≤ n
theorem PL.ch {S : List Addr} {H H' : Hp} {l : Addr} {n : Nat} (h : PL H l n) (e : Ch S H H') (hl : l ∉ S) : PL H' l n := by
  obtain ⟨ws, ps, h1, h2, h3, h4⟩ := h
  exact ⟨ws, ps, e.to h1 hl, h2.p e, h3, h4⟩
theorem PL.mono {H : Hp} {l : Addr} {n m : Nat} (h : PL H l n) (hm : n ≤ m) : PL H l m := by
  obtain ⟨ws, ps, h1, h2, h3, h4⟩ := h
  exact ⟨ws, ps, h1, h2, h3, Nat.le_trans h4 hm⟩
theorem ke_pu : (obU.all fun o => KE.all fun x => !decide (x.1 = typeOf o) || decide ((o, x.2.1) ∈ PU)) = true := by decide +kernel
theorem ke_pu_ {o : Str} {x : Str × Ent} (ho : o ∈ obU) (hx : x ∈ KE) (h : x.1 = typeOf o) : (o, x.2.1) ∈ PU := by
  have z := List.all_eq_true.mp (List.all_eq_true.mp ke_pu o ho) x hx
  rw [decide_eq_true h, Bool.not_true, Bool.false_or] at z
  exact of_decide_eq_true z
theorem lev_lt (a b : Str) : ∃ i : Nat, lev 1 a b = (i : Int) ∧ i < 2 := by
  unfold lev
  rw [if_neg (by decide)]
  split
  · exact ⟨1, rfl, by decide⟩
  · exact ⟨0, rfl, by decide⟩
theorem lev_max : maxI (KE.map fun x => lev 1 x.1 x.2.1) = 1 := by decide +kernel
theorem gKeys {td : TE} {σ : L2.St} {H : Hp} {R : It → Hp → Prop} (h : td σ H fun x H1 => ∃ d o, x = .ref d ∧ ((∃ kvs, H1 d = some (.frz o (.dK kvs)) ∧ R (Itk d o kvs) H1) ∨ ∃ kvs, H1 d = some (.frz o (.dT kvs)) ∧ R (Itkt d o kvs) H1)) : iKeys td σ H R := h
section
variable {P : Program} {w : World} {K : PySem.W.Frag} {mg : Str → Option Value} {base : Heap}
abbrev sp_nbs (K : PySem.W.Frag) : Sp := fun vs H Q _ => ∃ (g : Addr), vs = [.ref g] ∧ Gf K H g ∧ ∀ (F : Addr) (ls : List Addr) H', Ex H H' → H F = none → H' F = some (.lst (ls.map V.ref)) → ls.length ≤ 2 → (∀ l ∈ ls, l ≠ F ∧ H l = none ∧ PL H' l 300) → Q (.ref F) H'
abbrev N_names_by_stratum : List Str := ["graph", "most", "found", "target", "kind", "name", "key", "number"]
theorem sc_names_by_stratum : FnScope N_names_by_stratum ["graph"] (defScope s_names_by_stratum) := ⟨rfl, rfl, rfl, by decide +kernel, rfl, by decide +kernel, by decide +kernel⟩
theorem ok_names_by_stratum (T : Tx w K mg base) : FnOk P w K mg base CX0 2 (a_names_by_stratum K) (fd_names_by_stratum K) ["graph"] (sp_nbs K) := by
  refine T.f_names_by_stratum.ok sc_names_by_stratum (fun vs H Q E h => ?_) (fun cdv A outer s H vs Q E hr h => ?_)
  · obtain ⟨g, rfl, _⟩ := h
    rfl
  obtain ⟨g, rfl, hG, kk⟩ := h
  refine ⟨_, PSs.nox (pss_cons (ps_set (i := 1) sc_names_by_stratum.nd rfl (Or.inl rfl) (pe_callBK (cr_maxd rfl (hu_w hr)) (by rfl) T.n_max (by decide +kernel) (pa_cons (pe_lock (pe_lc (own := [("key", 6)]) rfl sc_names_by_stratum.nd (pi_keys (pe_fld (pv 0) rfl)) (blkOk_by (own := [("key", 6)]) (N := N_names_by_stratum) (sc := defScope s_names_by_stratum) (by decide +kernel)) (fun _ _ _ _ _ => (pg_name (i := 6) sc_names_by_stratum.nd rfl (Or.inl rfl))) (fun _ _ _ _ _ => pts_nil) (fun _ _ _ _ _ => (pe_dget (hu_of hr) (pe_fldK (K := K) rfl (pv 0) rfl) (pv 6) (fun _ _ => rfl))))) pa_nil) (pk_cons (pe_un un_neg pe_int) pk_nil))) (pss_cons (ps_setLc (i := 2) (own := [("number", 7)]) rfl sc_names_by_stratum.nd rfl rfl (sw_true rfl rfl rfl (by decide +kernel)) (pi_range1 (by rfl) T.n_range (pa_cons (pe_op op_add (pv 1) pe_int) pa_nil)) (blkOk_by (own := [("number", 7)]) (N := N_names_by_stratum) (sc := defScope s_names_by_stratum) (by decide +kernel)) (fun _ _ _ _ _ => (pg_name (i := 7) sc_names_by_stratum.nd rfl (Or.inl rfl))) (fun _ _ _ _ _ => pts_nil) (fun _ _ _ _ _ => (pe_lst pa_nil))) (pss_cons (ps_for PassesOwn.never rfl (pi_list (pe_fld (pv 0) rfl)) (pg_name (i := 3) sc_names_by_stratum.nd rfl (Or.inl rfl)) (pss_one (ps_lock (ps_for PassesOwn.never rfl (pi_keys (pe_fld (pv 0) rfl)) (pg_tup (n := 2) rfl (pgs_cons (pg_name (i := 4) sc_names_by_stratum.nd rfl (Or.inl rfl)) (pgs_cons (pg_name (i := 5) sc_names_by_stratum.nd rfl (Or.inl rfl)) pgs_nil))) (pss_one (ps_if (pt_cmpR (op_eq) (pv 4) (pe_call (ok_type_of T) (hr.mono (by decide)) rfl T.g_type_of T.f_type_of.kp T.b_type_of .nil pass0 (pa_cons (pv 3) pa_nil)) (nomark _)) (pss_one (ps_expr (pe_bm PySem.F.plainAttrs_list PySem.F.slot_list_append PySem.F.type_list_append mt_append (pe_ix ix_list (pv 2) (pe_dget (hu_of hr) (pe_fld (pv 0) rfl) (pe_tup (pa_cons (pv 4) (pa_cons (pv 5) pa_nil))) (fun _ _ => rfl)) (fun _ _ => rfl)) (pa_cons (pe_tup (pa_cons (pv 3) (pa_cons (pv 5) pa_nil))) pa_nil)))) pss_nil)))))) (pss_one (ps_ret (pv 2)))))), ?_⟩
  have hG0 := hG
  obtain ⟨dx, sv, ld, sd, ol, pl, skv, os, ps, h1, h2, h3, h4, h5, h6, h7, h8, h9, h10⟩ := hG
  have ngl : g ≠ ld := fun z => by rw [z, h3] at h1; cases h1
  wtm_at "go"
  refine ⟨ld, _, h3, trivial, fun od => ?_⟩
  refine gLc ?_
  refine gKeys ?_
  have hg1 : (upd H ld (.frz od (.dT lvS))) g = some (.ins (He.ga K "Graph") dx (gfF sv ld sd ol pl)) := by rw [upd_ne ngl]; exact h1
  have hl1 : (upd H ld (.frz od (.dT lvS))) ld = some (.frz od (.dT lvS)) := upd_same
  have c1 : Ch [ld] H (upd H ld (.frz od (.dT lvS))) := Ch.put h3
  generalize hHL : upd H ld (.frz od (.dT lvS)) = HL at hg1 hl1 c1
  wtm_at "goc"
  refine ⟨ld, od, rfl, .inr ⟨lvS, hl1, fun D hD => ?_⟩⟩
  refine lcW (walk_keysT (kvs := lvS)) (sl_big (by show 5 ≤ 100000; decide)) hD (fun H' e => e.at hl1) (fun i => (KE.take i).map fun x => PyData.int (lev 1 x.1 x.2.1)) rfl (fun i => by rw [List.length_map, List.length_take]; exact Nat.min_le_left _ _) (fun i v H3 H2 Pp P0 hi e2 hy k1 k0 => ?_) (fun H2 ys e2 hy ty => ?_)
  · obtain ⟨rfl, kx, vx, q, hk, rfl, hq⟩ := hy
    obtain ⟨x, hx, rfl, rfl⟩ := lvd_get hk
    have hg2 := e2.at hg1
    wtm_at "go"
    refine ⟨rfl, ?_⟩
    wtm_at "go"
    refine ⟨ld, _, rfl, .inr ⟨lvS, pk x.1 x.2.1, q, .inr ⟨od, e2.at hl1⟩, rfl, hq, (pkv_val (f := fun a b => .int (lev 1 a b)) ⟨x, List.mem_of_getElem? hx, rfl, rfl⟩).symm⟩, ?_⟩
    refine k1 _ _ (.int (lev 1 x.1 x.2.1)) (Ch.refl _ _) (.int _) ?_
    rw [take_next hx, List.map_append]
    rfl
  · refine ⟨e2.at hl1, ?_⟩
    have ty2 : TDs (fun x => HL x = none ∧ x ≠ D) H2 ys ((KE.map fun x => lev 1 x.1 x.2.1).map PyData.int) := by
      rw [List.map_map]
      exact ty
    obtain rfl := ty2.ints_
    have c2 : Ch [ld] H2 (upd H2 ld (.dT lvS)) := Ch.put (e2.at hl1)
    subst hHL
    have E0 : Ex H (upd H2 ld (.dT lvS)) := lockEx h3 trivial e2
    have nD : D ≠ ld := fun z => by rw [z, upd_same] at hD; cases hD
    have hyD := c2.at1 hy nD
    generalize hH4 : upd H2 ld (.dT lvS) = H4 at E0 hyD
    clear c1 c2 hH4
    wtm_at "go"
    refine gMaxd hyD (fun z => by have := congrArg List.length z; simp [ke_len] at this) (fun n ns hn => ?_)
    have hm : ns.foldl max n = 1 := by
      have := lev_max
      rw [hn] at this
      exact this
    rw [hm]
    wtm_at "go"
    refine gLc ?_
    wtm_at "goc"
    intro F hF
    refine lc_it walk_range (fun i H' => Ex H4 H' ∧ ∃ ls : List Addr, ls.length = i ∧ H' F = some (.lst (ls.map V.ref)) ∧ ∀ l ∈ ls, l ≠ F ∧ H4 l = none ∧ H' l = some (.lst [])) ?_ ?_ ?_ ?_
    · exact ⟨Ex.new hF, [], rfl, upd_same, fun l hl => nomatch hl⟩
    · exact fun _ _ _ _ => trivial
    · rintro i v H6 H5 hi ⟨e5, ls, hll, hFl, hls⟩ ⟨rfl, rfl⟩
      wtm_at "go"
      refine ⟨rfl, ?_⟩
      wtm_at "go"
      rename_i q hq H6 e6 h6
      have hF6 := e6.at hFl
      have nq : q ≠ F := fun z => by rw [z, hFl] at hq; cases hq
      refine ⟨_, hF6, ?_, ?_⟩
      · rw [List.length_map, hll]
        have hi : i < 2 := hi
        exact Nat.lt_of_lt_of_le hi (sl_big (by decide))
      · have c7 : Ch [F] H6 (upd H6 F (.lst (ls.map V.ref ++ [.ref q]))) := Ch.put hF6
        refine ⟨exD (e5.trans e6) hF c7, ls ++ [q], by simp [hll], ?_, fun l hl => ?_⟩
        · rw [upd_same, List.map_append]; rfl
        · rcases List.mem_append.mp hl with hl | hl
          · obtain ⟨z1, z2, z3⟩ := hls l hl
            exact ⟨z1, z2, c7.at1 (e6.at z3) z1⟩
          · cases List.mem_singleton.mp hl
            exact ⟨nq, e5.free hq, c7.at1 h6 nq⟩
    · rintro H5 ⟨e5, ls, hll, hFl, hls⟩
      have hll : ls.length = 2 := hll
      have E5 := E0.trans e5
      have hFH : H F = none := E0.free hF
      have hlH : ∀ l ∈ ls, H l = none := fun l hl => E0.free (hls l hl).2.1
      have hgl : ∀ {b : Addr} {o : HO}, H b = some o → b ∉ ls := fun {b o} hb z => by rw [hlH b z] at hb; cases hb
      have hg5 := E5.at h1
      wtm_at "go"
      refine forA walk_list (TDs.strs (A := NoL) (H := H5) os) (fun d σ H' => ∃ x3 x4 x5 x6 x7, Ex H H' ∧ H' F = some (.lst (ls.map V.ref)) ∧ (∀ l ∈ ls, PL H' l (5 * d.length)) ∧ σ = [some (.ref g), some (.int 1), some (.ref F), x3, x4, x5, x6, x7]) ?_ ?_ ?_ ?_
      · exact ⟨_, _, _, _, _, E5, hFl, fun l hl => ⟨[], [], (hls l hl).2.2, .nil, fun p z => (nomatch z), Nat.zero_le _⟩, rfl⟩
      · rintro d σ H' ⟨x3, x4, x5, x6, x7, e6, _⟩
        exact sqL_ (e6.at h6)
      · rintro d o r v σ H6 ed tv ⟨x3, x4, x5, x6, x7, e6, hF6, hp6, rfl⟩
        obtain rfl := tv.str_
        have ho : o ∈ obU := h7 o (by rw [ed]; simp)
        have hdl : d.length < 60 := by
          have := congrArg List.length ed
          simp at this
          omega
        have hg6 := e6.at h1
        have hl6 := e6.at h3
        have nFl : F ≠ ld := fun z => by rw [z, hl6] at hF6; cases hF6
        wtm_at "go"
        refine ⟨ld, _, hl6, trivial, fun od2 => ?_⟩
        refine gFor (gKeys ?_)
        have c7 : Ch [ld] H6 (upd H6 ld (.frz od2 (.dT lvS))) := Ch.put hl6
        have hlL : (upd H6 ld (.frz od2 (.dT lvS))) ld = some (.frz od2 (.dT lvS)) := upd_same
        generalize hHL : upd H6 ld (.frz od2 (.dT lvS)) = HL at c7 hlL ⊢
        have hgL := c7.at1 hg6 ngl
        have hFL := c7.at1 hF6 nFl
        have hpL : ∀ l ∈ ls, PL HL l (5 * d.length) := fun l hl => (hp6 l hl).ch c7 fun z => hgl h3 (List.mem_singleton.mp z ▸ hl)
        wtm_at "go"
        refine ⟨ld, od2, rfl, .inr ⟨lvS, hlL, ?_⟩⟩
        refine for_it (walk_keysT (kvs := lvS)) (fun j σ H' => ∃ x4 x5 x6 x7, Ch ls HL H' ∧ (∀ l ∈ ls, PL H' l (5 * d.length + j)) ∧ σ = [some (.ref g), some (.int 1), some (.ref F), some (.str o), x4, x5, x6, x7]) ?_ ?_ ?_ ?_
        · exact ⟨_, _, _, _, Ch.refl _ _, hpL, rfl⟩
        · rintro j σ H' hj ⟨x4, x5, x6, x7, c8, _⟩
          exact c8.to hlL (hgl h3)
        · rintro j v σ H8 H7 hj ⟨x4, x5, x6, x7, c8, hp7, rfl⟩ ⟨rfl, kx, vx, q, hk, rfl, hq⟩
          obtain ⟨x, hx, rfl, rfl⟩ := lvd_get hk
          have hxk := List.mem_of_getElem? hx
          have hq' : H7 q = some (.tup [.str x.1, .str x.2.1]) := hq
          have hj5 : j < 5 := hj
          wtm_at "go"
          refine ⟨sl_big (by have := ob_len ho; omega), fun H8 e8 => ?_⟩
          have hg8 := e8.at (c8.to hgL (hgl h1))
          have hl8 := e8.at (c8.to hlL (hgl h3))
          have hF8 := e8.at (c8.to hFL (fun z => (hls F z).1 rfl))
          wtm_at "go"
          refine ifd (fun h => ?_) (fun h => ?_)
          · wtm_at "go"
            rename_i q2 hq2 H9 e9 h9
            refine ⟨ld, _, rfl, .inr ⟨lvS, pk x.1 x.2.1, q2, .inr ⟨od2, e9.at hl8⟩, rfl, h9, (pkv_val (f := fun a b => .int (lev 1 a b)) ⟨x, hxk, rfl, rfl⟩).symm⟩, ?_⟩
            obtain ⟨i, hi1, hi2⟩ := lev_lt x.1 x.2.1
            rw [hi1]
            have hil : i < ls.length := by omega
            have hgi : ls[i]? = some ls[i] := List.getElem?_eq_getElem hil
            have hmem : ls[i] ∈ ls := List.getElem_mem hil
            generalize hll2 : ls[i] = l at hgi hmem
            refine gIxL (e9.at hF8) (atI_nat (by rw [List.getElem?_map, hgi]; rfl)) ?_
            obtain ⟨ws, ps2, y1, y2, y3, y4⟩ := ((hp7 l hmem).ch e8 (nmem l)).ch e9 (nmem l)
            have hwl := y2.len
            rw [List.length_map] at hwl
            wtm_at "go"
            rename_i q3 hq3 H10 e10 h10
            refine gApp (e10.at y1) (Nat.lt_of_le_of_lt (by omega : _ ≤ 1000) (by decide)) fun H11 e11 h11 => ?_
            wtm_at "go"
            refine ⟨_, _, _, _, (c8.trans ((e8.trans e9).trans e10).wk).trans (e11.mono fun z hz => List.mem_singleton.mp hz ▸ hmem), fun l' hl' => ?_, rfl⟩
            by_cases hll' : l' = l
            · subst hll'
              refine ⟨_, ps2 ++ [(o, x.2.1)], h11, ?_, fun p hp => ?_, ?_⟩
              · rw [List.map_append]
                exact ((y2.e e10).p e11).app (.one (TD.pr (e11.tup _ _ h10)))
              · rcases List.mem_append.mp hp with hp | hp
                · exact y3 p hp
                · cases List.mem_singleton.mp hp
                  exact ke_pu_ ho hxk h
              · rw [List.length_append, List.length_singleton]
                omega
            · exact (((((hp7 l' hl').ch e8 (nmem l')).ch e9 (nmem l')).ch e10 (nmem l')).ch e11 fun z => hll' (List.mem_singleton.mp z)).mono (by omega)
          · wtm_at "go"
            exact ⟨_, _, _, _, c8.trans e8.wk, fun l hl => ((hp7 l hl).ch e8 (nmem l)).mono (by omega), rfl⟩
        · rintro σ H7 ⟨x4, x5, x6, x7, c8, hp7, rfl⟩
          have hl7 := c8.to hlL (hgl h3)
          refine ⟨hl7, ?_⟩
          subst hHL
          have c9 : Ch ls H6 (upd H7 ld (.dT lvS)) := lockCh hl6 trivial c8
          have c10 : Ch [ld] H7 (upd H7 ld (.dT lvS)) := Ch.put hl7
          refine ⟨_, _, _, _, _, (e6.wk.trans c9).drop (fun z hz => .inr (hlH z hz)), c9.to hF6 (fun z => (hls F z).1 rfl), fun l hl => ((hp7 l hl).ch c10 fun z => hgl h3 (List.mem_singleton.mp z ▸ hl)).mono ?_, rfl⟩
          rw [List.length_append, List.length_singleton]
          show 5 * d.length + 5 ≤ _
          omega
      · rintro σ H6 ⟨x3, x4, x5, x6, x7, e6, hF6, hp6, rfl⟩
        wtm_at "go"
        exact kk F ls _ e6 hFH hF6 (by omega) fun l hl => ⟨(hls l hl).1, hlH l hl, (hp6 l hl).mono (by omega)⟩
end


section
variable {P : Program} {w : World} {K : PySem.W.Frag} {mg : Str → Option Value} {base : Heap}
theorem gWhile {c : TT} {tb : TS} {D : Ends} {σ : L2.St} {H : Hp} (W : Nat → L2.St → Hp → Prop) (m0 : Nat) (h0 : W m0 σ H)
    (h : ∀ m σ H, W m σ H → c σ H fun b H1 => if b = true then ∃ N : L2.St → Hp → Prop, (∀ σ' H', N σ' H' → ∃ m', m' < m ∧ W m' σ' H') ∧ tb { D with nx := N, ct := N, bk := D.nx } σ H1 else D.nx σ H1) : tWhile c tb D σ H := ⟨W, ⟨m0, h0⟩, h⟩
abbrev sp_ranks_for (K : PySem.W.Frag) : Sp := fun vs H Q _ => ∃ (g : Addr) (u : Str), vs = [.ref g, .str u] ∧ Gf K H g ∧ u ∈ us3 ∧ ∀ (R : Addr) (rkv : List (List Key × V)) H', Ex H H' → H R = none → H' R = some (.dT rkv) → RkOk rkv → Q (.ref R) H'
abbrev N_ranks_for : List Str := ["graph", "subject", "ranks", "pairs", "going", "rank", "new", "pair"]
theorem sc_ranks_for : FnScope N_ranks_for ["graph", "subject"] (defScope s_ranks_for) := ⟨rfl, rfl, rfl, by decide +kernel, rfl, by decide +kernel, by decide +kernel⟩
theorem ok_ranks_for (T : Tx w K mg base) : FnOk P w K mg base CX0 6 (a_ranks_for K) (fd_ranks_for K) ["graph", "subject"] (sp_ranks_for K) := by
  refine T.f_ranks_for.ok sc_ranks_for (fun vs H Q E h => ?_) (fun cdv A outer s H vs Q E hr h => ?_)
  · obtain ⟨g, u, rfl, _⟩ := h
    rfl
  obtain ⟨g, u, rfl, hG, hu, kk⟩ := h
  refine ⟨_, PSs.nox (pss_cons (ps_set (i := 2) sc_ranks_for.nd rfl (Or.inl rfl) pe_dnewT) (pss_cons (ps_for PassesOwn.never rfl (pi_list (pe_call (ok_names_by_stratum T) (hr.mono (by decide)) rfl T.g_names_by_stratum T.f_names_by_stratum.kp T.b_names_by_stratum .nil pass0 (pa_cons (pv 0) pa_nil))) (pg_name (i := 3) sc_ranks_for.nd rfl (Or.inl rfl)) (pss_cons (ps_set (i := 4) sc_ranks_for.nd rfl (Or.inl rfl) pe_bl) (pss_cons (ps_set (i := 5) sc_ranks_for.nd rfl (Or.inl rfl) pe_int) (pss_one (ps_while PassesOwn.never (pt_val (pv 4)) (pss_cons (ps_set (i := 5) sc_ranks_for.nd rfl (Or.inl rfl) (pe_op op_add (pv 5) pe_int)) (pss_cons (ps_set (i := 6) sc_ranks_for.nd rfl (Or.inl rfl) (pe_lst pa_nil)) (pss_cons (ps_for PassesOwn.never rfl (pi_list (pv 3)) (pg_name (i := 7) sc_ranks_for.nd rfl (Or.inl rfl)) (pss_one (ps_if (PW.pt (pw_and (pt_cmp (pc_dnotin (hu_of hr) (pv 7) (pv 2))) (pw_and1 (pt_cmpR (op_notN1) (pe_call (ok_rule_count T) (hr.mono (by decide)) rfl T.g_rule_count T.f_rule_count.kp T.b_rule_count .nil pass0 (pa_cons (pv 0) (pa_cons (pe_ix ix_tup (pv 7) pe_int (fun _ _ => rfl)) (pa_cons (pe_ix ix_tup (pv 7) pe_int (fun _ _ => rfl)) (pa_cons (pv 1) (pa_cons (pv 2) pa_nil)))))) pe_non (nomark _))))) (pss_one (ps_expr (pe_bm PySem.F.plainAttrs_list PySem.F.slot_list_append PySem.F.type_list_append mt_append (pv 6) (pa_cons (pv 7) pa_nil)))) pss_nil))) (pss_cons (ps_for PassesOwn.never rfl (pi_list (pv 6)) (pg_name (i := 7) sc_ranks_for.nd rfl (Or.inl rfl)) (pss_one (ps_dput (hu_of hr) (pv 2) (pv 7) (pv 5) rfl))) (pss_one (ps_set (i := 4) sc_ranks_for.nd rfl (Or.inl rfl) (pe_cmpR (op_gt) (pe_callB call_len_seq (by rfl) T.n_len (by decide +kernel) (pa_cons (pv 6) pa_nil)) pe_int (nomark _))))))))))))) (pss_one (ps_ret (pv 2))))), ?_⟩
  wtm_at "go"
  rename_i R H1 hR0 e1 h1
  have hG1 := hG.ex e1
  refine ⟨hG1, fun F ls HF eF hF0 hF hll hls => ?_⟩
  have hRF := eF.at h1
  have hGF := hG1.ex eF
  have nRF : F ≠ R := fun z => by rw [z, hRF] at hF; cases hF
  have nlR : ∀ l ∈ ls, l ≠ R := fun l hl z => by
    obtain ⟨_, _, ws, ps, q, _⟩ := hls l hl
    rw [z, hRF] at q
    cases q
  refine ⟨F, rfl, ⟨_, sqL_ hF⟩, ?_⟩
  refine for_it (walk_list (xs := ls.map V.ref)) (fun i σ H' => ∃ rkv x3 x4 x5 x6 x7, Ch [R] HF H' ∧ H' R = some (.dT rkv) ∧ RkOk rkv ∧ σ = [some (.ref g), some (.str u), some (.ref R), x3, x4, x5, x6, x7]) ?_ ?_ ?_ ?_
  · exact ⟨[], _, _, _, _, _, Ch.refl _ _, hRF, .nil, rfl⟩
  · rintro i σ H' hi ⟨rkv, x3, x4, x5, x6, x7, c, _⟩
    exact sqL_ (c.at1 hF nRF)
  · rintro i v σ H3 H2 hi ⟨rkv, x3, x4, x5, x6, x7, c2, hR2, hk2, rfl⟩ ⟨rfl, hv⟩
    obtain ⟨l, hl, rfl⟩ : ∃ l ∈ ls, v = .ref l := by
      rw [List.getElem?_map] at hv
      cases q : ls[i]? with
      | none => rw [q] at hv; cases hv
      | some l =>
        rw [q] at hv
        cases hv
        exact ⟨l, List.mem_of_getElem? q, rfl⟩
    have hlR : l ∉ [R] := fun z => nlR l hl (List.mem_singleton.mp z)
    obtain ⟨ws, ps, y1, y2, y3, y4⟩ := (hls l hl).2.2
    have hwl := y2.len
    rw [List.length_map] at hwl
    wtm_at "go"
    refine gWhile (fun m σ H' => ∃ rkv b rk x6 x7, m = 2 * cnt rkv + (if b = true then 1 else 0) ∧ Ch [R] HF H' ∧ H' R = some (.dT rkv) ∧ RkOk rkv ∧ σ = [some (.ref g), some (.str u), some (.ref R), some (.ref l), some (.bl b), some (.int rk), x6, x7]) _ ⟨rkv, true, 0, _, _, rfl, c2, hR2, hk2, rfl⟩ ?_
    rintro m σ H4 ⟨rkv4, b, rk, x6', x7', rfl, c4, hR4, hk4, rfl⟩
    wtm_at "go"
    refine ifb (fun hb => ?_) (fun hb => ?_)
    · subst hb
      refine ⟨_, fun σ' H' q => q, ?_⟩
      have hl4 : H4 l = some (.lst ws) := c4.to y1 hlR
      have y24 := y2.p c4
      wtm_at "go"
      rename_i N hN0 H5 e5 h5
      refine forA walk_list (y24.e e5) (fun d σ H' => ∃ (nws : List V) (nps : List (Str × Str)) (x7 : Option V), Ex H4 H' ∧ Ch [N] H5 H' ∧ H' N = some (.lst nws) ∧ TDs NoL H' nws (nps.map prD) ∧ (∀ p ∈ nps, p ∈ PU ∧ valV rkv4 (pk p.1 p.2) = none) ∧ nps.length ≤ d.length ∧ σ = [some (.ref g), some (.str u), some (.ref R), some (.ref l), some (.bl true), some (.int (rk + 1)), some (.ref N), x7]) ?_ ?_ ?_ ?_
      · exact ⟨[], [], _, e5, Ch.refl _ _, h5, .nil, fun p z => (nomatch z), Nat.le_refl _, rfl⟩
      · rintro d σ H' ⟨nws, nps, x7, e6, _⟩
        exact sqL_ (e6.at hl4)
      · rintro d p r v σ H6 ed tv ⟨nws, nps, x7, e6, c6, hN6, tn, hn, hnl, rfl⟩
        obtain ⟨q, rfl, hq⟩ := (tv.p c6).pr_
        have hpm : p ∈ PU := y3 p (by rw [ed]; simp)
        have hdl : d.length < 300 := by
          have := congrArg List.length ed
          simp at this
          omega
        have hR6 := e6.at hR4
        have hG4 : Gf K H6 g := hG.ex ((exD (e1.trans eF) hR0 c4).trans e6)
        wtm_at "go"
        refine ⟨R, _, rfl, DGet.t (k := pk p.1 p.2) hR6 hq, _, rfl, ?_⟩
        cases hv : valV rkv4 (pk p.1 p.2) with
        | some z =>
          wtm_at "gob"
          exact ⟨nws, nps, _, e6, c6, hN6, tn, hn, by rw [List.length_append]; omega, rfl⟩
        | none =>
          wtm_at "gob"
          refine ⟨g, R, p.1, p.2, u, rkv4, rfl, hG4, hpm, hu, hR6, hk4.1, fun r H7 e7 => ?_⟩
          have hN7 := e7.at hN6
          cases r with
          | none =>
            dsimp only [oiV]
            wtm_at "gob"
            exact ⟨nws, nps, _, e6.trans e7, c6.trans e7.wk, hN7, tn.e e7, hn, by rw [List.length_append]; omega, rfl⟩
          | some i =>
            dsimp only [oiV]
            have hnwl := tn.len
            rw [List.length_map] at hnwl
            wtm_at "gob"
            refine gApp hN7 (Nat.lt_of_le_of_lt (by omega : _ ≤ 1000) (by decide)) fun H8 e8 h8 => ?_
            wtm_at "gob"
            refine ⟨_, nps ++ [p], _, exD (e6.trans e7) hN0 e8, (c6.trans e7.wk).trans e8, h8, ?_, fun p' hp' => ?_, ?_, rfl⟩
            · rw [List.map_append]
              exact ((tn.e e7).p e8).app (.one (TD.pr (e8.tup _ _ (e7.at hq))))
            · rcases List.mem_append.mp hp' with hp' | hp'
              · exact hn p' hp'
              · cases List.mem_singleton.mp hp'
                exact ⟨hpm, hv⟩
            · rw [List.length_append, List.length_append]
              exact Nat.add_le_add hnl (Nat.le_refl _)
      · rintro σ H6 ⟨nws, nps, x7, e6, c6, hN6, tn, hn, hnl, rfl⟩
        have hR6 := e6.at hR4
        have nNR : N ≠ R := fun z => by rw [z, hR4] at hN0; cases hN0
        wtm_at "go"
        refine forA walk_list tn (fun d σ H' => ∃ rkv' x7, Ch [R] H6 H' ∧ H' R = some (.dT rkv') ∧ RkOk rkv' ∧ cnt rkv' + min 1 d.length ≤ cnt rkv4 ∧ (d = [] → rkv' = rkv4) ∧ σ = [some (.ref g), some (.str u), some (.ref R), some (.ref l), some (.bl true), some (.int (rk + 1)), some (.ref N), x7]) ?_ ?_ ?_ ?_
        · exact ⟨rkv4, _, Ch.refl _ _, hR6, hk4, Nat.le_refl _, fun _ => rfl, rfl⟩
        · rintro d σ H' ⟨rkv', x7, c7, _⟩
          exact sqL_ (c7.at1 hN6 nNR)
        · rintro d p r v σ H7 ed tv ⟨rkv', x7, c7, hR7, hk7, hc7, hd7, rfl⟩
          obtain ⟨q, rfl, hq⟩ := (tv.p c7).pr_
          obtain ⟨hpm, hpv⟩ := hn p (by rw [ed]; simp)
          wtm_at "go"
          refine ⟨R, _, rfl, DPut.t (k := pk p.1 p.2) hR7 hq (Nat.lt_of_le_of_lt (by have := hk7.2.2; omega : _ ≤ 1000) (by decide)), ?_⟩
          generalize hH8 : upd H7 R _ = H8
          obtain ⟨e8, h8⟩ := chO hR7 (by trivial) hH8
          clear hH8
          refine ⟨_, _, c7.trans e8, h8, hk7.put hpm _, ?_, fun z => by simp at z, rfl⟩
          rw [List.length_append, List.length_singleton]
          by_cases hd : d = []
          · rw [hd7 hd]
            have := cnt_lt (.int (rk + 1)) hpm hpv
            omega
          · have := cnt_le rkv' (pk p.1 p.2) (.int (rk + 1))
            have : 1 ≤ d.length := by
              cases d with
              | nil => exact absurd rfl hd
              | cons _ _ => simp
            omega
        · rintro σ H7 ⟨rkv', x7, c7, hR7, hk7, hc7, hd7, rfl⟩
          have hN7 := c7.at1 hN6 nNR
          have hnwl := tn.len
          rw [List.length_map] at hnwl
          wtm_at "go"
          refine ⟨2 * cnt rkv' + (if decide ((0 : Int) < (nws.length : Nat)) = true then 1 else 0), ?_, rkv', _, _, _, _, rfl, (c4.trans e6.wk).trans c7, hR7, hk7, rfl⟩
          rw [if_pos rfl]
          cases nps with
          | nil =>
            rw [if_neg (by rw [hnwl]; decide)]
            omega
          | cons a b =>
            rw [if_pos (by rw [hnwl]; simp)]
            rw [List.length_cons] at hc7
            omega
    · subst hb
      exact ⟨rkv4, _, _, _, _, _, c4, hR4, hk4, rfl⟩
  · rintro σ H2 ⟨rkv, x3, x4, x5, x6, x7, c2, hR2, hk2, rfl⟩
    wtm_at "go"
    exact kk R rkv _ (exD (e1.trans eF) hR0 c2) hR0 hR2 hk2
end


section
/-- what a relationship of the universe keeps -/
def relB (g : Gr) : Bool := match entOf scL (typeOf g.1) g.2.1 with
  | none => false
  | some e => decide (e.2.1 = "relation") && (SeqAt.shaped (prD (typeOf (Txt.partition g.2.2 "#").1, (Txt.partition g.2.2 "#").2.2)) && SeqAt.shaped (.list (e.2.2.map tsD)) &&
      (e.2.2.map tsD).any fun z => PyData.eqv z (prD (typeOf (Txt.partition g.2.2 "#").1, (Txt.partition g.2.2 "#").2.2)))
def relU (g : Gr) : Bool := decide (g.1 ∈ obU) && decide ((Txt.partition g.2.2 "#").1 ∈ obU) && decide (((Txt.partition g.2.2 "#").1, (Txt.partition g.2.2 "#").2.2) ∈ SU) && (!decide ((Txt.partition g.2.2 "#").2.2 = ("" : Str)) || decide (g.2.2 ∈ us3)) &&
  decide (g.1.length ≤ 20) && decide (g.2.2.length ≤ 20) && decide ((Txt.partition g.2.2 "#").1.length ≤ 20)
theorem rel_ok : (URel.all fun g => relB g && relU g) = true := by decide +kernel
theorem rel_b {g : Gr} (h : g ∈ URel) : relB g = true := (Bool.and_eq_true_iff.mp (List.all_eq_true.mp rel_ok g h)).1
theorem rel_u {g : Gr} (h : g ∈ URel) : g.1 ∈ obU ∧ (Txt.partition g.2.2 "#").1 ∈ obU ∧ ((Txt.partition g.2.2 "#").1, (Txt.partition g.2.2 "#").2.2) ∈ SU ∧ ((Txt.partition g.2.2 "#").2.2 = ("" : Str) → g.2.2 ∈ us3) ∧ g.1.length ≤ 20 ∧ g.2.2.length ≤ 20 ∧ (Txt.partition g.2.2 "#").1.length ≤ 20 := by
  have z := (Bool.and_eq_true_iff.mp (List.all_eq_true.mp rel_ok g h)).2
  unfold relU at z
  simp only [Bool.and_eq_true, decide_eq_true_eq, Bool.or_eq_true, Bool.not_eq_true', decide_eq_false_iff_not] at z
  obtain ⟨⟨⟨⟨⟨⟨a, b⟩, c⟩, d⟩, e⟩, f⟩, i⟩ := z
  exact ⟨a, b, c, fun q => d.elim (fun n => absurd q n) id, e, f, i⟩
end
section
variable {P : Program} {w : World} {K : PySem.W.Frag} {mg : Str → Option Value} {base : Heap}
abbrev sp_conforms : Sp := fun vs H Q _ => ∃ (v0 : V) (b : Addr) (g : Gr), vs = [v0, .ref b] ∧ TD NoL H v0 scD ∧ H b = some (.tup [.str g.1, .str g.2.1, .str g.2.2]) ∧ g ∈ URel ∧ ∀ H', Ex H H' → Q (.bl true) H'
abbrev N_conforms : List Str := ["schema", "relationship", "found", "target", "name"]
theorem sc_conforms : FnScope N_conforms ["schema", "relationship"] (defScope s_conforms) := ⟨rfl, rfl, rfl, by decide +kernel, rfl, by decide +kernel, by decide +kernel⟩
theorem ok_conforms (T : Tx w K mg base) : FnOk P w K mg base CX0 3 (a_conforms K) (fd_conforms K) ["schema", "relationship"] sp_conforms := by
  refine T.f_conforms.ok sc_conforms (fun vs H Q E h => ?_) (fun cdv A outer s H vs Q E hr h => ?_)
  · obtain ⟨v0, b, g, rfl, _⟩ := h
    rfl
  obtain ⟨v0, b, g, rfl, ts, hb, hg, kk⟩ := h
  refine ⟨_, PSs.nox (pss_cons (ps_set (i := 2) sc_conforms.nd rfl (Or.inl rfl) (pe_call (ok_definition T) (hr.mono (by decide)) rfl T.g_definition T.f_definition.kp T.b_definition .nil pass0 (pa_cons (pv 0) (pa_cons (pe_call (ok_type_of T) (hr.mono (by decide)) rfl T.g_type_of T.f_type_of.kp T.b_type_of .nil pass0 (pa_cons (pe_ix ix_tup (pv 1) pe_int (fun _ _ => rfl)) pa_nil)) (pa_cons (pe_ix ix_tup (pv 1) pe_int (fun _ _ => rfl)) pa_nil))))) (pss_cons (ps_if (PW.pt (pw_or (pt_cmpR (op_isN1) (pv 2) pe_non (nomark _)) (pw_or1 (pt_cmpR (op_ne) (pe_ix ix_tup (pv 2) pe_int (fun _ _ => rfl)) pe_str (nomark _))))) (pss_one (ps_ret pe_bl)) pss_nil) (pss_cons (ps_asg (pe_call (ok_split_reference T) (hr.mono (by decide)) rfl T.g_split_reference T.f_split_reference.kp T.b_split_reference .nil pass0 (pa_cons (pe_ix ix_tup (pv 1) pe_int (fun _ _ => rfl)) pa_nil)) (pg_tup (n := 2) rfl (pgs_cons (pg_name (i := 3) sc_conforms.nd rfl (Or.inl rfl)) (pgs_cons (pg_name (i := 4) sc_conforms.nd rfl (Or.inl rfl)) pgs_nil)))) (pss_one (ps_ret (pe_cmpR (op_inTD (hu_w hr)) (pe_tup (pa_cons (pe_call (ok_type_of T) (hr.mono (by decide)) rfl T.g_type_of T.f_type_of.kp T.b_type_of .nil pass0 (pa_cons (pv 3) pa_nil)) (pa_cons (pv 4) pa_nil))) (pe_ix ix_tup (pv 2) pe_int (fun _ _ => rfl)) (by rfl))))))), ?_⟩
  obtain ⟨u1, u2, u3, u4, u5, u6, u7⟩ := rel_u hg
  have rb := rel_b hg
  unfold relB at rb
  wtm_at "go"
  refine ⟨sl_big (by omega), fun H1 e1 => ?_⟩
  have ts1 := ts.e e1
  have hb1 := e1.at hb
  wtm_at "go"
  refine ⟨v0, scL, typeOf g.1, g.2.1, rfl, ts1, fun v H2 e2 tv => ?_⟩
  cases he : entOf scL (typeOf g.1) g.2.1 with
  | none => rw [he] at rb; cases rb
  | some e =>
    rw [he] at rb tv
    dsimp only at rb
    simp only [Bool.and_eq_true, decide_eq_true_eq] at rb
    obtain ⟨her, ⟨s1, s2⟩, s3⟩ := rb
    obtain ⟨c, vs, rfl, hc, tvs⟩ := TD.tup_ tv
    obtain ⟨v1, w1, rfl, t1, tv1⟩ := tvs.cons_
    obtain ⟨v2, w2, rfl, t2, tv2⟩ := tv1.cons_
    obtain rfl := tv2.nil_
    obtain rfl := t1.str_
    have hb2 := e2.at hb1
    wtm_at "gob"
    refine blF (by rw [decide_eq_true her]; rfl) ?_
    wtm_at "gob"
    refine ⟨sl_big (by omega), fun p H3 e3 hp h3 => ?_⟩
    wtm_at "gob"
    refine ⟨sl_big (by omega), fun H4 e4 => ?_⟩
    wtm_at "gob"
    rename_i q hq H5 e5 h5
    have E5 : Ex H2 H5 := (e3.trans e4).trans e5
    wtm_at "gob"
    refine ⟨prD (typeOf (Txt.partition g.2.2 "#").1, (Txt.partition g.2.2 "#").2.2), e.2.2.map tsD, (TD.pr (A := NoL) h5).dp, (t2.e E5).dp, s1, s2, ?_⟩
    rw [s3]
    exact kk _ ((e1.trans e2).trans E5)
abbrev sp_check_rels : Sp := fun vs H Q _ => ∃ (v0 : V) (l : Addr) (ws : List V) (R : Gr → Bool), vs = [v0, .ref l] ∧ TD NoL H v0 scD ∧ H l = some (.lst ws) ∧ TDs NoL H ws ((rb R).map gD) ∧ ∀ H', Ex H H' → Q .non H'
abbrev N_check_relationships : List Str := ["schema", "relationships", "index", "relationship"]
theorem sc_check_relationships : FnScope N_check_relationships ["schema", "relationships"] (defScope s_check_relationships) := ⟨rfl, rfl, rfl, by decide +kernel, rfl, by decide +kernel, by decide +kernel⟩
theorem ok_check_relationships (T : Tx w K mg base) : FnOk P w K mg base CX0 4 (a_check_relationships K) (fd_check_relationships K) ["schema", "relationships"] sp_check_rels := by
  refine T.f_check_relationships.ok sc_check_relationships (fun vs H Q E h => ?_) (fun cdv A outer s H vs Q E hr h => ?_)
  · obtain ⟨v0, l, ws, R, rfl, _⟩ := h
    rfl
  obtain ⟨v0, l, ws, R, rfl, ts, hl, tw, kk⟩ := h
  refine ⟨_, PSs.nox (pss_cons (ps_for PassesOwn.never rfl (pi_enum (by rfl) T.n_enumerate (pa_cons (pv 1) pa_nil)) (pg_tup (n := 2) rfl (pgs_cons (pg_name (i := 2) sc_check_relationships.nd rfl (Or.inl rfl)) (pgs_cons (pg_name (i := 3) sc_check_relationships.nd rfl (Or.inl rfl)) pgs_nil))) (pss_one (ps_if (pt_not (pt_val (pe_call (ok_conforms T) (hr.mono (by decide)) rfl T.g_conforms T.f_conforms.kp T.b_conforms .nil pass0 (pa_cons (pv 0) (pa_cons (pv 3) pa_nil))))) pss_never pss_nil))) (pss_one (ps_if (pt_cmpR (op_lt) (pe_callB call_len_dT (by rfl) T.n_len (by decide +kernel) (pa_cons (pe_dcT (own := [("relationship", 3)]) rfl (hu_of hr) sc_check_relationships.nd (pi_list (pv 1)) (blkOk_by (own := [("relationship", 3)]) (N := N_check_relationships) (sc := defScope s_check_relationships) (by decide +kernel)) (fun _ _ _ _ _ => (pg_name (i := 3) sc_check_relationships.nd rfl (Or.inl rfl))) (fun _ _ _ _ _ => pts_nil) (fun _ _ _ _ _ => (pv 3)) (fun _ _ _ _ _ => pe_bl)) pa_nil)) (pe_callB call_len_seq (by rfl) T.n_len (by decide +kernel) (pa_cons (pv 1) pa_nil)) (nomark _)) pss_never pss_nil))), ?_⟩
  have hrl := rb_len R
  have hwl := tw.len
  rw [List.length_map] at hwl
  wtm_at "go"
  refine forE (a := l) tw (fun d σ H' => ∃ x2 x3, Ex H H' ∧ σ = [some v0, some (.ref l), x2, x3]) ?_ ?_ ?_ ?_
  · exact ⟨_, _, Ch.refl _ _, rfl⟩
  · rintro d σ H' ⟨x2, x3, e, _⟩
    exact sqL_ (e.at hl)
  · rintro d g r v T0 σ H2 H3 ed tv ⟨x2, x3, e2, rfl⟩ hT e3 hT3
    obtain ⟨b, rfl, hb⟩ := (tv.e (e2.trans e3)).g_
    have hgr : g ∈ URel := (mem_rb.mp (by rw [ed]; simp : g ∈ rb R)).1
    have ts3 := ts.e (e2.trans e3)
    wtm_at "go"
    refine ⟨v0, b, g, rfl, ts3, hb, hgr, fun H4 e4 => ?_⟩
    wtm_at "gob"
    exact ⟨_, _, (e2.trans e3).trans e4, rfl⟩
  · rintro σ H2 ⟨x2, x3, e2, rfl⟩
    wtm_at "go"
    refine dc_gs (fun R r => gVar rfl r) (e2.at hl) (tw.e e2) (rb_nodup R) (by omega) (fun _ => rfl) (fun _ => rfl) fun D H3 e3 hD d3 => ?_
    wtm_at "go"
    refine ⟨D, _, rfl, d3, ?_⟩
    have hl3 := e3.at (e2.at hl)
    wtm_at "go"
    refine blF (decide_eq_false ?_) ?_
    · rw [dkv, List.length_map, hwl]
      omega
    · wtm_at "go"
      exact kk _ (e2.trans e3)
end


/-- a continuation, kept whole -/
def KQ (Q : VK) : VK := Q
theorem kq {Q : VK} {x : V} {H : Hp} (h : Q x H) : KQ Q x H := h
theorem gDSetT {td ty tx : TE} {σ : L2.St} {H : Hp} {Q : VK} (h : td σ H fun x H1 => ∃ a, x = .ref a ∧ IsD H1 a ∧ ty σ H1 fun y H2 => tx σ H2 fun z H3 => ∃ (kvs : List (List Key × V)) (k : List Key) (b : Addr), H3 a = some (.dT kvs) ∧ y = .ref b ∧ H3 b = some (.tup (k.map kV)) ∧ kvs.length < sizeLine ∧
  (∀ v, valV kvs k = some v → KQ Q v H3) ∧ (valV kvs k = none → KQ Q z (upd H3 a (.dT (putK kvs k z))))) : tDSetT td ty tx σ H Q := h
/-- a dict of names -/
def DkOk (U : List Str) (kvs : List (Key × V)) (n : Nat) : Prop := ∃ os : List Str, kvs.map (·.1) = os.map Sum.inr ∧ (∀ o ∈ os, o ∈ U) ∧ os.length ≤ n
theorem DkOk.put {U : List Str} {kvs : List (Key × V)} {n : Nat} (h : DkOk U kvs n) {s : Str} (hs : s ∈ U) (v : V) : DkOk U (putK kvs (Sum.inr s) v) (n + 1) := by
  obtain ⟨os, h1, h2, h3⟩ := h
  have z := keys_put kvs (Sum.inr s) v
  split at z
  · exact ⟨os, z.trans h1, h2, by omega⟩
  · refine ⟨os ++ [s], ?_, fun o ho => ?_, by simp; omega⟩
    · rw [z, h1, List.map_append]
      rfl
    · rcases List.mem_append.mp ho with ho | ho
      · exact h2 o ho
      · rw [List.mem_singleton.mp ho]; exact hs
theorem DkOk.len {U : List Str} {kvs : List (Key × V)} {n : Nat} (h : DkOk U kvs n) : kvs.length ≤ n := by
  obtain ⟨os, h1, h2, h3⟩ := h
  have := congrArg List.length h1
  rw [List.length_map, List.length_map] at this
  omega
/-- what each pair leads to, while it is gathered: lists that H0 does not know -/
def SubB (H0 H : Hp) (skv : List (List Key × V)) (m n : Nat) : Prop := skv.length ≤ m ∧ ∀ k v, valV skv k = some v → ∃ (a : Addr) (ws : List V) (ps : List (Str × Str)), v = .ref a ∧ H0 a = none ∧ H a = some (.lst ws) ∧ TDs NoL H ws (ps.map prD) ∧ (∀ p ∈ ps, p ∈ SU) ∧ ps.length ≤ n
theorem SubB.ch {S : List Addr} {H0 H H' : Hp} {skv : List (List Key × V)} {m n : Nat} (h : SubB H0 H skv m n) (e : Ch S H H') (hS : ∀ z ∈ S, ∀ ws, H z ≠ some (.lst ws)) : SubB H0 H' skv m n := ⟨h.1, fun k v hv => by
  obtain ⟨a, ws, ps, h1, h0, h2, h3, h4⟩ := h.2 k v hv
  exact ⟨a, ws, ps, h1, h0, e.to h2 fun z => hS a z ws h2, h3.p e, h4⟩⟩
/-- a pair more in one of the lists -/
theorem SubB.app {H0 H H' : Hp} {skv : List (List Key × V)} {m n : Nat} {l : Addr} {ws : List V} {ps : List (Str × Str)} {p : Str × Str} {v : V} (h : SubB H0 H skv m n) (hl : H l = some (.lst ws)) (t : TDs NoL H ws (ps.map prD)) (hs : ∀ q ∈ ps, q ∈ SU) (hn : ps.length ≤ n)
    (e : Ch [l] H H') (hl' : H' l = some (.lst (ws ++ [v]))) (tv : TD NoL H' v (prD p)) (hp : p ∈ SU) : SubB H0 H' skv m (n + 1) := ⟨h.1, fun k u hu => by
  obtain ⟨a, us, qs, h1, h0, h2, h3, h4, h5⟩ := h.2 k u hu
  by_cases ha : a = l
  · subst ha
    refine ⟨a, _, ps ++ [p], h1, h0, hl', ?_, fun q hq => ?_, by simp; omega⟩
    · rw [List.map_append]
      exact (t.p e).app (.one tv)
    · rcases List.mem_append.mp hq with hq | hq
      · exact hs q hq
      · rw [List.mem_singleton.mp hq]; exact hp
  · exact ⟨a, us, qs, h1, h0, e.at1 h2 ha, h3.p e, h4, by omega⟩⟩
/-- setdefault: the list that stands, or the new one -/
theorem dset_cases {H0 H3 : Hp} {a z : Addr} {skv : List (List Key × V)} {k : List Key} {m n : Nat} {Q : VK} (ha : H3 a = some (.dT skv)) (hz : H3 z = some (.lst [])) (h0 : H0 z = none) (hb : SubB H0 H3 skv m n)
    (h : ∀ H9 skv' l ws (ps : List (Str × Str)), Ch [a] H3 H9 → H9 a = some (.dT skv') → SubB H0 H9 skv' (m + 1) n → H0 l = none → H9 l = some (.lst ws) → TDs NoL H9 ws (ps.map prD) → (∀ q ∈ ps, q ∈ SU) → ps.length ≤ n → Q (.ref l) H9) :
    (∀ v, valV skv k = some v → Q v H3) ∧ (valV skv k = none → Q (.ref z) (upd H3 a (.dT (putK skv k (.ref z))))) := by
  refine ⟨fun v hv => ?_, fun hn => ?_⟩
  · obtain ⟨l, ws, ps, rfl, y0, y1, y2, y3, y4⟩ := hb.2 k v hv
    exact h H3 skv l ws ps (Ch.refl _ _) ha ⟨by have := hb.1; omega, hb.2⟩ y0 y1 y2 y3 y4
  · generalize hH9 : upd H3 a _ = H9
    obtain ⟨e9, h9⟩ := chO ha (by trivial) hH9
    clear hH9
    have nza : z ≠ a := fun q => by rw [q, ha] at hz; cases hz
    refine h H9 _ z [] [] e9 h9 ⟨?_, fun j v hv => ?_⟩ h0 (e9.at1 hz nza) .nil (fun q hq => nomatch hq) (Nat.zero_le _)
    · have := length_putK skv k (.ref z)
      have := hb.1
      omega
    · rw [valV_put] at hv
      split at hv
      · cases hv
        exact ⟨z, [], [], rfl, h0, e9.at1 hz nza, .nil, fun q hq => (nomatch hq), Nat.zero_le _⟩
      · obtain ⟨l, ws, ps, rfl, y0, y1, y2, y3, y4⟩ := hb.2 j v hv
        exact ⟨l, ws, ps, rfl, y0, e9.at1 y1 (fun q => by rw [q, ha] at y1; cases y1), y2.p e9, y3, y4⟩
theorem ne_o {H : Hp} {x y : Addr} {o u : HO} (h1 : H x = some o) (h2 : H y = some u) (n : o ≠ u) : x ≠ y := fun z => n (Option.some.inj (h1.symm.trans (z ▸ h2)))
theorem exG {H H' H3 : Hp} {L g : Addr} (e : Ch [g] H H') (hL : H L = none) (e3 : Ch [L] H' H3) : Ch [g] H H3 :=
  ((e.mono (S' := [L, g]) fun z hz => List.mem_cons_of_mem _ hz).trans (e3.mono fun z hz => by rw [List.mem_singleton.mp hz]; exact List.mem_cons_self)).drop fun z hz => by
    rcases List.mem_cons.mp hz with rfl | hz
    · exact .inr hL
    · exact .inl hz
section
variable {P : Program} {w : World} {K : PySem.W.Frag} {mg : Str → Option Value} {base : Heap}
abbrev sp_graph_init (K : PySem.W.Frag) : Sp := fun vs H Q _ => ∃ (g dx : Addr) (v0 : V) (l : Addr) (ws : List V) (R : Gr → Bool), vs = [.ref g, v0, .ref l] ∧ H g = some (.ins (He.ga K "Graph") dx []) ∧ TD NoL H v0 scD ∧ H l = some (.lst ws) ∧ TDs NoL H ws ((rb R).map gD) ∧ ∀ H', Ch [g] H H' → Gf K H' g → Q .non H'
abbrev N_Graph_init : List Str := ["self", "schema", "relationships", "objects", "people", "target", "relation", "subject"]
theorem sc_Graph_init : FnScope N_Graph_init ["self", "schema", "relationships"] (defScope s_Graph_init) := ⟨rfl, rfl, rfl, by decide +kernel, rfl, by decide +kernel, by decide +kernel⟩
theorem ok_Graph_init (T : Tx w K mg base) : FnOk P w K mg base CX0 3 (a_Graph_init K) (fd_Graph_init K) ["self", "schema", "relationships"] (sp_graph_init K) := by
  refine T.f_Graph_init.ok sc_Graph_init (fun vs H Q E h => ?_) (fun cdv A outer s H vs Q E hr h => ?_)
  · obtain ⟨g, dx, v0, l, ws, R, rfl, _⟩ := h
    rfl
  obtain ⟨g, dx, v0, l, ws, R, rfl, hg, ts, hl, tw, kk⟩ := h
  refine ⟨_, PSs.nox (pss_cons (ps_fld (pv 0) (pv 1) rfl) (pss_cons (ps_fld (pv 0) (pe_call (ok_strata T) (hr.mono (by decide)) rfl T.g_strata T.f_strata.kp T.b_strata .nil pass0 (pa_cons (pv 1) pa_nil)) rfl) (pss_cons (ps_fld (pv 0) pe_dnewT rfl) (pss_cons (ps_set (i := 3) sc_Graph_init.nd rfl (Or.inl rfl) pe_dnewK) (pss_cons (ps_set (i := 4) sc_Graph_init.nd rfl (Or.inl rfl) pe_dnewK) (pss_cons (ps_for PassesOwn.never rfl (pi_list (pv 2)) (pg_tup (n := 3) rfl (pgs_cons (pg_name (i := 5) sc_Graph_init.nd rfl (Or.inl rfl)) (pgs_cons (pg_name (i := 6) sc_Graph_init.nd rfl (Or.inl rfl)) (pgs_cons (pg_name (i := 7) sc_Graph_init.nd rfl (Or.inl rfl)) pgs_nil)))) (pss_cons (ps_expr (pe_bm PySem.F.plainAttrs_list PySem.F.slot_list_append PySem.F.type_list_append mt_append (pe_dsetT (hu_of hr) (pe_fld (pv 0) rfl) (pe_tup (pa_cons (pv 5) (pa_cons (pv 6) pa_nil))) (pe_lst pa_nil) ⟨rfl, rfl, rfl, rfl⟩) (pa_cons (pe_call (ok_split_reference T) (hr.mono (by decide)) rfl T.g_split_reference T.f_split_reference.kp T.b_split_reference .nil pass0 (pa_cons (pv 7) pa_nil)) pa_nil))) (pss_cons (ps_dput (hu_of hr) (pv 3) (pv 5) pe_bl rfl) (pss_cons (ps_dput (hu_of hr) (pv 3) (pe_ix ix_tup (pe_call (ok_split_reference T) (hr.mono (by decide)) rfl T.g_split_reference T.f_split_reference.kp T.b_split_reference .nil pass0 (pa_cons (pv 7) pa_nil)) pe_int (fun _ _ => rfl)) pe_bl rfl) (pss_one (ps_if (pt_cmpR (op_eq) (pe_ix ix_tup (pe_call (ok_split_reference T) (hr.mono (by decide)) rfl T.g_split_reference T.f_split_reference.kp T.b_split_reference .nil pass0 (pa_cons (pv 7) pa_nil)) pe_int (fun _ _ => rfl)) pe_str (nomark _)) (pss_one (ps_dput (hu_of hr) (pv 4) (pv 7) pe_bl rfl)) pss_nil)))))) (pss_cons (ps_fld (pv 0) (pe_callB (call_sortedD rfl) (by rfl) T.n_sorted (by decide +kernel) (pa_cons (pv 3) pa_nil)) rfl) (pss_one (ps_fld (pv 0) (pe_callB (call_sortedD rfl) (by rfl) T.n_sorted (by decide +kernel) (pa_cons (pv 4) pa_nil)) rfl))))))))), ?_⟩
  have hrl := rb_len R
  have hwl := tw.len
  rw [List.length_map] at hwl
  have nlg : l ≠ g := fun z => by rw [z, hg] at hl; cases hl
  wtm_at "go"
  rename_i H1 c1 g1
  refine ⟨ts.p c1, fun ld H2 e2 hld0 hld => ?_⟩
  have g2 := e2.at g1
  have nld : ld ≠ g := fun z => by rw [z, g1] at hld0; cases hld0
  wtm_at "go"
  rename_i H3 c3 g3 sd H4 hsd e4 h4 H5 c5 g5 od H6 hod e6 h6 pd H7 hpd e7 h7
  have nsd : sd ≠ g := fun z => by rw [z, g3] at hsd; cases hsd
  have C3 : Ch [g] H H3 := (c1.trans e2.wk).trans c3
  have C5 : Ch [g] H H5 := (C3.trans e4.wk).trans c5
  have C7 : Ch [g] H H7 := C5.trans (e6.trans e7).wk
  have zld : H ld = none := c1.free hld0
  have zsd : H sd = none := C3.free hsd
  have zod : H od = none := C5.free hod
  have zpd : H pd = none := (C5.trans e6.wk).free hpd
  have gS : ∀ {b : Addr} {o : HO}, H b = some o → b ≠ g → NT o → ∀ {H'}, Ch [g] H H' → H' b = some o := fun {b o} h n t {H'} c => c.at1 h n t
  refine ⟨⟨_, sqL_ (gS hl nlg trivial C7)⟩, ?_⟩
  have nsl : sd ≠ ld := fun z => by rw [z, c3.at1 hld nld] at hsd; cases hsd
  have nop : pd ≠ od := fun z => by rw [z, h6] at hpd; cases hpd
  refine forA walk_list tw (fun d σ H' => ∃ skv okv pkv x5 x6 x7, Ch [g] H H' ∧ H' g = some (.ins (He.ga K "Graph") dx [("schema", v0), ("strata", .ref ld), ("subjects", .ref sd)]) ∧ H' ld = some (.dT lvS) ∧ H' sd = some (.dT skv) ∧ SubB H H' skv d.length d.length ∧
    H' od = some (.dK okv) ∧ DkOk obU okv (2 * d.length) ∧ H' pd = some (.dK pkv) ∧ DkOk us3 pkv d.length ∧ σ = [some (.ref g), some v0, some (.ref l), some (.ref od), some (.ref pd), x5, x6, x7]) ?_ ?_ ?_ ?_
  · refine ⟨[], [], [], _, _, _, C7, (e6.trans e7).at g5, (e6.trans e7).at (c5.at1 (e4.at (c3.at1 hld nld)) nld), (e6.trans e7).at (c5.at1 h4 nsd), ⟨Nat.le_refl _, fun k v z => nomatch z⟩, e7.at h6, ⟨[], rfl, fun o z => (nomatch z), Nat.le_refl _⟩, h7, ⟨[], rfl, fun o z => (nomatch z), Nat.le_refl _⟩, rfl⟩
  · rintro d σ H' ⟨skv, okv, pkv, x5, x6, x7, C, _⟩
    exact sqL_ (gS hl nlg trivial C)
  · rintro d gr r v σ H8 ed tv ⟨skv, okv, pkv, x5, x6, x7, C8, g8, l8, s8, sb8, o8, ok8, p8, pk8, rfl⟩
    obtain ⟨b, rfl, hb⟩ := (tv.p C8).g_
    have hgr : gr ∈ URel := (mem_rb.mp (by rw [ed]; simp : gr ∈ rb R)).1
    obtain ⟨u1, u2, u3, u4, u5, u6, u7⟩ := rel_u hgr
    have hdl : d.length < 23 := by
      have := congrArg List.length ed
      simp at this
      omega
    wtm_at "go"
    refine gDSetT ?_
    wtm_at "go"
    refine ⟨.inr ⟨_, .inl s8⟩, ?_⟩
    wtm_at "go"
    rename_i q1 hq1 H9 e9 h9 q2 hq2 H10 e10 h10
    have E10 := e9.trans e10
    refine ⟨skv, pk gr.1 gr.2.1, q1, E10.at s8, rfl, e10.at h9, Nat.lt_of_le_of_lt (by have := sb8.1; omega : _ ≤ 1000) (by decide), dset_cases (H0 := H) (E10.at s8) h10 ((C8.trans e9.wk).free hq2) (sb8.ch E10 (fun z hz => nomatch hz)) fun H11 skv' a ws ps e11 s11 sb11 za y1 y2 y3 y4 => ?_⟩
    refine kq ?_
    have g11 := e11.at1 (E10.at g8) (Ne.symm nsd)
    have l11 := e11.at1 (E10.at l8) (Ne.symm nsl)
    have o11 := e11.at1 (E10.at o8) (ne_o (E10.at o8) (E10.at s8) fun z => nomatch z)
    have p11 := e11.at1 (E10.at p8) (ne_o (E10.at p8) (E10.at s8) fun z => nomatch z)
    wtm_at "go"
    refine ⟨sl_big (by omega), fun q3 H12 e12 hq3 h12 => ?_⟩
    have hwl2 := y2.len
    rw [List.length_map] at hwl2
    have y1' := e12.at y1
    wtm_at "go"
    refine gApp y1' (Nat.lt_of_le_of_lt (by omega : _ ≤ 1000) (by decide)) fun H13 e13 h13 => ?_
    have g13 := e13.at1 (e12.at g11) (ne_o (e12.at g11) y1' fun z => nomatch z)
    have l13 := e13.at1 (e12.at l11) (ne_o (e12.at l11) y1' fun z => nomatch z)
    have s13 := e13.at1 (e12.at s11) (ne_o (e12.at s11) y1' fun z => nomatch z)
    have o13 := e13.at1 (e12.at o11) (ne_o (e12.at o11) y1' fun z => nomatch z)
    have p13 := e13.at1 (e12.at p11) (ne_o (e12.at p11) y1' fun z => nomatch z)
    have sb13 := SubB.app (sb11.ch e12 (fun z hz => nomatch hz)) y1' (y2.e e12) y3 y4 e13 h13 (TD.pr (e13.tup _ _ h12)) u3
    have C13 : Ch [g] H H13 := exG ((exG (C8.trans E10.wk) zsd e11).trans e12.wk) za e13
    clear e13 h13 y1' y1 y2 y3 y4 hwl2 sb11
    have okl := ok8.len
    have pkl := pk8.len
    wtm_at "go"
    refine ⟨od, _, rfl, DPut.k (k := Sum.inr gr.1) o13 (Nat.lt_of_le_of_lt (by omega : _ ≤ 1000) (by decide)), ?_⟩
    generalize hH14 : upd H13 od _ = H14
    obtain ⟨e14, h14⟩ := chO o13 (by trivial) hH14
    clear hH14
    have ok14 := ok8.put u1 (.bl true)
    have okl14 := ok14.len
    wtm_at "go"
    refine ⟨sl_big (by omega), fun q5 H15 e15 hq5 h15 => ?_⟩
    wtm_at "go"
    refine ⟨od, _, rfl, DPut.k (k := Sum.inr (Txt.partition gr.2.2 "#").1) (e15.at h14) (Nat.lt_of_le_of_lt (by omega : _ ≤ 1000) (by decide)), ?_⟩
    generalize hH16 : upd H15 od _ = H16
    obtain ⟨e16, h16⟩ := chO (e15.at h14) (by trivial) hH16
    clear hH16
    have ok16 := ok14.put u2 (.bl true)
    have c16 : Ch [od] H13 H16 := (e14.trans e15.wk).trans e16
    have g16 := c16.at1 g13 (ne_o g13 o13 fun z => nomatch z)
    have l16 := c16.at1 l13 (ne_o l13 o13 fun z => nomatch z)
    have s16 := c16.at1 s13 (ne_o s13 o13 fun z => nomatch z)
    have p16 := c16.at1 p13 nop
    have sb16 := sb13.ch c16 (nolst o13 fun ws z => nomatch z)
    have C16 := exG C13 zod c16
    have hdl1 : (d ++ [gr]).length = d.length + 1 := by simp
    wtm_at "go"
    refine ⟨sl_big (by omega), fun q7 H17 e17 hq7 h17 => ?_⟩
    wtm_at "go"
    refine ifd (fun h => ?_) (fun h => ?_)
    · wtm_at "go"
      refine ⟨pd, _, rfl, DPut.k (k := Sum.inr gr.2.2) (e17.at p16) (Nat.lt_of_le_of_lt (by omega : _ ≤ 1000) (by decide)), ?_⟩
      generalize hH18 : upd H17 pd _ = H18
      obtain ⟨e18, h18⟩ := chO (e17.at p16) (by trivial) hH18
      clear hH18
      have p17 := e17.at p16
      refine ⟨_, _, _, _, _, _, exG (C16.trans e17.wk) zpd e18, e18.at1 (e17.at g16) (ne_o (e17.at g16) p17 fun z => nomatch z), e18.at1 (e17.at l16) (ne_o (e17.at l16) p17 fun z => nomatch z), e18.at1 (e17.at s16) (ne_o (e17.at s16) p17 fun z => nomatch z), ?_, e18.at1 (e17.at h16) (Ne.symm nop), ?_, h18, ?_, rfl⟩
      · rw [hdl1]
        exact (sb16.ch e17 (fun z hz => nomatch hz)).ch e18 (nolst p17 fun ws z => nomatch z)
      · rw [hdl1]
        exact ok16
      · rw [hdl1]
        exact pk8.put (u4 h) _
    · wtm_at "go"
      refine ⟨_, _, _, _, _, _, C16.trans e17.wk, e17.at g16, e17.at l16, e17.at s16, ?_, e17.at h16, ?_, e17.at p16, ?_, rfl⟩
      · rw [hdl1]
        exact sb16.ch e17 (fun z hz => nomatch hz)
      · rw [hdl1]
        exact ok16
      · rw [hdl1]
        obtain ⟨ps, z1, z2, z3⟩ := pk8
        exact ⟨ps, z1, z2, by omega⟩
  · rintro σ H8 ⟨skv, okv, pkv, x5, x6, x7, C8, g8, l8, s8, sb8, o8, ⟨os, ok1, ok2, ok3⟩, p8, ⟨ps, pk1, pk2, pk3⟩, rfl⟩
    wtm_at "go"
    refine ⟨od, okv, os, rfl, .inl o8, ok1, by omega, fun ys ol hperm hso hol => ?_⟩
    generalize hH9 : upd H8 ol _ = H9
    obtain ⟨e9, h9⟩ := exO hol hH9
    clear hH9
    have g9 := e9.at g8
    have p9 := e9.at p8
    have nol : ol ≠ g := fun z => by rw [z, g8] at hol; cases hol
    wtm_at "go"
    rename_i H10 c10 g10
    have p10 := c10.at1 p9 (ne_o p9 g9 fun z => nomatch z)
    refine ⟨pd, pkv, ps, rfl, .inl p10, pk1, by omega, fun zs pl hperm2 hso2 hpl => ?_⟩
    generalize hH11 : upd H10 pl _ = H11
    obtain ⟨e11, h11⟩ := exO hpl hH11
    clear hH11
    have g11 := e11.at g10
    have npl : pl ≠ g := fun z => by rw [z, g10] at hpl; cases hpl
    wtm_at "go"
    rename_i H12 c12 g12
    have C12 : Ch [g] H H12 := (((C8.trans e9.wk).trans c10).trans e11.wk).trans c12
    refine kk _ C12 ⟨dx, v0, ld, sd, ol, pl, skv, ys, zs, g12, ts.p C12, ?_, ?_, fun k v hv => ?_, ?_, fun o ho => ok2 o (hperm.mem_iff.mp ho), ?_, ?_, fun o ho => pk2 o (hperm2.mem_iff.mp ho), ?_⟩
    · exact c12.at1 (e11.at (c10.at1 (e9.at l8) nld)) nld
    · exact c12.at1 (e11.at (c10.at1 (e9.at s8) nsd)) nsd
    · obtain ⟨a, us, qs, y0, y00, y1, y2, y3, y4⟩ := sb8.2 k v hv
      have nag : a ≠ g := ne_o y1 g8 fun z => nomatch z
      exact ⟨a, us, qs, y0, c12.at1 (e11.at (c10.at1 (e9.at y1) nag)) nag, (((y2.p e9).p c10).p e11).p c12, y3, by omega⟩
    · exact c12.at1 (e11.at (c10.at1 h9 nol)) nol
    · have := hperm.length_eq
      omega
    · exact c12.at1 h11 npl
    · have := hperm2.length_eq
      omega
end


theorem pu_uni : (PU.all fun p => us3.all fun u => decide (((p.1, p.2, u) : Gr) ∈ Uni)) = true := by decide +kernel
theorem pu_uni_ {p : Str × Str} {u : Str} (hp : p ∈ PU) (hu : u ∈ us3) : ((p.1, p.2, u) : Gr) ∈ Uni := of_decide_eq_true (List.all_eq_true.mp (List.all_eq_true.mp pu_uni p hp) u hu)
/-- a dict whose keys are grants of the universe -/
def FdOk (fkv : List (List Key × V)) (gs : List Gr) (n : Nat) : Prop := fkv.map (·.1) = gs.map gK ∧ gs.Nodup ∧ (∀ g ∈ gs, g ∈ Uni) ∧ gs.length ≤ n
theorem FdOk.put {fkv : List (List Key × V)} {gs : List Gr} {n : Nat} (h : FdOk fkv gs n) {g : Gr} (hg : g ∈ Uni) (v : V) : ∃ gs', FdOk (putK fkv (gK g) v) gs' (n + 1) := by
  obtain ⟨h1, h2, h3, h4⟩ := h
  have z := keys_put fkv (gK g) v
  have zi : (valV fkv (gK g)).isSome = decide (g ∈ gs) := by
    rw [← valV_any, Bool.eq_iff_iff, List.any_eq_true, decide_eq_true_eq]
    constructor
    · rintro ⟨p, hp, e⟩
      have q : p.1 ∈ fkv.map (·.1) := List.mem_map.mpr ⟨p, hp, rfl⟩
      rw [h1] at q
      obtain ⟨x, hx, e2⟩ := List.mem_map.mp q
      have := gK_inj (e2.trans (of_decide_eq_true e))
      rw [← this]
      exact hx
    · intro hm
      have q : gK g ∈ fkv.map (·.1) := by rw [h1]; exact List.mem_map.mpr ⟨g, hm, rfl⟩
      obtain ⟨p, hp, e⟩ := List.mem_map.mp q
      exact ⟨p, hp, decide_eq_true e⟩
  rw [zi] at z
  by_cases hm : g ∈ gs
  · rw [if_pos (decide_eq_true hm)] at z
    exact ⟨gs, z.trans h1, h2, h3, by omega⟩
  · rw [if_neg (by rw [decide_eq_false hm]; exact Bool.false_ne_true)] at z
    refine ⟨gs ++ [g], ?_, ?_, fun x hx => ?_, by simp; omega⟩
    · rw [z, h1, List.map_append]
      rfl
    · refine List.nodup_append.mpr ⟨h2, by simp, fun a ha b hb => ?_⟩
      rw [List.mem_singleton.mp hb]
      exact fun e => hm (e ▸ ha)
    · rcases List.mem_append.mp hx with hx | hx
      · exact h3 x hx
      · rw [List.mem_singleton.mp hx]; exact hg
theorem FdOk.len {fkv : List (List Key × V)} {gs : List Gr} {n : Nat} (h : FdOk fkv gs n) : fkv.length ≤ n := by
  have := congrArg List.length h.1
  rw [List.length_map, List.length_map] at this
  have := h.2.2.2
  omega
theorem keys_gs {H : Hp} : ∀ {fkv : List (List Key × V)} {gs : List Gr} {bs : List Addr}, fkv.map (·.1) = gs.map gK → IsKeys H fkv bs → TDs NoL H (bs.map V.ref) (gs.map gD) := by
  intro fkv gs bs e ik
  unfold IsKeys at ik
  induction ik generalizing gs with
  | nil =>
    cases gs with
    | nil => exact .nil
    | cons _ _ => cases e
  | @cons p c ps cs h t ih =>
    cases gs with
    | nil => cases e
    | cons g gs =>
      rw [List.map_cons, List.map_cons, List.cons.injEq] at e
      refine .cons (TD.g (x := g.1) (y := g.2.1) (z := g.2.2) ?_) (ih e.2)
      rw [h, e.1]
      rfl
section
variable {P : Program} {w : World} {K : PySem.W.Frag} {mg : Str → Option Value} {base : Heap}
abbrev sp_ranked : Sp := fun vs H Q _ => ∃ (v0 : V) (l : Addr) (ws : List V) (R : Gr → Bool), vs = [v0, .ref l] ∧ TD NoL H v0 scD ∧ H l = some (.lst ws) ∧ TDs NoL H ws ((rb R).map gD) ∧ ∀ (F : Addr) (fkv : List (List Key × V)) (gs : List Gr) H', Ex H H' → H F = none → H' F = some (.dT fkv) → FdOk fkv gs 1000 → Q (.ref F) H'
abbrev N_ranked : List Str := ["schema", "relationships", "graph", "found", "subject", "ranks", "target", "name"]
theorem sc_ranked : FnScope N_ranked ["schema", "relationships"] (defScope s_ranked) := ⟨rfl, rfl, rfl, by decide +kernel, rfl, by decide +kernel, by decide +kernel⟩
theorem ok_ranked (T : Tx w K mg base) : FnOk P w K mg base CX0 7 (a_ranked K) (fd_ranked K) ["schema", "relationships"] sp_ranked := by
  refine T.f_ranked.ok sc_ranked (fun vs H Q E h => ?_) (fun cdv A outer s H vs Q E hr h => ?_)
  · obtain ⟨v0, l, ws, R, rfl, _⟩ := h
    rfl
  obtain ⟨v0, l, ws, R, rfl, ts, hl, tw, kk⟩ := h
  refine ⟨_, PSs.nox (pss_cons (ps_set (i := 2) sc_ranked.nd rfl (Or.inl rfl) (pe_make T.k_Graph (ok_Graph_init T) (hr.mono (by decide)) rfl T.g_Graph T.b_Graph_init .nil pass0 (pa_cons (pv 0) (pa_cons (pv 1) pa_nil)))) (pss_cons (ps_set (i := 3) sc_ranked.nd rfl (Or.inl rfl) pe_dnewT) (pss_cons (ps_for PassesOwn.never rfl (pi_list (pe_fld (pv 2) rfl)) (pg_name (i := 4) sc_ranked.nd rfl (Or.inl rfl)) (pss_cons (ps_set (i := 5) sc_ranked.nd rfl (Or.inl rfl) (pe_call (ok_ranks_for T) (hr.mono (by decide)) rfl T.g_ranks_for T.f_ranks_for.kp T.b_ranks_for .nil pass0 (pa_cons (pv 2) (pa_cons (pv 4) pa_nil)))) (pss_one (ps_lock (ps_for PassesOwn.never rfl (pi_keys (pv 5)) (pg_tup (n := 2) rfl (pgs_cons (pg_name (i := 6) sc_ranked.nd rfl (Or.inl rfl)) (pgs_cons (pg_name (i := 7) sc_ranked.nd rfl (Or.inl rfl)) pgs_nil))) (pss_one (ps_dput (hu_of hr) (pv 3) (pe_tup (pa_cons (pv 6) (pa_cons (pv 7) (pa_cons (pv 4) pa_nil)))) (pe_dget (hu_of hr) (pv 5) (pe_tup (pa_cons (pv 6) (pa_cons (pv 7) pa_nil))) (fun _ _ => rfl)) rfl))))))) (pss_one (ps_ret (pv 3)))))), ?_⟩
  wtm_at "go"
  rename_i g dg hg hdg hne H1 e1 h1
  have hg : H g = none := hg
  refine ⟨g, dg, v0, l, ws, R, rfl, h1, ts.e e1, e1.at hl, tw.e e1, fun H2 c2 hG => ?_⟩
  have E2 : Ex H H2 := exD e1 hg c2
  have hG0 := hG
  obtain ⟨dx, sv, ld, sd, ol, pl, skv, os, ps, h1, h2, h3, h4, h5, h6, h7, h8, h9, h10, h11⟩ := hG
  wtm_at "go"
  rename_i F H3 hF e3 hF3
  have hFH : H F = none := E2.free hF
  refine forA walk_list (TDs.strs (A := NoL) (H := H3) ps) (fun d σ H' => ∃ fkv gs x4 x5 x6 x7, Ch [F] H3 H' ∧ H' F = some (.dT fkv) ∧ FdOk fkv gs (9 * d.length) ∧ σ = [some v0, some (.ref l), some (.ref g), some (.ref F), x4, x5, x6, x7]) ?_ ?_ ?_ ?_
  · exact ⟨[], [], _, _, _, _, Ch.refl _ _, hF3, ⟨rfl, .nil, fun g z => (nomatch z), Nat.zero_le _⟩, rfl⟩
  · rintro d σ H' ⟨fkv, gs, x4, x5, x6, x7, c, _⟩
    exact sqL_ ((exD e3 hF c).at h9)
  · rintro d u r v σ H4 ed tv ⟨fkv, gs, x4, x5, x6, x7, c4, hF4, fd4, rfl⟩
    obtain rfl := tv.str_
    have hu : u ∈ us3 := h10 u (by rw [ed]; simp)
    have hdl : d.length < 60 := by
      have := congrArg List.length ed
      simp at this
      omega
    have hG4 := hG0.ex (exD e3 hF c4)
    wtm_at "go"
    intro R2 rkv H5 e5 hR0 hR hk
    wtm_at "go"
    refine ⟨R2, _, hR, trivial, fun od => ?_⟩
    have nFR : F ≠ R2 := fun z => by rw [← z, hF4] at hR0; cases hR0
    have cl : Ch [R2] H5 (upd H5 R2 (.frz od (.dT rkv))) := Ch.put hR
    have hRL : (upd H5 R2 (.frz od (.dT rkv))) R2 = some (.frz od (.dT rkv)) := upd_same
    refine gFor (gKeys (gVar rfl ⟨R2, od, rfl, .inr ⟨rkv, hRL, ?_⟩⟩))
    refine for_it (walk_keysT (kvs := rkv)) (fun j σ H' => ∃ fkv gs x6 x7, Ch [F] (upd H5 R2 (.frz od (.dT rkv))) H' ∧ H' F = some (.dT fkv) ∧ FdOk fkv gs (9 * d.length + j) ∧ σ = [some v0, some (.ref l), some (.ref g), some (.ref F), some (.str u), some (.ref R2), x6, x7]) ?_ ?_ ?_ ?_
    · exact ⟨fkv, gs, _, _, Ch.refl _ _, cl.at1 (e5.at hF4) nFR, fd4, rfl⟩
    · rintro j σ H' hj ⟨fkv, gs, x6, x7, c, _⟩
      exact c.at1 hRL (Ne.symm nFR)
    · rintro j v σ H7 H6 hj ⟨fkv, gs, x6, x7, c6, hF6, fd6, rfl⟩ ⟨rfl, kx, vx, q, hkx, rfl, hq⟩
      have hmem := List.mem_of_getElem? hkx
      obtain ⟨p, hp, hpk⟩ := hk.2.1 _ hmem
      have hpk : kx = pk p.1 p.2 := hpk
      subst hpk
      have hq' : H6 q = some (.tup [.str p.1, .str p.2]) := hq
      have hR6 := c6.at1 hRL (Ne.symm nFR)
      have hrl := hk.2.2
      have hj9 : j < 9 := Nat.lt_of_lt_of_le hj (by omega)
      obtain ⟨vv, hvv⟩ : ∃ vv, valV rkv (pk p.1 p.2) = some vv := by
        refine Option.isSome_iff_exists.mp ?_
        rw [← valV_any, List.any_eq_true]
        exact ⟨_, hmem, by simp⟩
      wtm_at "go"
      rename_i q1 hq1 H7 e7 g7
      refine ⟨R2, vv, rfl, .inr ⟨rkv, pk p.1 p.2, q1, .inr ⟨od, e7.at hR6⟩, rfl, g7, hvv.symm⟩, ?_⟩
      wtm_at "go"
      rename_i q2 hq2 H8 e8 g8
      have hF8 := e8.at (e7.at hF6)
      refine ⟨F, _, rfl, DPut.t (k := gK (p.1, p.2, u)) hF8 g8 (Nat.lt_of_le_of_lt (by have := fd6.len; omega : _ ≤ 1000) (by decide)), ?_⟩
      generalize hH9 : upd H8 F _ = H9
      obtain ⟨e9, g9⟩ := chO hF8 (by trivial) hH9
      clear hH9
      obtain ⟨gs', fd'⟩ := fd6.put (pu_uni_ hp hu) vv
      exact ⟨_, gs', _, _, (c6.trans (e7.trans e8).wk).trans e9, g9, fd', rfl⟩
    · rintro σ H6 ⟨fkv, gs, x6, x7, c6, hF6, fd6, rfl⟩
      have hR6 := c6.at1 hRL (Ne.symm nFR)
      refine ⟨hR6, ?_⟩
      have c7 : Ch [F] H5 (upd H6 R2 (.dT rkv)) := lockCh hR trivial c6
      have cu : Ch [R2] H6 (upd H6 R2 (.dT rkv)) := Ch.put hR6
      have hrl := hk.2.2
      refine ⟨fkv, gs, _, _, _, _, (c4.trans e5.wk).trans c7, cu.at1 hF6 nFR, ⟨fd6.1, fd6.2.1, fd6.2.2.1, ?_⟩, rfl⟩
      have := fd6.2.2.2
      rw [List.length_append, List.length_singleton]
      omega
  · rintro σ H4 ⟨fkv, gs, x4, x5, x6, x7, c4, hF4, fd4, rfl⟩
    wtm_at "go"
    refine kk F fkv gs _ (exD (E2.trans e3) hFH c4) hFH hF4 ⟨fd4.1, fd4.2.1, fd4.2.2.1, ?_⟩
    have := fd4.2.2.2
    omega
abbrev sp_evaluate : Sp := fun vs H Q _ => ∃ (v0 : V) (l : Addr) (ws : List V) (R : Gr → Bool), vs = [v0, .ref l] ∧ TD NoL H v0 scD ∧ H l = some (.lst ws) ∧ TDs NoL H ws ((rb R).map gD) ∧ ∀ (p : Addr) (us : List V) (S : Gr → Bool) H', Ex H H' → H p = none → H' p = some (.lst us) → TDs NoL H' us ((tb S).map gD) → Q (.ref p) H'
abbrev N_evaluate : List Str := ["schema", "relationships"]
theorem sc_evaluate : FnScope N_evaluate ["schema", "relationships"] (defScope s_evaluate) := ⟨rfl, rfl, rfl, by decide +kernel, rfl, by decide +kernel, by decide +kernel⟩
theorem ok_evaluate (T : Tx w K mg base) : FnOk P w K mg base CX0 8 (a_evaluate K) (fd_evaluate K) ["schema", "relationships"] sp_evaluate := by
  refine T.f_evaluate.ok sc_evaluate (fun vs H Q E h => ?_) (fun cdv A outer s H vs Q E hr h => ?_)
  · obtain ⟨v0, l, ws, R, rfl, _⟩ := h
    rfl
  obtain ⟨v0, l, ws, R, rfl, ts, hl, tw, kk⟩ := h
  refine ⟨_, PSs.nox (pss_cons (ps_expr (pe_call (ok_check_relationships T) (hr.mono (by decide)) rfl T.g_check_relationships T.f_check_relationships.kp T.b_check_relationships .nil pass0 (pa_cons (pv 0) (pa_cons (pv 1) pa_nil)))) (pss_one (ps_ret (pe_callB (cr_sortedDT rfl) (by rfl) T.n_sorted (by decide +kernel) (pa_cons (pe_call (ok_ranked T) (hr.mono (by decide)) rfl T.g_ranked T.f_ranked.kp T.b_ranked .nil pass0 (pa_cons (pv 0) (pa_cons (pv 1) pa_nil))) pa_nil))))), ?_⟩
  wtm_at "go"
  refine ⟨v0, l, ws, R, rfl, ts, hl, tw, fun H1 e1 => ?_⟩
  wtm_at "go"
  refine ⟨v0, l, ws, R, rfl, ts.e e1, e1.at hl, tw.e e1, fun F fkv gs H2 e2 hF0 hF fd => ?_⟩
  wtm_at "go"
  refine ⟨F, fkv, gs.map gL, 3, rfl, .inl hF, ?_, by decide, fun x hx => ?_, fun bs ys p hik hs hb hp => ?_⟩
  · rw [fd.1, List.map_map]
    rfl
  · obtain ⟨g, _, rfl⟩ := List.mem_map.mp hx
    rfl
  · obtain ⟨gs', pm, so, t⟩ := sorted_gs (keys_gs fd.1 hik) hs hb.perm
    have e' : gs' = tb fun g => decide (g ∈ gs) := eq_tb so (pm.nodup_iff.mpr fd.2.1) fun g => by
      rw [pm.mem_iff, decide_eq_true_eq]
      exact ⟨fun h => ⟨fd.2.2.1 g h, h⟩, fun h => h.2⟩
    rw [e'] at t
    exact kk p ys _ _ ((e1.trans e2).trans (Ex.new hp)) ((e1.trans e2).free hp) upd_same (t.e (Ex.new hp))
end


/-! ### primary.py -/
def Rev (K : PySem.W.Frag) (H : Hp) (r : Addr) (R S : Gr → Bool) : Prop := ∃ dx sv rl tl ws us, H r = some (.ins (He.ga K "Revision") dx [("schema", sv), ("relationships", .ref rl), ("table", .ref tl)]) ∧ TD NoL H sv scD ∧
  H rl = some (.lst ws) ∧ TDs NoL H ws ((rb R).map gD) ∧ H tl = some (.lst us) ∧ TDs NoL H us ((tb S).map gD)
theorem Rev.ch {K : PySem.W.Frag} {C : List Addr} {H H' : Hp} {r : Addr} {R S : Gr → Bool} (h : Rev K H r R S) (e : Ch C H H') (hr : r ∉ C) (hS : ∀ z ∈ C, ∀ ws, H z ≠ some (.lst ws)) : Rev K H' r R S := by
  obtain ⟨dx, sv, rl, tl, ws, us, h1, h2, h3, h4, h5, h6⟩ := h
  exact ⟨dx, sv, rl, tl, ws, us, e.to h1 hr, h2.p e, e.to h3 fun z => hS _ z ws h3, h4.p e, e.to h5 fun z => hS _ z us h5, h6.p e⟩
theorem Rev.ex {K : PySem.W.Frag} {H H' : Hp} {r : Addr} {R S : Gr → Bool} (h : Rev K H r R S) (e : Ex H H') : Rev K H' r R S := h.ch e (nmem r) fun z hz => nomatch hz
/-- the store: revisions f to n, the tables T, the last one's relationships R -/
def Prm (K : PySem.W.Frag) (T : Nat → Gr → Bool) (R : Gr → Bool) (H : Hp) (p vl : Addr) (f n : Nat) : Prop := ∃ (dx : Addr) (as : List Addr) (r : Addr), H p = some (.ins (He.ga K "Primary") dx [("name", .str "main"), ("first", .int f), ("revisions", .ref vl)]) ∧
  H vl = some (.lst (as.map V.ref ++ [.ref r])) ∧ f + as.length = n ∧ (∀ i a, as[i]? = some a → ∃ R', Rev K H a R' (T (f + i))) ∧ Rev K H r R (T n)
theorem Prm.ex {K : PySem.W.Frag} {T : Nat → Gr → Bool} {R : Gr → Bool} {H H' : Hp} {p vl : Addr} {f n : Nat} (h : Prm K T R H p vl f n) (e : Ex H H') : Prm K T R H' p vl f n := by
  obtain ⟨dx, as, r, h1, h2, h3, h4, h5⟩ := h
  exact ⟨dx, as, r, e.at h1, e.at h2, h3, fun i a hi => let ⟨R', q⟩ := h4 i a hi; ⟨R', q.ex e⟩, h5.ex e⟩
theorem Prm.congr {K : PySem.W.Frag} {T T' : Nat → Gr → Bool} {R : Gr → Bool} {H : Hp} {p vl : Addr} {f n : Nat} (h : Prm K T R H p vl f n) (e : ∀ k, k ≤ n → T k = T' k) : Prm K T' R H p vl f n := by
  obtain ⟨dx, as, r, h1, h2, h3, h4, h5⟩ := h
  refine ⟨dx, as, r, h1, h2, h3, fun i a hi => ?_, by rw [← e n (Nat.le_refl _)]; exact h5⟩
  obtain ⟨R', q⟩ := h4 i a hi
  have hl := (List.getElem?_eq_some_iff.mp hi).1
  exact ⟨R', by rw [← e (f + i) (by omega)]; exact q⟩
theorem Prm.at_ {K : PySem.W.Frag} {T : Nat → Gr → Bool} {R : Gr → Bool} {H : Hp} {f n : Nat} {as : List Addr} {r : Addr} (h3 : f + as.length = n) (h4 : ∀ i a, as[i]? = some a → ∃ R', Rev K H a R' (T (f + i))) (h5 : Rev K H r R (T n)) {k : Nat} (h1 : f ≤ k) (h2 : k ≤ n) :
    ∃ a R', (as.map V.ref ++ [.ref r])[k - f]? = some (.ref a) ∧ Rev K H a R' (T k) ∧ (k = n → R' = R) := by
  by_cases hk : k = n
  · subst hk
    refine ⟨r, R, ?_, h5, fun _ => rfl⟩
    have e : k - f = (as.map V.ref).length := by rw [List.length_map]; omega
    rw [e]
    simp
  · have hl : k - f < as.length := by omega
    obtain ⟨R', q⟩ := h4 (k - f) as[k - f] (List.getElem?_eq_getElem hl)
    refine ⟨as[k - f], R', ?_, ?_, fun z => absurd z hk⟩
    · rw [List.getElem?_append_left (by rw [List.length_map]; exact hl), List.getElem?_map, List.getElem?_eq_getElem hl]
      rfl
    · rw [show f + (k - f) = k by omega] at q
      exact q
section
variable {P : Program} {w : World} {K : PySem.W.Frag} {mg : Str → Option Value} {base : Heap}
abbrev sp_rev_init (K : PySem.W.Frag) : Sp := fun vs H Q _ => ∃ (r dx : Addr) (v0 : V) (l : Addr) (ws : List V) (gs : List Gr) (R : Gr → Bool), vs = [.ref r, v0, .ref l] ∧ H r = some (.ins (He.ga K "Revision") dx []) ∧ TD NoL H v0 scD ∧ H l = some (.lst ws) ∧ TDs NoL H ws (gs.map gD) ∧ gs.Nodup ∧
  (∀ g, g ∈ gs ↔ g ∈ URel ∧ R g = true) ∧ ∀ S H', Ch [r] H H' → Rev K H' r R S → Q .non H'
abbrev N_Revision_init : List Str := ["self", "schema", "relationships"]
theorem sc_Revision_init : FnScope N_Revision_init ["self", "schema", "relationships"] (defScope s_Revision_init) := ⟨rfl, rfl, rfl, by decide +kernel, rfl, by decide +kernel, by decide +kernel⟩
theorem ok_Revision_init (T : Tx w K mg base) : FnOk P w K mg base CX0 9 (a_Revision_init K) (fd_Revision_init K) ["self", "schema", "relationships"] (sp_rev_init K) := by
  refine T.f_Revision_init.ok sc_Revision_init (fun vs H Q E h => ?_) (fun cdv A outer s H vs Q E hr h => ?_)
  · obtain ⟨r, dx, v0, l, ws, gs, R, rfl, _⟩ := h
    rfl
  obtain ⟨r, dx, v0, l, ws, gs, R, rfl, hr0, ts, hl, tw, hn, hm, kk⟩ := h
  refine ⟨_, PSs.nox (pss_cons (ps_fld (pv 0) (pv 1) rfl) (pss_cons (ps_fld (pv 0) (pe_callB (cr_sortedTS hr) (by rfl) T.n_sorted (by decide +kernel) (pa_cons (pv 2) pa_nil)) rfl) (pss_one (ps_fld (pv 0) (pe_call (ok_evaluate T) (hr.mono (by decide)) rfl T.g_evaluate T.f_evaluate.kp T.b_evaluate .nil pass0 (pa_cons (pv 1) (pa_cons (pe_fld (pv 0) rfl) pa_nil))) rfl)))), ?_⟩
  have nlr : l ≠ r := ne_o hl hr0 fun z => nomatch z
  wtm_at "go"
  rename_i H1 c1 g1
  refine gSortR (S := R) (c1.at1 hl nlr) (tw.p c1) hn hm fun rl H2 us e2 hrl0 hrl tus => ?_
  have g2 := e2.at g1
  have nrl : rl ≠ r := fun z => by rw [z, g1] at hrl0; cases hrl0
  wtm_at "go"
  rename_i H3 c3 g3
  have hrl3 := c3.at1 hrl nrl
  wtm_at "go"
  refine ⟨v0, rl, us, R, rfl, ((ts.p c1).e e2).p c3, hrl3, tus.p c3, fun tl vs S H4 e4 htl0 htl tt => ?_⟩
  have g4 := e4.at g3
  have ntl : tl ≠ r := fun z => by rw [z, g3] at htl0; cases htl0
  wtm_at "go"
  rename_i H5 c5 g5
  have C5 : Ch [r] H H5 := (((c1.trans e2.wk).trans c3).trans e4.wk).trans c5
  exact kk S _ C5 ⟨dx, v0, rl, tl, us, vs, g5, ts.p C5, c5.at1 (e4.at hrl3) nrl, ((tus.p c3).e e4).p c5, c5.at1 htl ntl, tt.p c5⟩
abbrev sp_prm_id (K : PySem.W.Frag) : Sp := fun vs H Q _ => ∃ T R p vl f n, vs = [.ref p] ∧ Prm K T R H p vl f n ∧ Q (.str "main") H
abbrev N_Primary_store_id : List Str := ["self"]
theorem sc_Primary_store_id : FnScope N_Primary_store_id ["self"] (defScope s_Primary_store_id) := ⟨rfl, rfl, rfl, by decide +kernel, rfl, by decide +kernel, by decide +kernel⟩
theorem ok_Primary_store_id (T : Tx w K mg base) : FnOk P w K mg base CX0 1 (a_Primary_store_id K) (fd_Primary_store_id K) ["self"] (sp_prm_id K) := by
  refine T.f_Primary_store_id.ok sc_Primary_store_id (fun vs H Q E h => ?_) (fun cdv A outer s H vs Q E hr h => ?_)
  · obtain ⟨T0, R, p, vl, f, n, rfl, _⟩ := h
    rfl
  obtain ⟨T0, R, p, vl, f, n, rfl, hP, kk⟩ := h
  refine ⟨_, PSs.nox (pss_one (ps_ret (pe_fld (pv 0) rfl))), ?_⟩
  obtain ⟨dx, as, r, h1, h2, h3, h4, h5⟩ := hP
  wtm_at "go"
  exact kk
abbrev sp_prm_rev (K : PySem.W.Frag) : Sp := fun vs H Q _ => ∃ T R p vl f n, vs = [.ref p] ∧ Prm K T R H p vl f n ∧ Q (.int n) H
abbrev N_Primary_revision : List Str := ["self"]
theorem sc_Primary_revision : FnScope N_Primary_revision ["self"] (defScope s_Primary_revision) := ⟨rfl, rfl, rfl, by decide +kernel, rfl, by decide +kernel, by decide +kernel⟩
theorem ok_Primary_revision (T : Tx w K mg base) : FnOk P w K mg base CX0 1 (a_Primary_revision K) (fd_Primary_revision K) ["self"] (sp_prm_rev K) := by
  refine T.f_Primary_revision.ok sc_Primary_revision (fun vs H Q E h => ?_) (fun cdv A outer s H vs Q E hr h => ?_)
  · obtain ⟨T0, R, p, vl, f, n, rfl, _⟩ := h
    rfl
  obtain ⟨T0, R, p, vl, f, n, rfl, hP, kk⟩ := h
  refine ⟨_, PSs.nox (pss_one (ps_ret (pe_op op_sub (pe_op op_add (pe_fld (pv 0) rfl) (pe_callB call_len_seq (by rfl) T.n_len (by decide +kernel) (pa_cons (pe_fld (pv 0) rfl) pa_nil))) pe_int))), ?_⟩
  obtain ⟨dx, as, r, h1, h2, h3, h4, h5⟩ := hP
  wtm_at "go"
  have e : ((f : Nat) : Int) + (((as.map V.ref ++ [V.ref r]).length : Nat) : Int) - 1 = (n : Nat) := by
    rw [List.length_append, List.length_map, List.length_singleton]
    omega
  rw [e]
  exact kk
abbrev sp_prm_old (K : PySem.W.Frag) : Sp := fun vs H Q _ => ∃ T R p vl f n, vs = [.ref p] ∧ Prm K T R H p vl f n ∧ Q (.int f) H
abbrev N_Primary_oldest : List Str := ["self"]
theorem sc_Primary_oldest : FnScope N_Primary_oldest ["self"] (defScope s_Primary_oldest) := ⟨rfl, rfl, rfl, by decide +kernel, rfl, by decide +kernel, by decide +kernel⟩
theorem ok_Primary_oldest (T : Tx w K mg base) : FnOk P w K mg base CX0 1 (a_Primary_oldest K) (fd_Primary_oldest K) ["self"] (sp_prm_old K) := by
  refine T.f_Primary_oldest.ok sc_Primary_oldest (fun vs H Q E h => ?_) (fun cdv A outer s H vs Q E hr h => ?_)
  · obtain ⟨T0, R, p, vl, f, n, rfl, _⟩ := h
    rfl
  obtain ⟨T0, R, p, vl, f, n, rfl, hP, kk⟩ := h
  refine ⟨_, PSs.nox (pss_one (ps_ret (pe_fld (pv 0) rfl))), ?_⟩
  obtain ⟨dx, as, r, h1, h2, h3, h4, h5⟩ := hP
  wtm_at "go"
  exact kk
abbrev sp_prm_tok (K : PySem.W.Frag) : Sp := fun vs H Q _ => ∃ T R p vl f n, vs = [.ref p] ∧ Prm K T R H p vl f n ∧ n ≤ 100 ∧ Q (.str (tokOf "main" n)) H
abbrev N_Primary_token : List Str := ["self"]
theorem sc_Primary_token : FnScope N_Primary_token ["self"] (defScope s_Primary_token) := ⟨rfl, rfl, rfl, by decide +kernel, rfl, by decide +kernel, by decide +kernel⟩
theorem ok_Primary_token (T : Tx w K mg base) : FnOk P w K mg base CX0 2 (a_Primary_token K) (fd_Primary_token K) ["self"] (sp_prm_tok K) := by
  refine T.f_Primary_token.ok sc_Primary_token (fun vs H Q E h => ?_) (fun cdv A outer s H vs Q E hr h => ?_)
  · obtain ⟨T0, R, p, vl, f, n, rfl, _⟩ := h
    rfl
  obtain ⟨T0, R, p, vl, f, n, rfl, hP, hn, kk⟩ := h
  refine ⟨_, PSs.nox (pss_one (ps_ret (pe_call (ok_token_of T) (hr.mono (by decide)) rfl T.g_token_of T.f_token_of.kp T.b_token_of .nil pass0 (pa_cons (pe_fld (pv 0) rfl) (pa_cons (pe_meth0 (pv 0) T.c_Primary T.m_Primary_revision (ok_Primary_revision T) (hr.mono (by decide)) T.b_Primary_revision .nil pass0) pa_nil))))), ?_⟩
  have hP0 := hP
  obtain ⟨dx, as, r, h1, h2, h3, h4, h5⟩ := hP
  wtm_at "go"
  refine ⟨T0, R, p, vl, f, n, rfl, hP0, ?_⟩
  wtm_at "go"
  refine ⟨by omega, ?_⟩
  wtm_at "go"
  exact kk
abbrev sp_prm_room (K : PySem.W.Frag) : Sp := fun vs H Q _ => ∃ T R p vl f n, vs = [.ref p] ∧ Prm K T R H p vl f n ∧ n < 40 ∧ Q .non H
abbrev N_Primary_check_room : List Str := ["self"]
theorem sc_Primary_check_room : FnScope N_Primary_check_room ["self"] (defScope s_Primary_check_room) := ⟨rfl, rfl, rfl, by decide +kernel, rfl, by decide +kernel, by decide +kernel⟩
theorem ok_Primary_check_room (T : Tx w K mg base) : FnOk P w K mg base CX0 2 (a_Primary_check_room K) (fd_Primary_check_room K) ["self"] (sp_prm_room K) := by
  refine T.f_Primary_check_room.ok sc_Primary_check_room (fun vs H Q E h => ?_) (fun cdv A outer s H vs Q E hr h => ?_)
  · obtain ⟨T0, R, p, vl, f, n, rfl, _⟩ := h
    rfl
  obtain ⟨T0, R, p, vl, f, n, rfl, hP, hn, kk⟩ := h
  refine ⟨_, PSs.nox (pss_one (ps_if (pt_cmpR (op_ge) (pe_meth0 (pv 0) T.c_Primary T.m_Primary_revision (ok_Primary_revision T) (hr.mono (by decide)) T.b_Primary_revision .nil pass0) (pe_gint T.i_MOST_REVISIONS) (nomark _)) pss_never pss_nil)), ?_⟩
  have hP0 := hP
  obtain ⟨dx, as, r, h1, h2, h3, h4, h5⟩ := hP
  wtm_at "go"
  refine ⟨T0, R, p, vl, f, n, rfl, hP0, ?_⟩
  wtm_at "go"
  refine blF (decide_eq_false (by omega)) ?_
  wtm_at "go"
  exact kk
abbrev sp_prm_ckrev (K : PySem.W.Frag) : Sp := fun vs H Q _ => ∃ T R p vl f n, ∃ m least : Nat, vs = [.ref p, .int m, .int least] ∧ Prm K T R H p vl f n ∧ least ≤ m ∧ m ≤ n ∧ Q .non H
abbrev N_Primary_check_revision : List Str := ["self", "number", "least"]
theorem sc_Primary_check_revision : FnScope N_Primary_check_revision ["self", "number", "least"] (defScope s_Primary_check_revision) := ⟨rfl, rfl, rfl, by decide +kernel, rfl, by decide +kernel, by decide +kernel⟩
abbrev sp_prm_numat (K : PySem.W.Frag) : Sp := fun vs H Q _ => ∃ T R p vl f n, vs = [.ref p, .str ""] ∧ Prm K T R H p vl f n ∧ Q (.int n) H
abbrev N_Primary_number_at : List Str := ["self", "at", "name", "number"]
theorem sc_Primary_number_at : FnScope N_Primary_number_at ["self", "at"] (defScope s_Primary_number_at) := ⟨rfl, rfl, rfl, by decide +kernel, rfl, by decide +kernel, by decide +kernel⟩
theorem ok_Primary_check_revision (T : Tx w K mg base) : FnOk P w K mg base CX0 2 (a_Primary_check_revision K) (fd_Primary_check_revision K) ["self", "number", "least"] (sp_prm_ckrev K) := by
  refine T.f_Primary_check_revision.ok sc_Primary_check_revision (fun vs H Q E h => ?_) (fun cdv A outer s H vs Q E hr h => ?_)
  · obtain ⟨T0, R, p, vl, f, n, m, least, rfl, _⟩ := h
    rfl
  obtain ⟨T0, R, p, vl, f, n, m, least, rfl, hP, hm1, hm2, kk⟩ := h
  refine ⟨_, PSs.nox (pss_one (ps_if (pt_not (pt_chain (op_le) (op_le) (pv 2) (pv 1) (pe_meth0 (pv 0) T.c_Primary T.m_Primary_revision (ok_Primary_revision T) (hr.mono (by decide)) T.b_Primary_revision .nil pass0))) pss_never pss_nil)), ?_⟩
  have hP0 := hP
  obtain ⟨dx, as, r, h1, h2, h3, h4, h5⟩ := hP
  wtm_at "go"
  refine blT (decide_eq_true (by omega)) ?_
  wtm_at "go"
  refine ⟨T0, R, p, vl, f, n, rfl, hP0, ?_⟩
  wtm_at "go"
  refine blF (by rw [decide_eq_true (by omega)]; rfl) ?_
  wtm_at "go"
  exact kk
theorem ok_Primary_number_at (T : Tx w K mg base) : FnOk P w K mg base CX0 7 (a_Primary_number_at K) (fd_Primary_number_at K) ["self", "at"] (sp_prm_numat K) := by
  refine T.f_Primary_number_at.ok sc_Primary_number_at (fun vs H Q E h => ?_) (fun cdv A outer s H vs Q E hr h => ?_)
  · obtain ⟨T0, R, p, vl, f, n, rfl, _⟩ := h
    rfl
  obtain ⟨T0, R, p, vl, f, n, rfl, hP, kk⟩ := h
  refine ⟨_, PSs.nox (pss_cons (ps_if (pt_cmpR (op_eq) (pv 1) pe_str (nomark _)) (pss_one (ps_ret (pe_meth0 (pv 0) T.c_Primary T.m_Primary_revision (ok_Primary_revision T) (hr.mono (by decide)) T.b_Primary_revision .nil pass0))) pss_nil) (pss_cons (ps_asg (pe_call (ok_split_token T) (hr.mono (by decide)) rfl T.g_split_token T.f_split_token.kp T.b_split_token .nil pass0 (pa_cons (pv 1) pa_nil)) (pg_tup (n := 2) rfl (pgs_cons (pg_name (i := 2) sc_Primary_number_at.nd rfl (Or.inl rfl)) (pgs_cons (pg_name (i := 3) sc_Primary_number_at.nd rfl (Or.inl rfl)) pgs_nil)))) (pss_cons (ps_if (pt_cmpR (op_ne) (pv 2) (pe_fld (pv 0) rfl) (nomark _)) pss_never pss_nil) (pss_cons (ps_expr (pe_meth (pv 0) T.c_Primary T.m_Primary_check_revision (ok_Primary_check_revision T) (hr.mono (by decide)) T.b_Primary_check_revision .nil pass0 (pa_cons (pv 3) (pa_cons (pe_fld (pv 0) rfl) pa_nil)))) (pss_one (ps_ret (pv 3))))))), ?_⟩
  have hP0 := hP
  obtain ⟨dx, as, r, h1, h2, h3, h4, h5⟩ := hP
  wtm_at "gob"
  refine ⟨T0, R, p, vl, f, n, rfl, hP0, ?_⟩
  wtm_at "gob"
  exact kk
abbrev sp_prm_at (K : PySem.W.Frag) : Sp := fun vs H Q _ => ∃ T R p vl f n, ∃ k : Nat, vs = [.ref p, .int k] ∧ Prm K T R H p vl f n ∧ f ≤ k ∧ k ≤ n ∧ ∀ a R', Rev K H a R' (T k) → (k = n → R' = R) → Q (.ref a) H
abbrev N_Primary_at_number : List Str := ["self", "number"]
theorem sc_Primary_at_number : FnScope N_Primary_at_number ["self", "number"] (defScope s_Primary_at_number) := ⟨rfl, rfl, rfl, by decide +kernel, rfl, by decide +kernel, by decide +kernel⟩
theorem ok_Primary_at_number (T : Tx w K mg base) : FnOk P w K mg base CX0 1 (a_Primary_at_number K) (fd_Primary_at_number K) ["self", "number"] (sp_prm_at K) := by
  refine T.f_Primary_at_number.ok sc_Primary_at_number (fun vs H Q E h => ?_) (fun cdv A outer s H vs Q E hr h => ?_)
  · obtain ⟨T0, R, p, vl, f, n, k, rfl, _⟩ := h
    rfl
  obtain ⟨T0, R, p, vl, f, n, k, rfl, hP, hk1, hk2, kk⟩ := h
  refine ⟨_, PSs.nox (pss_one (ps_ret (pe_ix ix_list (pe_fld (pv 0) rfl) (pe_op op_sub (pv 1) (pe_fld (pv 0) rfl)) (fun _ _ => rfl)))), ?_⟩
  obtain ⟨dx, as, r, h1, h2, h3, h4, h5⟩ := hP
  obtain ⟨a, R', q1, q2, q3⟩ := Prm.at_ h3 h4 h5 hk1 hk2
  wtm_at "go"
  refine gIxL h2 (v := .ref a) ?_ (kk a R' q2 q3)
  rw [show ((k : Nat) : Int) - ((f : Nat) : Int) = ((k - f : Nat) : Int) by omega]
  exact atI_nat q1
abbrev sp_prm_rels (K : PySem.W.Frag) : Sp := fun vs H Q _ => ∃ T R p vl f n, vs = [.ref p, .str ""] ∧ Prm K T R H p vl f n ∧ ∀ l ws H', Ex H H' → H l = none → H' l = some (.lst ws) → TDs NoL H' ws ((rb R).map gD) → Q (.ref l) H'
abbrev N_Primary_relationships : List Str := ["self", "at"]
theorem sc_Primary_relationships : FnScope N_Primary_relationships ["self", "at"] (defScope s_Primary_relationships) := ⟨rfl, rfl, rfl, by decide +kernel, rfl, by decide +kernel, by decide +kernel⟩
theorem ok_Primary_relationships (T : Tx w K mg base) : FnOk P w K mg base CX0 8 (a_Primary_relationships K) (fd_Primary_relationships K) ["self", "at"] (sp_prm_rels K) := by
  refine T.f_Primary_relationships.ok sc_Primary_relationships (fun vs H Q E h => ?_) (fun cdv A outer s H vs Q E hr h => ?_)
  · obtain ⟨T0, R, p, vl, f, n, rfl, _⟩ := h
    rfl
  obtain ⟨T0, R, p, vl, f, n, rfl, hP, kk⟩ := h
  refine ⟨_, PSs.nox (pss_one (ps_ret (pe_callTy call_list_of (by rfl) T.n_list (by decide +kernel) (pa_cons (pe_fld (pe_meth (pv 0) T.c_Primary T.m_Primary_at_number (ok_Primary_at_number T) (hr.mono (by decide)) T.b_Primary_at_number .nil pass0 (pa_cons (pe_meth (pv 0) T.c_Primary T.m_Primary_number_at (ok_Primary_number_at T) (hr.mono (by decide)) T.b_Primary_number_at .nil pass0 (pa_cons (pv 1) pa_nil)) pa_nil)) rfl) pa_nil)))), ?_⟩
  have hP0 := hP
  obtain ⟨dx, as, r, h1, h2, h3, h4, h5⟩ := hP
  have hfn : f ≤ n := by omega
  wtm_at "go"
  refine ⟨T0, R, p, vl, f, n, rfl, hP0, ?_⟩
  wtm_at "go"
  refine ⟨T0, R, p, vl, f, n, n, rfl, hP0, hfn, Nat.le_refl _, fun a R' hR e => ?_⟩
  obtain rfl := e rfl
  obtain ⟨dx', sv, rl, tl, ws, us, g1, g2, g3, g4, g5, g6⟩ := hR
  wtm_at "go"
  rename_i l hl H1 e1 h1
  exact kk l ws _ e1 hl h1 (g4.e e1)
abbrev sp_prm_grants (K : PySem.W.Frag) : Sp := fun vs H Q _ => ∃ T R p vl f n, vs = [.ref p, .str ""] ∧ Prm K T R H p vl f n ∧ ∀ l ws H', Ex H H' → H l = none → H' l = some (.lst ws) → TDs NoL H' ws ((tb (T n)).map gD) → Q (.ref l) H'
abbrev N_Primary_grants : List Str := ["self", "at"]
theorem sc_Primary_grants : FnScope N_Primary_grants ["self", "at"] (defScope s_Primary_grants) := ⟨rfl, rfl, rfl, by decide +kernel, rfl, by decide +kernel, by decide +kernel⟩
theorem ok_Primary_grants (T : Tx w K mg base) : FnOk P w K mg base CX0 8 (a_Primary_grants K) (fd_Primary_grants K) ["self", "at"] (sp_prm_grants K) := by
  refine T.f_Primary_grants.ok sc_Primary_grants (fun vs H Q E h => ?_) (fun cdv A outer s H vs Q E hr h => ?_)
  · obtain ⟨T0, R, p, vl, f, n, rfl, _⟩ := h
    rfl
  obtain ⟨T0, R, p, vl, f, n, rfl, hP, kk⟩ := h
  refine ⟨_, PSs.nox (pss_one (ps_ret (pe_callTy call_list_of (by rfl) T.n_list (by decide +kernel) (pa_cons (pe_fld (pe_meth (pv 0) T.c_Primary T.m_Primary_at_number (ok_Primary_at_number T) (hr.mono (by decide)) T.b_Primary_at_number .nil pass0 (pa_cons (pe_meth (pv 0) T.c_Primary T.m_Primary_number_at (ok_Primary_number_at T) (hr.mono (by decide)) T.b_Primary_number_at .nil pass0 (pa_cons (pv 1) pa_nil)) pa_nil)) rfl) pa_nil)))), ?_⟩
  have hP0 := hP
  obtain ⟨dx, as, r, h1, h2, h3, h4, h5⟩ := hP
  have hfn : f ≤ n := by omega
  wtm_at "go"
  refine ⟨T0, R, p, vl, f, n, rfl, hP0, ?_⟩
  wtm_at "go"
  refine ⟨T0, R, p, vl, f, n, n, rfl, hP0, hfn, Nat.le_refl _, fun a R' hR e => ?_⟩
  obtain ⟨dx', sv, rl, tl, ws, us, g1, g2, g3, g4, g5, g6⟩ := hR
  wtm_at "go"
  rename_i l hl H1 e1 h1
  exact kk l us _ e1 hl h1 (g6.e e1)
abbrev sp_prm_snap (K : PySem.W.Frag) : Sp := fun vs H Q _ => ∃ T R p vl f n, vs = [.ref p, .str ""] ∧ Prm K T R H p vl f n ∧ ∀ v H', Ex H H' → TD (Fr H) H' v (snD n (tb (T n))) → Q v H'
abbrev N_Primary_snapshot : List Str := ["self", "at", "number"]
theorem sc_Primary_snapshot : FnScope N_Primary_snapshot ["self", "at"] (defScope s_Primary_snapshot) := ⟨rfl, rfl, rfl, by decide +kernel, rfl, by decide +kernel, by decide +kernel⟩
theorem ok_Primary_snapshot (T : Tx w K mg base) : FnOk P w K mg base CX0 8 (a_Primary_snapshot K) (fd_Primary_snapshot K) ["self", "at"] (sp_prm_snap K) := by
  refine T.f_Primary_snapshot.ok sc_Primary_snapshot (fun vs H Q E h => ?_) (fun cdv A outer s H vs Q E hr h => ?_)
  · obtain ⟨T0, R, p, vl, f, n, rfl, _⟩ := h
    rfl
  obtain ⟨T0, R, p, vl, f, n, rfl, hP, kk⟩ := h
  refine ⟨_, PSs.nox (pss_cons (ps_set (i := 2) sc_Primary_snapshot.nd rfl (Or.inl rfl) (pe_meth (pv 0) T.c_Primary T.m_Primary_number_at (ok_Primary_number_at T) (hr.mono (by decide)) T.b_Primary_number_at .nil pass0 (pa_cons (pv 1) pa_nil))) (pss_one (ps_ret (pe_tup (pa_cons (pe_fld (pv 0) rfl) (pa_cons (pv 2) (pa_cons (pe_callTy call_list_of (by rfl) T.n_list (by decide +kernel) (pa_cons (pe_fld (pe_meth (pv 0) T.c_Primary T.m_Primary_at_number (ok_Primary_at_number T) (hr.mono (by decide)) T.b_Primary_at_number .nil pass0 (pa_cons (pv 2) pa_nil)) rfl) pa_nil)) pa_nil))))))), ?_⟩
  have hfn : f ≤ n := by
    obtain ⟨dx, as, r, h1, h2, h3, h4, h5⟩ := hP
    omega
  have hP0 := hP
  obtain ⟨dx, as, r, h1, h2, h3, h4, h5⟩ := hP
  wtm_at "go"
  refine ⟨T0, R, p, vl, f, n, rfl, hP0, ?_⟩
  wtm_at "go"
  refine ⟨T0, R, p, vl, f, n, n, rfl, hP0, hfn, Nat.le_refl _, fun a R' hR e => ?_⟩
  obtain ⟨dx', sv, rl, tl, ws, us, g1, g2, g3, g4, g5, g6⟩ := hR
  wtm_at "go"
  rename_i l hl H1 e1 z1 q hq H2 e2 z2
  exact kk _ _ (e1.trans e2) (TD.sn z2 (e2.at z1) hl ((g6.e e1).e e2))
abbrev sp_prm_entry (K : PySem.W.Frag) : Sp := fun vs H Q _ => ∃ T R p vl f n, ∃ k : Nat, vs = [.ref p, .int k] ∧ Prm K T R H p vl f n ∧ f + 1 ≤ k ∧ k ≤ n ∧ ∀ v H', Ex H H' → TD (Fr H) H' v (enD (enT T k)) → Q v H'
abbrev N_Primary_entry : List Str := ["self", "number", "gained", "lost"]
theorem sc_Primary_entry : FnScope N_Primary_entry ["self", "number"] (defScope s_Primary_entry) := ⟨rfl, rfl, rfl, by decide +kernel, rfl, by decide +kernel, by decide +kernel⟩
theorem ok_Primary_entry (T : Tx w K mg base) : FnOk P w K mg base CX0 3 (a_Primary_entry K) (fd_Primary_entry K) ["self", "number"] (sp_prm_entry K) := by
  refine T.f_Primary_entry.ok sc_Primary_entry (fun vs H Q E h => ?_) (fun cdv A outer s H vs Q E hr h => ?_)
  · obtain ⟨T0, R, p, vl, f, n, k, rfl, _⟩ := h
    rfl
  obtain ⟨T0, R, p, vl, f, n, k, rfl, hP, hk1, hk2, kk⟩ := h
  refine ⟨_, PSs.nox (pss_cons (ps_expr (pe_meth (pv 0) T.c_Primary T.m_Primary_check_revision (ok_Primary_check_revision T) (hr.mono (by decide)) T.b_Primary_check_revision .nil pass0 (pa_cons (pv 1) (pa_cons (pe_op op_add (pe_fld (pv 0) rfl) pe_int) pa_nil)))) (pss_cons (ps_asg (pe_call (ok_difference T) (hr.mono (by decide)) rfl T.g_difference T.f_difference.kp T.b_difference .nil pass0 (pa_cons (pe_fld (pe_meth (pv 0) T.c_Primary T.m_Primary_at_number (ok_Primary_at_number T) (hr.mono (by decide)) T.b_Primary_at_number .nil pass0 (pa_cons (pe_op op_sub (pv 1) pe_int) pa_nil)) rfl) (pa_cons (pe_fld (pe_meth (pv 0) T.c_Primary T.m_Primary_at_number (ok_Primary_at_number T) (hr.mono (by decide)) T.b_Primary_at_number .nil pass0 (pa_cons (pv 1) pa_nil)) rfl) pa_nil))) (pg_tup (n := 2) rfl (pgs_cons (pg_name (i := 2) sc_Primary_entry.nd rfl (Or.inl rfl)) (pgs_cons (pg_name (i := 3) sc_Primary_entry.nd rfl (Or.inl rfl)) pgs_nil)))) (pss_one (ps_ret (pe_tup (pa_cons (pe_fld (pv 0) rfl) (pa_cons (pv 1) (pa_cons (pv 2) (pa_cons (pv 3) pa_nil))))))))), ?_⟩
  have hP0 := hP
  obtain ⟨dx, as, r, h1, h2, h3, h4, h5⟩ := hP
  wtm_at "go"
  refine ⟨T0, R, p, vl, f, n, k, f + 1, rfl, hP0, by omega, hk2, ?_⟩
  wtm_at "go"
  refine ⟨T0, R, p, vl, f, n, k - 1, ?_, hP0, by omega, by omega, fun a R1 hR1 _ => ?_⟩
  · rw [show ((k : Nat) : Int) - 1 = ((k - 1 : Nat) : Int) by omega]
  obtain ⟨dx1, sv1, rl1, tl1, ws1, us1, a1, a2, a3, a4, a5, a6⟩ := hR1
  wtm_at "go"
  refine ⟨T0, R, p, vl, f, n, k, rfl, hP0, by omega, by omega, fun b R2 hR2 _ => ?_⟩
  obtain ⟨dx2, sv2, rl2, tl2, ws2, us2, b1, b2, b3, b4, b5, b6⟩ := hR2
  wtm_at "go"
  refine ⟨tl1, tl2, us1, us2, T0 (k - 1), T0 k, rfl, a5, b5, a6, b6, fun q q1 q2 u1 u2 H1 e1 hq hq1 hq2 hu1 hu2 t1 t2 => ?_⟩
  have hp1 := e1.at h1
  wtm_at "go"
  rename_i z hz H2 e2 hz2
  exact kk _ _ (e1.trans e2) (TD.en (e := enT T0 k) hz2 (e2.at hu1) hq1 (t1.e e2) (e2.at hu2) hq2 (t2.e e2))
abbrev sp_prm_compact (K : PySem.W.Frag) : Sp := fun vs H Q _ => ∃ T R p vl f n, ∃ m : Nat, vs = [.ref p, .int m] ∧ Prm K T R H p vl f n ∧ f ≤ m ∧ m ≤ n ∧ ∀ vl' H', Ch [p] H H' → Prm K T R H' p vl' m n → Q .non H'
abbrev N_Primary_compact : List Str := ["self", "number"]
theorem sc_Primary_compact : FnScope N_Primary_compact ["self", "number"] (defScope s_Primary_compact) := ⟨rfl, rfl, rfl, by decide +kernel, rfl, by decide +kernel, by decide +kernel⟩
theorem ok_Primary_compact (T : Tx w K mg base) : FnOk P w K mg base CX0 3 (a_Primary_compact K) (fd_Primary_compact K) ["self", "number"] (sp_prm_compact K) := by
  refine T.f_Primary_compact.ok sc_Primary_compact (fun vs H Q E h => ?_) (fun cdv A outer s H vs Q E hr h => ?_)
  · obtain ⟨T0, R, p, vl, f, n, m, rfl, _⟩ := h
    rfl
  obtain ⟨T0, R, p, vl, f, n, m, rfl, hP, hm1, hm2, kk⟩ := h
  refine ⟨_, PSs.nox (pss_cons (ps_expr (pe_meth (pv 0) T.c_Primary T.m_Primary_check_revision (ok_Primary_check_revision T) (hr.mono (by decide)) T.b_Primary_check_revision .nil pass0 (pa_cons (pv 1) (pa_cons (pe_fld (pv 0) rfl) pa_nil)))) (pss_cons (ps_fld (pv 0) (pe_slice sl_list (pe_fld (pv 0) rfl) (po_some (pe_op op_sub (pv 1) (pe_fld (pv 0) rfl))) po_none) rfl) (pss_one (ps_fld (pv 0) (pv 1) rfl)))), ?_⟩
  have hP0 := hP
  obtain ⟨dx, as, r, h1, h2, h3, h4, h5⟩ := hP
  wtm_at "go"
  refine ⟨T0, R, p, vl, f, n, m, f, rfl, hP0, hm1, hm2, ?_⟩
  wtm_at "go"
  rename_i vl' H1 hvl e1 hv1 H2 c2 g2 H3 c3 g3
  have C3 : Ch [p] H H3 := (e1.wk.trans c2).trans c3
  have npv : vl' ≠ p := fun z => by rw [z, h1] at hvl; cases hvl
  have ecut : cutV (as.map V.ref ++ [V.ref r]) (some (((m : Nat) : Int) - ((f : Nat) : Int))) none = (as.drop (m - f)).map V.ref ++ [V.ref r] := by
    rw [show ((m : Nat) : Int) - ((f : Nat) : Int) = ((m - f : Nat) : Int) by omega, cut_from _ (by simp; omega), List.drop_append_of_le_length (by rw [List.length_map]; omega), List.map_drop]
  rw [ecut] at hv1
  have hS : ∀ z ∈ [p], ∀ ws, H z ≠ some (.lst ws) := nolst h1 fun ws z => nomatch z
  have nrp : ∀ {a R S}, Rev K H a R S → a ∉ [p] := fun {a R S} q z => by
    obtain ⟨dx', sv, rl, tl, ws, us, g1, _⟩ := q
    rw [List.mem_singleton.mp z, h1] at g1
    injection Option.some.inj g1 with _ _ q
    exact absurd (Prod.mk.inj (List.cons.inj q).1).1 (by decide)
  refine kk vl' _ C3 ⟨dx, as.drop (m - f), r, g3, c3.at1 (c2.at1 hv1 npv) npv, by rw [List.length_drop]; omega, fun i a hi => ?_, h5.ch C3 (nrp h5) hS⟩
  rw [List.getElem?_drop] at hi
  obtain ⟨R', q⟩ := h4 _ a hi
  rw [show f + (m - f + i) = m + i by omega] at q
  exact ⟨R', q.ch C3 (nrp q) hS⟩
end


theorem gNotInG {K : PySem.W.Frag} {H : Hp} {Q : VK} {b l : Addr} {g : Gr} {ws : List V} {gs : List Gr} (hb : H b = some (.tup [.str g.1, .str g.2.1, .str g.2.2])) (hl : H l = some (.lst ws)) (tg : TDs NoL H ws (gs.map gD)) (fg : Fine 1 (gD g)) (fs : ∀ x ∈ gs, Fine 1 (gD x))
    (q : Q (.bl (!decide (g ∈ gs))) H) : rNotInD K (.ref b) (.ref l) H Q := by
  refine ⟨gD g, gs.map gD, (TD.g (A := NoL) hb).dp, TD.dp (A := AnyL) (.lst hl trivial tg.no), fg.shaped (by decide), ?_, ?_⟩
  · refine Fine.shaped (n := 2) (fine_lst fun d hd => ?_) (by decide)
    obtain ⟨x, hx, rfl⟩ := List.mem_map.mp hd
    exact fs x hx
  · rw [any_gs]
    exact q
/-- an update as a tuple -/
def upD (u : Str × Gr) : PyData := .tuple [.str u.1, .str u.2.1, .str u.2.2.1, .str u.2.2.2]
theorem TD.up_ {A : Addr → Prop} {H : Hp} {v : V} {u : Str × Gr} (h : TD A H v (upD u)) : ∃ t, v = .ref t ∧ H t = some (.tup [.str u.1, .str u.2.1, .str u.2.2.1, .str u.2.2.2]) := by
  obtain ⟨t, vs, rfl, ht, tt⟩ := TD.tup_ h
  obtain rfl := TDs.strs_ (xs := [u.1, u.2.1, u.2.2.1, u.2.2.2]) tt
  exact ⟨t, rfl, ht⟩
theorem gUp {K : PySem.W.Frag} {H : Hp} {Q : VK} {a : Addr} {k x y z : Str} (h : H a = some (.tup [.str k, .str x, .str y, .str z]))
    (q : ∀ p H2, H p = none → Ex H H2 → H2 p = some (.tup [.str x, .str y, .str z]) → Q (.ref p) H2) : rSlA K (.ref a) (some 1) none H Q :=
  gSlT h (fun q => absurd q.1 (by show ¬ HT.sIx 4 0 (some 1) = 0; decide)) fun p H2 hp e h2 => q p H2 hp e h2
theorem gd_nl (g : Gr) : noLs (gD g) = true := rfl
theorem Rev.ch' {K : PySem.W.Frag} {C : List Addr} {H H' : Hp} {r : Addr} {R S : Gr → Bool} (h : Rev K H r R S) (e : Ch C H H') (hr : r ∉ C) (hS : ∀ z ∈ C, ∀ ws (gs : List Gr), H z = some (.lst ws) → TDs NoL H ws (gs.map gD) → False) : Rev K H' r R S := by
  obtain ⟨dx, sv, rl, tl, ws, us, h1, h2, h3, h4, h5, h6⟩ := h
  exact ⟨dx, sv, rl, tl, ws, us, e.to h1 hr, h2.p e, e.to h3 fun z => hS _ z ws _ h3 h4, h4.p e, e.to h5 fun z => hS _ z us _ h5 h6, h6.p e⟩
def ext (T : Nat → Gr → Bool) (m : Nat) (S : Gr → Bool) : Nat → Gr → Bool := fun k => if k = m then S else T k
section
variable {P : Program} {w : World} {K : PySem.W.Frag} {mg : Str → Option Value} {base : Heap}
abbrev sp_prm_cku (K : PySem.W.Frag) : Sp := fun vs H Q _ => ∃ T R p vl f n ul u kl ws g, ∃ kind : Str, vs = [.ref p, .int 0, .ref ul, .ref kl] ∧ Prm K T R H p vl f n ∧ H ul = some (.lst [.ref u]) ∧ H u = some (.tup [.str kind, .str g.1, .str g.2.1, .str g.2.2]) ∧ H kl = some (.lst ws) ∧ TDs NoL H ws ((rb R).map gD) ∧
  g ∈ URel ∧ (kind = "touch" ∨ kind = "delete" ∧ g ∈ rb R) ∧ ∀ H', Ex H H' → Q .non H'
abbrev N_Primary_check_update : List Str := ["self", "index", "updates", "known", "kind", "relationship", "update"]
theorem sc_Primary_check_update : FnScope N_Primary_check_update ["self", "index", "updates", "known"] (defScope s_Primary_check_update) := ⟨rfl, rfl, rfl, by decide +kernel, rfl, by decide +kernel, by decide +kernel⟩
theorem ok_Primary_check_update (T : Tx w K mg base) : FnOk P w K mg base CX0 4 (a_Primary_check_update K) (fd_Primary_check_update K) ["self", "index", "updates", "known"] (sp_prm_cku K) := by
  refine T.f_Primary_check_update.ok sc_Primary_check_update (fun vs H Q E h => ?_) (fun cdv A outer s H vs Q E hr h => ?_)
  · obtain ⟨T0, R, p, vl, f, n, ul, u, kl, ws, g, kind, rfl, _⟩ := h
    rfl
  obtain ⟨T0, R, p, vl, f, n, ul, u, kl, ws, g, kind, rfl, hP, hul, hu, hkl, tk, hg, hki, kk⟩ := h
  refine ⟨_, PSs.nox (pss_cons (ps_set (i := 4) sc_Primary_check_update.nd rfl (Or.inl rfl) (pe_ix ix_tup (pe_ix ix_list (pv 2) (pv 1) (fun _ _ => rfl)) pe_int (fun _ _ => rfl))) (pss_cons (ps_set (i := 5) sc_Primary_check_update.nd rfl (Or.inl rfl) (pe_slice sl_tupA (pe_ix ix_list (pv 2) (pv 1) (fun _ _ => rfl)) (po_some pe_int) po_none)) (pss_cons (ps_if (pt_not (pt_val (pe_call (ok_conforms T) (hr.mono (by decide)) rfl T.g_conforms T.f_conforms.kp T.b_conforms .nil pass0 (pa_cons (pe_fld (pe_ix ix_list (pe_fld (pv 0) rfl) (pe_un un_neg pe_int) (fun _ _ => rfl)) rfl) (pa_cons (pv 5) pa_nil))))) pss_never pss_nil) (pss_cons (ps_if (pt_cmpR (op_inD (hu_w hr)) (pv 5) (pe_lc (own := [("update", 6)]) rfl sc_Primary_check_update.nd (pi_list (pe_slice sl_list (pv 2) po_none (po_some (pv 1)))) (blkOk_by (own := [("update", 6)]) (N := N_Primary_check_update) (sc := defScope s_Primary_check_update) (by decide +kernel)) (fun _ _ _ _ _ => (pg_name (i := 6) sc_Primary_check_update.nd rfl (Or.inl rfl))) (fun _ _ _ _ _ => pts_nil) (fun _ _ _ _ _ => (pe_slice (sl_tupAK (K := K) rfl) (pv 6) (po_some pe_int) po_none))) (by rfl)) pss_never pss_nil) (pss_cons (ps_if (PW.pt (pw_and (pt_cmpR (op_eq) (pv 4) pe_str (nomark _)) (pw_and1 (pt_cmpR (op_inD (hu_w hr)) (pv 5) (pv 3) (by rfl))))) pss_never pss_nil) (pss_one (ps_if (PW.pt (pw_and (pt_cmpR (op_eq) (pv 4) pe_str (nomark _)) (pw_and1 (pt_cmpR (op_notInD (hu_w hr)) (pv 5) (pv 3) (by rfl))))) pss_never pss_nil))))))), ?_⟩
  have hP0 := hP
  obtain ⟨dx, as, r, h1, h2, h3, h4, h5⟩ := hP
  obtain ⟨dx', sv, rl, tl, ws1, us1, g1, g2, g3, g4, g5, g6⟩ := h5
  wtm_at "go"
  refine gUp hu fun rp H1 hrp e1 z1 => ?_
  have p1 := e1.at h1
  wtm_at "go"
  refine gIxL (e1.at h2) atI_last ?_
  have r1 := e1.at g1
  wtm_at "go"
  refine ⟨sv, rp, g, rfl, g2.e e1, z1, hg, fun H2 e2 => ?_⟩
  have ul2 := e2.at (e1.at hul)
  wtm_at "gob"
  refine gLc ?_
  wtm_at "goc"
  rename_i q H3 hq e3 hq3
  have hq3 : H3 q = some (.lst []) := hq3
  intro D hD
  refine lcA (xs := ([] : List Gr)) (enc := gD) (f := gD) (p := fun _ => true) (vs := []) walk_list (.nil : TDs NoL H3 [] []) (Nat.zero_le _) hD (fun H' e => sqL_ (e.at hq3)) (fun i p v H4 P P0 hx tv e4 k1 k0 => nomatch hx) (fun H4 ys e4 hy ty => ?_)
  have ty0 : ys = [] := ty.nil_
  subst ty0
  have E4 : Ex H1 H4 := (e2.trans e3).trans e4
  refine ⟨gD g, [], (TD.g (A := NoL) (E4.at z1)).dp, TD.dp (A := AnyL) (.lst hy trivial .nil), (fine_r hg).shaped (by decide), by decide, ?_⟩
  wtm_at "gob"
  have E5 : Ex H H4 := e1.trans E4
  have tk4 := tk.e E5
  have hkl4 := E5.at hkl
  have z4 := E4.at z1
  have fr : ∀ x ∈ rb R, Fine 1 (gD x) := fun x hx => fine_r (mem_rb.mp hx).1
  rcases hki with rfl | ⟨rfl, hin⟩
  · wtm_at "gob"
    exact kk _ E5
  · wtm_at "gob"
    refine gNotInG z4 hkl4 tk4 (fine_r hg) fr ?_
    rw [decide_eq_true hin]
    wtm_at "gob"
    exact kk _ E5
abbrev sp_prm_au (K : PySem.W.Frag) : Sp := fun vs H Q _ => ∃ T R p vl f n ul u g, ∃ kind : Str, vs = [.ref p, .ref ul] ∧ Prm K T R H p vl f n ∧ n < 40 ∧ H ul = some (.lst [.ref u]) ∧ H u = some (.tup [.str kind, .str g.1, .str g.2.1, .str g.2.2]) ∧
  g ∈ URel ∧ (kind = "touch" ∨ kind = "delete" ∧ g ∈ rb R) ∧ ∀ r R' S H', Ex H H' → H r = none → Rev K H' r R' S → Q (.ref r) H'
abbrev N_Primary_after_updates : List Str := ["self", "updates", "known", "index", "deleted", "put", "relationships", "update", "relationship"]
theorem sc_Primary_after_updates : FnScope N_Primary_after_updates ["self", "updates"] (defScope s_Primary_after_updates) := ⟨rfl, rfl, rfl, by decide +kernel, rfl, by decide +kernel, by decide +kernel⟩
theorem ok_Primary_after_updates (T : Tx w K mg base) : FnOk P w K mg base CX0 11 (a_Primary_after_updates K) (fd_Primary_after_updates K) ["self", "updates"] (sp_prm_au K) := by
  refine T.f_Primary_after_updates.ok sc_Primary_after_updates (fun vs H Q E h => ?_) (fun cdv A outer s H vs Q E hr h => ?_)
  · obtain ⟨T0, R, p, vl, f, n, ul, u, g, kind, rfl, _⟩ := h
    rfl
  obtain ⟨T0, R, p, vl, f, n, ul, u, g, kind, rfl, hP, hn, hul, hu, hg, hki, kk⟩ := h
  refine ⟨_, PSs.nox (pss_cons (ps_expr (pe_meth0 (pv 0) T.c_Primary T.m_Primary_check_room (ok_Primary_check_room T) (hr.mono (by decide)) T.b_Primary_check_room .nil pass0)) (pss_cons (ps_set (i := 2) sc_Primary_after_updates.nd rfl (Or.inr rfl) (pe_fld (pe_ix ix_list (pe_fld (pv 0) rfl) (pe_un un_neg pe_int) (fun _ _ => rfl)) rfl)) (pss_cons (ps_for PassesOwn.never rfl (pi_range1 (by rfl) T.n_range (pa_cons (pe_callB call_len_seq (by rfl) T.n_len (by decide +kernel) (pa_cons (pv 1) pa_nil)) pa_nil)) (pg_name (i := 3) sc_Primary_after_updates.nd rfl (Or.inl rfl)) (pss_one (ps_expr (pe_meth (pv 0) T.c_Primary T.m_Primary_check_update (ok_Primary_check_update T) (hr.mono (by decide)) T.b_Primary_check_update .nil pass0 (pa_cons (pv 3) (pa_cons (pv 1) (pa_cons (pv 2) pa_nil))))))) (pss_cons (ps_set (i := 4) sc_Primary_after_updates.nd rfl (Or.inr rfl) (pe_lc (own := [("update", 7)]) rfl sc_Primary_after_updates.nd (pi_list (pv 1)) (blkOk_by (own := [("update", 7)]) (N := N_Primary_after_updates) (sc := defScope s_Primary_after_updates) (by decide +kernel)) (fun _ _ _ _ _ => (pg_name (i := 7) sc_Primary_after_updates.nd rfl (Or.inl rfl))) (fun _ _ _ _ _ => pts_one (pt_cmpR (op_eq) (pe_ix (ix_tupK (K := K) rfl) (pv 7) pe_int (fun _ _ => rfl)) pe_str (nomark _))) (fun _ _ _ _ _ => (pe_slice (sl_tupAK (K := K) rfl) (pv 7) (po_some pe_int) po_none)))) (pss_cons (ps_setLc (i := 5) (own := [("update", 7)]) rfl sc_Primary_after_updates.nd rfl rfl (sw_true rfl rfl rfl (by decide +kernel)) (pi_list (pv 1)) (blkOk_by (own := [("update", 7)]) (N := N_Primary_after_updates) (sc := defScope s_Primary_after_updates) (by decide +kernel)) (fun _ _ _ _ _ => (pg_name (i := 7) sc_Primary_after_updates.nd rfl (Or.inl rfl))) (fun _ _ _ _ _ => pts_one (PW.pt (pw_and (pt_cmpR (op_ne) (pe_ix (ix_tupK (K := K) rfl) (pv 7) pe_int (fun _ _ => rfl)) pe_str (nomark _)) (pw_and1 (pt_cmpR (op_notInDK (K := K) rfl (hu_w hr)) (pe_slice (sl_tupAK (K := K) rfl) (pv 7) (po_some pe_int) po_none) (pv 2) (by rfl)))))) (fun _ _ _ _ _ => (pe_slice (sl_tupAK (K := K) rfl) (pv 7) (po_some pe_int) po_none))) (pss_cons (ps_set (i := 6) sc_Primary_after_updates.nd rfl (Or.inl rfl) (pe_op op_cat (pe_lc (own := [("relationship", 8)]) rfl sc_Primary_after_updates.nd (pi_list (pv 2)) (blkOk_by (own := [("relationship", 8)]) (N := N_Primary_after_updates) (sc := defScope s_Primary_after_updates) (by decide +kernel)) (fun _ _ _ _ _ => (pg_name (i := 8) sc_Primary_after_updates.nd rfl (Or.inl rfl))) (fun _ _ _ _ _ => pts_one (pt_cmpR (op_notInDK (K := K) rfl (hu_w hr)) (pv 8) (pv 4) (by rfl))) (fun _ _ _ _ _ => (pv 8))) (pv 5))) (pss_cons (ps_if (pt_cmpR (op_gt) (pe_callB call_len_seq (by rfl) T.n_len (by decide +kernel) (pa_cons (pv 6) pa_nil)) (pe_gint T.i_MOST_RELATIONSHIPS) (nomark _)) pss_never pss_nil) (pss_one (ps_ret (pe_make T.k_Revision (ok_Revision_init T) (hr.mono (by decide)) rfl T.g_Revision T.b_Revision_init .nil pass0 (pa_cons (pe_fld (pe_ix ix_list (pe_fld (pv 0) rfl) (pe_un un_neg pe_int) (fun _ _ => rfl)) rfl) (pa_cons (pv 6) pa_nil)))))))))))), ?_⟩
  have hP0 := hP
  obtain ⟨dx, as, r, h1, h2, h3, h4, h5⟩ := hP
  have h50 := h5
  obtain ⟨dx', sv, rl, tl, ws1, us1, g1, g2, g3, g4, g5, g6⟩ := h5
  wtm_at "go"
  refine ⟨T0, R, p, vl, f, n, rfl, hP0, hn, ?_⟩
  wtm_at "go"
  refine gIxL h2 atI_last ?_
  wtm_at "go"
  have e1l : ((([V.ref u] : List V).length : Nat) : Int) = 1 := rfl
  rw [e1l]
  refine ⟨by decide, by decide, ?_⟩
  refine for_it walk_range (fun i σ H' => ∃ x3 x4 x5 x6 x7 x8, Ex H H' ∧ σ = [some (.ref p), some (.ref ul), some (.ref rl), x3, x4, x5, x6, x7, x8]) ?_ ?_ ?_ ?_
  · exact ⟨_, _, _, _, _, _, Ch.refl _ _, rfl⟩
  · exact fun _ _ _ _ _ => trivial
  · rintro i v σ H1 H2 hi ⟨x3, x4, x5, x6, x7, x8, e1, rfl⟩ ⟨rfl, rfl⟩
    have hi0 : i = 0 := by
      have : i < 1 := hi
      omega
    subst hi0
    have p1 := e1.at h1
    wtm_at "go"
    refine ⟨T0, R, p, vl, f, n, ul, u, rl, ws1, g, kind, rfl, hP0.ex e1, e1.at hul, e1.at hu, e1.at g3, g4.e e1, hg, hki, fun H3 e3 => ?_⟩
    wtm_at "go"
    exact ⟨_, _, _, _, _, _, e1.trans e3, rfl⟩
  · rintro σ H1 ⟨x3, x4, x5, x6, x7, x8, e1, rfl⟩
    have hul1 := e1.at hul
    have tu : TDs NoL H1 [V.ref u] (([(kind, g)] : List (Str × Gr)).map upD) := .cons (.tup (e1.at hu) (.cons (.str _) (.cons (.str _) (.cons (.str _) (.cons (.str _) .nil))))) .nil
    have fr : ∀ x ∈ rb R, Fine 1 (gD x) := fun x hx => fine_r (mem_rb.mp hx).1
    wtm_at "go"
    refine gLc ?_
    wtm_at "goc"
    intro D1 hD1
    refine lcA walk_list tu (Nat.le_of_ble_eq_true rfl) hD1 (fun H' e => sqL_ (e.at hul1)) (fun x => decide (x.1 = ("delete" : Str))) (fun x => gD x.2) (fun i x v H4 P P0 hx tv e4 k1 k0 => ?_) (fun H4 dys e4 hdy tdy => ?_)
    · obtain ⟨q, rfl, hq⟩ := tv.up_
      wtm_at "go"
      refine ⟨rfl, ?_⟩
      wtm_at "go"
      refine ifb (fun h => ?_) (fun h => ?_)
      · wtm_at "go"
        refine gUp hq fun rp H5 hrp e5 z5 => ?_
        exact k1 _ _ e5 (TD.g z5) h
      · exact k0 _ (Ch.refl _ _) h
    generalize hdl : ([(kind, g)] : List (Str × Gr)).filter (fun x => decide (x.1 = ("delete" : Str))) = du at tdy
    have tdy2 : TDs NoL H4 dys ((du.map fun x => x.2).map gD) := by
      rw [List.map_map]
      exact TDs.nlM (fun x => rfl) tdy
    generalize hdg : du.map (fun x => x.2) = dl at tdy2
    have hdU : ∀ x ∈ dl, x ∈ URel := fun x hx => by
      rw [← hdg, ← hdl] at hx
      obtain ⟨y, hy, rfl⟩ := List.mem_map.mp hx
      cases List.mem_singleton.mp (List.mem_filter.mp hy).1
      exact hg
    have hul4 := e4.at hul1
    have tu4 := tu.e e4
    have E4 := e1.trans e4
    wtm_at "go"
    refine gLc ?_
    wtm_at "goc"
    intro D2 hD2
    refine lcA walk_list tu4 (Nat.le_of_ble_eq_true rfl) hD2 (fun H' e => sqL_ (e.at hul4)) (fun x => !decide (x.1 = ("delete" : Str)) && !decide (x.2 ∈ rb R)) (fun x => gD x.2) (fun i x v H5 P P0 hx tv e5 k1 k0 => ?_) (fun H5 pys e5 hpy tpy => ?_)
    · obtain ⟨q, rfl, hq⟩ := tv.up_
      have hxe : x = (kind, g) := List.mem_singleton.mp (List.mem_of_getElem? hx)
      have hgx : x.2 ∈ URel := by rw [hxe]; exact hg
      wtm_at "go"
      refine ⟨rfl, ?_⟩
      wtm_at "go"
      refine ifb (fun h => ?_) (fun h => ?_)
      · wtm_at "go"
        refine gUp hq fun rp H6 hrp e6 z6 => ?_
        wtm_at "go"
        refine gNotInG z6 (e6.at (e5.at (E4.at g3))) (((g4.e E4).e e5).e e6) (fine_r hgx) fr ?_
        wtm_at "go"
        refine ifb (fun h' => ?_) (fun h' => ?_)
        · wtm_at "go"
          refine gUp (e6.at hq) fun rp2 H7 hrp2 e7 z7 => ?_
          exact k1 _ _ (e6.trans e7) (TD.g z7) (by rw [h, h']; rfl)
        · exact k0 _ e6 (by rw [h, h']; rfl)
      · wtm_at "gob"
        exact k0 _ (Ch.refl _ _) (by rw [h]; rfl)
    generalize hpl : ([(kind, g)] : List (Str × Gr)).filter (fun x => !decide (x.1 = ("delete" : Str)) && !decide (x.2 ∈ rb R)) = pu at tpy
    have tpy2 : TDs NoL H5 pys ((pu.map fun x => x.2).map gD) := by
      rw [List.map_map]
      exact TDs.nlM (fun x => rfl) tpy
    have hpu : pu = [] ∨ pu = [(kind, g)] ∧ g ∉ rb R := by
      rw [← hpl, List.filter_cons]
      split
      · rename_i h
        refine .inr ⟨rfl, fun z => ?_⟩
        simp [z] at h
      · exact .inl rfl
    have hpg : pu.map (fun x => x.2) = [] ∨ pu.map (fun x => x.2) = [g] ∧ g ∉ rb R := by
      rcases hpu with h | ⟨h, h'⟩
      · exact .inl (by rw [h]; rfl)
      · exact .inr ⟨by rw [h]; rfl, h'⟩
    generalize hpgl : pu.map (fun x => x.2) = pg at tpy2 hpg
    have E5 := E4.trans e5
    have hdy5 := e5.at hdy
    have tdy5 := tdy2.e e5
    have tk5 := g4.e E5
    wtm_at "go"
    refine list_lc (p := fun x => !decide (x ∈ dl)) (fun R r => gVar rfl r) (E5.at g3) tk5 (Nat.le_trans (rb_len R) (by decide)) (fun _ => rfl) (fun _ => rfl) (fun x b H' RR hx e hb rr => ?_) (fun q H6 ys e6 hq hy ty => ?_)
    · wtm_at "go"
      refine gNotInG hb (e.at hdy5) (tdy5.e e) (fr x hx) (fun y hy => fine_r (hdU y hy)) ?_
      wtm_at "go"
      exact rr
    have tyl := ty.len
    rw [List.length_map] at tyl
    have hfl := List.length_filter_le (fun x => !decide (x ∈ dl)) (rb R)
    have hrl := rb_len R
    have tpl := tpy2.len
    rw [List.length_map] at tpl
    have hpl1 : pg.length ≤ 1 := by
      rcases hpg with h | ⟨h, _⟩
      · rw [h]; decide
      · rw [h]; exact Nat.le_refl _
    wtm_at "go"
    refine gCatL hy (e6.at hpy) (Nat.le_trans (by omega : _ ≤ 100) (by decide)) fun ql H7 e7 h7 => ?_
    have E7 := (E5.trans e6).trans e7
    have t7 : TDs NoL H7 (ys ++ pys) ((((rb R).filter fun x => !decide (x ∈ dl)) ++ pg).map gD) := by
      rw [List.map_append]
      exact (ty.e e7).app ((tpy2.e e6).e e7)
    have p7 := E7.at h1
    wtm_at "go"
    refine blF (decide_eq_false (by rw [List.length_append]; omega)) ?_
    wtm_at "go"
    refine gIxL (E7.at h2) atI_last ?_
    have r7 := E7.at g1
    wtm_at "go"
    rename_i rn drn hrn hdrn hne H8 e8 h8
    have hrn : H7 rn = none := hrn
    refine ⟨rn, drn, sv, ql, _, _, fun x => (R x && !decide (x ∈ dl)) || decide (x ∈ pg), rfl, h8, (g2.e E7).e e8, e8.at h7, t7.e e8, ?_, fun x => ?_, fun S H9 c9 hR9 => ?_⟩
    · refine List.nodup_append.mpr ⟨(rb_nodup R).filter _, ?_, fun a ha b hb => ?_⟩
      · rcases hpg with h | ⟨h, _⟩
        · rw [h]; exact .nil
        · rw [h]; simp
      · rcases hpg with h | ⟨h, hn⟩
        · rw [h] at hb; cases hb
        · rw [h] at hb
          cases List.mem_singleton.mp hb
          exact fun z => hn (z ▸ (List.mem_filter.mp ha).1)
    · rw [List.mem_append, List.mem_filter, mem_rb, Bool.or_eq_true, Bool.and_eq_true, decide_eq_true_eq]
      constructor
      · rintro (⟨⟨a1, a2⟩, a3⟩ | a1)
        · exact ⟨a1, .inl ⟨a2, a3⟩⟩
        · refine ⟨?_, .inr a1⟩
          rcases hpg with h | ⟨h, _⟩
          · rw [h] at a1; cases a1
          · rw [h] at a1
            cases List.mem_singleton.mp a1
            exact hg
      · rintro ⟨a1, (⟨a2, a3⟩ | a2)⟩
        · exact .inl ⟨⟨a1, a2⟩, a3⟩
        · exact .inr a2
    · wtm_at "go"
      exact kk rn _ S H9 (exD (E7.trans e8) (E7.free hrn) c9) (E7.free hrn) hR9
abbrev sp_prm_write (K : PySem.W.Frag) : Sp := fun vs H Q _ => ∃ T R p vl f n ul u g, ∃ kind : Str, vs = [.ref p, .ref ul] ∧ Prm K T R H p vl f n ∧ n < 40 ∧ H ul = some (.lst [.ref u]) ∧ H u = some (.tup [.str kind, .str g.1, .str g.2.1, .str g.2.2]) ∧
  g ∈ URel ∧ (kind = "touch" ∨ kind = "delete" ∧ g ∈ rb R) ∧ ∀ R' S H', Ch [vl] H H' → Prm K (ext T (n + 1) S) R' H' p vl f (n + 1) → Q (.str (tokOf "main" (n + 1))) H'
abbrev N_Primary_write : List Str := ["self", "updates"]
theorem sc_Primary_write : FnScope N_Primary_write ["self", "updates"] (defScope s_Primary_write) := ⟨rfl, rfl, rfl, by decide +kernel, rfl, by decide +kernel, by decide +kernel⟩
theorem ok_Primary_write (T : Tx w K mg base) : FnOk P w K mg base CX0 12 (a_Primary_write K) (fd_Primary_write K) ["self", "updates"] (sp_prm_write K) := by
  refine T.f_Primary_write.ok sc_Primary_write (fun vs H Q E h => ?_) (fun cdv A outer s H vs Q E hr h => ?_)
  · obtain ⟨T0, R, p, vl, f, n, ul, u, g, kind, rfl, _⟩ := h
    rfl
  obtain ⟨T0, R, p, vl, f, n, ul, u, g, kind, rfl, hP, hn, hul, hu, hg, hki, kk⟩ := h
  refine ⟨_, PSs.nox (pss_cons (ps_expr (pe_bm PySem.F.plainAttrs_list PySem.F.slot_list_append PySem.F.type_list_append mt_append (pe_fld (pv 0) rfl) (pa_cons (pe_meth (pv 0) T.c_Primary T.m_Primary_after_updates (ok_Primary_after_updates T) (hr.mono (by decide)) T.b_Primary_after_updates .nil pass0 (pa_cons (pv 1) pa_nil)) pa_nil))) (pss_one (ps_ret (pe_meth0 (pv 0) T.c_Primary T.m_Primary_token (ok_Primary_token T) (hr.mono (by decide)) T.b_Primary_token .nil pass0)))), ?_⟩
  have hP0 := hP
  obtain ⟨dx, as, r, h1, h2, h3, h4, h5⟩ := hP
  have hal : (as.map V.ref ++ [V.ref r]).length = as.length + 1 := by simp
  wtm_at "go"
  refine ⟨T0, R, p, vl, f, n, ul, u, g, kind, rfl, hP0, hn, hul, hu, hg, hki, fun rn R' S H1 e1 hrn hR => ?_⟩
  have v1 := e1.at h2
  have p1 := e1.at h1
  wtm_at "go"
  refine gApp v1 (by rw [hal]; exact Nat.lt_of_le_of_lt (by omega : _ ≤ 100) (by decide)) fun H2 c2 v2 => ?_
  have npv : p ≠ vl := ne_o h1 h2 fun z => nomatch z
  have p2 := c2.at1 p1 npv
  have hS : ∀ z ∈ [vl], ∀ ws (gs : List Gr), H1 z = some (.lst ws) → TDs NoL H1 ws (gs.map gD) → False := fun z hz ws gs q t => by
    rw [List.mem_singleton.mp hz, v1] at q
    cases q
    obtain ⟨g', _, tg⟩ := t.all_ (.ref r) (by simp)
    obtain ⟨b, e, hb⟩ := tg.g_
    cases e
    obtain ⟨dx', sv, rl, tl, ws, us, g1, _⟩ := h5.ex e1
    rw [g1] at hb
    cases hb
  have nrv : ∀ {a R S}, Rev K H1 a R S → a ∉ [vl] := fun {a R S} q z => by
    obtain ⟨dx', sv, rl, tl, ws, us, g1, _⟩ := q
    rw [List.mem_singleton.mp z, v1] at g1
    cases g1
  have hP2 : Prm K (ext T0 (n + 1) S) R' H2 p vl f (n + 1) := by
    refine ⟨dx, as ++ [r], rn, p2, by rw [List.map_append]; exact v2, by rw [List.length_append, List.length_singleton]; omega, fun i a hi => ?_, ?_⟩
    · have hil := (List.getElem?_eq_some_iff.mp hi).1
      rw [List.length_append, List.length_singleton] at hil
      by_cases hil2 : i < as.length
      · rw [List.getElem?_append_left hil2] at hi
        obtain ⟨R2, q⟩ := h4 i a hi
        refine ⟨R2, ?_⟩
        have : ext T0 (n + 1) S (f + i) = T0 (f + i) := if_neg (by omega)
        rw [this]
        exact (q.ex e1).ch' c2 (nrv (q.ex e1)) hS
      · have hie : i = as.length := by omega
        subst hie
        rw [List.getElem?_append_right (Nat.le_refl _), Nat.sub_self] at hi
        cases hi
        refine ⟨R, ?_⟩
        have : ext T0 (n + 1) S (f + as.length) = T0 n := by
          unfold ext
          rw [if_neg (by omega), h3]
        rw [this]
        exact (h5.ex e1).ch' c2 (nrv (h5.ex e1)) hS
    · have : ext T0 (n + 1) S (n + 1) = S := if_pos rfl
      rw [this]
      exact hR.ch' c2 (nrv hR) hS
  wtm_at "go"
  refine ⟨_, R', p, vl, f, n + 1, rfl, hP2, by omega, ?_⟩
  exact kk R' S H2 (e1.wk.trans c2) hP2
end


theorem inV_ints (k : Nat) (ms : List Nat) : inV (V.int (k : Nat)) (intsV ms) = decide (k ∈ ms) := by
  rw [Bool.eq_iff_iff]
  simp only [inV, intsV, List.any_map, List.any_eq_true, Function.comp, eqV, decide_eq_true_eq]
  constructor
  · rintro ⟨x, hx, e⟩
    have : x = k := by
      have e := beq_iff_eq.mp e
      omega
    exact this ▸ hx
  · intro h
    exact ⟨k, h, by simp⟩
theorem flat_ints (ms : List Nat) : (intsV ms).all flatV = true := by
  rw [List.all_eq_true]
  intro v hv
  obtain ⟨m, _, rfl⟩ := List.mem_map.mp hv
  rfl
/-- the revisions that a request misses -/
def missK (m i : Nat) (ms : List Nat) : List Nat := ((List.range i).map fun j => m + 1 + j).filter fun k => !decide (k ∈ ms)
def due (m n : Nat) (ms : List Nat) : List Nat := (missK m (n - m) ms).take 10
theorem missK_mem {m i : Nat} {ms : List Nat} {k : Nat} (h : k ∈ missK m i ms) : m < k ∧ k ≤ m + i := by
  obtain ⟨a, _⟩ := List.mem_filter.mp h
  obtain ⟨j, hj, rfl⟩ := List.mem_map.mp a
  have := List.mem_range.mp hj
  omega
theorem due_mem {m n : Nat} {ms : List Nat} {k : Nat} (h : k ∈ due m n ms) : m < k ∧ k ≤ n := by
  have q := missK_mem (List.mem_of_mem_take h)
  omega
theorem due_len (m n : Nat) (ms : List Nat) : (due m n ms).length ≤ 10 := List.length_take_le _ _
section
variable {P : Program} {w : World} {K : PySem.W.Frag} {mg : Str → Option Value} {base : Heap}
abbrev sp_ans (K : PySem.W.Frag) : Sp := fun vs H Q _ => ∃ T R p vl f n m ms, vs = [.ref p, .str (reqText m ms)] ∧ Tabs K H ∧ Prm K T R H p vl f n ∧ n ≤ 40 ∧ m ≤ n ∧ (∀ k ∈ ms, k ≤ 100) ∧ ms.Pairwise (· < ·) ∧ ms.length ≤ 50 ∧
  (m < f → ∀ H', Ex H H' → Q (.str (snapText n (tb (T n)))) H') ∧ (f ≤ m → ∀ H', Ex H H' → Q (.str (feedText ((due m n ms).map (enT T)))) H')
abbrev N_answer_to : List Str := ["primary", "request", "store", "revision", "waiting", "missing", "number"]
theorem sc_answer_to : FnScope N_answer_to ["primary", "request"] (defScope s_answer_to) := ⟨rfl, rfl, rfl, by decide +kernel, rfl, by decide +kernel, by decide +kernel⟩
theorem ok_answer_to (T : Tx w K mg base) : FnOk P w K mg base CX0 9 (a_answer_to K) (fd_answer_to K) ["primary", "request"] (sp_ans K) := by
  refine T.f_answer_to.ok sc_answer_to (fun vs H Q E h => ?_) (fun cdv A outer s H vs Q E hr h => ?_)
  · obtain ⟨T0, R, p, vl, f, n, m, ms, rfl, _⟩ := h
    rfl
  obtain ⟨T0, R, p, vl, f, n, m, ms, rfl, tb_, hP, hn, hmn, hms, hso, hml, k1, k2⟩ := h
  refine ⟨_, PSs.nox (pss_cons (ps_asg (pe_call (ok_read_request T) (hr.mono (by decide)) rfl T.g_read_request T.f_read_request.kp T.b_read_request .nil pass0 (pa_cons (pv 1) pa_nil)) (pg_tup (n := 3) rfl (pgs_cons (pg_name (i := 2) sc_answer_to.nd rfl (Or.inl rfl)) (pgs_cons (pg_name (i := 3) sc_answer_to.nd rfl (Or.inl rfl)) (pgs_cons (pg_name (i := 4) sc_answer_to.nd rfl (Or.inr rfl)) pgs_nil))))) (pss_cons (ps_if (pt_cmpR (op_ne) (pv 2) (pe_meth0 (pv 0) T.c_Primary T.m_Primary_store_id (ok_Primary_store_id T) (hr.mono (by decide)) T.b_Primary_store_id .nil pass0) (nomark _)) pss_never pss_nil) (pss_cons (ps_if (pt_cmpR (op_gt) (pv 3) (pe_meth0 (pv 0) T.c_Primary T.m_Primary_revision (ok_Primary_revision T) (hr.mono (by decide)) T.b_Primary_revision .nil pass0) (nomark _)) pss_never pss_nil) (pss_cons (ps_if (pt_cmpR (op_lt) (pv 3) (pe_meth0 (pv 0) T.c_Primary T.m_Primary_oldest (ok_Primary_oldest T) (hr.mono (by decide)) T.b_Primary_oldest .nil pass0) (nomark _)) (pss_one (ps_ret (pe_call (ok_write_snapshot T) (hr.mono (by decide)) rfl T.g_write_snapshot T.f_write_snapshot.kp T.b_write_snapshot .nil pass0 (pa_cons (pe_meth (pv 0) T.c_Primary T.m_Primary_snapshot (ok_Primary_snapshot T) (hr.mono (by decide)) T.b_Primary_snapshot .nil pass0 (pa_cons pe_str pa_nil)) pa_nil)))) pss_nil) (pss_cons (ps_setLc (i := 5) (own := [("number", 6)]) rfl sc_answer_to.nd rfl rfl (sw_true rfl rfl rfl (by decide +kernel)) (pi_range2 (by rfl) T.n_range (pa_cons (pe_op op_add (pv 3) pe_int) (pa_cons (pe_op op_add (pe_meth0 (pv 0) T.c_Primary T.m_Primary_revision (ok_Primary_revision T) (hr.mono (by decide)) T.b_Primary_revision .nil pass0) pe_int) pa_nil))) (blkOk_by (own := [("number", 6)]) (N := N_answer_to) (sc := defScope s_answer_to) (by decide +kernel)) (fun _ _ _ _ _ => (pg_name (i := 6) sc_answer_to.nd rfl (Or.inl rfl))) (fun _ _ _ _ _ => pts_one (pt_cmpR ((op_notIn_seqK (K := K) rfl)) (pv 6) (pv 4) (by rfl))) (fun _ _ _ _ _ => (pv 6))) (pss_one (ps_ret (pe_call (ok_write_feed T) (hr.mono (by decide)) rfl T.g_write_feed T.f_write_feed.kp T.b_write_feed .nil pass0 (pa_cons (pe_lc (own := [("number", 6)]) rfl sc_answer_to.nd (pi_list (pe_slice sl_list (pv 5) po_none (po_some (pe_gint T.i_ENTRIES_MOST)))) (blkOk_by (own := [("number", 6)]) (N := N_answer_to) (sc := defScope s_answer_to) (by decide +kernel)) (fun _ _ _ _ _ => (pg_name (i := 6) sc_answer_to.nd rfl (Or.inl rfl))) (fun _ _ _ _ _ => pts_nil) (fun _ _ _ _ _ => (pe_meth (pv 0) T.c_Primary T.m_Primary_entry (ok_Primary_entry T) (hr.mono (by decide)) T.b_Primary_entry .nil pass0 (pa_cons (pv 6) pa_nil)))) pa_nil))))))))), ?_⟩
  have hP0 := hP
  obtain ⟨dx, as, r, h1, h2, h3, h4, h5⟩ := hP
  wtm_at "go"
  refine ⟨by omega, hms, hso, hml, fun rp l H1 e1 hrp hl0 hl hr1 => ?_⟩
  have p1 := e1.at h1
  have hP1 := hP0.ex e1
  wtm_at "gob"
  refine ⟨T0, R, p, vl, f, n, rfl, hP1, ?_⟩
  wtm_at "gob"
  refine ⟨T0, R, p, vl, f, n, rfl, hP1, ?_⟩
  wtm_at "gob"
  refine blF (decide_eq_false (by omega)) ?_
  wtm_at "gob"
  refine ⟨T0, R, p, vl, f, n, rfl, hP1, ?_⟩
  wtm_at "gob"
  refine ifd (fun h => ?_) (fun h => ?_)
  · have h : m < f := by have h : ((m : Nat) : Int) < f := h; omega
    wtm_at "gob"
    refine ⟨T0, R, p, vl, f, n, rfl, hP1, fun v H2 e2 tv => ?_⟩
    wtm_at "gob"
    refine ⟨n, tb (T0 n), v, rfl, by omega, fun g hg => (mem_tb.mp hg).1, tb_len _, tv.any, fun H3 e3 => ?_⟩
    wtm_at "gob"
    exact k1 h _ ((e1.trans e2).trans e3)
  · have h : f ≤ m := by have h : ¬ ((m : Nat) : Int) < f := h; omega
    wtm_at "gob"
    refine gLc ?_
    wtm_at "goc"
    refine ⟨T0, R, p, vl, f, n, rfl, hP1, ?_⟩
    wtm_at "goc"
    refine ⟨⟨by omega, by omega, by omega, by omega⟩, ?_⟩
    intro D hD
    have enn : (((n : Nat) : Int) + 1 - (((m : Nat) : Int) + 1)).toNat = n - m := by omega
    rw [enn]
    refine lcW walk_range (sl_big (by omega)) hD (fun _ _ => trivial) (fun i => (missK m i ms).map fun k => PyData.int (k : Nat)) rfl (fun i => ?_) (fun i v H3 H2 Pp P0 hi e2 hy kk1 kk0 => ?_) (fun H2 ys e2 hy ty => ?_)
    · rw [List.length_map]
      exact Nat.le_trans (List.length_filter_le _ _) (by rw [List.length_map, List.length_range]; exact Nat.le_refl _)
    · obtain ⟨rfl, rfl⟩ := hy
      have ev : ((m : Nat) : Int) + 1 + ((i : Nat) : Int) = ((m + 1 + i : Nat) : Int) := by omega
      have es : missK m (i + 1) ms = missK m i ms ++ (if m + 1 + i ∈ ms then [] else [m + 1 + i]) := by
        unfold missK
        rw [List.range_succ, List.map_append, List.filter_append]
        congr 1
        by_cases q : m + 1 + i ∈ ms <;> simp [q]
      dsimp only
      rw [ev]
      wtm_at "go"
      refine ⟨rfl, ?_⟩
      wtm_at "go"
      refine gNotInL (e2.at hl) rfl (flat_ints ms) ?_
      rw [inV_ints]
      wtm_at "go"
      refine ifb (fun q => ?_) (fun q => ?_)
      · have q : m + 1 + i ∉ ms := by simpa using q
        wtm_at "go"
        refine kk1 _ _ (.int _) (Ch.refl _ _) (.int _) ?_
        rw [es, if_neg q, List.map_append]
        rfl
      · have q : m + 1 + i ∈ ms := by simpa using q
        refine kk0 _ (Ch.refl _ _) ?_
        rw [es, if_pos q, List.append_nil]
    · have ty2 : TDs (fun x => H1 x = none ∧ x ≠ D) H2 ys (((missK m (n - m) ms).map fun k => ((k : Nat) : Int)).map PyData.int) := by
        rw [List.map_map]
        exact ty
      obtain rfl := ty2.ints_
      wtm_at "go"
      refine gLc ?_
      wtm_at "goc"
      rename_i q H3 hq e3 hq3
      have ecut : cutV (((missK m (n - m) ms).map fun k => ((k : Nat) : Int)).map V.int) none (some 10) = ((due m n ms).map fun k => ((k : Nat) : Int)).map V.int := by
        rw [show (10 : Int) = ((10 : Nat) : Int) from rfl, cut_to, ← List.map_take, ← List.map_take]
        rfl
      rw [ecut] at hq3
      have ti : TDs NoL H3 (((due m n ms).map fun k => ((k : Nat) : Int)).map V.int) ((due m n ms).map fun k => PyData.int ((k : Nat) : Int)) := by
        have z := TDs.ints (A := NoL) (H := H3) ((due m n ms).map fun k => ((k : Nat) : Int))
        rw [List.map_map (g := PyData.int)] at z
        exact z
      intro D2 hD2
      have hdl := due_len m n ms
      refine lcA walk_list ti (by rw [List.length_map, List.length_map]; exact sl_big (by omega)) hD2 (fun H' e => sqL_ (e.at hq3)) (fun _ => true) (fun k => enD (enT T0 k)) (fun i k v H4 Pp P0 hx tv e4 kk1 kk0 => ?_) (fun H4 ys e4 hy ty => ?_)
      · obtain rfl := tv.int_
        have hk := due_mem (List.mem_of_getElem? hx)
        have hP4 := ((hP1.ex e2).ex e3).ex e4
        have p4 := e4.at (e3.at (e2.at p1))
        wtm_at "go"
        refine ⟨rfl, ?_⟩
        wtm_at "go"
        refine ⟨T0, R, p, vl, f, n, k, rfl, hP4, by omega, hk.2, fun v H5 e5 tv => ?_⟩
        exact kk1 _ _ e5 tv rfl
      · wtm_at "go"
        have hok : ∀ e ∈ (due m n ms).map (enT T0), EnOk e := fun e he => by
          obtain ⟨k, hk, rfl⟩ := List.mem_map.mp he
          have := due_mem hk
          exact (enT_good T0 (by omega) (by omega)).1
        refine ⟨(due m n ms).map (enT T0), .ref D2, rfl, hok, by rw [List.length_map]; omega, .lst hy trivial ?_, fun H5 e5 => ?_⟩
        · rw [List.filter_eq_self.mpr fun _ _ => rfl] at ty
          rw [List.map_map]
          exact ty.w fun _ _ => trivial
        · wtm_at "go"
          exact k2 h _ ((((e1.trans e2).trans e3).trans e4).trans e5)
end


/-! ### the schema's lines -/
abbrev Tyl := Str × Int × List (Int × Ent)
def teD (x : Int × Ent) : PyData := .tuple [.int x.1, entD x.2]
def tylD (t : Tyl) : PyData := .tuple [.str t.1, .int t.2.1, .list (t.2.2.map teD)]
theorem TDs.keep' {A : Addr → Prop} {S : List Addr} {H H' : Hp} {vs : List V} {ds : List PyData} (h : TDs A H vs ds) (e : Ch S H H') (hS : ∀ x ∈ S, ∀ xs, H x ≠ some (.lst xs)) : TDs A H' vs ds := (TDs.c (TDs.on ds vs h) e fun x hx k => by
  obtain ⟨_, xs, q⟩ := k
  exact hS x hx xs q).w fun _ z => z.1
/-- the types that were read so far; H0 knows none of their lists -/
def Tys (H0 : Hp) (L : Addr) (H : Hp) (tys : List Tyl) : Prop := (tys = [] ∧ H L = some (.lst [])) ∨
  ∃ (done : List Tyl) (t : Tyl) (dvs : List V) (a l : Addr) (ws : List V), tys = done ++ [t] ∧ H L = some (.lst (dvs ++ [.ref a])) ∧ TDs (fun x => H0 x = none ∧ x ≠ L ∧ x ≠ l) H dvs (done.map tylD) ∧ H a = some (.tup [.str t.1, .int t.2.1, .ref l]) ∧ H l = some (.lst ws) ∧ TDs NoL H ws (t.2.2.map teD) ∧ l ≠ L ∧ H0 l = none
theorem Tys.keep {S : List Addr} {H0 H H' : Hp} {L : Addr} {tys : List Tyl} (h : Tys H0 L H tys) (e : Ch S H H') (hS : ∀ x ∈ S, ∀ xs, H x ≠ some (.lst xs)) : Tys H0 L H' tys := by
  rcases h with ⟨rfl, h⟩ | ⟨done, t, dvs, a, l, ws, rfl, h, td, ha, hl, tw, r⟩
  · exact .inl ⟨rfl, e.to h fun z => hS _ z _ h⟩
  · exact .inr ⟨done, t, dvs, a, l, ws, rfl, e.to h fun z => hS _ z _ h, td.keep' e hS, e.tup _ _ ha, e.to hl fun z => hS _ z _ hl, tw.p e, r⟩
theorem Tys.all {H0 H : Hp} {L : Addr} {tys : List Tyl} (h : Tys H0 L H tys) : ∃ xs, H L = some (.lst xs) ∧ TDs (fun x => H0 x = none ∧ x ≠ L) H xs (tys.map tylD) := by
  rcases h with ⟨rfl, h⟩ | ⟨done, t, dvs, a, l, ws, rfl, h, td, ha, hl, tw, n, z⟩
  · exact ⟨[], h, .nil⟩
  · refine ⟨_, h, ?_⟩
    rw [List.map_append]
    exact (td.w fun x hx => ⟨hx.1, hx.2.1⟩).app (.one (.tup ha (.cons (.str _) (.cons (.int _) (.cons (.lst hl ⟨z, n⟩ tw.no) .nil)))))
/-- a type more -/
theorem Tys.add {H0 H H1 H' : Hp} {L a l : Addr} {tys : List Tyl} {xs : List V} {n : Str} {num : Int} (hx : H L = some (.lst xs)) (tx : TDs (fun x => H0 x = none ∧ x ≠ L) H xs (tys.map tylD)) (e1 : Ex H H1) (e : Ch [L] H1 H') (hL : H' L = some (.lst (xs ++ [.ref a])))
    (g : H l = none) (ha : H1 a = some (.tup [.str n, .int num, .ref l])) (hl : H1 l = some (.lst [])) (f : H0 l = none) : Tys H0 L H' (tys ++ [(n, num, [])]) := by
  have nl : l ≠ L := fun z => by rw [z, hx] at g; cases g
  refine .inr ⟨tys, (n, num, []), xs, a, l, [], rfl, hL, ?_, e.tup _ _ ha, e.at1 hl nl, .nil, nl, f⟩
  refine TDs.c (((tx.on).w fun x hx' => ⟨hx'.1.1, hx'.1.2, fun z => ?_⟩).e e1) e fun z hz k => k.2.1 (List.mem_singleton.mp hz)
  obtain ⟨_, ys, q⟩ := hx'
  rw [z, g] at q
  cases q
theorem TD.tyl_ {A : Addr → Prop} {H : Hp} {v : V} {t : Tyl} (h : TD A H v (tylD t)) : ∃ a l ws, v = .ref a ∧ H a = some (.tup [.str t.1, .int t.2.1, .ref l]) ∧ H l = some (.lst ws) ∧ A l ∧ TDs A H ws (t.2.2.map teD) := by
  obtain ⟨a, vs, rfl, ha, t0⟩ := h.tup_
  obtain ⟨v1, w1, rfl, h1, t1⟩ := t0.cons_
  obtain ⟨v2, w2, rfl, h2, t2⟩ := t1.cons_
  obtain ⟨v3, w3, rfl, h3, t3⟩ := t2.cons_
  obtain ⟨l, gv, rfl, hl, al, tl⟩ := h3.lst_
  obtain rfl := t3.nil_
  obtain rfl := h1.str_
  obtain rfl := h2.int_
  exact ⟨a, l, gv, rfl, ha, hl, al, tl⟩
def lineStep (num : Int) (ps : List Str) (tys : List Tyl) : Option (List Tyl) :=
  if ps.getD 0 "" = "type" then
    match nameAt ps 1 with
    | some n => if ps.length ≤ 2 ∧ tys.length < 8 then some (tys ++ [(n, num, [])]) else none
    | none => none
  else
    match tys.getLast? with
    | none => none
    | some t =>
      if t.2.2.length < 8 then
        if ps.getD 0 "" = "relation" then (relAt ps 1).map fun e => tys.dropLast ++ [(t.1, t.2.1, t.2.2 ++ [(num, e)])]
        else if ps.getD 0 "" = "permission" then (permAt ps 1).map fun e => tys.dropLast ++ [(t.1, t.2.1, t.2.2 ++ [(num, e)])]
        else none
      else none
theorem ifCK {c : Bool} {ta tb : TE} {σ : L2.St} {H : Hp} {Q : VK} (h : if c = true then ta σ H (KQ Q) else tb σ H (KQ Q)) : if c = true then ta σ H Q else tb σ H Q := h
theorem ps_ne {ps : List Str} {x : Str} (h : ps.getD 0 "" = x) (hx : x ≠ "") : ps ≠ [] := fun z => by
  rw [z] at h
  exact hx h.symm
theorem lst_ne {A : Addr → Prop} {H : Hp} {α : Type} {f : α → PyData} (hf : ∀ x, ∃ ds, f x = .tuple ds) {acc : List α} {vs : List V} {ps : List Str} (t : TDs A H vs (acc.map f)) (hp : ps ≠ []) : vs ≠ ps.map V.str := by
  cases acc with
  | nil =>
    rw [TDs.nil_ t]
    intro z
    cases ps with
    | nil => exact hp rfl
    | cons _ _ => cases z
  | cons x r => exact refs_ne hf t (by simp)
section
variable {P : Program} {w : World} {K : PySem.W.Frag} {mg : Str → Option Value} {base : Heap}
abbrev sp_read_line (K : PySem.W.Frag) : Sp := fun vs H Q _ => ∃ (a L : Addr) (num : Int) (ps : List Str) (tys tys' : List Tyl) (H0 : Hp), vs = [.ref a, .ref L] ∧ Tabs K H0 ∧ Ex H0 H ∧ H0 a = none ∧ H0 L = none ∧ Ln K H a num ps 0 ∧ Tys H0 L H tys ∧ lineStep num ps tys = some tys' ∧
  ∀ H', Ex H0 H' → Tys H0 L H' tys' → Q .non H'
abbrev N_read_line : List Str := ["line", "types", "kind", "entry"]
theorem sc_read_line : FnScope N_read_line ["line", "types"] (defScope s_read_line) := ⟨rfl, rfl, rfl, by decide +kernel, rfl, by decide +kernel, by decide +kernel⟩
theorem ok_read_line (T : Tx w K mg base) : FnOk P w K mg base CX0 8 (a_read_line K) (fd_read_line K) ["line", "types"] (sp_read_line K) := by
  refine T.f_read_line.ok sc_read_line (fun vs H Q E h => ?_) (fun cdv A outer s H vs Q E hr h => ?_)
  · obtain ⟨a, L, num, ps, tys, tys', H0, rfl, _⟩ := h
    rfl
  obtain ⟨a, L, num, ps, tys, tys', H0, rfl, tb_, e0, ha0, hL0, hLn, hT, hs, kk⟩ := h
  refine ⟨_, PSs.nox (pss_cons (ps_set (i := 2) sc_read_line.nd rfl (Or.inl rfl) (pe_meth0 (pv 0) T.c_Line T.m_Line_take (ok_Line_take T) (hr.mono (by decide)) T.b_Line_take .nil pass0)) (pss_cons (ps_if (pt_cmpR (op_eq) (pv 2) pe_str (nomark _)) (pss_cons (ps_expr (pe_bm PySem.F.plainAttrs_list PySem.F.slot_list_append PySem.F.type_list_append mt_append (pv 1) (pa_cons (pe_tup (pa_cons (pe_meth0 (pv 0) T.c_Line T.m_Line_name (ok_Line_name T) (hr.mono (by decide)) T.b_Line_name .nil pass0) (pa_cons (pe_fld (pv 0) rfl) (pa_cons (pe_lst pa_nil) pa_nil)))) pa_nil))) (pss_cons (ps_expr (pe_meth0 (pv 0) T.c_Line T.m_Line_finish (ok_Line_finish T) (hr.mono (by decide)) T.b_Line_finish .nil pass0)) (pss_cons (ps_if (pt_cmpR (op_gt) (pe_callB call_len_seq (by rfl) T.n_len (by decide +kernel) (pa_cons (pv 1) pa_nil)) (pe_gint T.i_TYPES_MOST) (nomark _)) (pss_one ps_never) pss_nil) (pss_one ps_retN)))) pss_nil) (pss_cons (ps_if (PW.pt (pw_or (pt_cmpR (op_notIn_seq) (pv 2) (pe_tup (pa_cons pe_str (pa_cons pe_str pa_nil))) (by rfl)) (pw_or1 (pt_not (pt_truth (pv 1) (by intro _; rfl)))))) (pss_one ps_never) pss_nil) (pss_cons (ps_set (i := 3) sc_read_line.nd rfl (Or.inl rfl) (pe_ifExp (pt_cmpR (op_eq) (pv 2) pe_str (nomark _)) (pe_call (ok_read_relation T) (hr.mono (by decide)) rfl T.g_read_relation T.f_read_relation.kp T.b_read_relation .nil pass0 (pa_cons (pv 0) pa_nil)) (pe_call (ok_read_permission T) (hr.mono (by decide)) rfl T.g_read_permission T.f_read_permission.kp T.b_read_permission .nil pass0 (pa_cons (pv 0) pa_nil)))) (pss_cons (ps_expr (pe_bm PySem.F.plainAttrs_list PySem.F.slot_list_append PySem.F.type_list_append mt_append (pe_ix ix_tup (pe_ix ix_list (pv 1) (pe_un un_neg pe_int) (fun _ _ => rfl)) pe_int (fun _ _ => rfl)) (pa_cons (pe_tup (pa_cons (pe_fld (pv 0) rfl) (pa_cons (pv 3) pa_nil))) pa_nil))) (pss_one (ps_if (pt_cmpR (op_gt) (pe_callB call_len_seq (by rfl) T.n_len (by decide +kernel) (pa_cons (pe_ix ix_tup (pe_ix ix_list (pv 1) (pe_un un_neg pe_int) (fun _ _ => rfl)) pe_int (fun _ _ => rfl)) pa_nil)) (pe_gint T.i_NAMES_MOST) (nomark _)) (pss_one ps_never) pss_nil))))))), ?_⟩
  have aS : ∀ {H' : Hp} {i : Nat}, Ln K H' a num ps i → ∀ x ∈ [a], ∀ xs, H' x ≠ some (.lst xs) := fun {H' i} h x hx xs z => by
    obtain ⟨_, _, q, _⟩ := h
    rw [List.mem_singleton.mp hx, q] at z
    cases z
  unfold lineStep at hs
  have hLn' := hLn
  obtain ⟨dx0, lp0, i0, p0⟩ := hLn'
  wtm_at "go"
  refine ⟨a, num, ps, 0, rfl, hLn, fun H1 e1 hL1 => ?_⟩
  have hT1 := hT.keep e1 (aS hLn)
  have E1 : Ex H0 H1 := exD e0 ha0 e1
  have hL1' := hL1
  obtain ⟨dx1, lp1, i1, p1⟩ := hL1'
  wtm_at "go"
  refine ifd (fun hk => ?_) (fun hk => ?_)
  · rw [if_pos hk] at hs
    cases hn : nameAt ps 1 with
    | none => rw [hn] at hs; cases hs
    | some n =>
      rw [hn] at hs
      dsimp only at hs
      by_cases hc : ps.length ≤ 2 ∧ tys.length < 8
      · rw [if_pos hc] at hs
        cases hs
        obtain ⟨n1, n2, n3⟩ := nameAt_ok hn
        obtain ⟨xs, hx1, tx1⟩ := hT1.all
        wtm_at "go"
        refine ⟨a, num, ps, 1, rfl, tabs_ tb_ E1, hL1, n1, n2, fun H2 e2 hL2 => ?_⟩
        have nLa : L ≠ a := fun z => aS hL1 a (by simp) xs (z ▸ hx1)
        have hx2 := e2.at1 hx1 nLa
        have tx2 := tx1.keep' e2 (aS hL1)
        have E2 : Ex H0 H2 := exD E1 ha0 e2
        have hL2' := hL2
        obtain ⟨dx2, lp2, i2, p2⟩ := hL2'
        rw [n3]
        wtm_at "go"
        rename_i l hl H3 e3 h3 q hq H4 e4 h4
        have E34 := e3.trans e4
        have hx4 := E34.at hx2
        have hxl := tx2.len
        rw [List.length_map] at hxl
        refine gApp hx4 (Nat.lt_of_le_of_lt (by omega : _ ≤ 100) (by decide)) fun H5 e5 h5 => ?_
        have hT5 : Tys H0 L H5 (tys ++ [(n, num, [])]) := Tys.add hx2 tx2 E34 e5 h5 hl h4 (e4.at h3) (E2.free hl)
        have hL5 : Ln K H5 a num ps 2 := (hL2.ex E34).put hx4 (lst_ne (fun t => ⟨_, rfl⟩) tx2 (ps_ne hk (by decide))) e5
        have hL5' := hL5
        obtain ⟨dx5, lp5, i5, p5⟩ := hL5'
        wtm_at "go"
        refine ⟨a, num, ps, 2, rfl, hL5, hc.1, ?_⟩
        wtm_at "go"
        refine blF (decide_eq_false (by rw [List.length_append, List.length_singleton]; omega)) ?_
        wtm_at "go"
        exact kk _ (exD (E2.trans E34) hL0 e5) hT5
      · rw [if_neg hc] at hs
        cases hs
  · rw [if_neg hk] at hs
    cases hlast : tys.getLast? with
    | none => rw [hlast] at hs; cases hs
    | some t =>
      rw [hlast] at hs
      dsimp only at hs
      by_cases hc : t.2.2.length < 8
      · rw [if_pos hc] at hs
        have hR : (ps.getD 0 "" = "relation" ∧ ∃ e, relAt ps 1 = some e ∧ tys' = tys.dropLast ++ [(t.1, t.2.1, t.2.2 ++ [(num, e)])]) ∨ (ps.getD 0 "" = "permission" ∧ ∃ e, permAt ps 1 = some e ∧ tys' = tys.dropLast ++ [(t.1, t.2.1, t.2.2 ++ [(num, e)])]) := by
          by_cases h1 : ps.getD 0 "" = "relation"
          · rw [if_pos h1] at hs
            obtain ⟨e, he, h2⟩ := Option.map_eq_some_iff.mp hs
            exact .inl ⟨h1, e, he, h2.symm⟩
          · rw [if_neg h1] at hs
            by_cases h3 : ps.getD 0 "" = "permission"
            · rw [if_pos h3] at hs
              obtain ⟨e, he, h2⟩ := Option.map_eq_some_iff.mp hs
              exact .inr ⟨h3, e, he, h2.symm⟩
            · rw [if_neg h3] at hs
              cases hs
        have hTne : ∃ dvs a', H1 L = some (.lst (dvs ++ [.ref a'])) := by
          rcases hT1 with ⟨z, _⟩ | ⟨done, t', dvs, a', l, ws, _, h, _⟩
          · rw [z] at hlast; cases hlast
          · exact ⟨dvs, a', h⟩
        obtain ⟨dv1, av1, hx1⟩ := hTne
        have hpsne : ps ≠ [] := by
          rcases hR with ⟨h, _⟩ | ⟨h, _⟩
          · exact ps_ne h (by decide)
          · exact ps_ne h (by decide)
        wtm_at "go"
        have hin : inV (V.str (ps.getD 0 "")) [V.str "relation", V.str "permission"] = true := by
          rcases hR with ⟨h, _⟩ | ⟨h, _⟩
          · rw [h]; decide
          · rw [h]; decide
        rename_i qk hqk H1' e1' hk1'
        have hL1' := hL1.ex e1'
        have hT1' := hT1.keep e1' (fun z hz => nomatch hz)
        have hx1' := e1'.at hx1
        have E1' := E1.trans e1'
        rw [hin]
        wtm_at "go"
        refine blF (by simp) ?_
        wtm_at "go"
        refine ifCK ?_
        generalize hQ : KQ _ = Qk
        have rest : ∀ v j H2 e, Ch [a] H1' H2 → Ln K H2 a num ps j → TD NoL H2 v (entD e) → tys' = tys.dropLast ++ [(t.1, t.2.1, t.2.2 ++ [(num, e)])] → Qk v H2 := by
          intro v j H2 e e2 hL2 tv htys
          rw [← hQ]
          refine kq ?_
          have hT2 := hT1'.keep e2 (aS hL1')
          have E2 : Ex H0 H2 := exD E1' ha0 e2
          rcases hT2 with ⟨z, _⟩ | ⟨done, t', dvs, a', l, ws, htt, hLL, td, ha', hl, tw, nlL, zl⟩
          · rw [z] at hlast; cases hlast
          · subst htt
            have hlast : (some t' : Option Tyl) = some t := by simpa using hlast
            cases hlast
            rw [List.dropLast_concat] at htys
            have hwl := tw.len
            rw [List.length_map] at hwl
            have hL2' := hL2
            obtain ⟨dx2, lp2, i2, p2⟩ := hL2'
            wtm_at "go"
            refine gIxL hLL atI_last ?_
            wtm_at "go"
            rename_i q hq H3 e3 h3
            refine gApp (e3.at hl) (Nat.lt_of_le_of_lt (by omega : _ ≤ 100) (by decide)) fun H4 e4 h4 => ?_
            have hLL4 := e4.at1 (e3.at hLL) (Ne.symm nlL)
            have ha4 := e4.tup _ _ (e3.at ha')
            wtm_at "go"
            refine gIxL hLL4 atI_last ?_
            wtm_at "go"
            refine blF (decide_eq_false (by rw [List.length_append, List.length_singleton]; omega)) ?_
            wtm_at "go"
            refine kk _ (exD (E2.trans e3) zl e4) ?_
            rw [htys]
            refine .inr ⟨done, _, dvs, a', l, _, rfl, hLL4, TDs.c (td.e e3) e4 (fun z hz k => k.2.2 (List.mem_singleton.mp hz)), ha4, h4, ?_, nlL, zl⟩
            rw [List.map_append]
            exact ((tw.e e3).p e4).app (.one (.tup (e4.tup _ _ h3) (.cons (.int _) (.cons ((tv.e e3).p e4) .nil))))
        rcases hR with ⟨h, e, he, hts⟩ | ⟨h, e, he, hts⟩
        · refine blT (decide_eq_true h) ?_
          wtm_at "go"
          refine ⟨a, num, ps, 1, e, rfl, tabs_ tb_ E1', hL1', he, fun v j H2 e2 hL2 tv => ?_⟩
          exact rest v j H2 e e2 hL2 tv hts
        · refine blF (decide_eq_false (by rw [h]; decide)) ?_
          wtm_at "go"
          refine ⟨a, num, ps, 1, e, rfl, tabs_ tb_ E1', hL1', he, fun v j H2 e2 hL2 tv => ?_⟩
          exact rest v j H2 e e2 hL2 tv hts
      · rw [if_neg hc] at hs
        cases hs
end


theorem TDs.itmM {A : Addr → Prop} {H : Hp} {α : Type} {f : α → PyData} {xs : List α} {vs : List V} {i : Nat} {x : α} {v : V} (h : TDs A H vs (xs.map f)) (hx : xs[i]? = some x) (hv : vs[i]? = some v) : TD A H v (f x) := by
  obtain ⟨y, hy, t⟩ := h.atM hv
  rw [hx] at hy
  cases hy
  exact t
theorem TDs.take {A : Addr → Prop} {H : Hp} : ∀ {vs : List V} {ds : List PyData} (n : Nat), TDs A H vs ds → TDs A H (vs.take n) (ds.take n)
  | _, _, 0, _ => .nil
  | _, _, n + 1, h => by
    cases h with
    | nil => exact .nil
    | cons h1 h2 => exact .cons h1 (TDs.take n h2)
theorem inV_strs (x : Str) (xs : List Str) : inV (V.str x) (xs.map V.str) = decide (x ∈ xs) := by
  rw [Bool.eq_iff_iff]
  simp only [inV, List.any_map, List.any_eq_true, Function.comp, eqV, decide_eq_true_eq]
  constructor
  · rintro ⟨y, hy, e⟩
    have : y = x := beq_iff_eq.mp e
    exact this ▸ hy
  · intro h
    exact ⟨x, h, beq_self_eq_true x⟩
theorem flat_strs (xs : List Str) : (xs.map V.str).all flatV = true := by
  rw [List.all_eq_true]
  intro v hv
  obtain ⟨m, _, rfl⟩ := List.mem_map.mp hv
  rfl
theorem TD.te_ {A : Addr → Prop} {H : Hp} {v : V} {x : Int × Ent} (h : TD A H v (teD x)) : ∃ a b c vs, v = .ref a ∧ H a = some (.tup [.int x.1, .ref b]) ∧ TD A H (.ref b) (entD x.2) ∧ H b = some (.tup [.str x.2.1, .str x.2.2.1, .ref c]) ∧ H c = some (.tup vs) := by
  obtain ⟨a, vs, rfl, ha, t0⟩ := h.tup_
  obtain ⟨v1, w1, rfl, h1, t1⟩ := t0.cons_
  obtain ⟨v2, w2, rfl, h2, t2⟩ := t1.cons_
  obtain rfl := t2.nil_
  obtain rfl := h1.int_
  have h2' := h2
  obtain ⟨b, c, ws, rfl, hb, hc, _⟩ := h2'.ent_
  exact ⟨a, b, c, ws, rfl, ha, h2, hb, hc⟩
section
variable {P : Program} {w : World} {K : PySem.W.Frag} {mg : Str → Option Value} {base : Heap}
abbrev sp_cdup (K : PySem.W.Frag) : Sp := fun vs H Q _ => ∃ (L : Addr) (xs : List V) (tys : List Tyl), vs = [.ref L] ∧ Tabs K H ∧ H L = some (.lst xs) ∧ TDs AnyL H xs (tys.map tylD) ∧ tys.length ≤ 8 ∧ (∀ t ∈ tys, t.2.2.length ≤ 8) ∧ (tys.map fun t => t.1).Nodup ∧ (∀ t ∈ tys, (t.2.2.map fun e => e.2.1).Nodup) ∧
  ∀ H', Ex H H' → Q .non H'
abbrev N_check_duplicates : List Str := ["types", "faults", "at", "number", "entries", "names", "entry", "name", "other"]
theorem sc_check_duplicates : FnScope N_check_duplicates ["types"] (defScope s_check_duplicates) := ⟨rfl, rfl, rfl, by decide +kernel, rfl, by decide +kernel, by decide +kernel⟩
theorem ok_check_duplicates (T : Tx w K mg base) : FnOk P w K mg base CX0 3 (a_check_duplicates K) (fd_check_duplicates K) ["types"] (sp_cdup K) := by
  refine T.f_check_duplicates.okC sc_check_duplicates (fun vs H Q E h => ?_) (fun cdv A outer s H vs Q E hcd hr h => ?_)
  · obtain ⟨L, xs, tys, rfl, _⟩ := h
    rfl
  obtain ⟨L, xs, tys, rfl, tb_, hL, tx, hl8, hel, hn1, hn2, kk⟩ := h
  refine ⟨_, PSs.nox (pss_cons (ps_set (i := 1) sc_check_duplicates.nd rfl (Or.inl rfl) (pe_lst pa_nil)) (pss_cons (ps_for PassesOwn.never rfl (pi_enum (by rfl) T.n_enumerate (pa_cons (pv 0) pa_nil)) (pg_tup (n := 2) rfl (pgs_cons (pg_name (i := 2) sc_check_duplicates.nd rfl (Or.inl rfl)) (pgs_cons (pg_tup (n := 3) rfl (pgs_cons (pg_name (i := 7) sc_check_duplicates.nd rfl (Or.inr rfl)) (pgs_cons (pg_name (i := 3) sc_check_duplicates.nd rfl (Or.inl rfl)) (pgs_cons (pg_name (i := 4) sc_check_duplicates.nd rfl (Or.inl rfl)) pgs_nil)))) pgs_nil))) (pss_cons (ps_if (pt_val (pe_anyG (own := [("other", 8)]) hr T.n_any (T.tb _ (List.mem_of_getElem? (i := 2) rfl)) hcd rfl sc_check_duplicates.nd (pi_list (pe_slice sl_list (pv 0) po_none (po_some (pv 2)))) (blkOk_by (own := [("other", 8)]) (N := N_check_duplicates) (sc := defScope s_check_duplicates) (by decide +kernel)) (fun _ _ _ _ _ _ hr => (pg_name (i := 8) sc_check_duplicates.nd rfl (Or.inl rfl))) (fun _ _ _ _ _ _ hr => (pe_cmpR (op_eq) (pv 7) (pe_ix (ix_tupK (K := K) rfl) (pv 8) pe_int (fun _ _ => rfl)) (nomark _))))) (pss_one (ps_expr (pe_bm PySem.F.plainAttrs_list PySem.F.slot_list_append PySem.F.type_list_append mt_append (pv 1) (pa_cons (pv 3) pa_nil)))) pss_nil) (pss_cons (ps_set (i := 5) sc_check_duplicates.nd rfl (Or.inl rfl) (pe_lst pa_nil)) (pss_one (ps_for PassesOwn.never rfl (pi_list (pv 4)) (pg_tup (n := 2) rfl (pgs_cons (pg_name (i := 3) sc_check_duplicates.nd rfl (Or.inl rfl)) (pgs_cons (pg_name (i := 6) sc_check_duplicates.nd rfl (Or.inl rfl)) pgs_nil))) (pss_cons (ps_if (pt_cmpR (op_in_seq) (pe_ix ix_tup (pv 6) pe_int (fun _ _ => rfl)) (pv 5) (by rfl)) (pss_one (ps_expr (pe_bm PySem.F.plainAttrs_list PySem.F.slot_list_append PySem.F.type_list_append mt_append (pv 1) (pa_cons (pv 3) pa_nil)))) pss_nil) (pss_one (ps_expr (pe_bm PySem.F.plainAttrs_list PySem.F.slot_list_append PySem.F.type_list_append mt_append (pv 5) (pa_cons (pe_ix ix_tup (pv 6) pe_int (fun _ _ => rfl)) pa_nil)))))))))) (pss_one (ps_if (pt_truth (pv 1) (by intro _; rfl)) pss_never pss_nil)))), ?_⟩
  have hxl := tx.len
  rw [List.length_map] at hxl
  wtm_at "go"
  rename_i F hF H1 e1 h1
  refine forE (a := L) tx (fun d σ H' => ∃ x2 x3 x4 x5 x6 x7 x8, Ex H H' ∧ H' F = some (.lst []) ∧ σ = [some (.ref L), some (.ref F), x2, x3, x4, x5, x6, x7, x8]) ?_ ?_ ?_ ?_
  · exact ⟨_, _, _, _, _, _, _, e1, h1, rfl⟩
  · rintro d σ H' ⟨x2, x3, x4, x5, x6, x7, x8, e2, _⟩
    exact sqL_ (e2.at hL)
  · rintro d t r v T0 σ H2 H3 ed tv ⟨x2, x3, x4, x5, x6, x7, x8, e2, hF2, rfl⟩ hT e3 hT3
    have E3 := e2.trans e3
    obtain ⟨a, l, ws, rfl, ha, hl, _, tl⟩ := tv.tyl_
    have ha3 := E3.at ha
    have hL3 := E3.at hL
    have htm : t ∈ tys := by rw [ed]; simp
    wtm_at "go"
    rename_i q H4 hq e4 h4
    have ecut : cutV xs none (some ((d.length : Nat) : Int)) = xs.take d.length := cut_to _
    rw [ecut] at h4
    have ttk : TDs AnyL H (xs.take d.length) (d.map tylD) := by
      have z := tx.take d.length
      rw [← List.map_take, ed, List.take_left] at z
      exact z
    have E4 := E3.trans e4
    refine ⟨Tabs.at (tabs_ (S := []) tb_ E4) 2 rfl, fun H5 e5 _ => any_W (xs := d) (fun o => decide (t.1 = o.1)) walk_list (by rw [ttk.len, List.length_map]) (fun H' e => sqL_ (e.at (e5.at h4))) (fun i o v H' hx hv e R hR => ?_) fun H6 e6 => ?_⟩
    · obtain ⟨b, lb, wb, rfl, hb, _⟩ := (((ttk.itmM hx hv).e E4).e (e5.trans e)).tyl_
      wtm_at "go"
      refine ⟨rfl, ?_⟩
      wtm_at "go"
      exact hR _ (Ch.refl _ _)
    · have hany : d.any (fun o => decide (t.1 = o.1)) = false := by
        rw [List.any_eq_false]
        intro o ho z
        rw [ed, List.map_append, List.map_cons] at hn1
        exact (List.nodup_append.mp hn1).2.2 _ (List.mem_map.mpr ⟨o, ho, rfl⟩) _ List.mem_cons_self (of_decide_eq_true z).symm
      rw [hany]
      have E6 := (E4.trans e5).trans e6
      have hF6 := (((e3.trans e4).trans e5).trans e6).at hF2
      have hl6 := E6.at hl
      wtm_at "gob"
      rename_i N hN H7 e7 h7
      have hNH : H N = none := E6.free hN
      have nFN : F ≠ N := fun z => by rw [← z, hF6] at hN; cases hN
      have hwl := tl.len
      rw [List.length_map] at hwl
      refine forA walk_list tl (fun d2 σ H' => ∃ x3 x6, Ex H H' ∧ H' F = some (.lst []) ∧ H' N = some (.lst ((d2.map fun e => e.2.1).map V.str)) ∧ σ = [some (.ref L), some (.ref F), some (.int (d.length : Nat)), x3, some (.ref l), some (.ref N), x6, some (.str t.1), x8]) ?_ ?_ ?_ ?_
      · exact ⟨_, _, E6.trans e7, e7.at hF6, h7, rfl⟩
      · rintro d2 σ H' ⟨x3, x6, e8, _⟩
        exact sqL_ (e8.at hl)
      · rintro d2 e r2 v σ H8 ed2 tv2 ⟨x3, x6, e8, hF8, hN8, rfl⟩
        obtain ⟨b, c, f, us, rfl, hb, _, hc, _⟩ := (tv2.e e8).te_
        have hin : decide (e.2.1 ∈ d2.map fun e => e.2.1) = false := by
          refine decide_eq_false fun z => ?_
          have q := hn2 t htm
          rw [ed2, List.map_append, List.map_cons] at q
          exact (List.nodup_append.mp q).2.2 _ z _ List.mem_cons_self rfl
        have hd2 : d2.length < 8 := by
          have := hel t htm
          rw [ed2] at this
          simp at this
          omega
        wtm_at "go"
        refine gInL hN8 rfl (flat_strs _) ?_
        rw [inV_strs, hin]
        wtm_at "gob"
        refine gApp hN8 (Nat.lt_of_le_of_lt (by rw [List.length_map, List.length_map]; omega : _ ≤ 100) (by decide)) fun H9 e9 h9 => ?_
        wtm_at "gob"
        refine ⟨_, _, exD e8 hNH e9, e9.at1 hF8 nFN, ?_, rfl⟩
        rw [h9, List.map_append, List.map_append]
        rfl
      · rintro σ H8 ⟨x3, x6, e8, hF8, hN8, rfl⟩
        wtm_at "go"
        exact ⟨_, _, _, _, _, _, _, e8, hF8, rfl⟩
  · rintro σ H2 ⟨x2, x3, x4, x5, x6, x7, x8, e2, hF2, rfl⟩
    wtm_at "gob"
    exact kk _ e2
end


theorem ke_known : (KE.all fun x => x.2.2.2.all fun p => if x.2.2.1 = "relation" then decide (p.getD 0 "" ∈ scL.map (·.1)) && (decide (p.getD 1 "" = ("" : Str)) || (entOf scL (p.getD 0 "") (p.getD 1 "")).isSome) else (entOf scL x.1 (p.getD 2 "")).isSome) = true := by decide +kernel
theorem ke_known_ {x : Str × Ent} (hx : x ∈ KE) {p : List Str} (hp : p ∈ x.2.2.2) : (if x.2.2.1 = "relation" then decide (p.getD 0 "" ∈ scL.map (·.1)) && (decide (p.getD 1 "" = ("" : Str)) || (entOf scL (p.getD 0 "") (p.getD 1 "")).isSome) else (entOf scL x.1 (p.getD 2 "")).isSome) = true :=
  List.all_eq_true.mp (List.all_eq_true.mp ke_known x hx) p hp
section
variable {P : Program} {w : World} {K : PySem.W.Frag} {mg : Str → Option Value} {base : Heap}
abbrev sp_is_known (K : PySem.W.Frag) : Sp := fun vs H Q _ => ∃ (v0 v2 : V) (k : Str) (e : Ent), vs = [v0, .str k, v2] ∧ Tabs K H ∧ TD NoL H v0 scD ∧ TD NoL H v2 (entD e) ∧ (k, e) ∈ KE ∧ ∀ H', Ex H H' → Q (.bl true) H'
abbrev N_is_known : List Str := ["schema", "kind", "entry", "named", "is_there", "operator", "relation", "name", "types", "other", "entries", "pair", "inner"]
theorem sc_is_known : FnScope N_is_known ["schema", "kind", "entry"] (defScope s_is_known) := ⟨rfl, rfl, rfl, by decide +kernel, rfl, by decide +kernel, by decide +kernel⟩
theorem ok_is_known (T : Tx w K mg base) : FnOk P w K mg base CX0 3 (a_is_known K) (fd_is_known K) ["schema", "kind", "entry"] (sp_is_known K) := by
  refine T.f_is_known.okC sc_is_known (fun vs H Q E h => ?_) (fun cdv A outer s H vs Q E hcd hr h => ?_)
  · obtain ⟨v0, v2, k, e, rfl, _⟩ := h
    rfl
  obtain ⟨v0, v2, k, e, rfl, tb_, ts, te, hke, kk⟩ := h
  refine ⟨_, PSs.nox (pss_cons (ps_set (i := 8) sc_is_known.nd rfl (Or.inr rfl) (pe_lc (own := [("other", 9), ("entries", 10)]) rfl sc_is_known.nd (pi_tup (pv 0)) (blkOk_by (own := [("other", 9), ("entries", 10)]) (N := N_is_known) (sc := defScope s_is_known) (by decide +kernel)) (fun _ _ _ _ _ => (pg_tupK (K := K) (n := 2) rfl rfl (pgs_cons (pg_name (i := 9) sc_is_known.nd rfl (Or.inl rfl)) (pgs_cons (pg_name (i := 10) sc_is_known.nd rfl (Or.inl rfl)) pgs_nil)))) (fun _ _ _ _ _ => pts_nil) (fun _ _ _ _ _ => (pv 9)))) (pss_cons (ps_if (pt_cmpR (op_eq) (pe_ix ix_tup (pv 2) pe_int (fun _ _ => rfl)) pe_str (nomark _)) (pss_cons (ps_setLc (i := 3) (own := [("pair", 11)]) rfl sc_is_known.nd rfl rfl (sw_true rfl rfl rfl (by decide +kernel)) (pi_tup (pe_ix ix_tup (pv 2) pe_int (fun _ _ => rfl))) (blkOk_by (own := [("pair", 11)]) (N := N_is_known) (sc := defScope s_is_known) (by decide +kernel)) (fun _ _ _ _ _ => (pg_name (i := 11) sc_is_known.nd rfl (Or.inl rfl))) (fun _ _ _ _ _ => pts_one (pt_cmpR (op_ne) (pe_ix (ix_tupK (K := K) rfl) (pv 11) pe_int (fun _ _ => rfl)) pe_str (nomark _))) (fun _ _ _ _ _ => (pv 11))) (pss_cons (ps_set (i := 4) sc_is_known.nd rfl (Or.inl rfl) (pe_allG (own := [("other", 9), ("inner", 12)]) hr T.n_all (T.tb _ (List.mem_of_getElem? (i := 3) rfl)) hcd rfl sc_is_known.nd (pi_tup (pe_ix ix_tup (pv 2) pe_int (fun _ _ => rfl))) (blkOk_by (own := [("other", 9), ("inner", 12)]) (N := N_is_known) (sc := defScope s_is_known) (by decide +kernel)) (fun _ _ _ _ _ _ hr => (pg_tupK (K := K) (n := 2) rfl rfl (pgs_cons (pg_name (i := 9) sc_is_known.nd rfl (Or.inl rfl)) (pgs_cons (pg_name (i := 12) sc_is_known.nd rfl (Or.inl rfl)) pgs_nil)))) (fun _ _ _ _ _ _ hr => (pe_cmpR ((op_in_seqK (K := K) rfl)) (pv 9) (pv 8) (by rfl))))) (pss_one (ps_ret (pe_and (pv 4) (pe_one (pe_allG (own := [("other", 9), ("inner", 12)]) hr T.n_all (T.tb _ (List.mem_of_getElem? (i := 3) rfl)) hcd rfl sc_is_known.nd (pi_list (pv 3)) (blkOk_by (own := [("other", 9), ("inner", 12)]) (N := N_is_known) (sc := defScope s_is_known) (by decide +kernel)) (fun _ _ _ _ _ _ hr => (pg_tupK (K := K) (n := 2) rfl rfl (pgs_cons (pg_name (i := 9) sc_is_known.nd rfl (Or.inl rfl)) (pgs_cons (pg_name (i := 12) sc_is_known.nd rfl (Or.inl rfl)) pgs_nil)))) (fun _ _ _ _ _ _ hr => (pe_cmpR (op_notN1) (pe_call (ok_entry_of T) (hr.mono (by decide)) rfl T.g_entry_of T.f_entry_of.kp T.b_entry_of .nil pass0 (pa_cons (pv 0) (pa_cons (pv 9) (pa_cons (pv 12) pa_nil)))) pe_non (nomark _)))))))))) pss_nil) (pss_cons (ps_for PassesOwn.never rfl (pi_tup (pe_ix ix_tup (pv 2) pe_int (fun _ _ => rfl))) (pg_tup (n := 3) rfl (pgs_cons (pg_name (i := 5) sc_is_known.nd rfl (Or.inl rfl)) (pgs_cons (pg_name (i := 6) sc_is_known.nd rfl (Or.inl rfl)) (pgs_cons (pg_name (i := 7) sc_is_known.nd rfl (Or.inl rfl)) pgs_nil)))) (pss_cons (ps_if (PW.pt (pw_and (pt_cmpR (op_eq) (pv 6) pe_str (nomark _)) (pw_and1 (pt_cmpR (op_isN1) (pe_call (ok_entry_of T) (hr.mono (by decide)) rfl T.g_entry_of T.f_entry_of.kp T.b_entry_of .nil pass0 (pa_cons (pv 0) (pa_cons (pv 1) (pa_cons (pv 7) pa_nil)))) pe_non (nomark _))))) (pss_one (ps_ret pe_bl)) pss_nil) (pss_one (ps_if (PW.pt (pw_and (pt_cmpR (op_ne) (pv 6) pe_str (nomark _)) (pw_and1 (pt_not (pt_truth pe_never (by intro _; rfl)))))) (pss_one (ps_ret pe_bl)) pss_nil)))) (pss_one (ps_ret pe_bl))))), ?_⟩
  have ts0 := ts
  obtain ⟨sa, svs, rfl, hsa, tvs⟩ := TD.tup_ ts
  have hsl := tvs.len
  obtain ⟨a, b, ws, rfl, ha, hb, tb⟩ := te.ent_
  have hlen := tb.len
  rw [List.length_map] at hlen
  have eo := ke_ok _ hke
  have el : e.2.2.length ≤ 16 := eo.1
  wtm_at "go"
  refine gLc ?_
  wtm_at "goc"
  intro D hD
  refine lcA walk_tup tvs (by rw [hsl]; exact sl_big (by decide)) hD (fun H' e => sqT_ (e.at hsa)) (fun _ => true) (fun t => PyData.str t.1) (fun i t v H2 P P0 hx tv e2 k1 k0 => ?_) (fun H1 ys e1 hy ty => ?_)
  · obtain ⟨x1, x2, xw, rfl, hx1, _⟩ := tv.ty_
    wtm_at "go"
    refine ⟨rfl, ?_⟩
    wtm_at "go"
    exact k1 _ _ (Ch.refl _ _) (.str _) rfl
  have ty2 : TDs (fun x => H x = none ∧ x ≠ D) H1 ys ((scL.map (·.1)).map PyData.str) := by
    rw [List.map_map]
    exact ty
  obtain rfl := ty2.strs_
  have ha1 := e1.at ha
  have hb1 := e1.at hb
  have tb1 := tb.e e1
  wtm_at "go"
  rcases eo.2 with ⟨hr1, hp⟩ | ⟨hr1, hp⟩
  · have hr1 : e.2.1 = "relation" := hr1
    refine blT (decide_eq_true hr1) ?_
    wtm_at "go"
    refine gLc ?_
    wtm_at "goc"
    intro D2 hD2
    refine lcA walk_tup tb1 (sl_big (by omega)) hD2 (fun H' e => sqT_ (e.at hb1)) (fun p => !decide (p.getD 1 "" = ("" : Str))) tsD (fun i p v H2 P P0 hx tv e2 k1 k0 => ?_) (fun H2 ys e2 hy2 ty => ?_)
    · obtain ⟨x1, x2, rfl⟩ := hp p (List.mem_of_getElem? hx)
      have tv0 := tv
      obtain ⟨t, rfl, ht⟩ := tv.ts2_
      wtm_at "go"
      refine ⟨rfl, ?_⟩
      wtm_at "go"
      refine ifb (fun h => ?_) (fun h => ?_)
      · wtm_at "go"
        exact k1 _ _ (Ch.refl _ _) (tv0.no) h
      · exact k0 _ (Ch.refl _ _) h
    have tyn := TDs.nlM (f := tsD) (fun p => by
      show noLsA (p.map PyData.str) = true
      exact noLsA_map (fun _ => rfl) p) ty
    have ha2 := e2.at ha1
    have hb2 := e2.at hb1
    have hyD := e2.at hy
    wtm_at "go"
    refine ⟨Tabs.at (tabs_ (S := []) tb_ (e1.trans e2)) 3 rfl, fun H3 e3 _ => all_W (xs := e.2.2) (fun p => decide (p.getD 0 "" ∈ scL.map (·.1))) walk_tup hlen (fun H' e => sqT_ (e.at (e3.at hb2))) (fun i p v H' hx hv e' R hR => ?_) fun H4 e4 => ?_⟩
    · obtain ⟨x1, x2, rfl⟩ := hp p (List.mem_of_getElem? hx)
      obtain ⟨t, rfl, ht⟩ := ((((tb1.itmM hx hv).e e2).e e3).e e').ts2_
      wtm_at "go"
      refine ⟨rfl, ?_⟩
      wtm_at "go"
      refine gInL (e'.at (e3.at hyD)) rfl (flat_strs _) ?_
      rw [inV_strs]
      exact ⟨_, rfl, hR _ (Ch.refl _ _)⟩
    have hall : (e.2.2.all fun p => decide (p.getD 0 "" ∈ scL.map (·.1))) = true := by
      refine List.all_eq_true.mpr fun p hpm => ?_
      have z := ke_known_ hke hpm
      rw [if_pos hr1] at z
      exact (Bool.and_eq_true_iff.mp z).1
    rw [hall]
    have hy4 := e4.at (e3.at hy2)
    wtm_at "gob"
    have tyl := ty.len
    rw [List.length_map] at tyl
    have hE4 := (e1.trans e2).trans (e3.trans e4)
    refine ⟨Tabs.at (tabs_ (S := []) tb_ hE4) 3 rfl, fun H5 e5 _ => all_W (xs := e.2.2.filter fun p => !decide (p.getD 1 "" = ("" : Str))) (fun p => (entOf scL (p.getD 0 "") (p.getD 1 "")).isSome) walk_list tyl (fun H' e => sqL_ (e.at (e5.at hy4))) (fun i p v H' hx hv e' R hR => ?_) fun H6 e6 => ?_⟩
    · have hpm := List.mem_of_getElem? hx
      obtain ⟨x1, x2, rfl⟩ := hp p (List.mem_filter.mp hpm).1
      have E5 := (e3.trans e4).trans (e5.trans e')
      obtain ⟨t, rfl, ht⟩ := ((tyn.itmM hx hv).e E5).ts2_
      have ts5 := ts0.e ((e1.trans e2).trans E5)
      wtm_at "go"
      refine ⟨rfl, ?_⟩
      wtm_at "go"
      refine ⟨.ref sa, scL, x1, x2, rfl, ts5, fun v tv => ?_⟩
      have hRR := hR H' (Ch.refl _ _)
      have hRR : R (entOf scL x1 x2).isSome H' := hRR
      rcases entOD_some tv with ⟨e0, rfl⟩ | ⟨ee, ea, eb, evs, e0, rfl, _⟩
      · rw [e0] at hRR
        wtm_at "go"
        exact hRR
      · rw [e0] at hRR
        wtm_at "go"
        exact hRR
    · have hall2 : ((e.2.2.filter fun p => !decide (p.getD 1 "" = ("" : Str))).all fun p => (entOf scL (p.getD 0 "") (p.getD 1 "")).isSome) = true := by
        refine List.all_eq_true.mpr fun p hpm => ?_
        obtain ⟨hp1, hp2⟩ := List.mem_filter.mp hpm
        have z := ke_known_ hke hp1
        rw [if_pos hr1] at z
        rcases Bool.or_eq_true_iff.mp (Bool.and_eq_true_iff.mp z).2 with q | q
        · rw [q] at hp2; cases hp2
        · exact q
      rw [hall2]
      wtm_at "gob"
      exact kk _ (hE4.trans (e5.trans e6))
  · have hr2 : ¬ e.2.1 = "relation" := fun z => by rw [z] at hr1; exact absurd hr1 (by decide)
    refine blF (decide_eq_false hr2) ?_
    wtm_at "go"
    refine forA walk_tup tb1 (fun d σ H' => ∃ x3 x4 x5 x6 x7 x9 x10 x11 x12, Ex H1 H' ∧ σ = [some (.ref sa), some (.str k), some (.ref a), x3, x4, x5, x6, x7, some (.ref D), x9, x10, x11, x12]) ?_ ?_ ?_ ?_
    · exact ⟨_, _, _, _, _, _, _, _, _, Ch.refl _ _, rfl⟩
    · rintro d σ H' ⟨x3, x4, x5, x6, x7, x9, x10, x11, x12, e2, _⟩
      exact sqT_ (e2.at hb1)
    · rintro d p r v σ H2 ed tv ⟨x3, x4, x5, x6, x7, x9, x10, x11, x12, e2, rfl⟩
      have hpm : p ∈ e.2.2 := by rw [ed]; simp
      obtain ⟨c1, c3, rfl⟩ := hp p hpm
      obtain ⟨t, rfl, ht⟩ := (tv.e e2).ts3_
      have z := ke_known_ hke hpm
      rw [if_neg hr2] at z
      have z : (entOf scL k c3).isSome = true := z
      have ts2 := ts0.e (e1.trans e2)
      wtm_at "gob"
      refine ⟨.ref sa, scL, k, c3, rfl, ts2, fun v tv => ?_⟩
      rcases entOD_some tv with ⟨e0, _⟩ | ⟨_, ev, _, _, _, rfl, _⟩
      · rw [e0] at z; cases z
      · wtm_at "gob"
        exact ⟨_, _, _, _, _, _, _, _, _, e2, rfl⟩
    · rintro σ H2 ⟨x3, x4, x5, x6, x7, x9, x10, x11, x12, e2, rfl⟩
      wtm_at "gob"
      exact kk _ (e1.trans e2)
end


/-! ### the law's one schema, read -/
theorem pi_listK {X : Cx} {tg : Expr} {K : PySem.W.Frag} (hK : X.K = K) {l : Expr} {tl : TE} (hl : PE X l tl) : PI X tg l (iList K tl) := by
  subst hK
  exact pi_list hl
theorem pi_tupK {X : Cx} {tg : Expr} {K : PySem.W.Frag} (hK : X.K = K) {l : Expr} {tl : TE} (hl : PE X l tl) : PI X tg l (iTup K tl) := by
  subst hK
  exact pi_tup hl
theorem call_tuple_ofK {X : Cx} {K : PySem.W.Frag} (hK : X.K = K) : CallR X (.type "tuple") (fun xs H Q => ∃ p ys, xs = [.ref p] ∧ ((SqL K H p ys ∧ ∀ l, H l = none → Q (.ref l) (upd H l (.tup ys))) ∨ (SqT K H p ys ∧ Q (.ref p) H))) := by
  subst hK
  exact call_tuple_of
def lawText : Str := "type u\ntype g\nrelation m: u, g#m\ntype d\nrelation o: u\nrelation w: u, g#m\nrelation b: u\npermission v = o | w - b"
def lawLines : List Str := ["type u", "type g", "relation m: u, g#m", "type d", "relation o: u", "relation w: u, g#m", "relation b: u", "permission v = o | w - b"]
theorem law_split : Txt.split lawText "\n" = lawLines := by decide +kernel
def runL : Nat → List Tyl → List Str → Option (List Tyl)
  | _, tys, [] => some tys
  | i, tys, x :: r => match partsOf x with
    | none => none
    | some ps => match (if ps.isEmpty = true then some tys else lineStep ((i : Int) + 1) ps tys) with
      | none => none
      | some tys' => runL (i + 1) tys' r
def tysF : List Tyl := [("u", 1, []), ("g", 2, [(3, ("m", "relation", [["u", ""], ["g", "m"]]))]),
  ("d", 4, [(5, ("o", "relation", [["u", ""]])), (6, ("w", "relation", [["u", ""], ["g", "m"]])), (7, ("b", "relation", [["u", ""]])), (8, ("v", "permission", [["", "", "o"], ["|", "", "w"], ["-", "", "b"]]))])]
set_option synthInstance.maxSize 4000 in
theorem run_law : runL 0 [] lawLines = some tysF := by decide +kernel
theorem lines_len : (lawLines.all fun x => decide (x.length ≤ 200)) = true := by decide +kernel
theorem tysF_sc : (tysF.map fun t => ((t.1, t.2.2.map fun e => e.2) : Ty)) = scL := rfl
theorem tysF_ok : (tysF.all fun t => decide (t.2.2.length ≤ 8)) = true ∧ (tysF.map fun t => t.1).Nodup ∧ (tysF.all fun t => decide (t.2.2.map fun e => e.2.1).Nodup) = true ∧ (tysF.all fun t => t.2.2.all fun e => decide ((t.1, e.2) ∈ KE)) = true := by
  refine ⟨by decide +kernel, by decide +kernel, by decide +kernel, by decide +kernel⟩
/-- a heap that does not know one address -/
def era (H : Hp) (L : Addr) : Hp := fun b => if b = L then none else H b
theorem era_ne {H : Hp} {L b : Addr} {o : HO} (h : era H L b = some o) : b ≠ L ∧ H b = some o := by
  unfold era at h
  by_cases hb : b = L
  · rw [if_pos hb] at h; cases h
  · rw [if_neg hb] at h; exact ⟨hb, h⟩
theorem era_ex (H : Hp) (L : Addr) : Ex (era H L) H where
  keep := fun b o h _ _ => (era_ne h).2
  tup := fun b xs h => (era_ne h).2
  tab := fun b ps h => ⟨ps, (era_ne h).2, id⟩
  there := fun b o h => ⟨o, (era_ne h).2⟩
theorem ex_era {H H2 : Hp} {L : Addr} (e : Ex H H2) (hL : H L = none) : Ex H (era H2 L) := by
  have ne : ∀ {b : Addr} {o : HO}, H b = some o → b ≠ L := fun {b o} h z => by rw [z, hL] at h; cases h
  exact {
    keep := fun b o h n hs => (if_neg (ne h)).trans (e.keep b o h n hs)
    tup := fun b xs h => (if_neg (ne h)).trans (e.tup b xs h)
    tab := fun b ps h => by
      obtain ⟨ps', h1, h2⟩ := e.tab b ps h
      exact ⟨ps', (if_neg (ne h)).trans h1, h2⟩
    there := fun b o h => by
      obtain ⟨o', h'⟩ := e.there b o h
      exact ⟨o', (if_neg (ne h)).trans h'⟩ }
theorem ts_nl (p : List Str) : noLs (tsD p) = true := noLsA_map (f := PyData.str) (fun _ => rfl) p
theorem ent_nl (e : Ent) : noLs (entD e) = true := by
  show (true && (true && (noLsA (e.2.2.map tsD) && true))) = true
  rw [noLsA_map ts_nl]
  rfl
theorem ty_nl (t : Ty) : noLs (tyD t) = true := by
  show (true && (noLsA (t.2.map entD) && true)) = true
  rw [noLsA_map ent_nl]
  rfl
section
variable {P : Program} {w : World} {K : PySem.W.Frag} {mg : Str → Option Value} {base : Heap}
abbrev sp_read_schema (K : PySem.W.Frag) : Sp := fun vs H Q _ => vs = [.str lawText] ∧ Tabs K H ∧ ∀ v H', Ex H H' → TD NoL H' v scD → Q v H'
abbrev N_read_schema : List Str := ["text", "types", "at", "line_text", "parts", "name", "number", "entries", "place", "entry", "schema"]
theorem sc_read_schema : FnScope N_read_schema ["text"] (defScope s_read_schema) := ⟨rfl, rfl, rfl, by decide +kernel, rfl, by decide +kernel, by decide +kernel⟩
theorem ok_read_schema (T : Tx w K mg base) : FnOk P w K mg base CX0 9 (a_read_schema K) (fd_read_schema K) ["text"] (sp_read_schema K) := by
  refine T.f_read_schema.ok sc_read_schema (fun vs H Q E h => ?_) (fun cdv A outer s H vs Q E hr h => ?_)
  · obtain ⟨rfl, _⟩ := h
    rfl
  obtain ⟨rfl, tb_, kk⟩ := h
  refine ⟨_, PSs.nox (pss_cons (ps_set (i := 1) sc_read_schema.nd rfl (Or.inl rfl) (pe_lst pa_nil)) (pss_cons (ps_for PassesOwn.never rfl (pi_enum (by rfl) T.n_enumerate (pa_cons (pe_split (pv 0) pe_str) pa_nil)) (pg_tup (n := 2) rfl (pgs_cons (pg_name (i := 2) sc_read_schema.nd rfl (Or.inl rfl)) (pgs_cons (pg_name (i := 3) sc_read_schema.nd rfl (Or.inl rfl)) pgs_nil))) (pss_cons (ps_set (i := 4) sc_read_schema.nd rfl (Or.inl rfl) (pe_call (ok_parts_of_line T) (hr.mono (by decide)) rfl T.g_parts_of_line T.f_parts_of_line.kp T.b_parts_of_line .nil pass0 (pa_cons (pe_op op_add (pv 2) pe_int) (pa_cons (pv 3) pa_nil)))) (pss_one (ps_if (pt_truth (pv 4) (by intro _; rfl)) (pss_one (ps_expr (pe_call (ok_read_line T) (hr.mono (by decide)) rfl T.g_read_line T.f_read_line.kp T.b_read_line .nil pass0 (pa_cons (pe_make T.k_Line (ok_Line_init T) (hr.mono (by decide)) rfl T.g_Line T.b_Line_init .nil pass0 (pa_cons (pe_op op_add (pv 2) pe_int) (pa_cons (pv 4) pa_nil))) (pa_cons (pv 1) pa_nil))))) pss_nil)))) (pss_cons (ps_expr (pe_call (ok_check_duplicates T) (hr.mono (by decide)) rfl T.g_check_duplicates T.f_check_duplicates.kp T.b_check_duplicates .nil pass0 (pa_cons (pv 1) pa_nil))) (pss_cons (ps_set (i := 10) sc_read_schema.nd rfl (Or.inl rfl) (pe_callTy call_tuple_of (by rfl) T.n_tuple (by decide +kernel) (pa_cons (pe_lc (own := [("name", 5), ("number", 6), ("entries", 7)]) rfl sc_read_schema.nd (pi_list (pv 1)) (blkOk_by (own := [("name", 5), ("number", 6), ("entries", 7)]) (N := N_read_schema) (sc := defScope s_read_schema) (by decide +kernel)) (fun _ _ _ _ _ => (pg_tupK (K := K) (n := 3) rfl rfl (pgs_cons (pg_name (i := 5) sc_read_schema.nd rfl (Or.inl rfl)) (pgs_cons (pg_name (i := 6) sc_read_schema.nd rfl (Or.inl rfl)) (pgs_cons (pg_name (i := 7) sc_read_schema.nd rfl (Or.inl rfl)) pgs_nil))))) (fun _ _ _ _ _ => pts_nil) (fun _ _ _ _ _ => (pe_tup (pa_cons (pv 5) (pa_cons (pe_callTy (call_tuple_ofK (K := K) rfl) (by rfl) T.n_tuple (by decide +kernel) (pa_cons (pe_lc (own := [("place", 8), ("entry", 9)]) rfl sc_read_schema.nd (pi_listK (K := K) rfl (pv 7)) (blkOk_by (own := [("place", 8), ("entry", 9)]) (N := N_read_schema) (sc := ⟨.function, [(".0", .local), ("name", .local), ("number", .local), ("entries", .local), ("tuple", .globalImplicit)], false, false, []⟩) (by decide +kernel)) (fun _ _ _ _ _ => (pg_tupK (K := K) (n := 2) rfl rfl (pgs_cons (pg_name (i := 8) sc_read_schema.nd rfl (Or.inl rfl)) (pgs_cons (pg_name (i := 9) sc_read_schema.nd rfl (Or.inl rfl)) pgs_nil)))) (fun _ _ _ _ _ => pts_nil) (fun _ _ _ _ _ => (pv 9))) pa_nil)) pa_nil))))) pa_nil))) (pss_cons (ps_for PassesOwn.never rfl (pi_list (pv 1)) (pg_tup (n := 3) rfl (pgs_cons (pg_name (i := 5) sc_read_schema.nd rfl (Or.inl rfl)) (pgs_cons (pg_name (i := 6) sc_read_schema.nd rfl (Or.inl rfl)) (pgs_cons (pg_name (i := 7) sc_read_schema.nd rfl (Or.inl rfl)) pgs_nil)))) (pss_one (ps_for PassesOwn.never rfl (pi_list (pv 7)) (pg_tup (n := 2) rfl (pgs_cons (pg_name (i := 8) sc_read_schema.nd rfl (Or.inl rfl)) (pgs_cons (pg_name (i := 9) sc_read_schema.nd rfl (Or.inl rfl)) pgs_nil))) (pss_one (ps_if (pt_not (pt_val (pe_call (ok_is_known T) (hr.mono (by decide)) rfl T.g_is_known T.f_is_known.kp T.b_is_known .nil pass0 (pa_cons (pv 10) (pa_cons (pv 5) (pa_cons (pv 9) pa_nil)))))) pss_never pss_nil))))) (pss_cons (ps_expr (pe_call (ok_strata T) (hr.mono (by decide)) rfl T.g_strata T.f_strata.kp T.b_strata .nil pass0 (pa_cons (pv 10) pa_nil))) (pss_one (ps_ret (pv 10))))))))), ?_⟩
  wtm_at "go"
  rename_i L hL H1 e1 h1 p hp H2 e2 h2
  rw [law_split] at h2
  have E2 := e1.trans e2
  have tb0 : Tabs K (era H2 L) := tabs_ (S := []) tb_ (ex_era E2 hL)
  have hL0 : era H2 L L = none := if_pos rfl
  have npL : p ≠ L := fun z => by rw [z, h1] at hp; cases hp
  have hp0 : era H2 L p = some (.lst (lawLines.map V.str)) := (if_neg npL).trans h2
  have E0 : Ex H (era H2 L) := ex_era E2 hL
  have eh2 : Ex (era H2 L) H2 := era_ex H2 L
  have h12 := e2.at h1
  generalize hH0 : era H2 L = H0 at tb0 hL0 hp0 E0 eh2
  clear hH0
  refine forE (a := p) (TDs.strs (A := NoL) (H := H0) lawLines) (fun d σ H' => ∃ tys x2 x3 x4 x5 x6 x7 x8 x9 x10, Ex H0 H' ∧ Tys H0 L H' tys ∧ (∀ r, lawLines = d ++ r → runL d.length tys r = some tysF) ∧ σ = [some (.str lawText), some (.ref L), x2, x3, x4, x5, x6, x7, x8, x9, x10]) ?_ ?_ ?_ ?_
  · exact ⟨[], _, _, _, _, _, _, _, _, _, eh2, .inl ⟨rfl, h12⟩, fun r hr => by rw [List.nil_append] at hr; rw [← hr]; exact run_law, rfl⟩
  · rintro d σ H' ⟨tys, x2, x3, x4, x5, x6, x7, x8, x9, x10, e3, _⟩
    exact sqL_ (e3.at hp0)
  · rintro d x r v T0 σ H3 H4 ed tv ⟨tys, x2, x3, x4, x5, x6, x7, x8, x9, x10, e3, hT, hrun, rfl⟩ hT0 e4 hT4
    obtain rfl := tv.str_
    have hr := hrun (x :: r) ed
    have hxl : x.length ≤ 200 := of_decide_eq_true (List.all_eq_true.mp lines_len x (by rw [ed]; simp))
    have hdl : (d ++ [x]).length = d.length + 1 := by simp
    have hnx : ∀ tys', runL (d.length + 1) tys' r = some tysF → ∀ r', lawLines = (d ++ [x]) ++ r' → runL (d ++ [x]).length tys' r' = some tysF := fun tys' h r' hr' => by
      have : r' = r := by
        rw [ed, List.append_assoc] at hr'
        exact (List.cons.inj (List.append_cancel_left hr')).2.symm
      rw [this, hdl]
      exact h
    unfold runL at hr
    cases hps : partsOf x with
    | none => rw [hps] at hr; cases hr
    | some ps =>
      rw [hps] at hr
      dsimp only at hr
      have hT4' := hT.keep e4 (fun z hz => nomatch hz)
      have E4 := e3.trans e4
      wtm_at "go"
      refine ⟨_, x, ps, rfl, hps, hxl, fun pl H5 e5 hpl0 hpl => ?_⟩
      have E5 := E4.trans e5
      have hT5 := hT4'.keep e5 (fun z hz => nomatch hz)
      wtm_at "go"
      cases ps with
      | nil =>
        rw [if_pos (show ([] : List Str).isEmpty = true from rfl)] at hr
        wtm_at "gob"
        exact ⟨tys, _, _, _, _, _, _, _, _, _, E5, hT5, hnx tys hr, rfl⟩
      | cons c cs =>
        rw [if_neg (by simp)] at hr
        cases hst : lineStep ((d.length : Int) + 1) (c :: cs) tys with
        | none => rw [hst] at hr; cases hr
        | some tys' =>
          rw [hst] at hr
          wtm_at "gob"
          rename_i ln dln hln hdln hne H6 e6 h6
          have hln : H5 ln = none := hln
          have E6 := E5.trans e6
          refine ⟨ln, dln, pl, _, c :: cs, rfl, h6, e6.at hpl, fun H7 c7 hLn => ?_⟩
          have hln0 : H0 ln = none := E5.free hln
          have E7 : Ex H0 H7 := exD E6 hln0 c7
          have hT7 := (hT5.keep e6 (fun z hz => nomatch hz)).keep c7 (nolst h6 fun ws z => nomatch z)
          wtm_at "gob"
          refine ⟨ln, L, _, c :: cs, tys, tys', H0, rfl, tb0, E7, hln0, hL0, hLn, hT7, hst, fun H8 E8 hT8 => ?_⟩
          wtm_at "gob"
          exact ⟨tys', _, _, _, _, _, _, _, _, _, E8, hT8, hnx tys' hr, rfl⟩
  · rintro σ H3 ⟨tys, x2, x3, x4, x5, x6, x7, x8, x9, x10, e3, hT, hrun, rfl⟩
    have hr := hrun [] (by simp)
    have htF : tys = tysF := by
      unfold runL at hr
      exact Option.some.inj hr
    subst htF
    obtain ⟨xs, hx, tx⟩ := hT.all
    have txA : TDs AnyL H3 xs (tysF.map tylD) := tx.w fun _ _ => trivial
    have hxl := tx.len
    have hxl3 : xs.length = 3 := hxl
    obtain ⟨ok1, ok2, ok3, ok4⟩ := tysF_ok
    wtm_at "go"
    refine ⟨L, xs, tysF, rfl, tabs_ (S := []) tb0 e3, hx, txA, by decide, fun t ht => of_decide_eq_true (List.all_eq_true.mp ok1 t ht), ok2, fun t ht => of_decide_eq_true (List.all_eq_true.mp ok3 t ht), fun H4 e4 => ?_⟩
    have hx4 := e4.at hx
    have tx4 := txA.e e4
    wtm_at "go"
    refine gLc ?_
    wtm_at "goc"
    intro D hD
    refine lcA walk_list tx4 (by rw [hxl3]; exact sl_big (by decide)) hD (fun H' e => sqL_ (e.at hx4)) (fun _ => true) (fun t => tyD (t.1, t.2.2.map fun e => e.2)) (fun i t v H5 P P0 hxi tv e5 k1 k0 => ?_) (fun H5 ys e5 hy ty => ?_)
    · obtain ⟨a, l, ws, rfl, ha, hl, _, tl⟩ := tv.tyl_
      have htm : t ∈ tysF := List.mem_of_getElem? hxi
      have hwl := tl.len
      rw [List.length_map] at hwl
      have hw8 : t.2.2.length ≤ 8 := of_decide_eq_true (List.all_eq_true.mp ok1 t htm)
      wtm_at "go"
      refine ⟨rfl, ?_⟩
      wtm_at "go"
      refine gLc ?_
      wtm_at "goc"
      intro D2 hD2
      refine lcA walk_list tl (by rw [hwl]; exact sl_big (by omega)) hD2 (fun H' e => sqL_ (e.at hl)) (fun _ => true) (fun e => entD e.2) (fun i2 e v H6 P2 P20 hxi2 tv2 e6 k12 k02 => ?_) (fun H6 ys2 e6 hy2 ty2 => ?_)
      · obtain ⟨b, c, f, us, rfl, hb, tb2, hc, _⟩ := tv2.te_
        wtm_at "go"
        refine ⟨rfl, ?_⟩
        wtm_at "go"
        exact k12 _ _ (Ch.refl _ _) ((TD.nl _ _ (ent_nl e.2) tb2).no) rfl
      · wtm_at "go"
        refine ⟨D2, ys2, rfl, .inl ⟨sqL_ hy2, ?_⟩⟩
        wtm_at "go"
        rename_i q7 hq7 H7 e7 h7 q8 hq8 H8 e8 h8
        have ef : t.2.2.filter (fun _ => true) = t.2.2 := List.filter_eq_self.mpr fun _ _ => rfl
        rw [ef] at ty2
        have ty3 : TDs NoL H6 ys2 ((t.2.2.map fun e => e.2).map entD) := by
          rw [List.map_map]
          exact TDs.nlM (fun e => ent_nl e.2) ty2
        refine k1 _ _ ((e6.trans e7).trans e8) ?_ rfl
        exact .tup h8 (.cons (.str _) (.cons (.tup (e8.at h7) (((ty3.e e7).e e8).no)) .nil))
    · have ef : tysF.filter (fun _ => true) = tysF := List.filter_eq_self.mpr fun _ _ => rfl
      rw [ef] at ty
      have ty3 : TDs NoL H5 ys (scL.map tyD) := by
        rw [← tysF_sc, List.map_map]
        exact TDs.nlM (fun t => ty_nl _) ty
      have hx5 := e5.at hx4
      have tx5 := tx4.e e5
      wtm_at "go"
      refine ⟨D, ys, rfl, .inl ⟨sqL_ hy, ?_⟩⟩
      wtm_at "go"
      rename_i sa hsa H6 e6 h6
      have tsc : TD NoL H6 (.ref sa) scD := .tup h6 (ty3.e e6)
      have tb6 : Tabs K H6 := tabs_ (S := []) tb0 ((((e3.trans e4).trans e5)).trans e6)
      have tx6 := tx5.e e6
      refine forA walk_list tx6 (fun d σ H' => ∃ x5 x6 x7 x8 x9, Ex H6 H' ∧ σ = [some (.str lawText), some (.ref L), x2, x3, x4, x5, x6, x7, x8, x9, some (.ref sa)]) ?_ ?_ ?_ ?_
      · exact ⟨_, _, _, _, _, Ch.refl _ _, rfl⟩
      · rintro d σ H' ⟨x5, x6, x7, x8, x9, e7, _⟩
        exact sqL_ (e7.at (e6.at hx5))
      · rintro d t r v σ H7 ed tv ⟨x5, x6, x7, x8, x9, e7, rfl⟩
        have htm : t ∈ tysF := by rw [ed]; simp
        obtain ⟨a, l, ws, rfl, ha, hl, _, tl⟩ := (tv.e e7).tyl_
        wtm_at "go"
        refine forA walk_list tl (fun d2 σ H' => ∃ x8 x9, Ex H7 H' ∧ σ = [some (.str lawText), some (.ref L), x2, x3, x4, some (.str t.1), some (.int t.2.1), some (.ref l), x8, x9, some (.ref sa)]) ?_ ?_ ?_ ?_
        · exact ⟨_, _, Ch.refl _ _, rfl⟩
        · rintro d2 σ H' ⟨x8, x9, e8, _⟩
          exact sqL_ (e8.at hl)
        · rintro d2 e r2 v σ H8 ed2 tv2 ⟨x8, x9, e8, rfl⟩
          have hem : e ∈ t.2.2 := by rw [ed2]; simp
          have hke : (t.1, e.2) ∈ KE := of_decide_eq_true (List.all_eq_true.mp (List.all_eq_true.mp ok4 t htm) e hem)
          obtain ⟨b, c, f, us, rfl, hb, te, hc, _⟩ := (tv2.e e8).te_
          wtm_at "go"
          refine ⟨.ref sa, .ref c, t.1, e.2, rfl, tabs_ (S := []) tb6 (e7.trans e8), tsc.e (e7.trans e8), TD.nl _ _ (ent_nl e.2) te, hke, fun H9 e9 => ?_⟩
          wtm_at "gob"
          exact ⟨_, _, e8.trans e9, rfl⟩
        · rintro σ H8 ⟨x8, x9, e8, rfl⟩
          wtm_at "go"
          exact ⟨_, _, _, _, _, e7.trans e8, rfl⟩
      · rintro σ H7 ⟨x5, x6, x7, x8, x9, e7, rfl⟩
        wtm_at "go"
        rename_i aS H8 e8 z0 z1
        exact kk _ _ (E0.trans ((((e3.trans e4).trans e5).trans e6).trans (e7.trans e8))) (tsc.e (e7.trans e8))
theorem Tx.bd_Primary (T : Tx w K mg base) : Binds K (fd_Primary_init K) ["self", "name", "schema", "relationships"] [.ref (He.dflAt ("Primary", some "__init__") 0 K)] := by
  obtain ⟨ds, hv, hb⟩ := T.f_Primary_init.binds1 (ps := ["self", "name", "schema", "relationships"]) 3 0 (by simp) rfl fun T' kV doc pm an cdv ct us its hl hil => match us, its, hl, hil with
    | [_, _, _], [_], _, _ => ⟨_, rfl, rfl⟩
  cases hv with
  | cons r t =>
    cases t
    cases r
    exact hb
abbrev sp_prm_init (K : PySem.W.Frag) : Sp := fun vs H Q _ => ∃ (p dx : Addr), vs = [.ref p, .str "main", .str lawText, .ref (He.dflAt ("Primary", some "__init__") 0 K)] ∧ H p = some (.ins (He.ga K "Primary") dx []) ∧ Tabs K H ∧ ∀ vl R S H', Ch [p] H H' → H vl = none → Prm K (fun _ => S) R H' p vl 0 0 → Q .non H'
abbrev N_Primary_init : List Str := ["self", "name", "schema", "relationships"]
theorem sc_Primary_init : FnScope N_Primary_init ["self", "name", "schema", "relationships"] (defScope s_Primary_init) := ⟨rfl, rfl, rfl, by decide +kernel, rfl, by decide +kernel, by decide +kernel⟩
theorem ok_Primary_init (T : Tx w K mg base) : FnOk P w K mg base CX0 11 (a_Primary_init K) (fd_Primary_init K) ["self", "name", "schema", "relationships"] (sp_prm_init K) := by
  refine T.f_Primary_init.ok sc_Primary_init (fun vs H Q E h => ?_) (fun cdv A outer s H vs Q E hr h => ?_)
  · obtain ⟨p, dx, rfl, _⟩ := h
    rfl
  obtain ⟨p, dx, rfl, hp0, tb_, kk⟩ := h
  refine ⟨_, PSs.nox (pss_cons (ps_fld (pv 0) (pv 1) rfl) (pss_cons (ps_fld (pv 0) pe_int rfl) (pss_one (ps_fld (pv 0) (pe_lst (pa_cons (pe_make T.k_Revision (ok_Revision_init T) (hr.mono (by decide)) rfl T.g_Revision T.b_Revision_init .nil pass0 (pa_cons (pe_call (ok_read_schema T) (hr.mono (by decide)) rfl T.g_read_schema T.f_read_schema.kp T.b_read_schema .nil pass0 (pa_cons (pv 2) pa_nil)) (pa_cons (pe_callTy call_list_of (by rfl) T.n_list (by decide +kernel) (pa_cons (pv 3) pa_nil)) pa_nil))) pa_nil)) rfl)))), ?_⟩
  wtm_at "go"
  rename_i H1 c1 g1 H2 c2 g2
  refine ⟨tabs_ (tabs_ tb_ c1) c2, fun sv H3 e3 ts3 => ?_⟩
  wtm_at "go"
  refine ⟨_, [], rfl, .inr (T.dfl0 H3), fun l hl => ?_⟩
  generalize hH4 : upd H3 l _ = H4
  obtain ⟨e4, h4⟩ := exO hl hH4
  clear hH4
  wtm_at "go"
  rename_i r dr hrn hdrn hne H5 e5 h5
  have hrn : H4 r = none := hrn
  refine ⟨r, dr, sv, l, [], [], fun _ => false, rfl, h5, (ts3.e e4).e e5, e5.at h4, .nil, .nil, fun g => ⟨fun z => (nomatch z), fun z => (nomatch z.2)⟩, fun S H6 c6 hR => ?_⟩
  have p4 := e4.at (e3.at g2)
  have npr : p ≠ r := fun z => by rw [← z, p4] at hrn; cases hrn
  have p6 := c6.at1 (e5.at p4) npr
  have C2 : Ch [p] H H2 := c1.trans c2
  have C4 : Ch [p] H H4 := C2.trans (e3.trans e4).wk
  have C6 : Ch [p] H H6 := exG (C4.trans e5.wk) (C4.free hrn) c6
  wtm_at "go"
  rename_i vl hvl H7 e7 h7 H8 c8 g8
  have p7 := e7.at p6
  have nvp : vl ≠ p := ne_o h7 p7 fun z => nomatch z
  refine kk vl (fun _ => false) S H8 ((C6.trans e7.wk).trans c8) (C6.free hvl) ⟨dx, [], r, g8, c8.at1 h7 nvp, rfl, fun i a z => (nomatch z), (hR.ex e7).ch c8 (fun z => npr (List.mem_singleton.mp z).symm) (nolst p7 fun ws z => nomatch z)⟩
end


/-! ### the law's small defs -/
def CMulV (i j : Int) : Prop := i.natAbs.log2 + j.natAbs.log2 < 100000000
theorem CMulV.ok {i j : Int} (h : CMulV i j) : IntMulOk i j := by
  have b : ∀ x : Int, Builtin.Int.intBits x ≤ x.natAbs.log2 + 1 := fun x => by
    unfold Builtin.Int.intBits
    split <;> omega
  intro z
  have u1 := b i
  have u2 := b j
  have u3 : i.natAbs.log2 + j.natAbs.log2 < 100000000 := h
  have u5 := of_decide_eq_true (Bool.and_eq_true_iff.mp z).2
  rw [show bitsLine = 134217728 by decide] at u5
  omega
theorem op_mulV {X : Cx} : OpR X (binaryOp .Mult) (rI CMulV fun i j => .int (i * j)) := opI fun _ _ _ _ _ _ _ hc q => mul_int q hc.ok
theorem gI {C : Int → Int → Prop} {f : Int → Int → V} {i j : Int} {H : Hp} {Q : VK} (h : C i j) (q : Q (f i j) H) : rI C f (.int i) (.int j) H Q := ⟨i, j, rfl, rfl, h, q⟩
theorem gIsi {K : PySem.W.Frag} {H : Hp} {Q : VK} {x : V} {t : Value} {n : String} {b : Bool} (h : TyOf K H x t) (e : PySem.W.kitOne K t (.type n) = some b) (q : Q (.bl b) H) : rIsi K [x, .ty n] H Q := ⟨x, .ty n, t, .type n, b, rfl, .ty n, .base h, e, q⟩
section
variable {P : Program} {w : World} {K : PySem.W.Frag} {mg : Str → Option Value} {base : Heap}
/-- the script's cells, in bounds -/
def Scr (K : PySem.W.Frag) (H : Hp) (s : Addr) : Prop := ∃ ns : List Int, SqL K H s (ns.map V.int) ∧ ∀ z ∈ ns, z.natAbs.log2 ≤ 1048576
theorem Scr.ch {K : PySem.W.Frag} {S : List Addr} {H H' : Hp} {s : Addr} (h : Scr K H s) (e : Ch S H H') (hs : s ∉ S) : Scr K H' s := by
  obtain ⟨ns, h1, h2⟩ := h
  exact ⟨ns, Ch.sqL e hs h1, h2⟩
abbrev sp_cell (K : PySem.W.Frag) : Sp := fun vs H Q _ => ∃ (s : Addr) (k : Nat), vs = [.ref s, .int k] ∧ Scr K H s ∧ ∀ i : Int, i.natAbs.log2 ≤ 1048576 → Q (.int i) H
abbrev N_law_cell : List Str := ["_law_script", "_law_k"]
theorem sc_law_cell : FnScope N_law_cell ["_law_script", "_law_k"] (defScope s_law_cell) := ⟨rfl, rfl, rfl, by decide +kernel, rfl, by decide +kernel, by decide +kernel⟩
theorem ok_law_cell (T : Tx w K mg base) : FnOk P w K mg base CX0 1 (a_law_cell K) (fd_law_cell K) ["_law_script", "_law_k"] (sp_cell K) := by
  refine T.f_law_cell.ok sc_law_cell (fun vs H Q E h => ?_) (fun cdv A outer s H vs Q E hr h => ?_)
  · obtain ⟨s, k, rfl, _⟩ := h
    rfl
  obtain ⟨s, k, rfl, hS, kk⟩ := h
  refine ⟨_, PSs.nox (pss_cons (ps_if (pt_cmpR (op_lt) (pv 1) (pe_callB call_len_seq (by rfl) T.n_len (by decide +kernel) (pa_cons (pv 0) pa_nil)) (nomark _)) (pss_one (ps_ret (pe_ix ix_list (pv 0) (pv 1) (fun _ _ => rfl)))) pss_nil) (pss_one (ps_ret pe_int))), ?_⟩
  obtain ⟨ns, h1, h2⟩ := hS
  wtm_at "go"
  refine ⟨s, _, rfl, .inl h1, ?_⟩
  wtm_at "go"
  refine ifd (fun h => ?_) (fun h => ?_)
  · rw [List.length_map] at h
    have hk : k < ns.length := by omega
    wtm_at "go"
    refine ⟨s, _, _, .int ns[k], rfl, rfl, h1, atI_nat (by rw [List.getElem?_map, List.getElem?_eq_getElem hk]; rfl), ?_⟩
    exact kk _ (h2 _ (List.getElem_mem hk))
  · wtm_at "go"
    exact kk 0 (by decide)
theorem log2_small {i : Int} {b : Nat} (h : i.natAbs < 2 ^ b) (hb : 0 < b) : i.natAbs.log2 < b := PySem.Flt.log2_lt_of hb h
abbrev sp_draws : Sp := fun vs H Q _ => ∃ (c : Int) (n : Nat), vs = [.int c, .int n] ∧ c.natAbs.log2 ≤ 1048576 ∧ n ≤ 20 ∧ ∀ (l : Addr) (ds : List Int) H', Ex H H' → H l = none → H' l = some (.lst (ds.map V.int)) → ds.length = n → Q (.ref l) H'
abbrev N_law_draws : List Str := ["_law_cell_here", "_law_count", "_law_found", "_law_is_wide", "_law_k", "_law_mixed"]
theorem sc_law_draws : FnScope N_law_draws ["_law_cell_here", "_law_count"] (defScope s_law_draws) := ⟨rfl, rfl, rfl, by decide +kernel, rfl, by decide +kernel, by decide +kernel⟩
theorem ok_law_draws (T : Tx w K mg base) : FnOk P w K mg base CX0 1 (a_law_draws K) (fd_law_draws K) ["_law_cell_here", "_law_count"] sp_draws := by
  refine T.f_law_draws.ok sc_law_draws (fun vs H Q E h => ?_) (fun cdv A outer s H vs Q E hr h => ?_)
  · obtain ⟨c, n, rfl, _⟩ := h
    rfl
  obtain ⟨c, n, rfl, hc, hn, kk⟩ := h
  refine ⟨_, PSs.nox (pss_cons (ps_set (i := 2) sc_law_draws.nd rfl (Or.inl rfl) (pe_lst pa_nil)) (pss_cons (ps_set (i := 3) sc_law_draws.nd rfl (Or.inl rfl) (pe_cmpR (op_ge) (pv 0) (pe_op op_pow pe_int pe_int) (nomark _))) (pss_cons (ps_for PassesOwn.never rfl (pi_range1 (by rfl) T.n_range (pa_cons (pv 1) pa_nil)) (pg_name (i := 4) sc_law_draws.nd rfl (Or.inl rfl)) (pss_one (ps_if (pt_val (pv 3)) (pss_cons (ps_expr (pe_bm PySem.F.plainAttrs_list PySem.F.slot_list_append PySem.F.type_list_append mt_append (pv 2) (pa_cons (pe_op op_mod (pe_callTy call_int1 (by rfl) T.n_int (by decide +kernel) (pa_cons (pv 0) pa_nil)) pe_int) pa_nil))) (pss_one (ps_set (i := 0) sc_law_draws.nd rfl (Or.inl rfl) (pe_op op_fdivW (pv 0) pe_int)))) (pss_cons (ps_set (i := 5) sc_law_draws.nd rfl (Or.inl rfl) (pe_op op_mod (pe_callTy call_int1 (by rfl) T.n_int (by decide +kernel) (pa_cons (pe_op op_add (pe_op op_mulV (pv 0) pe_int) (pe_op op_mulV (pv 4) pe_int)) pa_nil)) pe_int)) (pss_one (ps_expr (pe_bm PySem.F.plainAttrs_list PySem.F.slot_list_append PySem.F.type_list_append mt_append (pv 2) (pa_cons (pe_op op_mod (pe_callTy call_int1 (by rfl) T.n_int (by decide +kernel) (pa_cons (pe_op op_add (pe_op op_add (pe_op op_mulV (pv 5) (pv 5)) (pe_op op_mulV (pv 0) pe_int)) (pv 4)) pa_nil)) pe_int) pa_nil)))))))) (pss_one (ps_ret (pv 2)))))), ?_⟩
  wtm_at "go"
  rename_i F hF H1 e1 h1
  refine gI (by refine ⟨?_, ?_, ?_⟩ <;> decide) ?_
  wtm_at "go"
  refine ⟨by omega, by omega, ?_⟩
  refine for_it walk_range (fun i σ H' => ∃ (ds : List Int) (c' : Int) (x4 x5 : Option V) (wd : Bool), Ex H H' ∧ H' F = some (.lst (ds.map V.int)) ∧ ds.length = i ∧ (wd = false → c'.natAbs.log2 ≤ 1048576) ∧ σ = [some (.int c'), some (.int n), some (.ref F), some (.bl wd), x4, x5]) ?_ ?_ ?_ ?_
  · exact ⟨[], c, _, _, _, e1, h1, rfl, fun _ => hc, rfl⟩
  · exact fun _ _ _ _ _ => trivial
  · rintro i v σ H3 H2 hi ⟨ds, c', x4, x5, wd, e2, h2, hl, hw, rfl⟩ ⟨rfl, rfl⟩
    have hi20 : i < 20 := by
      have : i < ((n : Nat) : Int).toNat := hi
      omega
    have hdl : (ds.map V.int).length < sizeLine := by
      rw [List.length_map, hl]
      exact Nat.lt_of_lt_of_le hi20 (sl_big (by decide))
    have fin : ∀ (d : Int) (c2 : Int) (x5' : Option V) H4, Ch [F] H2 H4 → H4 F = some (.lst (ds.map V.int ++ [.int d])) → (wd = false → c2.natAbs.log2 ≤ 1048576) → ∃ (ds : List Int) (c' : Int) (x4 x5 : Option V) (wd' : Bool), Ex H H4 ∧ H4 F = some (.lst (ds.map V.int)) ∧ ds.length = i + 1 ∧ (wd' = false → c'.natAbs.log2 ≤ 1048576) ∧
        [some (.int c2), some (.int n), some (.ref F), some (.bl wd), some (.int (0 + (i : Nat))), x5'] = [some (.int c'), some (.int n), some (.ref F), some (.bl wd'), x4, x5] := fun d c2 x5' H4 e4 h4 hw2 =>
      ⟨ds ++ [d], c2, _, _, wd, exD e2 hF e4, by rw [h4, List.map_append]; rfl, by rw [List.length_append, hl]; rfl, hw2, rfl⟩
    wtm_at "go"
    refine ifb (fun h => ?_) (fun h => ?_)
    · subst h
      wtm_at "go"
      refine gI (by decide) ?_
      wtm_at "go"
      refine gApp h2 hdl fun H4 e4 h4 => ?_
      wtm_at "go"
      refine gI ⟨by decide, by decide⟩ ?_
      exact fin _ _ _ _ e4 h4 (fun z => nomatch z)
    · subst h
      have hc' := hw rfl
      have hk : CMulV (0 + (i : Nat)) 69621 := by
        have a : (0 + ((i : Nat) : Int)).natAbs.log2 < 40 := log2_small (by omega) (by decide)
        have b : (69621 : Int).natAbs.log2 < 40 := log2_small (by decide) (by decide)
        unfold CMulV
        omega
      have b1 : (48271 : Int).natAbs.log2 < 40 := log2_small (by decide) (by decide)
      have b2 : (31 : Int).natAbs.log2 < 40 := log2_small (by decide) (by decide)
      wtm_at "go"
      refine gI (by unfold CMulV; omega) ?_
      wtm_at "go"
      refine gI hk ?_
      wtm_at "go"
      refine gI (by decide) ?_
      wtm_at "go"
      generalize hm : (c' * 48271 + (0 + ((i : Nat) : Int)) * 69621) % 2147483647 = m
      have hm1 : m.natAbs.log2 < 40 := log2_small (by omega) (by decide)
      refine gI (by unfold CMulV; omega) ?_
      wtm_at "go"
      refine gI (by unfold CMulV; omega) ?_
      wtm_at "go"
      refine gI (by decide) ?_
      wtm_at "go"
      refine gApp h2 hdl fun H4 e4 h4 => ?_
      exact fin _ _ _ _ e4 h4 (fun _ => hc')
  · rintro σ H2 ⟨ds, c', x4, x5, wd, e2, h2, hl, hw, rfl⟩
    wtm_at "go"
    refine kk F ds _ e2 hF h2 ?_
    rw [hl]
    show ((n : Nat) : Int).toNat = n
    omega
abbrev AtomV (x : V) : Prop := (∃ b, x = .bl b) ∨ (∃ s, x = .str s) ∨ ∃ i, x = .int i
abbrev sp_same0 : Sp := fun vs H Q _ => ∃ x, vs = [x, x] ∧ AtomV x ∧ Q (.bl true) H
abbrev N_law_same : List Str := ["_law_actual", "_law_expected", "_law_k"]
theorem sc_law_same : FnScope N_law_same ["_law_actual", "_law_expected"] (defScope s_law_same) := ⟨rfl, rfl, rfl, by decide +kernel, rfl, by decide +kernel, by decide +kernel⟩
theorem ok_law_same0 (T : Tx w K mg base) : FnOk P w K mg base CX0 1 (a_law_same K) (fd_law_same K) ["_law_actual", "_law_expected"] sp_same0 := by
  refine T.f_law_same.ok sc_law_same (fun vs H Q E h => ?_) (fun cdv A outer s H vs Q E hr h => ?_)
  · obtain ⟨x, rfl, _⟩ := h
    rfl
  obtain ⟨x, rfl, ha, kk⟩ := h
  refine ⟨_, PSs.nox (pss_cons (ps_if (pt_val (pe_callB call_isi (by rfl) T.n_isinstance (by decide +kernel) (pa_cons (pv 1) (pa_cons (pe_bltn (v := .ty "tuple") (by rfl) T.n_tuple (by decide +kernel) rfl) pa_nil)))) (pss_cons (ps_if (PW.pt (pw_or (pt_not (pt_val (pe_callB call_isi (by rfl) T.n_isinstance (by decide +kernel) (pa_cons (pv 0) (pa_cons (pe_bltn (v := .ty "tuple") (by rfl) T.n_tuple (by decide +kernel) rfl) pa_nil))))) (pw_or1 (pt_cmpR (op_ne) (pe_callB call_len_seq (by rfl) T.n_len (by decide +kernel) (pa_cons (pv 0) pa_nil)) (pe_callB call_len_seq (by rfl) T.n_len (by decide +kernel) (pa_cons (pv 1) pa_nil)) (nomark _))))) (pss_one (ps_ret pe_bl)) pss_nil) (pss_cons (ps_for PassesOwn.never rfl (pi_range1 (by rfl) T.n_range (pa_cons (pe_callB call_len_seq (by rfl) T.n_len (by decide +kernel) (pa_cons (pv 1) pa_nil)) pa_nil)) (pg_name (i := 2) sc_law_same.nd rfl (Or.inl rfl)) (pss_one (ps_if (pt_not (pt_val pe_never)) (pss_one (ps_ret pe_bl)) pss_nil))) (pss_one (ps_ret pe_bl)))) pss_nil) (pss_cons (ps_if (pt_cmpR (op_isN1) (pv 1) pe_non (nomark _)) (pss_one (ps_ret (pe_cmpR (op_isN1) (pv 0) pe_non (nomark _)))) pss_nil) (pss_cons (ps_if (pt_val (pe_callB call_isi (by rfl) T.n_isinstance (by decide +kernel) (pa_cons (pv 1) (pa_cons (pe_bltn (v := .ty "bool") (by rfl) T.n_bool (by decide +kernel) rfl) pa_nil)))) (pss_one (ps_ret (pe_and (pe_callB call_isi (by rfl) T.n_isinstance (by decide +kernel) (pa_cons (pv 0) (pa_cons (pe_bltn (v := .ty "bool") (by rfl) T.n_bool (by decide +kernel) rfl) pa_nil))) (pe_one (pe_cmpR (op_eq) (pv 0) (pv 1) (nomark _)))))) pss_nil) (pss_cons (ps_if (pt_val (pe_callB call_isi (by rfl) T.n_isinstance (by decide +kernel) (pa_cons (pv 1) (pa_cons (pe_bltn (v := .ty "str") (by rfl) T.n_str (by decide +kernel) rfl) pa_nil)))) (pss_one (ps_ret (pe_and (pe_callB call_isi (by rfl) T.n_isinstance (by decide +kernel) (pa_cons (pv 0) (pa_cons (pe_bltn (v := .ty "str") (by rfl) T.n_str (by decide +kernel) rfl) pa_nil))) (pe_one (pe_cmpR (op_eq) (pv 0) (pv 1) (nomark _)))))) pss_nil) (pss_one (ps_ret (pe_and (pe_callB call_isi (by rfl) T.n_isinstance (by decide +kernel) (pa_cons (pv 0) (pa_cons (pe_bltn (v := .ty "int") (by rfl) T.n_int (by decide +kernel) rfl) pa_nil))) (pe_and (pe_not (pe_callB call_isi (by rfl) T.n_isinstance (by decide +kernel) (pa_cons (pv 0) (pa_cons (pe_bltn (v := .ty "bool") (by rfl) T.n_bool (by decide +kernel) rfl) pa_nil)))) (pe_one (pe_cmpR (op_eq) (pv 0) (pv 1) (nomark _))))))))))), ?_⟩
  rcases ha with ⟨b, rfl⟩ | ⟨s', rfl⟩ | ⟨i, rfl⟩
  · wtm_at "go"
    refine gIsi (.bl b) (b := false) rfl ?_
    wtm_at "gob"
    refine ⟨rfl, ?_⟩
    wtm_at "gob"
    refine gIsi (.bl b) (b := true) rfl ?_
    wtm_at "gob"
    refine gIsi (.bl b) (b := true) rfl ?_
    wtm_at "gob"
    refine ⟨rfl, ?_⟩
    rw [decide_eq_true rfl]
    exact kk
  · wtm_at "go"
    refine gIsi (.str s') (b := false) rfl ?_
    wtm_at "gob"
    refine ⟨rfl, ?_⟩
    wtm_at "gob"
    refine gIsi (.str s') (b := false) rfl ?_
    wtm_at "gob"
    refine gIsi (.str s') (b := true) rfl ?_
    wtm_at "gob"
    refine gIsi (.str s') (b := true) rfl ?_
    wtm_at "gob"
    rw [decide_eq_true rfl]
    exact kk
  · wtm_at "go"
    refine gIsi (.int i) (b := false) rfl ?_
    wtm_at "gob"
    refine gIsi (.int i) (b := false) rfl ?_
    wtm_at "gob"
    refine gIsi (.int i) (b := false) rfl ?_
    wtm_at "gob"
    refine gIsi (.int i) (b := true) rfl ?_
    wtm_at "gob"
    refine gIsi (.int i) (b := false) rfl ?_
    wtm_at "gob"
    rw [decide_eq_true rfl]
    exact kk
abbrev sp_same : Sp := fun vs H Q _ => ∃ (a b : Addr) (x y : V), vs = [.ref a, .ref b] ∧ H a = some (.tup [x, y]) ∧ H b = some (.tup [x, y]) ∧ AtomV x ∧ AtomV y ∧ Q (.bl true) H
theorem ok_law_same (T : Tx w K mg base) : FnOk P w K mg base CX0 2 (a_law_same K) (fd_law_same K) ["_law_actual", "_law_expected"] sp_same := by
  refine T.f_law_same.ok sc_law_same (fun vs H Q E h => ?_) (fun cdv A outer s H vs Q E hr h => ?_)
  · obtain ⟨a, b, x, y, rfl, _⟩ := h
    rfl
  obtain ⟨a, b, x, y, rfl, ha, hb, hx, hy, kk⟩ := h
  refine ⟨_, PSs.nox (pss_cons (ps_if (pt_val (pe_callB call_isi (by rfl) T.n_isinstance (by decide +kernel) (pa_cons (pv 1) (pa_cons (pe_bltn (v := .ty "tuple") (by rfl) T.n_tuple (by decide +kernel) rfl) pa_nil)))) (pss_cons (ps_if (PW.pt (pw_or (pt_not (pt_val (pe_callB call_isi (by rfl) T.n_isinstance (by decide +kernel) (pa_cons (pv 0) (pa_cons (pe_bltn (v := .ty "tuple") (by rfl) T.n_tuple (by decide +kernel) rfl) pa_nil))))) (pw_or1 (pt_cmpR (op_ne) (pe_callB call_len_seq (by rfl) T.n_len (by decide +kernel) (pa_cons (pv 0) pa_nil)) (pe_callB call_len_seq (by rfl) T.n_len (by decide +kernel) (pa_cons (pv 1) pa_nil)) (nomark _))))) (pss_one (ps_ret pe_bl)) pss_nil) (pss_cons (ps_for PassesOwn.never rfl (pi_range1 (by rfl) T.n_range (pa_cons (pe_callB call_len_seq (by rfl) T.n_len (by decide +kernel) (pa_cons (pv 1) pa_nil)) pa_nil)) (pg_name (i := 2) sc_law_same.nd rfl (Or.inl rfl)) (pss_one (ps_if (pt_not (pt_val (pe_call (ok_law_same0 T) (hr.mono (by decide)) rfl T.g_law_same T.f_law_same.kp T.b_law_same .nil pass0 (pa_cons (pe_ix ix_tup (pv 0) (pv 2) (fun _ _ => rfl)) (pa_cons (pe_ix ix_tup (pv 1) (pv 2) (fun _ _ => rfl)) pa_nil))))) (pss_one (ps_ret pe_bl)) pss_nil))) (pss_one (ps_ret pe_bl)))) pss_nil) (pss_cons (ps_if (pt_cmpR (op_isN1) (pv 1) pe_non (nomark _)) (pss_one (ps_ret (pe_cmpR (op_isN1) (pv 0) pe_non (nomark _)))) pss_nil) (pss_cons (ps_if (pt_val (pe_callB call_isi (by rfl) T.n_isinstance (by decide +kernel) (pa_cons (pv 1) (pa_cons (pe_bltn (v := .ty "bool") (by rfl) T.n_bool (by decide +kernel) rfl) pa_nil)))) (pss_one (ps_ret (pe_and (pe_callB call_isi (by rfl) T.n_isinstance (by decide +kernel) (pa_cons (pv 0) (pa_cons (pe_bltn (v := .ty "bool") (by rfl) T.n_bool (by decide +kernel) rfl) pa_nil))) (pe_one (pe_cmpR (op_eq) (pv 0) (pv 1) (nomark _)))))) pss_nil) (pss_cons (ps_if (pt_val (pe_callB call_isi (by rfl) T.n_isinstance (by decide +kernel) (pa_cons (pv 1) (pa_cons (pe_bltn (v := .ty "str") (by rfl) T.n_str (by decide +kernel) rfl) pa_nil)))) (pss_one (ps_ret (pe_and (pe_callB call_isi (by rfl) T.n_isinstance (by decide +kernel) (pa_cons (pv 0) (pa_cons (pe_bltn (v := .ty "str") (by rfl) T.n_str (by decide +kernel) rfl) pa_nil))) (pe_one (pe_cmpR (op_eq) (pv 0) (pv 1) (nomark _)))))) pss_nil) (pss_one (ps_ret (pe_and (pe_callB call_isi (by rfl) T.n_isinstance (by decide +kernel) (pa_cons (pv 0) (pa_cons (pe_bltn (v := .ty "int") (by rfl) T.n_int (by decide +kernel) rfl) pa_nil))) (pe_and (pe_not (pe_callB call_isi (by rfl) T.n_isinstance (by decide +kernel) (pa_cons (pv 0) (pa_cons (pe_bltn (v := .ty "bool") (by rfl) T.n_bool (by decide +kernel) rfl) pa_nil)))) (pe_one (pe_cmpR (op_eq) (pv 0) (pv 1) (nomark _))))))))))), ?_⟩
  wtm_at "go"
  refine gIsi (.tup hb) (b := true) rfl ?_
  wtm_at "gob"
  refine gIsi (.tup ha) (b := true) rfl ?_
  wtm_at "gob"
  have e2 : ((([x, y] : List V).length : Nat) : Int) = 2 := rfl
  rw [e2]
  refine ⟨by decide, by decide, ?_⟩
  refine for_it walk_range (fun i σ H' => ∃ x2, H' = H ∧ σ = [some (.ref a), some (.ref b), x2]) ?_ ?_ ?_ ?_
  · exact ⟨_, rfl, rfl⟩
  · exact fun _ _ _ _ _ => trivial
  · rintro i v σ H2 H3 hi ⟨x2, rfl, rfl⟩ ⟨rfl, rfl⟩
    have hi2 : i < 2 := hi
    rcases (by omega : i = 0 ∨ i = 1) with rfl | rfl
    · wtm_at "go"
      exact ⟨_, rfl, rfl⟩
    · wtm_at "go"
      exact ⟨_, rfl, rfl⟩
  · rintro σ H2 ⟨x2, rfl, rfl⟩
    wtm_at "go"
    exact kk
end


theorem eqv_ints : ∀ ks : List Int, PyData.eqvAll (ks.map .int) (ks.map .int) = true
  | [] => by simp [PyData.eqvAll]
  | k :: ks => by simp [PyData.eqvAll, PyData.eqv, eqv_ints ks]
theorem eqv_en (e : En) : PyData.eqv (enD e) (enD e) = true := by
  simp only [enD, PyData.eqv, PyData.eqvAll, eqv_gs]
  simp
theorem eqv_ens : ∀ es : List En, PyData.eqvAll (es.map enD) (es.map enD) = true
  | [] => by simp [PyData.eqvAll]
  | e :: es => by simp [PyData.eqvAll, eqv_en, eqv_ens es]
theorem fine_main : Fine 0 (.str "main") := ⟨by decide +kernel, by decide +kernel⟩
theorem fine_en {e : En} (h : EnOk e) : Fine 3 (enD e) := fine_tup fun d hd => by
  simp only [List.mem_cons, List.not_mem_nil, or_false] at hd
  rcases hd with rfl | rfl | rfl | rfl
  · exact fine_main.mono (by decide)
  · exact (fine_int _).mono (by decide)
  · exact fine_gs h.2.1
  · exact fine_gs h.2.2.1
theorem recv_ge (n : Nat) (ks : List Nat) (k : Nat) : n ≤ (recv n ks k).1 := by
  have adv_ge : ∀ (m n : Nat) (ks : List Nat), ks.length = m → n ≤ (adv n ks).1 := by
    intro m
    induction m using Nat.strongRecOn with
    | ind m ih =>
      intro n ks hm
      by_cases h : n + 1 ∈ ks
      · rw [adv_yes h]
        have := ih _ (by rw [← hm]; exact filter_lt h) (n + 1) (del (n + 1) ks) rfl
        omega
      · rw [adv_no h]
        exact Nat.le_refl _
  unfold recv
  split
  · exact Nat.le_refl _
  · exact adv_ge _ n _ rfl
theorem recvs_ge : ∀ (js : List Nat) (s : Nat × List Nat), s.1 ≤ (recvs s js).1
  | [], s => Nat.le_refl _
  | k :: js, s => by
    have h1 : recvs s (k :: js) = recvs (recv s.1 s.2 k) js := rfl
    rw [h1]
    exact Nat.le_trans (recv_ge s.1 s.2 k) (recvs_ge js _)
section
variable {P : Program} {w : World} {K : PySem.W.Frag} {mg : Str → Option Value} {base : Heap}
abbrev sp_store (K : PySem.W.Frag) : Sp := fun vs H Q _ => ∃ s, vs = [.ref s, .int 3, .int 0] ∧ Tabs K H ∧ ∀ p vl R S H', Ex H H' → H p = none → Prm K (fun _ => S) R H' p vl 0 0 → Q (.ref p) H'
abbrev N_law_store : List Str := ["_law_script", "_law_start", "_law_many", "_law_schema", "_law_primary", "_law_k", "_law_draws_here", "_law_updates", "_law_j", "_law_kind", "_law_thing", "_law_who", "_law_line"]
theorem sc_law_store : FnScope N_law_store ["_law_script", "_law_start", "_law_many"] (defScope s_law_store) := ⟨rfl, rfl, rfl, by decide +kernel, rfl, by decide +kernel, by decide +kernel⟩
theorem ok_law_store (T : Tx w K mg base) : FnOk P w K mg base CX0 13 (a_law_store K) (fd_law_store K) ["_law_script", "_law_start", "_law_many"] (sp_store K) := by
  refine T.f_law_store.ok sc_law_store (fun vs H Q E h => ?_) (fun cdv A outer s H vs Q E hr h => ?_)
  · obtain ⟨s0, rfl, _⟩ := h
    rfl
  obtain ⟨s0, rfl, tb_, kk⟩ := h
  refine ⟨_, PSs.nox (pss_cons (ps_set (i := 3) sc_law_store.nd rfl (Or.inl rfl) pe_str) (pss_cons (ps_set (i := 4) sc_law_store.nd rfl (Or.inl rfl) (pe_make T.k_Primary (ok_Primary_init T) (hr.mono (by decide)) rfl T.g_Primary T.bd_Primary (.cons (show L2.RelV (V.ref (He.dflAt ("Primary", some "__init__") 0 K)) _ from rfl) .nil) pass0 (pa_cons pe_str (pa_cons (pv 3) pa_nil)))) (pss_cons (ps_for PassesOwn.never rfl (pi_range1 (by rfl) T.n_range (pa_cons (pv 2) pa_nil)) (pg_name (i := 5) sc_law_store.nd rfl (Or.inl rfl)) pss_never) (pss_one (ps_ret (pv 4)))))), ?_⟩
  wtm_at "go"
  rename_i p dp hp hdp hne H1 e1 h1
  have hp : H p = none := hp
  refine ⟨p, dp, rfl, h1, tabs_ (S := []) tb_ e1, fun vl R S H2 c2 hvl hP => ?_⟩
  wtm_at "go"
  refine for_it walk_range (fun i σ H' => H' = H2 ∧ ∃ x5 x6 x7 x8 x9 x10 x11 x12, σ = [some (.ref s0), some (.int 3), some (.int 0), some (.str lawText), some (.ref p), x5, x6, x7, x8, x9, x10, x11, x12]) ?_ ?_ ?_ ?_
  · exact ⟨rfl, _, _, _, _, _, _, _, _, rfl⟩
  · exact fun _ _ _ _ _ => trivial
  · intro i v σ H3 H4 hi
    exact absurd hi (Nat.not_lt_zero _)
  · rintro σ H3 ⟨rfl, x5, x6, x7, x8, x9, x10, x11, x12, rfl⟩
    wtm_at "go"
    exact kk p vl R S H3 (exD e1 hp c2) hp hP
abbrev sp_isans (K : PySem.W.Frag) : Sp := fun vs H Q _ => ∃ T R p vl f n m ms, ∃ x : Str, vs = [.ref p, .str (reqText m ms), .str x] ∧ Tabs K H ∧ Prm K T R H p vl f n ∧ n ≤ 40 ∧ m ≤ n ∧ (∀ k ∈ ms, k ≤ 100) ∧ ms.Pairwise (· < ·) ∧ ms.length ≤ 50 ∧
  (m < f → x = snapText n (tb (T n))) ∧ (f ≤ m → x = feedText ((due m n ms).map (enT T))) ∧ ∀ H', Ex H H' → Q (.bl true) H'
abbrev N_law_is_answer : List Str := ["_law_primary", "_law_request", "_law_text", "_law_store_here", "_law_revision", "_law_waiting", "_law_due", "_law_told", "_law_number", "_law_entry"]
theorem sc_law_is_answer : FnScope N_law_is_answer ["_law_primary", "_law_request", "_law_text"] (defScope s_law_is_answer) := ⟨rfl, rfl, rfl, by decide +kernel, rfl, by decide +kernel, by decide +kernel⟩
theorem ok_law_is_answer (T : Tx w K mg base) : FnOk P w K mg base CX0 9 (a_law_is_answer K) (fd_law_is_answer K) ["_law_primary", "_law_request", "_law_text"] (sp_isans K) := by
  refine T.f_law_is_answer.ok sc_law_is_answer (fun vs H Q E h => ?_) (fun cdv A outer s H vs Q E hr h => ?_)
  · obtain ⟨T0, R, p, vl, f, n, m, ms, x, rfl, _⟩ := h
    rfl
  obtain ⟨T0, R, p, vl, f, n, m, ms, x, rfl, tb_, hP, hn, hmn, hms, hso, hml, k1, k2, kk⟩ := h
  refine ⟨_, PSs.nox (pss_cons (ps_asg (pe_call (ok_read_request T) (hr.mono (by decide)) rfl T.g_read_request T.f_read_request.kp T.b_read_request .nil pass0 (pa_cons (pv 1) pa_nil)) (pg_tup (n := 3) rfl (pgs_cons (pg_name (i := 3) sc_law_is_answer.nd rfl (Or.inl rfl)) (pgs_cons (pg_name (i := 4) sc_law_is_answer.nd rfl (Or.inl rfl)) (pgs_cons (pg_name (i := 5) sc_law_is_answer.nd rfl (Or.inr rfl)) pgs_nil))))) (pss_cons (ps_if (pt_cmpR (op_lt) (pv 4) (pe_meth0 (pv 0) T.c_Primary T.m_Primary_oldest (ok_Primary_oldest T) (hr.mono (by decide)) T.b_Primary_oldest .nil pass0) (nomark _)) (pss_one (ps_ret (pe_call (ok_law_same T) (hr.mono (by decide)) rfl T.g_law_same T.f_law_same.kp T.b_law_same .nil pass0 (pa_cons (pe_slice sl_tupA (pe_call (ok_read_snapshot T) (hr.mono (by decide)) rfl T.g_read_snapshot T.f_read_snapshot.kp T.b_read_snapshot .nil pass0 (pa_cons (pv 2) pa_nil)) po_none (po_some pe_int)) (pa_cons (pe_tup (pa_cons pe_str (pa_cons (pe_meth0 (pv 0) T.c_Primary T.m_Primary_revision (ok_Primary_revision T) (hr.mono (by decide)) T.b_Primary_revision .nil pass0) pa_nil))) pa_nil))))) pss_nil) (pss_cons (ps_set (i := 6) sc_law_is_answer.nd rfl (Or.inl rfl) (pe_slice sl_list (pe_lc (own := [("_law_number", 8)]) rfl sc_law_is_answer.nd (pi_range2 (by rfl) T.n_range (pa_cons (pe_op op_add (pv 4) pe_int) (pa_cons (pe_op op_add (pe_meth0 (pv 0) T.c_Primary T.m_Primary_revision (ok_Primary_revision T) (hr.mono (by decide)) T.b_Primary_revision .nil pass0) pe_int) pa_nil))) (blkOk_by (own := [("_law_number", 8)]) (N := N_law_is_answer) (sc := defScope s_law_is_answer) (by decide +kernel)) (fun _ _ _ _ _ => (pg_name (i := 8) sc_law_is_answer.nd rfl (Or.inl rfl))) (fun _ _ _ _ _ => pts_one (pt_cmpR ((op_notIn_seqK (K := K) rfl)) (pv 8) (pv 5) (by rfl))) (fun _ _ _ _ _ => (pv 8))) po_none (po_some pe_int))) (pss_cons (ps_set (i := 7) sc_law_is_answer.nd rfl (Or.inl rfl) (pe_call (ok_read_feed T) (hr.mono (by decide)) rfl T.g_read_feed T.f_read_feed.kp T.b_read_feed .nil pass0 (pa_cons (pv 2) pa_nil))) (pss_one (ps_ret (pe_and (pe_cmpR (op_eqD (Nat.lt_of_succ_lt (hu_w hr))) (pe_lc (own := [("_law_entry", 9)]) rfl sc_law_is_answer.nd (pi_list (pv 7)) (blkOk_by (own := [("_law_entry", 9)]) (N := N_law_is_answer) (sc := defScope s_law_is_answer) (by decide +kernel)) (fun _ _ _ _ _ => (pg_name (i := 9) sc_law_is_answer.nd rfl (Or.inl rfl))) (fun _ _ _ _ _ => pts_nil) (fun _ _ _ _ _ => (pe_ix (ix_tupK (K := K) rfl) (pv 9) pe_int (fun _ _ => rfl)))) (pv 6) (nomark _)) (pe_one (pe_cmpR (op_eqD (Nat.lt_of_succ_lt (hu_w hr))) (pv 7) (pe_lc (own := [("_law_number", 8)]) rfl sc_law_is_answer.nd (pi_list (pv 6)) (blkOk_by (own := [("_law_number", 8)]) (N := N_law_is_answer) (sc := defScope s_law_is_answer) (by decide +kernel)) (fun _ _ _ _ _ => (pg_name (i := 8) sc_law_is_answer.nd rfl (Or.inl rfl))) (fun _ _ _ _ _ => pts_nil) (fun _ _ _ _ _ => (pe_meth (pv 0) T.c_Primary T.m_Primary_entry (ok_Primary_entry T) (hr.mono (by decide)) T.b_Primary_entry .nil pass0 (pa_cons (pv 8) pa_nil)))) (nomark _)))))))))), ?_⟩
  have hP0 := hP
  obtain ⟨dx, as, r, h1, h2, h3, h4, h5⟩ := hP
  wtm_at "go"
  refine ⟨by omega, hms, hso, hml, fun rp l H1 e1 hrp hl0 hl hr1 => ?_⟩
  have p1 := e1.at h1
  have hP1 := hP0.ex e1
  wtm_at "gob"
  refine ⟨T0, R, p, vl, f, n, rfl, hP1, ?_⟩
  wtm_at "gob"
  refine ifd (fun h => ?_) (fun h => ?_)
  · have h : m < f := by have h : ((m : Nat) : Int) < f := h; omega
    obtain rfl := k1 h
    wtm_at "gob"
    refine ⟨by omega, fun g hg => (mem_tb.mp hg).1, tb_len _, tb_sorted _, fun v H2 e2 tv => ?_⟩
    obtain ⟨a, tl, ws, rfl, ha, _, _, _⟩ := tv.sn_
    wtm_at "gob"
    refine gSlT ha (fun z => absurd z.2 (by show ¬ HT.sIx 3 3 (some 2) = 3; decide)) fun q H3 hq e3 hq3 => ?_
    have hq3 : H3 q = some (.tup [.str "main", .int n]) := hq3
    have E3 := e2.trans e3
    have p3 := E3.at p1
    have hP3 := hP1.ex E3
    wtm_at "gob"
    refine ⟨T0, R, p, vl, f, n, rfl, hP3, ?_⟩
    wtm_at "gob"
    rename_i q2 hq2 H4 e4 h4
    refine ⟨q, q2, .str "main", .int n, rfl, e4.at hq3, h4, .inr (.inl ⟨_, rfl⟩), .inr (.inr ⟨_, rfl⟩), ?_⟩
    exact kk _ ((e1.trans E3).trans e4)
  · have h : f ≤ m := by have h : ¬ ((m : Nat) : Int) < f := h; omega
    obtain rfl := k2 h
    wtm_at "gob"
    refine gLc ?_
    wtm_at "goc"
    refine ⟨T0, R, p, vl, f, n, rfl, hP1, ?_⟩
    wtm_at "goc"
    refine ⟨⟨by omega, by omega, by omega, by omega⟩, ?_⟩
    intro D hD
    have enn : (((n : Nat) : Int) + 1 - (((m : Nat) : Int) + 1)).toNat = n - m := by omega
    rw [enn]
    refine lcW walk_range (sl_big (by omega)) hD (fun _ _ => trivial) (fun i => (missK m i ms).map fun k => PyData.int (k : Nat)) rfl (fun i => ?_) (fun i v H3 H2 Pp P0 hi e2 hy kk1 kk0 => ?_) (fun H2 ys e2 hy ty => ?_)
    · rw [List.length_map]
      exact Nat.le_trans (List.length_filter_le _ _) (by rw [List.length_map, List.length_range]; exact Nat.le_refl _)
    · obtain ⟨rfl, rfl⟩ := hy
      have ev : ((m : Nat) : Int) + 1 + ((i : Nat) : Int) = ((m + 1 + i : Nat) : Int) := by omega
      have es : missK m (i + 1) ms = missK m i ms ++ (if m + 1 + i ∈ ms then [] else [m + 1 + i]) := by
        unfold missK
        rw [List.range_succ, List.map_append, List.filter_append]
        congr 1
        by_cases q : m + 1 + i ∈ ms <;> simp [q]
      dsimp only
      rw [ev]
      wtm_at "go"
      refine ⟨rfl, ?_⟩
      wtm_at "go"
      refine gNotInL (e2.at hl) rfl (flat_ints ms) ?_
      rw [inV_ints]
      wtm_at "go"
      refine ifb (fun q => ?_) (fun q => ?_)
      · have q : m + 1 + i ∉ ms := by simpa using q
        wtm_at "go"
        refine kk1 _ _ (.int _) (Ch.refl _ _) (.int _) ?_
        rw [es, if_neg q, List.map_append]
        rfl
      · have q : m + 1 + i ∈ ms := by simpa using q
        refine kk0 _ (Ch.refl _ _) ?_
        rw [es, if_pos q, List.append_nil]
    have ty2 : TDs (fun x => H1 x = none ∧ x ≠ D) H2 ys (((missK m (n - m) ms).map fun k => ((k : Nat) : Int)).map PyData.int) := by
      rw [List.map_map]
      exact ty
    obtain rfl := ty2.ints_
    wtm_at "go"
    rename_i q H3 hq e3 hq3
    have ecut : cutV (((missK m (n - m) ms).map fun k => ((k : Nat) : Int)).map V.int) none (some 10) = ((due m n ms).map fun k => ((k : Nat) : Int)).map V.int := by
      rw [show (10 : Int) = ((10 : Nat) : Int) from rfl, cut_to, ← List.map_take, ← List.map_take]
      rfl
    rw [ecut] at hq3
    have hdl := due_len m n ms
    have hgood : ∀ e ∈ (due m n ms).map (enT T0), EnGood e := fun e he => by
      obtain ⟨k, hk, rfl⟩ := List.mem_map.mp he
      have := due_mem hk
      exact enT_good T0 (by omega) (by omega)
    refine ⟨hgood, by rw [List.length_map]; omega, fun v H4 e4 tv => ?_⟩
    obtain ⟨tl, tws, rfl, htl, _, ttl⟩ := tv.lst_
    have htwl := ttl.len
    rw [List.length_map, List.length_map] at htwl
    have hq4 := e4.at hq3
    wtm_at "go"
    refine gLc ?_
    wtm_at "goc"
    intro D2 hD2
    refine lcA walk_list ttl (by rw [htwl]; exact sl_big (by omega)) hD2 (fun H' e => sqL_ (e.at htl)) (fun _ => true) (fun e => PyData.int (e.1 : Nat)) (fun i e v H5 Pp P0 hx tv5 e5 kk1 kk0 => ?_) (fun H5 ys e5 hy5 ty5 => ?_)
    · obtain ⟨a, l1, w1, l2, w2, rfl, ha, _⟩ := tv5.en_
      wtm_at "go"
      refine ⟨rfl, ?_⟩
      wtm_at "go"
      exact kk1 _ _ (Ch.refl _ _) (.int _) rfl
    have ty6 : TDs (fun x => H4 x = none ∧ x ≠ D2) H5 ys (((due m n ms).map fun k => ((k : Nat) : Int)).map PyData.int) := by
      rw [List.filter_eq_self.mpr (fun _ _ => rfl), List.map_map] at ty5
      rw [List.map_map]
      exact ty5
    obtain rfl := ty6.ints_
    have hq5 := e5.at hq4
    have sh1 : SeqAt.shaped (.list (((due m n ms).map fun k => ((k : Nat) : Int)).map PyData.int)) = true := Fine.shaped (n := 1) (fine_lst fun d hd => by
      obtain ⟨k, _, rfl⟩ := List.mem_map.mp hd
      exact fine_int k) (by decide)
    have ti : ∀ H' : Hp, TDs NoL H' (((due m n ms).map fun k => ((k : Nat) : Int)).map V.int) (((due m n ms).map fun k => ((k : Nat) : Int)).map PyData.int) := fun H' => TDs.ints _
    wtm_at "go"
    refine ⟨_, _, TD.dp (A := AnyL) (.lst hy5 trivial (ti H5).no), TD.dp (A := AnyL) (.lst hq5 trivial (ti H5).no), sh1, sh1, ?_⟩
    have ev1 : PyData.eqv (.list (((due m n ms).map fun k => ((k : Nat) : Int)).map PyData.int)) (.list (((due m n ms).map fun k => ((k : Nat) : Int)).map PyData.int)) = true := by
      simp only [PyData.eqv]
      exact eqv_ints _
    rw [ev1]
    wtm_at "gob"
    refine gLc ?_
    wtm_at "goc"
    intro D3 hD3
    have ti5 : TDs NoL H5 (((due m n ms).map fun k => ((k : Nat) : Int)).map V.int) ((due m n ms).map fun k => PyData.int ((k : Nat) : Int)) := by
      have z := ti H5
      rw [List.map_map (g := PyData.int)] at z
      exact z
    refine lcA walk_list ti5 (by rw [List.length_map, List.length_map]; exact sl_big (by omega)) hD3 (fun H' e => sqL_ (e.at hq5)) (fun _ => true) (fun k => enD (enT T0 k)) (fun i k v H6 Pp P0 hx tv6 e6 kk1 kk0 => ?_) (fun H6 ys6 e6 hy6 ty6 => ?_)
    · obtain rfl := tv6.int_
      have hk := due_mem (List.mem_of_getElem? hx)
      have E6 := (((e2.trans e3).trans e4).trans e5).trans e6
      have hP6 := hP1.ex E6
      have p6 := E6.at p1
      wtm_at "go"
      refine ⟨rfl, ?_⟩
      wtm_at "go"
      refine ⟨T0, R, p, vl, f, n, k, rfl, hP6, by omega, hk.2, fun v H7 e7 tv7 => ?_⟩
      exact kk1 _ _ e7 tv7 rfl
    · rw [List.filter_eq_self.mpr (fun _ _ => rfl)] at ty6
      have ty7 : TDs AnyL H6 ys6 (((due m n ms).map (enT T0)).map enD) := by
        rw [List.map_map]
        exact ty6.w fun _ _ => trivial
      have sh2 : SeqAt.shaped (.list (((due m n ms).map (enT T0)).map enD)) = true := Fine.shaped (n := 4) (fine_lst fun d hd => by
        obtain ⟨e, he, rfl⟩ := List.mem_map.mp hd
        exact fine_en (hgood e he).1) (by decide)
      have ttl6 : TDs AnyL H6 tws (((due m n ms).map (enT T0)).map enD) := ((ttl.e e5).e e6).w fun _ _ => trivial
      refine ⟨_, _, TD.dp (A := AnyL) (.lst (e6.at (e5.at htl)) trivial ttl6), TD.dp (A := AnyL) (.lst hy6 trivial ty7), sh2, sh2, ?_⟩
      have ev2 : PyData.eqv (.list (((due m n ms).map (enT T0)).map enD)) (.list (((due m n ms).map (enT T0)).map enD)) = true := by
        simp only [PyData.eqv]
        exact eqv_ens _
      rw [ev2]
      exact kk _ (e1.trans ((((e2.trans e3).trans e4).trans e5).trans e6))
end


/-- the tables, revision by revision -/
def Tbl (H : Hp) (L : Addr) (T : Nat → Gr → Bool) (n : Nat) : Prop := ∃ as : List Addr, H L = some (.lst (as.map V.ref)) ∧ as.length = n + 1 ∧ ∀ i a, as[i]? = some a → a ≠ L ∧ ∃ ws, H a = some (.lst ws) ∧ TDs NoL H ws ((tb (T i)).map gD)
def chr (x : Str) (k : Nat) : Str := ⟨#[x.cps.toList.getD k 0]⟩
def gk (k : Nat) : Gr := ("d:" ++ chr "pq" (k % 2), chr "owbv" (k / 2 % 4), "u:" ++ chr "abc" (k / 8))
theorem gk_uni : ∀ k : Fin 24, gk k.val ∈ Uni := by decide +kernel
theorem gk_len : ∀ k : Fin 24, ("d:" ++ chr "pq" (k.val % 2) : Str).length ≤ 20 ∧ ("u:" ++ chr "abc" (k.val / 8) : Str).length ≤ 20 := by decide +kernel
theorem chr_at {x : Str} {i : Int} {k : Nat} (h : i = (k : Nat)) (hk : k < x.cps.toList.length) : atI x.cps.toList i = some (x.cps.toList.getD k 0) := by
  subst h
  refine atI_nat ?_
  rw [List.getElem?_eq_getElem hk, List.getD_eq_getElem?_getD, List.getElem?_eq_getElem hk]
  rfl
theorem tok_at : ∀ n : Fin 101, ("main@" ++ (toString ((n.val : Nat) : Int) : String) : Str) = tokOf "main" n.val := by decide +kernel
section
variable {P : Program} {w : World} {K : PySem.W.Frag} {mg : Str → Option Value} {base : Heap}
abbrev sp_taken (K : PySem.W.Frag) : Sp := fun vs H Q _ => ∃ (T : Nat → Gr → Bool) (f r ld : Addr) (n : Nat) (ks : List Nat) (x : Str), vs = [.ref f, .str x] ∧ Tabs K H ∧ Fol K T H f r ld n ks ∧ ks.length ≤ 50 ∧ (∀ k ∈ ks, k ≤ 40) ∧
  ((∃ m, x = snapText m (tb (T m)) ∧ m ≤ 40 ∧ (m ≤ n → ∀ H', Ex H H' → Q (.bl true) H') ∧
      (n < m → ∀ (ms : List Nat) r' ld' H', ms.Perm ks → ms.Pairwise (· ≤ ·) → H r' = none → H ld' = none → Ch [f] H H' → Fol K T H' f r' ld' (recvs (m, []) ms).1 (recvs (m, []) ms).2 → Q (.bl true) H')) ∨
   (∃ js : List Nat, x = feedText (js.map (enT T)) ∧ js.length ≤ 20 ∧ (∀ j ∈ js, 1 ≤ j ∧ j ≤ 40) ∧
      ∀ H', Ch [r, ld] H H' → Fol K T H' f r ld (recvs (n, ks) js).1 (recvs (n, ks) js).2 → Q (.bl true) H'))
abbrev N_law_taken : List Str := ["_law_follower", "_law_text", "_law_before", "_law_told", "e"]
theorem sc_law_taken : FnScope N_law_taken ["_law_follower", "_law_text"] (defScope s_law_taken) := ⟨rfl, rfl, rfl, by decide +kernel, rfl, by decide +kernel, by decide +kernel⟩
theorem ok_law_taken (T : Tx w K mg base) : FnOk P w K mg base CX0 10 (a_law_taken K) (fd_law_taken K) ["_law_follower", "_law_text"] (sp_taken K) := by
  refine T.f_law_taken.ok sc_law_taken (fun vs H Q E h => ?_) (fun cdv A outer s H vs Q E hr h => ?_)
  · obtain ⟨T0, f, r, ld, n, ks, x, rfl, _⟩ := h
    rfl
  obtain ⟨T0, f, r, ld, n, ks, x, rfl, tb_, hF, hkl, hk40, hc⟩ := h
  refine ⟨_, PSs.nox (pss_cons (ps_set (i := 2) sc_law_taken.nd rfl (Or.inl rfl) (pe_meth0 (pv 0) T.c_Follower T.m_Follower_revision (ok_Follower_revision T) (hr.mono (by decide)) T.b_Follower_revision .nil pass0)) (pss_cons (ps_try_thru0 (pss_one (ps_set (i := 3) sc_law_taken.nd rfl (Or.inl rfl) (pe_meth (pv 0) T.c_Follower T.m_Follower_take (ok_Follower_take T) (hr.mono (by decide)) T.b_Follower_take .nil pass0 (pa_cons (pv 1) pa_nil))))) (pss_one (ps_ret (pe_and (pe_cmpR (op_eq) (pv 3) (pe_op op_sub (pe_meth0 (pv 0) T.c_Follower T.m_Follower_revision (ok_Follower_revision T) (hr.mono (by decide)) T.b_Follower_revision .nil pass0) (pv 2)) (nomark _)) (pe_one (pe_cmpR (op_ge) (pv 3) pe_int (nomark _)))))))), ?_⟩
  have hF0 := hF
  obtain ⟨dx, hf, hR⟩ := hF
  wtm_at "go"
  refine ⟨T0, f, r, ld, n, ks, rfl, hF0, ?_⟩
  wtm_at "go"
  refine ⟨T0, f, r, ld, n, ks, x, rfl, tb_, hF0, hkl, hk40, ?_⟩
  rcases hc with ⟨m, hx, hm, k1, k2⟩ | ⟨js, hx, hjl, hj, k3⟩
  · refine .inl ⟨m, hx, hm, fun h H1 e1 => ?_, fun h ms r' ld' H1 hp hs hr2 hl2 c1 hF1 => ?_⟩
    · have hF1 := hF0.ex e1
      have hf1 := e1.at hf
      wtm_at "go"
      refine ⟨T0, f, r, ld, n, ks, rfl, hF1, ?_⟩
      wtm_at "go"
      refine blT (decide_eq_true rfl) ?_
      wtm_at "go"
      rw [decide_eq_true (by omega)]
      exact k1 h _ e1
    · have hF1' := hF1
      obtain ⟨dx1, hf1, _⟩ := hF1'
      have hge := recvs_ge ms (m, [])
      have hge : m ≤ (recvs (m, []) ms).1 := hge
      wtm_at "go"
      refine ⟨T0, f, r', ld', _, _, rfl, hF1, ?_⟩
      wtm_at "go"
      refine blT (decide_eq_true rfl) ?_
      wtm_at "go"
      rw [decide_eq_true (by omega)]
      exact k2 h ms r' ld' _ hp hs hr2 hl2 c1 hF1
  · refine .inr ⟨js, hx, hjl, hj, fun H1 c1 hge hF1 => ?_⟩
    have hF1' := hF1
    obtain ⟨dx1, hf1, _⟩ := hF1'
    wtm_at "go"
    refine ⟨T0, f, r, ld, _, _, rfl, hF1, ?_⟩
    wtm_at "go"
    refine blT (decide_eq_true rfl) ?_
    wtm_at "go"
    rw [decide_eq_true (by omega)]
    exact k3 _ c1 hF1
abbrev sp_istrue (K : PySem.W.Frag) : Sp := fun vs H Q _ => ∃ (T : Nat → Gr → Bool) (f r ld : Addr) (n : Nat) (ks : List Nat) (L : Addr) (N : Nat), vs = [.ref f, .ref L] ∧ Tabs K H ∧ Fol K T H f r ld n ks ∧ Tbl H L T N ∧ n ≤ N ∧ N ≤ 40 ∧ ∀ H', Ex H H' → Q (.bl true) H'
abbrev N_law_is_true : List Str := ["_law_follower", "_law_tables", "_law_number", "_law_k", "_law_grant", "_law_told"]
theorem sc_law_is_true : FnScope N_law_is_true ["_law_follower", "_law_tables"] (defScope s_law_is_true) := ⟨rfl, rfl, rfl, by decide +kernel, rfl, by decide +kernel, by decide +kernel⟩
theorem ok_law_is_true (T : Tx w K mg base) : FnOk P w K mg base CX0 9 (a_law_is_true K) (fd_law_is_true K) ["_law_follower", "_law_tables"] (sp_istrue K) := by
  refine T.f_law_is_true.ok sc_law_is_true (fun vs H Q E h => ?_) (fun cdv A outer s H vs Q E hr h => ?_)
  · obtain ⟨T0, f, r, ld, n, ks, L, N, rfl, _⟩ := h
    rfl
  obtain ⟨T0, f, r, ld, n, ks, L, N, rfl, tb_, hF, hT, hnN, hN, kk⟩ := h
  refine ⟨_, PSs.nox (pss_cons (ps_set (i := 2) sc_law_is_true.nd rfl (Or.inl rfl) (pe_meth0 (pv 0) T.c_Follower T.m_Follower_revision (ok_Follower_revision T) (hr.mono (by decide)) T.b_Follower_revision .nil pass0)) (pss_cons (ps_for PassesOwn.never rfl (pi_range1 (by rfl) T.n_range (pa_cons pe_int pa_nil)) (pg_name (i := 3) sc_law_is_true.nd rfl (Or.inl rfl)) (pss_cons (ps_set (i := 4) sc_law_is_true.nd rfl (Or.inl rfl) (pe_tup (pa_cons (pe_op op_add_str pe_str (pe_ix ix_str pe_str (pe_op op_mod (pv 3) pe_int) (fun _ _ => rfl))) (pa_cons (pe_ix ix_str pe_str (pe_op op_mod (pe_op op_fdivW (pv 3) pe_int) pe_int) (fun _ _ => rfl)) (pa_cons (pe_op op_add_str pe_str (pe_ix ix_str pe_str (pe_op op_fdivW (pv 3) pe_int) (fun _ _ => rfl))) pa_nil))))) (pss_cons (ps_set (i := 5) sc_law_is_true.nd rfl (Or.inl rfl) (pe_meth (pv 0) T.c_Follower T.m_Follower_check (ok_Follower_check T) (hr.mono (by decide)) T.b_Follower_check .nil pass0 (pa_cons (pe_ix ix_tup (pv 4) pe_int (fun _ _ => rfl)) (pa_cons (pe_ix ix_tup (pv 4) pe_int (fun _ _ => rfl)) (pa_cons (pe_ix ix_tup (pv 4) pe_int (fun _ _ => rfl)) (pa_cons (pe_op op_add_str pe_str (pe_callTy call_str_int (by rfl) T.n_str (by decide +kernel) (pa_cons (pv 2) pa_nil))) pa_nil)))))) (pss_one (ps_if (pt_not (pt_val (pe_call (ok_law_same T) (hr.mono (by decide)) rfl T.g_law_same T.f_law_same.kp T.b_law_same .nil pass0 (pa_cons (pv 5) (pa_cons (pe_tup (pa_cons (pe_cmpR (op_inD (hu_w hr)) (pv 4) (pe_ix ix_list (pv 1) (pv 2) (fun _ _ => rfl)) (by rfl)) (pa_cons (pe_op op_add_str pe_str (pe_callTy call_str_int (by rfl) T.n_str (by decide +kernel) (pa_cons (pv 2) pa_nil))) pa_nil))) pa_nil))))) (pss_one (ps_ret pe_bl)) pss_nil))))) (pss_one (ps_ret pe_bl)))), ?_⟩
  have hF0 := hF
  obtain ⟨dx, hf, hR⟩ := hF
  obtain ⟨as, hL, hal, hta⟩ := hT
  wtm_at "go"
  refine ⟨T0, f, r, ld, n, ks, rfl, hF0, ?_⟩
  wtm_at "go"
  have htok := tok_at ⟨n, by omega⟩
  dsimp only at htok
  have hlog : ((n : Nat) : Int).natAbs.log2 < 1920 := log_le (by omega)
  obtain ⟨ta, hta1⟩ : ∃ ta, as[n]? = some ta := ⟨as[n]'(by omega), List.getElem?_eq_getElem _⟩
  obtain ⟨nta, tws, hta2, ttw⟩ := hta n ta hta1
  refine for_it walk_range (fun i σ H' => ∃ x3 x4 x5, Ex H H' ∧ σ = [some (.ref f), some (.ref L), some (.int n), x3, x4, x5]) ?_ ?_ ?_ ?_
  · exact ⟨_, _, _, Ch.refl _ _, rfl⟩
  · exact fun _ _ _ _ _ => trivial
  · rintro i v σ H3 H2 hi ⟨x3, x4, x5, e2, rfl⟩ ⟨rfl, rfl⟩
    have hi : i < 24 := hi
    have hg := gk_uni ⟨i, hi⟩
    have hg : gk i ∈ Uni := hg
    have hf2 := e2.at hf
    have hF2 := hF0.ex e2
    wtm_at "go"
    refine gI (by decide) ?_
    refine gIxS (by decide) (chr_at (k := i % 2) (by omega) (show i % 2 < 2 by omega)) ?_
    wtm_at "go"
    refine ⟨by show 2 + 1 ≤ sizeLine; decide, ?_⟩
    wtm_at "go"
    refine gI ⟨by decide, by decide⟩ ?_
    wtm_at "go"
    refine gI (by decide) ?_
    refine gIxS (by decide) (chr_at (k := i / 2 % 4) (by omega) (show i / 2 % 4 < 4 by omega)) ?_
    wtm_at "go"
    refine gI ⟨by decide, by decide⟩ ?_
    refine gIxS (by decide) (chr_at (k := i / 8) (by omega) (show i / 8 < 3 by omega)) ?_
    wtm_at "go"
    refine ⟨by show 2 + 1 ≤ sizeLine; decide, ?_⟩
    wtm_at "go"
    rename_i q hq H4 e4 h4
    have h4 : H4 q = some (.tup [.str (gk i).1, .str (gk i).2.1, .str (gk i).2.2]) := h4
    have hnl := num_len ⟨n, by omega⟩
    have hnl : ((toString ((n : Nat) : Int) : String) : Str).length ≤ 4 := hnl
    have hlen : (Str.ofString "main@").length + (Str.ofString (toString ((n : Nat) : Int))).length ≤ sizeLine := by
      have a : (Str.ofString "main@").length = 5 := rfl
      rw [a]
      exact sl_big (by omega)
    have hf4 := e4.at hf2
    have hL4 := (e2.trans e4).at hL
    refine ⟨hlen, ?_⟩
    wtm_at "go"
    rw [htok]
    refine ⟨T0, f, r, ld, n, ks, gk i, rfl, tabs_ (S := []) tb_ (e2.trans e4), hF2.ex e4, by omega, hg, fun q2 H5 e5 hq2 h5 => ?_⟩
    have E5 := (e2.trans e4).trans e5
    have hL5 := e5.at hL4
    wtm_at "go"
    refine gIxL hL5 (atI_nat (by rw [List.getElem?_map, hta1]; rfl)) ?_
    refine gInG (g := gk i) (e5.at h4) (E5.at hta2) (ttw.e E5) (fine_g hg) (fun x hx => fine_g (mem_tb.mp hx).1) ?_
    have ein : decide (gk i ∈ tb (T0 n)) = T0 n (gk i) := by
      rw [Bool.eq_iff_iff, decide_eq_true_eq, mem_tb]
      exact ⟨fun h => h.2, fun h => ⟨hg, h⟩⟩
    rw [ein]
    wtm_at "go"
    rename_i q3 hq3 H6 e6 h6
    rw [htok] at h6
    refine ⟨q2, q3, .bl (T0 n (gk i)), .str (tokOf "main" n), rfl, e6.at h5, h6, .inl ⟨_, rfl⟩, .inr (.inl ⟨_, rfl⟩), ?_⟩
    wtm_at "gob"
    exact ⟨_, _, _, E5.trans e6, rfl⟩
  · rintro σ H2 ⟨x3, x4, x5, e2, rfl⟩
    wtm_at "go"
    exact kk _ e2
end
/-! ### the plain law: what a follower knows -/
theorem nodup_len : ∀ (N : Nat) (ks : List Nat), ks.Nodup → (∀ k ∈ ks, k < N) → ks.length ≤ N
  | 0, ks, _, h => by
    cases ks with
    | nil => exact Nat.le_refl _
    | cons k r => exact absurd (h k List.mem_cons_self) (Nat.not_lt_zero _)
  | N + 1, ks, hn, h => by
    by_cases hm : N ∈ ks
    · have h1 := List.length_erase_of_mem hm
      have h2 := nodup_len N (ks.erase N) (hn.erase N) fun k hk => by
        have a := h k (List.mem_of_mem_erase hk)
        have b : k ≠ N := fun z => by
          rw [z] at hk
          exact (List.Nodup.not_mem_erase hn) hk
        omega
      have h3 := List.length_pos_of_mem hm
      omega
    · have := nodup_len N ks hn fun k hk => by
        have a := h k hk
        have b : k ≠ N := fun z => hm (z ▸ hk)
        omega
      omega
/-- what waits lies behind the next revision -/
def FInv (N m : Nat) (ks : List Nat) : Prop := m ≤ N ∧ (∀ k ∈ ks, m + 1 < k ∧ k ≤ N) ∧ ks.Nodup
theorem FInv.len {N m : Nat} {ks : List Nat} (h : FInv N m ks) : ks.length ≤ N + 1 := nodup_len (N + 1) ks h.2.2 fun k hk => by
  have := (h.2.1 k hk).2
  omega
theorem FInv.mono {N M m : Nat} {ks : List Nat} (h : FInv N m ks) (hM : N ≤ M) : FInv M m ks := ⟨Nat.le_trans h.1 hM, fun k hk => ⟨(h.2.1 k hk).1, Nat.le_trans (h.2.1 k hk).2 hM⟩, h.2.2⟩
theorem FInv.nil {N m : Nat} (h : m ≤ N) : FInv N m [] := ⟨h, (fun k hk => nomatch hk), List.Pairwise.nil⟩
def kn (s : Nat × List Nat) (k : Nat) : Bool := decide (k ≤ s.1) || decide (k ∈ s.2)
theorem mem_del {n k : Nat} {ks : List Nat} : k ∈ del n ks ↔ k ∈ ks ∧ k ≠ n := by
  unfold del
  rw [List.mem_filter]
  simp
theorem adv_inv {N : Nat} : ∀ (l m : Nat) (ks : List Nat), ks.length = l → m ≤ N → (∀ k ∈ ks, m < k ∧ k ≤ N) → ks.Nodup → FInv N (adv m ks).1 (adv m ks).2 ∧ m ≤ (adv m ks).1 ∧ ∀ k, kn (adv m ks) k = kn (m, ks) k := by
  intro l
  induction l using Nat.strongRecOn with
  | ind l ih =>
    intro m ks hl hm hk hn
    by_cases h : m + 1 ∈ ks
    · have h2 : m + 1 ≤ N := (hk _ h).2
      obtain ⟨a, b, c⟩ := ih _ (by rw [← hl]; exact filter_lt h) (m + 1) (del (m + 1) ks) rfl h2 (fun k hkd => by
        obtain ⟨x, y⟩ := mem_del.mp hkd
        have := hk k x
        omega) (hn.filter _)
      rw [adv_yes h]
      refine ⟨a, by omega, fun k => ?_⟩
      rw [c k, Bool.eq_iff_iff]
      simp only [kn, Bool.or_eq_true, decide_eq_true_eq, mem_del]
      constructor
      · rintro (q | ⟨q, _⟩)
        · by_cases e : k = m + 1
          · exact .inr (e ▸ h)
          · exact .inl (by omega)
        · exact .inr q
      · rintro (q | q)
        · exact .inl (by omega)
        · by_cases e : k = m + 1
          · exact .inl (by omega)
          · exact .inr ⟨q, e⟩
    · rw [adv_no h]
      refine ⟨⟨hm, fun k hkk => ?_, hn⟩, Nat.le_refl _, fun _ => rfl⟩
      have := hk k hkk
      have : k ≠ m + 1 := fun z => h (z ▸ hkk)
      omega
theorem recv_inv {N m k : Nat} {ks : List Nat} (h : FInv N m ks) (hk : k ≤ N) : FInv N (recv m ks k).1 (recv m ks k).2 ∧ m ≤ (recv m ks k).1 ∧ ∀ j, kn (recv m ks k) j = (kn (m, ks) j || decide (j = k)) := by
  obtain ⟨h1, h2, h3⟩ := h
  unfold recv
  by_cases hc : k ≤ m ∨ k ∈ ks
  · rw [if_pos hc]
    refine ⟨⟨h1, h2, h3⟩, Nat.le_refl _, fun j => ?_⟩
    rw [Bool.eq_iff_iff]
    simp only [kn, Bool.or_eq_true, decide_eq_true_eq]
    constructor
    · intro q; exact .inl q
    · rintro (q | rfl)
      · exact q
      · exact hc
  · rw [if_neg hc]
    have hc1 : ¬ k ≤ m := fun z => hc (.inl z)
    have hc2 : k ∉ ks := fun z => hc (.inr z)
    obtain ⟨a, b, c⟩ := adv_inv (N := N) _ m (ks ++ [k]) rfl h1 (fun j hj => by
      rcases List.mem_append.mp hj with hj | hj
      · have := h2 j hj; omega
      · rw [List.mem_singleton.mp hj]; omega) (List.nodup_append.mpr ⟨h3, by simp, fun x hx y hy z => by
        rw [List.mem_singleton.mp hy] at z
        exact hc2 (z ▸ hx)⟩)
    refine ⟨a, b, fun j => ?_⟩
    rw [c j, Bool.eq_iff_iff]
    simp only [kn, Bool.or_eq_true, decide_eq_true_eq, List.mem_append, List.mem_singleton, or_assoc]
theorem recvs_inv {N : Nat} : ∀ (js : List Nat) (s : Nat × List Nat), FInv N s.1 s.2 → (∀ j ∈ js, j ≤ N) → FInv N (recvs s js).1 (recvs s js).2 ∧ s.1 ≤ (recvs s js).1 ∧ ∀ j, kn (recvs s js) j = (kn s j || decide (j ∈ js))
  | [], s, h, _ => ⟨h, Nat.le_refl _, fun j => by simp [recvs]⟩
  | k :: js, s, h, hj => by
    obtain ⟨a, b, c⟩ := recv_inv h (hj k List.mem_cons_self)
    obtain ⟨a2, b2, c2⟩ := recvs_inv js (recv s.1 s.2 k) a fun j hjj => hj j (List.mem_cons_of_mem _ hjj)
    refine ⟨a2, Nat.le_trans b b2, fun j => ?_⟩
    show kn (recvs (recv s.1 s.2 k) js) j = _
    rw [c2 j, c j, Bool.eq_iff_iff]
    simp only [Bool.or_eq_true, decide_eq_true_eq, List.mem_cons, or_assoc]
/-- what is not known yet, in order -/
def missL (n : Nat) (s : Nat × List Nat) : List Nat := (List.range (n + 1)).filter fun k => !kn s k
theorem missL_full {n m : Nat} {ks : List Nat} (h : FInv n m ks) (hz : missL n (m, ks) = []) : m = n := by
  obtain ⟨h1, h2, h3⟩ := h
  rcases Nat.lt_or_ge m n with q | q
  · have hm : m + 1 ∈ missL n (m, ks) := by
      refine List.mem_filter.mpr ⟨List.mem_range.mpr (by omega), ?_⟩
      have : m + 1 ∉ ks := fun z => by have := (h2 _ z).1; omega
      simp [kn, this]
    rw [hz] at hm
    cases hm
  · omega
theorem missL_len {n : Nat} (s : Nat × List Nat) : (missL n s).length ≤ n := by
  have h0 : missL n s = missL n s := rfl
  unfold missL
  rw [List.range_succ_eq_map, List.filter_cons]
  have hk : kn s 0 = true := by simp [kn]
  rw [hk]
  refine Nat.le_trans (List.length_filter_le _ _) ?_
  simp
theorem missL_after {n : Nat} {s : Nat × List Nat} (h : FInv n s.1 s.2) : (missL n (recvs s ((missL n s).take 10))).length = (missL n s).length - 10 := by
  have hn : (missL n s).Nodup := List.nodup_range.filter _
  obtain ⟨_, _, c⟩ := recvs_inv (N := n) ((missL n s).take 10) s h fun j hj => by
    have := List.mem_range.mp (List.mem_filter.mp (List.mem_of_mem_take hj)).1
    omega
  have e1 : missL n (recvs s ((missL n s).take 10)) = (missL n s).filter fun k => !decide (k ∈ (missL n s).take 10) := by
    generalize hg : (missL n s).take 10 = t at c
    unfold missL
    rw [List.filter_filter]
    congr 1
    funext k
    rw [c k]
    cases kn s k <;> simp
  have e2 : (missL n s).filter (fun k => !decide (k ∈ (missL n s).take 10)) = (missL n s).drop 10 := by
    have hs := List.take_append_drop 10 (missL n s)
    generalize missL n s = l at hn hs
    generalize l.take 10 = a at hs
    generalize l.drop 10 = b at hs
    subst hs
    obtain ⟨_, _, hd⟩ := List.nodup_append.mp hn
    rw [List.filter_append]
    have h1 : a.filter (fun k => !decide (k ∈ a)) = [] := List.filter_eq_nil_iff.mpr fun k hk => by simp [hk]
    have h2 : b.filter (fun k => !decide (k ∈ a)) = b := List.filter_eq_self.mpr fun k hk => by
      have : k ∉ a := fun z => hd k z k hk rfl
      simp [this]
    rw [h1, h2]
    rfl
  rw [e1, e2, List.length_drop]
theorem filter_pre {m : Nat} {ks : List Nat} : (List.range (m + 1)).filter (fun k => !kn (m, ks) k) = [] := List.filter_eq_nil_iff.mpr fun k hk => by
  have := List.mem_range.mp hk
  simp [kn]
  omega


/-! ### the law: what stands between two deeds -/
theorem range_add' (a : Nat) : ∀ b : Nat, List.range (a + b) = List.range a ++ (List.range b).map fun j => a + j
  | 0 => by simp
  | b + 1 => by
    rw [← Nat.add_assoc, List.range_succ, range_add' a b, List.range_succ, List.map_append, List.append_assoc]
    rfl
theorem due_missL {n m : Nat} {ks ms : List Nat} (h : m ≤ n) (hp : ms.Perm ks) : due m n ms = (missL n (m, ks)).take 10 := by
  have e : missK m (n - m) ms = missL n (m, ks) := by
    unfold missL missK
    rw [show n + 1 = (m + 1) + (n - m) by omega, range_add', List.filter_append, filter_pre, List.nil_append]
    refine List.filter_congr fun k hk => ?_
    obtain ⟨j, _, rfl⟩ := List.mem_map.mp hk
    have : decide (m + 1 + j ≤ m) = false := decide_eq_false (by omega)
    simp only [kn, this, Bool.false_or, hp.mem_iff]
  unfold due
  rw [e]
def eraS (H : Hp) (W : List Addr) : Hp := fun b => if b ∈ W then none else H b
theorem eraS_some {H : Hp} {W : List Addr} {b : Addr} {o : HO} (h : eraS H W b = some o) : b ∉ W ∧ H b = some o := by
  unfold eraS at h
  by_cases hb : b ∈ W
  · rw [if_pos hb] at h; cases h
  · rw [if_neg hb] at h; exact ⟨hb, h⟩
theorem eraS_of {H : Hp} {W : List Addr} {b : Addr} (h : b ∉ W) : eraS H W b = H b := if_neg h
theorem eraS_at {H : Hp} {W : List Addr} {b : Addr} {o : HO} (hb : H b = some o) (h : b ∉ W) : eraS H W b = some o := (if_neg h).trans hb
theorem eraS_ex (H : Hp) (W : List Addr) : Ex (eraS H W) H where
  keep := fun b o h _ _ => (eraS_some h).2
  tup := fun b xs h => (eraS_some h).2
  tab := fun b ps h => ⟨ps, (eraS_some h).2, id⟩
  there := fun b o h => ⟨o, (eraS_some h).2⟩
theorem Ch.era {S S' W : List Addr} {H H' : Hp} (e : Ch S H H') (hS : ∀ x ∈ S, x ∈ W ∨ x ∈ S') : Ch S' (eraS H W) (eraS H' W) where
  keep := fun b o h n hs => by
    obtain ⟨h1, h2⟩ := eraS_some h
    exact eraS_at (e.keep b o h2 n fun z => (hS b z).elim h1 hs) h1
  tup := fun b xs h => by
    obtain ⟨h1, h2⟩ := eraS_some h
    exact eraS_at (e.tup b xs h2) h1
  tab := fun b ps h => by
    obtain ⟨h1, h2⟩ := eraS_some h
    obtain ⟨ps', q1, q2⟩ := e.tab b ps h2
    exact ⟨ps', eraS_at q1 h1, q2⟩
  there := fun b o h => by
    obtain ⟨h1, h2⟩ := eraS_some h
    obtain ⟨o', q⟩ := e.there b o h2
    exact ⟨o', eraS_at q h1⟩
theorem Ex.era {W : List Addr} {H H' : Hp} (e : Ex H H') : Ex (eraS H W) (eraS H' W) := Ch.era e fun x z => nomatch z
theorem ex_eraS {H H' : Hp} {W : List Addr} (e : Ex H H') (hW : ∀ x ∈ W, H x = none) : Ex H (eraS H' W) := by
  have ne : ∀ {b : Addr} {o : HO}, H b = some o → b ∉ W := fun {b o} h z => by rw [hW b z] at h; cases h
  exact {
    keep := fun b o h n hs => eraS_at (e.keep b o h n hs) (ne h)
    tup := fun b xs h => eraS_at (e.tup b xs h) (ne h)
    tab := fun b ps h => by
      obtain ⟨ps', h1, h2⟩ := e.tab b ps h
      exact ⟨ps', eraS_at h1 (ne h), h2⟩
    there := fun b o h => by
      obtain ⟨o', h'⟩ := e.there b o h
      exact ⟨o', eraS_at h' (ne h)⟩ }
theorem era_upd {H : Hp} {W : List Addr} {a : Addr} {o : HO} (h : a ∈ W) : eraS (upd H a o) W = eraS H W := by
  funext b
  unfold eraS
  by_cases hb : b ∈ W
  · rw [if_pos hb, if_pos hb]
  · rw [if_neg hb, if_neg hb, upd_ne (fun z => hb (by rw [z]; exact h))]
section
variable {H : Hp} {W : List Addr}
mutual
theorem TD.eraN (ne : ∀ {b : Addr} {o : HO}, H b = some o → (∀ x u, o ≠ .frz x u) → b ∉ W) : ∀ (d : PyData) (v : V), TD NoL H v d → TD NoL (eraS H W) v d
  | .none, _, h => by cases h; exact .non
  | .bool b, _, h => by cases h; exact .bl b
  | .int i, _, h => by cases h; exact .int i
  | .str x, _, h => by cases h; exact .str x
  | .list ds, _, h => by
    cases h with
    | lst _ ha _ => exact ha.elim
  | .tuple ds, _, h => by
    cases h with
    | tup hs hd => exact .tup (eraS_at hs (ne hs fun x u z => nomatch z)) (TDs.eraN ne ds _ hd)
  | .dict _, _, h => by cases h
theorem TDs.eraN (ne : ∀ {b : Addr} {o : HO}, H b = some o → (∀ x u, o ≠ .frz x u) → b ∉ W) : ∀ (ds : List PyData) (vs : List V), TDs NoL H vs ds → TDs NoL (eraS H W) vs ds
  | [], _, h => by cases h; exact .nil
  | d :: ds, _, h => by
    cases h with
    | cons h1 h2 => exact .cons (TD.eraN ne d _ h1) (TDs.eraN ne ds _ h2)
end
end
/-- not a list of grants -/
def NotG (H : Hp) (z : Addr) : Prop := ∀ ws (gs : List Gr), H z = some (.lst ws) → TDs NoL H ws (gs.map gD) → False
theorem notG_o {H : Hp} {z : Addr} {o : HO} (h : H z = some o) (n : ∀ ws, o ≠ .lst ws) : NotG H z := fun ws gs q _ => by
  rw [h] at q
  exact n ws (Option.some.inj q)
theorem notG_of {H : Hp} {z b : Addr} {xs : List V} {o : HO} (hz : H z = some (.lst xs)) (hb : V.ref b ∈ xs) (ho : H b = some o) (hn : ∀ t, o ≠ .tup t) : NotG H z := fun ws gs q t => by
  rw [hz] at q
  cases q
  obtain ⟨g', _, tg⟩ := t.all_ _ hb
  obtain ⟨b', e, hb'⟩ := tg.g_
  cases e
  rw [ho] at hb'
  exact hn _ (Option.some.inj hb')
theorem ne_keys {H : Hp} {x y C d C' d' : Addr} {fs fs' : List (Str × V)} (h1 : H x = some (.ins C d fs)) (h2 : H y = some (.ins C' d' fs')) (n : fs.map (·.1) ≠ fs'.map (·.1)) : x ≠ y := fun z => by
  rw [z, h2] at h1
  injection Option.some.inj h1 with _ _ q
  exact n (by rw [q])
abbrev kPrm : List Str := ["name", "first", "revisions"]
abbrev kRep : List Str := ["name", "number", "table", "later"]
abbrev kFol : List Str := ["replica"]
abbrev kRev : List Str := ["schema", "relationships", "table"]
theorem k_ne : kPrm ≠ kRep ∧ kPrm ≠ kFol ∧ kPrm ≠ kRev ∧ kRep ≠ kFol ∧ kRep ≠ kRev ∧ kFol ≠ kRev := by decide
/-- an instance with these fields -/
def Kd (H : Hp) (x : Addr) (ks : List Str) : Prop := ∃ C d fs, H x = some (.ins C d fs) ∧ fs.map (·.1) = ks
theorem Kd.ne {H : Hp} {x y : Addr} {k l : List Str} (h1 : Kd H x k) (h2 : Kd H y l) (n : k ≠ l) : x ≠ y := by
  obtain ⟨C, d, fs, e1, q1⟩ := h1
  obtain ⟨C', d', fs', e2, q2⟩ := h2
  exact ne_keys e1 e2 (by rw [q1, q2]; exact n)
theorem Kd.ne_o {H : Hp} {x y : Addr} {k : List Str} {o : HO} (h1 : Kd H x k) (h2 : H y = some o) (n : ∀ C d fs, o ≠ .ins C d fs) : x ≠ y := fun z => by
  obtain ⟨C, d, fs, e1, q1⟩ := h1
  rw [z, h2] at e1
  exact n C d fs (Option.some.inj e1)
section
variable {K : PySem.W.Frag} {T T' : Nat → Gr → Bool} {R : Gr → Bool} {H H' : Hp} {S : List Addr}
theorem Rep.kd {r ld : Addr} {n : Nat} {ks : List Nat} (h : Rep K T H r ld n ks) : Kd H r kRep := by
  obtain ⟨dx, tl, ws, kvs, h1, _⟩ := h
  exact ⟨_, _, _, h1, rfl⟩
theorem Fol.kd {f r ld : Addr} {n : Nat} {ks : List Nat} (h : Fol K T H f r ld n ks) : Kd H f kFol := by
  obtain ⟨dx, h1, _⟩ := h
  exact ⟨_, _, _, h1, rfl⟩
theorem Fol.kdr {f r ld : Addr} {n : Nat} {ks : List Nat} (h : Fol K T H f r ld n ks) : Kd H r kRep := h.choose_spec.2.kd
theorem Fol.dict {f r ld : Addr} {n : Nat} {ks : List Nat} (h : Fol K T H f r ld n ks) : ∃ kvs, H ld = some (.dK kvs) := by
  obtain ⟨dx, _, dx', tl, ws, kvs, h1, h2, h3, h4, _⟩ := h
  exact ⟨kvs, h4⟩
theorem Prm.kd {p vl : Addr} {f n : Nat} (h : Prm K T R H p vl f n) : Kd H p kPrm := by
  obtain ⟨dx, as, r, h1, _⟩ := h
  exact ⟨_, _, _, h1, rfl⟩
theorem Rev.kd {r : Addr} {R S : Gr → Bool} (h : Rev K H r R S) : Kd H r kRev := by
  obtain ⟨dx, sv, rl, tl, ws, us, h1, _⟩ := h
  exact ⟨_, _, _, h1, rfl⟩
theorem Prm.lst {p vl : Addr} {f n : Nat} (h : Prm K T R H p vl f n) : ∃ xs r, H vl = some (.lst (xs ++ [.ref r])) ∧ Kd H r kRev := by
  obtain ⟨dx, as, r, h1, h2, h3, h4, h5⟩ := h
  exact ⟨_, r, h2, h5.kd⟩
theorem Kd.notG {x : Addr} {k : List Str} (h : Kd H x k) : NotG H x := by
  obtain ⟨C, d, fs, e, _⟩ := h
  exact notG_o e fun ws z => nomatch z
theorem Prm.notG {p vl : Addr} {f n : Nat} (h : Prm K T R H p vl f n) : NotG H vl := by
  obtain ⟨xs, r, h1, C, d, fs, e, _⟩ := h.lst
  exact notG_of h1 (by simp) e fun t z => nomatch z
theorem Rep.ch {r ld : Addr} {n : Nat} {ks : List Nat} (h : Rep K T H r ld n ks) (e : Ch S H H') (hr : r ∉ S) (hl : ld ∉ S) (hN : ∀ z ∈ S, NotG H z) : Rep K T H' r ld n ks := by
  obtain ⟨dx, tl, ws, kvs, h1, h2, h3, h4, h5⟩ := h
  refine ⟨dx, tl, ws, kvs, e.to h1 hr, e.to h2 fun z => hN _ z ws _ h2 h3, h3.p e, e.to h4 hl, h5.keys, fun k v hv => ?_⟩
  obtain ⟨a, l, vs, l', vs', rfl, ha, hl1, _, t1, hl2, _, t2⟩ := (h5.vals k v hv).ch_
  exact TD.chm (e.tup _ _ ha) (e.to hl1 fun z => hN _ z vs _ hl1 t1) trivial (t1.p e) (e.to hl2 fun z => hN _ z vs' _ hl2 t2) trivial (t2.p e)
theorem Fol.ch {f r ld : Addr} {n : Nat} {ks : List Nat} (h : Fol K T H f r ld n ks) (e : Ch S H H') (hf : f ∉ S) (hr : r ∉ S) (hl : ld ∉ S) (hN : ∀ z ∈ S, NotG H z) : Fol K T H' f r ld n ks := by
  obtain ⟨dx, h1, h2⟩ := h
  exact ⟨dx, e.to h1 hf, h2.ch e hr hl hN⟩
/-- what is known at a heap whose W are locked is known without them -/
theorem Fol.lock {W : List Addr} {f r ld : Addr} {n : Nat} {ks : List Nat} (h : Fol K T H f r ld n ks) (hW : ∀ x ∈ W, ∃ o u, H x = some (.frz o u)) : Fol K T (eraS H W) f r ld n ks := by
  have ne : ∀ {b : Addr} {o : HO}, H b = some o → (∀ x u, o ≠ .frz x u) → b ∉ W := fun {b o} h n z => by
    obtain ⟨x, u, q⟩ := hW b z
    rw [h] at q
    exact n x u (Option.some.inj q)
  have tups : ∀ {b : Addr} {xs : List V}, H b = some (.tup xs) → eraS H W b = some (.tup xs) := fun {b xs} h => eraS_at h (ne h fun x u z => nomatch z)
  have gs : ∀ {ws : List V} {gs : List Gr}, TDs NoL H ws (gs.map gD) → TDs NoL (eraS H W) ws (gs.map gD) := by
    intro ws gs
    induction gs generalizing ws with
    | nil => intro t; rw [t.nil_]; exact .nil
    | cons g gs ih =>
      intro t
      obtain ⟨v, us, rfl, t1, t2⟩ := TDs.cons_ t
      obtain ⟨a, rfl, ha⟩ := t1.g_
      exact .cons (TD.g (tups ha)) (ih t2)
  obtain ⟨dx, h1, dx', tl, ws, kvs, r1, r2, r3, r4, r5⟩ := h
  refine ⟨dx, eraS_at h1 (ne h1 fun x u z => nomatch z), dx', tl, ws, kvs, eraS_at r1 (ne r1 fun x u z => nomatch z), eraS_at r2 (ne r2 fun x u z => nomatch z), gs r3, eraS_at r4 (ne r4 fun x u z => nomatch z), r5.keys, fun k v hv => ?_⟩
  obtain ⟨a, l, vs, l', vs', rfl, ha, hl1, _, t1, hl2, _, t2⟩ := (r5.vals k v hv).ch_
  exact TD.chm (tups ha) (eraS_at hl1 (ne hl1 fun x u z => nomatch z)) trivial (gs t1) (eraS_at hl2 (ne hl2 fun x u z => nomatch z)) trivial (gs t2)
theorem Rev.chN {r : Addr} {R S0 : Gr → Bool} (h : Rev K H r R S0) (e : Ch S H H') (hr : r ∉ S) (hN : ∀ z ∈ S, NotG H z) : Rev K H' r R S0 := h.ch' e hr fun z hz ws gs q t => hN z hz ws gs q t
theorem Prm.ch {p vl : Addr} {f n : Nat} (h : Prm K T R H p vl f n) (e : Ch S H H') (hp : p ∉ S) (hv : vl ∉ S) (hr : ∀ x, Kd H x kRev → x ∉ S) (hN : ∀ z ∈ S, NotG H z) : Prm K T R H' p vl f n := by
  obtain ⟨dx, as, r, h1, h2, h3, h4, h5⟩ := h
  exact ⟨dx, as, r, e.to h1 hp, e.to h2 hv, h3, fun i a hi => let ⟨R', q⟩ := h4 i a hi; ⟨R', q.chN e (hr _ q.kd) hN⟩, h5.chN e (hr _ h5.kd) hN⟩
theorem Rev.lock {W : List Addr} {r : Addr} {R S0 : Gr → Bool} (h : Rev K H r R S0) (hW : ∀ x ∈ W, ∃ o u, H x = some (.frz o u)) : Rev K (eraS H W) r R S0 := by
  have ne : ∀ {b : Addr} {o : HO}, H b = some o → (∀ x u, o ≠ .frz x u) → b ∉ W := fun {b o} h n z => by
    obtain ⟨x, u, q⟩ := hW b z
    rw [h] at q
    exact n x u (Option.some.inj q)
  have tups : ∀ {b : Addr} {xs : List V}, H b = some (.tup xs) → eraS H W b = some (.tup xs) := fun {b xs} h => eraS_at h (ne h fun x u z => nomatch z)
  obtain ⟨dx, sv, rl, tl, ws, us, h1, h2, h3, h4, h5, h6⟩ := h
  exact ⟨dx, sv, rl, tl, ws, us, eraS_at h1 (ne h1 fun x u z => nomatch z), TD.eraN ne _ _ h2, eraS_at h3 (ne h3 fun x u z => nomatch z), TDs.eraN ne _ _ h4, eraS_at h5 (ne h5 fun x u z => nomatch z), TDs.eraN ne _ _ h6⟩
theorem Prm.lock {W : List Addr} {p vl : Addr} {f n : Nat} (h : Prm K T R H p vl f n) (hW : ∀ x ∈ W, ∃ o u, H x = some (.frz o u)) : Prm K T R (eraS H W) p vl f n := by
  have ne : ∀ {b : Addr} {o : HO}, H b = some o → (∀ x u, o ≠ .frz x u) → b ∉ W := fun {b o} h n z => by
    obtain ⟨x, u, q⟩ := hW b z
    rw [h] at q
    exact n x u (Option.some.inj q)
  obtain ⟨dx, as, r, h1, h2, h3, h4, h5⟩ := h
  exact ⟨dx, as, r, eraS_at h1 (ne h1 fun x u z => nomatch z), eraS_at h2 (ne h2 fun x u z => nomatch z), h3, fun i a hi => let ⟨R', q⟩ := h4 i a hi; ⟨R', q.lock hW⟩, h5.lock hW⟩
theorem Tbl.ch {L : Addr} {n : Nat} (h : Tbl H L T n) (e : Ch S H H') (hL : L ∉ S) (hN : ∀ z ∈ S, NotG H z) : Tbl H' L T n := by
  obtain ⟨as, h1, h2, h3⟩ := h
  exact ⟨as, e.to h1 hL, h2, fun i a hi => let ⟨n0, ws, q1, q2⟩ := h3 i a hi; ⟨n0, ws, e.to q1 fun z => hN _ z ws _ q1 q2, q2.p e⟩⟩
theorem Tbl.first {L : Addr} {n : Nat} (h : Tbl H L T n) : ∃ xs a ws, H L = some (.lst xs) ∧ .ref a ∈ xs ∧ H a = some (.lst ws) := by
  obtain ⟨as, h1, h2, h3⟩ := h
  cases as with
  | nil => cases h2
  | cons a r =>
    obtain ⟨_, ws, q, _⟩ := h3 0 a rfl
    exact ⟨_, a, ws, h1, by simp, q⟩
theorem Tbl.notG {L : Addr} {n : Nat} (h : Tbl H L T n) : NotG H L := by
  obtain ⟨xs, a, ws, h1, h2, h3⟩ := h.first
  exact notG_of h1 h2 h3 fun t z => nomatch z
theorem chT_congr {k : Nat} (h1 : T k = T' k) (h2 : T (k - 1) = T' (k - 1)) : chT T k = chT T' k := by
  unfold chT
  rw [h1, h2]
theorem Fol.congr {f r ld : Addr} {n N : Nat} {ks : List Nat} (h : Fol K T H f r ld n ks) (hT : ∀ k, k ≤ N → T k = T' k) (hn : n ≤ N) (hk : ∀ k ∈ ks, k ≤ N) : Fol K T' H f r ld n ks := by
  obtain ⟨dx, h1, dx', tl, ws, kvs, r1, r2, r3, r4, r5⟩ := h
  refine ⟨dx, h1, dx', tl, ws, kvs, r1, r2, by rw [← hT n hn]; exact r3, r4, r5.keys, fun k v hv => ?_⟩
  have hkk : k ∈ ks := by
    have z := valV_key (k := k) r5.keys
    rw [hv] at z
    exact of_decide_eq_true z.symm
  have hN := hk k hkk
  rw [← chT_congr (hT k hN) (hT (k - 1) (by omega))]
  exact r5.vals k v hv
theorem Tbl.congr {L : Addr} {n : Nat} (h : Tbl H L T n) (hT : ∀ k, k ≤ n → T k = T' k) : Tbl H L T' n := by
  obtain ⟨as, h1, h2, h3⟩ := h
  refine ⟨as, h1, h2, fun i a hi => ?_⟩
  have := (List.getElem?_eq_some_iff.mp hi).1
  rw [← hT i (by omega)]
  exact h3 i a hi
/-- texts and requests that were made -/
def ReqOk (n : Nat) (x : Str) : Prop := ∃ m ms, x = reqText m ms ∧ m ≤ n ∧ (∀ k ∈ ms, k ≤ n) ∧ ms.Pairwise (· < ·) ∧ ms.length ≤ 50
def TxtOk (T : Nat → Gr → Bool) (n : Nat) (x : Str) : Prop := (∃ m, m ≤ n ∧ x = snapText m (tb (T m))) ∨ ∃ js : List Nat, js.length ≤ 10 ∧ (∀ j ∈ js, 1 ≤ j ∧ j ≤ n) ∧ x = feedText (js.map (enT T))
theorem ReqOk.mono {n N : Nat} {x : Str} (h : ReqOk n x) (hN : n ≤ N) : ReqOk N x := by
  obtain ⟨m, ms, h1, h2, h3, h4⟩ := h
  exact ⟨m, ms, h1, by omega, fun k hk => Nat.le_trans (h3 k hk) hN, h4⟩
theorem TxtOk.congr {n N : Nat} {x : Str} (h : TxtOk T n x) (hT : ∀ k, k ≤ n → T k = T' k) (hN : n ≤ N) : TxtOk T' N x := by
  rcases h with ⟨m, h1, h2⟩ | ⟨js, h1, h2, h3⟩
  · exact .inl ⟨m, by omega, by rw [← hT m h1]; exact h2⟩
  · refine .inr ⟨js, h1, fun j hj => ⟨(h2 j hj).1, Nat.le_trans (h2 j hj).2 hN⟩, ?_⟩
    rw [h3]
    congr 1
    refine List.map_congr_left fun j hj => ?_
    have := h2 j hj
    unfold enT
    rw [chT_congr (hT j this.2) (hT (j - 1) (by omega))]
/-- what holds of the store and of the two followers; f is the one at hand -/
structure Co (K : PySem.W.Frag) (T : Nat → Gr → Bool) (R : Gr → Bool) (H : Hp) (s p L Fl a b f g vl : Addr) (fo n : Nat) (r1 ld1 : Addr) (m1 : Nat) (ks1 : List Nat) (r2 ld2 : Addr) (m2 : Nat) (ks2 : List Nat) : Prop where
  fl : H Fl = some (.lst [.ref a, .ref b])
  ab : (a = f ∧ b = g) ∨ (a = g ∧ b = f)
  scr : Scr K H s
  prm : Prm K T R H p vl fo n
  tbl : Tbl H L T n
  fol1 : Fol K T H f r1 ld1 m1 ks1
  inv1 : FInv n m1 ks1
  fol2 : Fol K T H g r2 ld2 m2 ks2
  inv2 : FInv n m2 ks2
  nf : f ≠ g
  nr : r1 ≠ r2
  nl : ld1 ≠ ld2
  hn : n ≤ 30
end
section
variable {K : PySem.W.Frag} {T : Nat → Gr → Bool} {R : Gr → Bool} {H H' : Hp} {S : List Addr} {s p L Fl a b f g vl : Addr} {fo n : Nat} {r1 ld1 : Addr} {m1 : Nat} {ks1 : List Nat} {r2 ld2 : Addr} {m2 : Nat} {ks2 : List Nat}
theorem Co.swap (h : Co K T R H s p L Fl a b f g vl fo n r1 ld1 m1 ks1 r2 ld2 m2 ks2) : Co K T R H s p L Fl a b g f vl fo n r2 ld2 m2 ks2 r1 ld1 m1 ks1 :=
  ⟨h.fl, h.ab.elim .inr .inl, h.scr, h.prm, h.tbl, h.fol2, h.inv2, h.fol1, h.inv1, h.nf.symm, h.nr.symm, h.nl.symm, h.hn⟩
theorem Co.ex (h : Co K T R H s p L Fl a b f g vl fo n r1 ld1 m1 ks1 r2 ld2 m2 ks2) (e : Ex H H') : Co K T R H' s p L Fl a b f g vl fo n r1 ld1 m1 ks1 r2 ld2 m2 ks2 :=
  ⟨e.at h.fl, h.ab, h.scr.ch e (nmem s), h.prm.ex e, h.tbl.ch e (nmem L) (fun z hz => nomatch hz), h.fol1.ex e, h.inv1, h.fol2.ex e, h.inv2, h.nf, h.nr, h.nl, h.hn⟩
theorem Co.kf (h : Co K T R H s p L Fl a b f g vl fo n r1 ld1 m1 ks1 r2 ld2 m2 ks2) : Kd H a kFol := h.ab.elim (fun q => q.1 ▸ h.fol1.kd) fun q => q.1 ▸ h.fol2.kd
/-- the script is no list of references -/
theorem scr_ne {x : Addr} {xs : List V} {c : Addr} (h : Scr K H s) (hx : H x = some (.lst xs)) (hc : .ref c ∈ xs) (e : Ch [x] H H') : Scr K H' s := by
  obtain ⟨ns, h1, h2⟩ := h
  refine ⟨ns, ?_, h2⟩
  by_cases hs : s = x
  · subst hs
    rcases h1 with h1 | h1
    · rcases h1 with h1 | ⟨o, h1⟩
      · rw [hx] at h1
        have q : xs = ns.map V.int := by
          injection Option.some.inj h1
        rw [q] at hc
        obtain ⟨i, _, z⟩ := List.mem_map.mp hc
        cases z
      · rw [hx] at h1
        cases h1
    · exact .inr h1
  · exact Ch.sqL e (fun z => hs (List.mem_singleton.mp z)) h1
theorem Scr.ch2 (h : Scr K H s) (e : Ch S H H') (hS : ∀ x ∈ S, ∃ o, H x = some o ∧ ∀ ws, o ≠ .lst ws ∧ ∀ q, o ≠ .frz q (.lst ws)) : Scr K H' s := by
  obtain ⟨ns, h1, h2⟩ := h
  refine ⟨ns, ?_, h2⟩
  by_cases hs : s ∈ S
  · obtain ⟨o, q1, q2⟩ := hS s hs
    rcases h1 with h1 | h1
    · rcases h1 with h1 | ⟨u, h1⟩
      · rw [q1] at h1
        exact absurd (Option.some.inj h1) (q2 _).1
      · rw [q1] at h1
        exact absurd (Option.some.inj h1) ((q2 _).2 u)
    · exact .inr h1
  · exact Ch.sqL e hs h1
/-- a follower took a feed's entries -/
theorem Co.feed (h : Co K T R H s p L Fl a b f g vl fo n r1 ld1 m1 ks1 r2 ld2 m2 ks2) {m : Nat} {ks : List Nat} (e : Ch [r1, ld1] H H') (hF : Fol K T H' f r1 ld1 m ks) (hI : FInv n m ks) : Co K T R H' s p L Fl a b f g vl fo n r1 ld1 m ks r2 ld2 m2 ks2 := by
  obtain ⟨kvs, hld⟩ := h.fol1.dict
  have kr := h.fol1.kdr
  have hN : ∀ z ∈ [r1, ld1], NotG H z := fun z hz => by
    simp only [List.mem_cons, List.not_mem_nil, or_false] at hz
    rcases hz with rfl | rfl
    · exact kr.notG
    · exact notG_o hld fun ws z => nomatch z
  have nk : ∀ {x : Addr} {k : List Str}, Kd H x k → k ≠ kRep → x ∉ [r1, ld1] := fun {x k} q n z => by
    simp only [List.mem_cons, List.not_mem_nil, or_false] at z
    rcases z with rfl | rfl
    · exact q.ne kr n rfl
    · exact q.ne_o hld (fun C d fs z => nomatch z) rfl
  have nlst : ∀ {x : Addr} {xs : List V}, H x = some (.lst xs) → x ∉ [r1, ld1] := fun {x xs} q z => by
    simp only [List.mem_cons, List.not_mem_nil, or_false] at z
    rcases z with rfl | rfl
    · obtain ⟨C, d, fs, q2, _⟩ := kr
      rw [q] at q2
      cases q2
    · rw [q] at hld
      cases hld
  obtain ⟨xs, c, ws, hL, _, _⟩ := h.tbl.first
  obtain ⟨ys, c2, hvl, _⟩ := h.prm.lst
  refine ⟨e.to h.fl (nlst h.fl), h.ab, h.scr.ch2 e fun x hx => ?_, h.prm.ch e (nk h.prm.kd k_ne.1) (nlst hvl) (fun x q => nk q (Ne.symm k_ne.2.2.2.2.1)) hN, h.tbl.ch e (nlst hL) hN, hF, hI, h.fol2.ch e (nk h.fol2.kd (Ne.symm k_ne.2.2.2.1)) ?_ ?_ hN, h.inv2, h.nf, h.nr, h.nl, h.hn⟩
  · simp only [List.mem_cons, List.not_mem_nil, or_false] at hx
    rcases hx with rfl | rfl
    · obtain ⟨C, d, fs, q2, _⟩ := kr
      exact ⟨_, q2, fun ws => ⟨(fun z => nomatch z), (fun q z => nomatch z)⟩⟩
    · exact ⟨_, hld, fun ws => ⟨(fun z => nomatch z), (fun q z => nomatch z)⟩⟩
  · intro z
    simp only [List.mem_cons, List.not_mem_nil, or_false] at z
    rcases z with z | z
    · exact h.nr z.symm
    · exact h.fol2.kdr.ne_o hld (fun C d fs z => nomatch z) z
  · intro z
    simp only [List.mem_cons, List.not_mem_nil, or_false] at z
    obtain ⟨kvs2, hld2⟩ := h.fol2.dict
    rcases z with z | z
    · exact kr.ne_o hld2 (fun C d fs z => nomatch z) z.symm
    · exact h.nl z.symm
/-- a follower took a snapshot -/
theorem Co.snap (h : Co K T R H s p L Fl a b f g vl fo n r1 ld1 m1 ks1 r2 ld2 m2 ks2) {r ld : Addr} {m : Nat} {ks : List Nat} (e : Ch [f] H H') (hr : H r = none) (hl : H ld = none) (hF : Fol K T H' f r ld m ks) (hI : FInv n m ks) : Co K T R H' s p L Fl a b f g vl fo n r ld m ks r2 ld2 m2 ks2 := by
  have kf := h.fol1.kd
  have hN : ∀ z ∈ [f], NotG H z := fun z hz => by
    rw [List.mem_singleton.mp hz]
    exact kf.notG
  have nk : ∀ {x : Addr} {k : List Str}, Kd H x k → k ≠ kFol → x ∉ [f] := fun {x k} q n z => q.ne kf n (List.mem_singleton.mp z)
  have no : ∀ {x : Addr} {o : HO}, H x = some o → (∀ C d fs, o ≠ .ins C d fs) → x ∉ [f] := fun {x o} q n z => kf.ne_o q n (List.mem_singleton.mp z).symm
  obtain ⟨xs, c, ws, hL, _, _⟩ := h.tbl.first
  obtain ⟨ys, c2, hvl, _⟩ := h.prm.lst
  obtain ⟨kvs2, hld2⟩ := h.fol2.dict
  obtain ⟨C2, d2, fs2, hr2, _⟩ := h.fol2.kdr
  refine ⟨e.to h.fl (no h.fl fun C d fs z => nomatch z), h.ab, h.scr.ch2 e fun x hx => ?_, h.prm.ch e (nk h.prm.kd k_ne.2.1) (no hvl fun C d fs z => nomatch z) (fun x q => nk q (Ne.symm k_ne.2.2.2.2.2)) hN, h.tbl.ch e (no hL fun C d fs z => nomatch z) hN, hF, hI,
    h.fol2.ch e (fun z => h.nf (List.mem_singleton.mp z).symm) (nk h.fol2.kdr k_ne.2.2.2.1) (no hld2 fun C d fs z => nomatch z) hN, h.inv2, h.nf, fun z => ?_, fun z => ?_, h.hn⟩
  · rw [List.mem_singleton.mp hx]
    obtain ⟨C, d, fs, q2, _⟩ := kf
    exact ⟨_, q2, fun ws => ⟨(fun z => nomatch z), (fun q z => nomatch z)⟩⟩
  · rw [z, hr2] at hr
    cases hr
  · rw [z, hld2] at hl
    cases hl
/-- the store has forgotten revisions -/
theorem Co.cmp (h : Co K T R H s p L Fl a b f g vl fo n r1 ld1 m1 ks1 r2 ld2 m2 ks2) {vl' : Addr} {fo' : Nat} (e : Ch [p] H H') (hP : Prm K T R H' p vl' fo' n) : Co K T R H' s p L Fl a b f g vl' fo' n r1 ld1 m1 ks1 r2 ld2 m2 ks2 := by
  have kp := h.prm.kd
  have hN : ∀ z ∈ [p], NotG H z := fun z hz => by
    rw [List.mem_singleton.mp hz]
    exact kp.notG
  have nk : ∀ {x : Addr} {k : List Str}, Kd H x k → k ≠ kPrm → x ∉ [p] := fun {x k} q n z => q.ne kp n (List.mem_singleton.mp z)
  have no : ∀ {x : Addr} {o : HO}, H x = some o → (∀ C d fs, o ≠ .ins C d fs) → x ∉ [p] := fun {x o} q n z => kp.ne_o q n (List.mem_singleton.mp z).symm
  obtain ⟨xs, c, ws, hL, _, _⟩ := h.tbl.first
  obtain ⟨kvs1, hld1⟩ := h.fol1.dict
  obtain ⟨kvs2, hld2⟩ := h.fol2.dict
  refine ⟨e.to h.fl (no h.fl fun C d fs z => nomatch z), h.ab, h.scr.ch2 e fun x hx => ?_, hP, h.tbl.ch e (no hL fun C d fs z => nomatch z) hN, h.fol1.ch e (nk h.fol1.kd (Ne.symm k_ne.2.1)) (nk h.fol1.kdr (Ne.symm k_ne.1)) (no hld1 fun C d fs z => nomatch z) hN, h.inv1,
    h.fol2.ch e (nk h.fol2.kd (Ne.symm k_ne.2.1)) (nk h.fol2.kdr (Ne.symm k_ne.1)) (no hld2 fun C d fs z => nomatch z) hN, h.inv2, h.nf, h.nr, h.nl, h.hn⟩
  rw [List.mem_singleton.mp hx]
  obtain ⟨C, d, fs, q2, _⟩ := kp
  exact ⟨_, q2, fun ws => ⟨(fun z => nomatch z), (fun q z => nomatch z)⟩⟩
/-- the tables are not the revisions -/
theorem Co.nLv (h : Co K T R H s p L Fl a b f g vl fo n r1 ld1 m1 ks1 r2 ld2 m2 ks2) : L ≠ vl := fun z => by
  obtain ⟨vxs, vr, hvl, kvr⟩ := h.prm.lst
  obtain ⟨Lxs, La, Lws, hL, hLa, hLa2⟩ := h.tbl.first
  rw [z, hvl] at hL
  cases hL
  -- the last of vl's items is an instance, those of L are lists
  have hall : ∀ v ∈ vxs ++ [V.ref vr], ∃ c cw, v = .ref c ∧ H c = some (.lst cw) := by
    obtain ⟨as, q1, q2, q3⟩ := h.tbl
    rw [z, hvl] at q1
    injection Option.some.inj q1 with q1
    rw [q1]
    intro v hv
    obtain ⟨c, hc, rfl⟩ := List.mem_map.mp hv
    obtain ⟨i, hi⟩ := List.mem_iff_getElem?.mp hc
    obtain ⟨_, cw, q4, _⟩ := q3 i c hi
    exact ⟨c, cw, rfl, q4⟩
  obtain ⟨c, cw, e, q⟩ := hall (.ref vr) (by simp)
  cases e
  obtain ⟨C, d, fs, q2, _⟩ := kvr
  rw [q] at q2
  cases q2
/-- a revision more, and its table -/
theorem Co.wr (h : Co K T R H s p L Fl a b f g vl fo n r1 ld1 m1 ks1 r2 ld2 m2 ks2) (hn : n < 30) {S0 R' : Gr → Bool} {H1 H2 H3 : Hp} {l : Addr} {ws : List V} (c1 : Ch [vl] H H1) (hP : Prm K (ext T (n + 1) S0) R' H1 p vl fo (n + 1)) (e2 : Ex H1 H2) (hl0 : H1 l = none) (hl : H2 l = some (.lst ws)) (tl : TDs NoL H2 ws ((tb (ext T (n + 1) S0 (n + 1))).map gD))
    (c3 : Ch [L] H2 H3) (hL3 : ∀ xs, H L = some (.lst xs) → H3 L = some (.lst (xs ++ [.ref l]))) : Co K (ext T (n + 1) S0) R' H3 s p L Fl a b f g vl fo (n + 1) r1 ld1 m1 ks1 r2 ld2 m2 ks2 := by
  have hT : ∀ k, k ≤ n → T k = ext T (n + 1) S0 k := fun k hk => (if_neg (by omega)).symm
  obtain ⟨vxs, vr, hvl, kvr⟩ := h.prm.lst
  have hN1 : ∀ z ∈ [vl], NotG H z := fun z hz => by rw [List.mem_singleton.mp hz]; exact h.prm.notG
  have ni1 : ∀ {x : Addr} {k : List Str}, Kd H x k → x ∉ [vl] := fun {x k} q z => q.ne_o hvl (fun C d fs z => nomatch z) (List.mem_singleton.mp z)
  obtain ⟨kvs1, hld1⟩ := h.fol1.dict
  obtain ⟨kvs2, hld2⟩ := h.fol2.dict
  have nd1 : ∀ {x : Addr} {kv : List (Key × V)}, H x = some (.dK kv) → x ∉ [vl] := fun {x kv} q z => by
    rw [List.mem_singleton.mp z, hvl] at q
    cases q
  obtain ⟨Lxs, La, Lws, hL, hLa, hLa2⟩ := h.tbl.first
  have nLv : L ≠ vl := h.nLv
  have nFv : Fl ≠ vl := fun z => by
    have hfl := h.fl
    rw [z, hvl] at hfl
    injection Option.some.inj hfl with q
    have : V.ref vr ∈ [V.ref a, V.ref b] := by rw [← q]; simp
    simp only [List.mem_cons, List.not_mem_nil, or_false, V.ref.injEq] at this
    rcases this with rfl | rfl
    · exact kvr.ne h.kf (Ne.symm k_ne.2.2.2.2.2) rfl
    · exact kvr.ne (h.ab.elim (fun q => q.2 ▸ h.fol2.kd) fun q => q.2 ▸ h.fol1.kd) (Ne.symm k_ne.2.2.2.2.2) rfl
  -- behind the write
  have fl1 := c1.at1 h.fl nFv
  have scr1 : Scr K H1 s := scr_ne h.scr hvl (List.mem_append_right _ (List.mem_singleton.mpr rfl)) c1
  have tbl1 := h.tbl.ch c1 (fun z => nLv (List.mem_singleton.mp z)) hN1
  have fol11 := h.fol1.ch c1 (ni1 h.fol1.kd) (ni1 h.fol1.kdr) (nd1 hld1) hN1
  have fol21 := h.fol2.ch c1 (ni1 h.fol2.kd) (ni1 h.fol2.kdr) (nd1 hld2) hN1
  -- behind the new table
  have fl2 := e2.at fl1
  have scr2 := scr1.ch e2 (nmem s)
  have tbl2 := tbl1.ch e2 (nmem L) (fun z hz => nomatch hz)
  have fol12 := fol11.ex e2
  have fol22 := fol21.ex e2
  have hP2 := hP.ex e2
  -- behind the append
  obtain ⟨as, q1, q2, q3⟩ := tbl2
  have tbl2 : Tbl H2 L T n := ⟨as, q1, q2, q3⟩
  obtain ⟨Lxs2, La2, Lws2, hL2, hLa22, hLa23⟩ := tbl2.first
  have hN3 : ∀ z ∈ [L], NotG H2 z := fun z hz => by rw [List.mem_singleton.mp hz]; exact tbl2.notG
  have ni3 : ∀ {x : Addr} {k : List Str}, Kd H2 x k → x ∉ [L] := fun {x k} q z => q.ne_o hL2 (fun C d fs z => nomatch z) (List.mem_singleton.mp z)
  obtain ⟨kvs12, hld12⟩ := fol12.dict
  obtain ⟨kvs22, hld22⟩ := fol22.dict
  have nd3 : ∀ {x : Addr} {kv : List (Key × V)}, H2 x = some (.dK kv) → x ∉ [L] := fun {x kv} q z => by
    rw [List.mem_singleton.mp z, hL2] at q
    cases q
  have nFL : Fl ≠ L := fun z => by
    rw [z, hL2] at fl2
    injection Option.some.inj fl2 with q
    rw [q] at hLa22
    simp only [List.mem_cons, List.not_mem_nil, or_false, V.ref.injEq] at hLa22
    have kd : Kd H2 La2 kFol := by
      rcases h.ab with ⟨rfl, rfl⟩ | ⟨rfl, rfl⟩ <;> rcases hLa22 with rfl | rfl
      · exact fol12.kd
      · exact fol22.kd
      · exact fol22.kd
      · exact fol12.kd
    obtain ⟨C, d, fs, q2, _⟩ := kd
    rw [hLa23] at q2
    cases q2
  obtain ⟨vxs2, vr2, hvl2, kvr2⟩ := hP2.lst
  have nvL : vl ∉ [L] := fun z => nLv (List.mem_singleton.mp z).symm
  have hLH : H L = some (.lst (as.map V.ref)) := by
    obtain ⟨as', q1', q2', q3'⟩ := h.tbl
    have z := (e2.at (c1.at1 q1' nLv)).symm.trans q1
    rw [q1']
    exact z
  have hL3' := hL3 _ hLH
  refine ⟨c3.at1 fl2 nFL, h.ab, scr_ne scr2 hL2 hLa22 c3, hP2.ch c3 (ni3 hP2.kd) nvL (fun x q => ni3 q) hN3, ?_, (fol12.congr hT h.inv1.1 fun k hk => (h.inv1.2.1 k hk).2).ch c3 (ni3 fol12.kd) (ni3 fol12.kdr) (nd3 hld12) hN3, h.inv1.mono (Nat.le_succ n),
    (fol22.congr hT h.inv2.1 fun k hk => (h.inv2.2.1 k hk).2).ch c3 (ni3 fol22.kd) (ni3 fol22.kdr) (nd3 hld22) hN3, h.inv2.mono (Nat.le_succ n), h.nf, h.nr, h.nl, hn⟩
  have nlL : l ≠ L := fun z => by
    rw [z] at hl0
    rw [c1.at1 hL nLv] at hl0
    cases hl0
  refine ⟨as ++ [l], by rw [List.map_append]; exact hL3', by rw [List.length_append, q2]; rfl, fun i x hi => ?_⟩
  by_cases hil : i < as.length
  · rw [List.getElem?_append_left hil] at hi
    obtain ⟨w1, w2, w3, w4⟩ := q3 i x hi
    have hTi := hT i (by omega)
    rw [← hTi]
    exact ⟨w1, w2, c3.at1 w3 w1, w4.p c3⟩
  · have hil2 := (List.getElem?_eq_some_iff.mp hi).1
    rw [List.length_append, List.length_singleton] at hil2
    have hie : i = as.length := by omega
    subst hie
    rw [List.getElem?_append_right (Nat.le_refl _), Nat.sub_self] at hi
    cases hi
    rw [q2]
    exact ⟨nlL, ws, c3.at1 hl nlL, tl.p c3⟩
end

/-! ### the law's deeds, where its lists of texts stand apart -/
theorem eraS_none {H : Hp} {W : List Addr} {b : Addr} (h : H b = none) : eraS H W b = none := by
  unfold eraS
  split
  · rfl
  · exact h
theorem TDs.gE {H : Hp} {W : List Addr} (ne : ∀ {b : Addr} {xs : List V}, H b = some (.tup xs) → b ∉ W) : ∀ (gs : List Gr) {ws : List V}, TDs NoL H ws (gs.map gD) → TDs NoL (eraS H W) ws (gs.map gD)
  | [], ws, t => by rw [t.nil_]; exact .nil
  | g :: gs, ws, t => by
    obtain ⟨v, us, rfl, t1, t2⟩ := TDs.cons_ t
    obtain ⟨a, rfl, ha⟩ := t1.g_
    exact .cons (TD.g (eraS_at ha (ne ha))) (TDs.gE ne gs t2)
abbrev txO (xs : List Str) : HO := .lst (xs.map V.str)
/-- the two lists locked -/
abbrev Lk (H : Hp) (Rq Tx : Addr) (rq tx : List Str) (o1 o2 : Obj) : Hp := upd (upd H Rq (.frz o1 (txO rq))) Tx (.frz o2 (txO tx))
abbrev Uk (H : Hp) (Rq Tx : Addr) (rq tx : List Str) : Hp := upd (upd H Tx (txO tx)) Rq (txO rq)
theorem era_lk {H : Hp} {Rq Tx : Addr} {rq tx : List Str} {o1 o2 : Obj} : eraS (Lk H Rq Tx rq tx o1 o2) [Rq, Tx] = eraS H [Rq, Tx] := by
  rw [era_upd (by simp), era_upd (by simp)]
theorem era_uk {H : Hp} {Rq Tx : Addr} {rq tx : List Str} : eraS (Uk H Rq Tx rq tx) [Rq, Tx] = eraS H [Rq, Tx] := by
  rw [era_upd (by simp), era_upd (by simp)]
/-- the texts so far -/
structure Lt (T : Nat → Gr → Bool) (n i : Nat) (rq tx : List Str) : Prop where
  ql : rq.length ≤ i
  xl : tx.length ≤ i
  rok : ∀ x ∈ rq, ReqOk n x
  tok : ∀ x ∈ tx, TxtOk T n x
theorem Lt.up {T : Nat → Gr → Bool} {n i : Nat} {rq tx : List Str} (h : Lt T n i rq tx) : Lt T n (i + 1) rq tx := ⟨Nat.le_succ_of_le h.ql, Nat.le_succ_of_le h.xl, h.rok, h.tok⟩
theorem Lt.addq {T : Nat → Gr → Bool} {n i : Nat} {rq tx : List Str} {x : Str} (h : Lt T n i rq tx) (hx : ReqOk n x) : Lt T n (i + 1) (rq ++ [x]) tx := ⟨by rw [List.length_append]; exact Nat.succ_le_succ h.ql, Nat.le_succ_of_le h.xl, fun y hy => (List.mem_append.mp hy).elim (h.rok y) fun z => by rw [List.mem_singleton.mp z]; exact hx, h.tok⟩
theorem Lt.addx {T : Nat → Gr → Bool} {n i : Nat} {rq tx : List Str} {x : Str} (h : Lt T n i rq tx) (hx : TxtOk T n x) : Lt T n (i + 1) rq (tx ++ [x]) := ⟨Nat.le_succ_of_le h.ql, by rw [List.length_append]; exact Nat.succ_le_succ h.xl, h.rok, fun y hy => (List.mem_append.mp hy).elim (h.tok y) fun z => by rw [List.mem_singleton.mp z]; exact hx⟩
structure Lp (K : PySem.W.Frag) (T : Nat → Gr → Bool) (R : Gr → Bool) (H : Hp) (s p L Fl a b f g vl : Addr) (fo n : Nat) (r1 ld1 : Addr) (m1 : Nat) (ks1 : List Nat) (r2 ld2 : Addr) (m2 : Nat) (ks2 : List Nat) (Rq Tx : Addr) (rq tx : List Str) (i : Nat) : Prop where
  tabs : Tabs K H
  ne : Rq ≠ Tx
  hq : H Rq = some (txO rq)
  hx : H Tx = some (txO tx)
  lt : Lt T n i rq tx
  co : Co K T R (eraS H [Rq, Tx]) s p L Fl a b f g vl fo n r1 ld1 m1 ks1 r2 ld2 m2 ks2
structure Ll (K : PySem.W.Frag) (T : Nat → Gr → Bool) (R : Gr → Bool) (H : Hp) (s p L Fl a b f g vl : Addr) (fo n : Nat) (r1 ld1 : Addr) (m1 : Nat) (ks1 : List Nat) (r2 ld2 : Addr) (m2 : Nat) (ks2 : List Nat) (Rq Tx : Addr) (rq tx : List Str) (i : Nat) (o1 o2 : Obj) : Prop where
  tabs : Tabs K H
  ne : Rq ≠ Tx
  hq : H Rq = some (.frz o1 (txO rq))
  hx : H Tx = some (.frz o2 (txO tx))
  lt : Lt T n i rq tx
  co : Co K T R (eraS H [Rq, Tx]) s p L Fl a b f g vl fo n r1 ld1 m1 ks1 r2 ld2 m2 ks2
section
variable {K : PySem.W.Frag} {T : Nat → Gr → Bool} {R : Gr → Bool} {H H' : Hp} {S : List Addr} {s p L Fl a b f g vl : Addr} {fo n : Nat} {r1 ld1 : Addr} {m1 : Nat} {ks1 : List Nat} {r2 ld2 : Addr} {m2 : Nat} {ks2 : List Nat} {Rq Tx : Addr} {rq tx : List Str} {i : Nat} {o1 o2 : Obj}
theorem Lp.co' (h : Lp K T R H s p L Fl a b f g vl fo n r1 ld1 m1 ks1 r2 ld2 m2 ks2 Rq Tx rq tx i) : Co K T R H s p L Fl a b f g vl fo n r1 ld1 m1 ks1 r2 ld2 m2 ks2 := h.co.ex (eraS_ex _ _)
theorem Ll.co' (h : Ll K T R H s p L Fl a b f g vl fo n r1 ld1 m1 ks1 r2 ld2 m2 ks2 Rq Tx rq tx i o1 o2) : Co K T R H s p L Fl a b f g vl fo n r1 ld1 m1 ks1 r2 ld2 m2 ks2 := h.co.ex (eraS_ex _ _)
theorem Lp.ex (h : Lp K T R H s p L Fl a b f g vl fo n r1 ld1 m1 ks1 r2 ld2 m2 ks2 Rq Tx rq tx i) (e : Ex H H') : Lp K T R H' s p L Fl a b f g vl fo n r1 ld1 m1 ks1 r2 ld2 m2 ks2 Rq Tx rq tx i := ⟨tabs_ (S := []) h.tabs e, h.ne, e.at h.hq, e.at h.hx, h.lt, h.co.ex e.era⟩
theorem Ll.ex (h : Ll K T R H s p L Fl a b f g vl fo n r1 ld1 m1 ks1 r2 ld2 m2 ks2 Rq Tx rq tx i o1 o2) (e : Ex H H') : Ll K T R H' s p L Fl a b f g vl fo n r1 ld1 m1 ks1 r2 ld2 m2 ks2 Rq Tx rq tx i o1 o2 := ⟨tabs_ (S := []) h.tabs e, h.ne, e.at h.hq, e.at h.hx, h.lt, h.co.ex e.era⟩
theorem Lp.up (h : Lp K T R H s p L Fl a b f g vl fo n r1 ld1 m1 ks1 r2 ld2 m2 ks2 Rq Tx rq tx i) : Lp K T R H s p L Fl a b f g vl fo n r1 ld1 m1 ks1 r2 ld2 m2 ks2 Rq Tx rq tx (i + 1) := ⟨h.tabs, h.ne, h.hq, h.hx, h.lt.up, h.co⟩
theorem Lp.swap (h : Lp K T R H s p L Fl a b f g vl fo n r1 ld1 m1 ks1 r2 ld2 m2 ks2 Rq Tx rq tx i) : Lp K T R H s p L Fl a b g f vl fo n r2 ld2 m2 ks2 r1 ld1 m1 ks1 Rq Tx rq tx i := ⟨h.tabs, h.ne, h.hq, h.hx, h.lt, h.co.swap⟩
theorem Lp.lock (h : Lp K T R H s p L Fl a b f g vl fo n r1 ld1 m1 ks1 r2 ld2 m2 ks2 Rq Tx rq tx i) (o1 o2 : Obj) : Ll K T R (Lk H Rq Tx rq tx o1 o2) s p L Fl a b f g vl fo n r1 ld1 m1 ks1 r2 ld2 m2 ks2 Rq Tx rq tx i o1 o2 := by
  have c1 : Ch [Rq] H (upd H Rq (.frz o1 (txO rq))) := Ch.put h.hq
  have q2 : upd H Rq (.frz o1 (txO rq)) Tx = some (txO tx) := by rw [upd_ne (Ne.symm h.ne)]; exact h.hx
  have c2 : Ch [Tx] (upd H Rq (.frz o1 (txO rq))) (Lk H Rq Tx rq tx o1 o2) := Ch.put q2
  refine ⟨tabs_ (tabs_ h.tabs c1) c2, h.ne, ?_, upd_same, h.lt, by rw [era_lk]; exact h.co⟩
  show upd (upd H Rq _) Tx _ Rq = _
  rw [upd_ne h.ne]
  exact upd_same
theorem Ll.done (h : Ll K T R H s p L Fl a b f g vl fo n r1 ld1 m1 ks1 r2 ld2 m2 ks2 Rq Tx rq tx i o1 o2) : H Tx = some (.frz o2 (txO tx)) ∧ (upd H Tx (txO tx)) Rq = some (.frz o1 (txO rq)) := ⟨h.hx, by rw [upd_ne h.ne]; exact h.hq⟩
theorem uk_tabs {K : PySem.W.Frag} {H : Hp} {Rq Tx : Addr} {rq tx : List Str} {o1 o2 : Obj} (ne : Rq ≠ Tx) (hq : H Rq = some (.frz o1 (txO rq))) (hx : H Tx = some (.frz o2 (txO tx))) (t : Tabs K H) : Tabs K (Uk H Rq Tx rq tx) := fun q hp => by
  obtain ⟨ps, h1, h2⟩ := t q hp
  have n1 : (He.cT K q).2 ≠ Rq := fun z => by rw [z, hq] at h1; cases h1
  have n2 : (He.cT K q).2 ≠ Tx := fun z => by rw [z, hx] at h1; cases h1
  exact ⟨ps, by show upd (upd H Tx _) Rq _ _ = _; rw [upd_ne n1, upd_ne n2]; exact h1, h2⟩
theorem Ll.unlock (h : Ll K T R H s p L Fl a b f g vl fo n r1 ld1 m1 ks1 r2 ld2 m2 ks2 Rq Tx rq tx i o1 o2) : Lp K T R (Uk H Rq Tx rq tx) s p L Fl a b f g vl fo n r1 ld1 m1 ks1 r2 ld2 m2 ks2 Rq Tx rq tx i :=
  ⟨uk_tabs h.ne h.hq h.hx h.tabs, h.ne, upd_same, by show upd (upd H Tx _) Rq _ Tx = _; rw [upd_ne (Ne.symm h.ne)]; exact upd_same, h.lt, by rw [era_uk]; exact h.co⟩
/-- what is there and not locked is none of the lists -/
theorem nfr {Rq Tx : Addr} {u1 u2 : HO} (hq : H Rq = some (.frz o1 u1)) (hx : H Tx = some (.frz o2 u2)) {x : Addr} {o : HO} (h : H x = some o) (n : ∀ a u, o ≠ .frz a u) : Rq ≠ x ∧ Tx ≠ x := ⟨fun z => by
  rw [z, h] at hq
  exact n _ _ (Option.some.inj hq), fun z => by
  rw [z, h] at hx
  exact n _ _ (Option.some.inj hx)⟩
theorem Kd.nfr {u1 u2 : HO} (hq : H Rq = some (.frz o1 u1)) (hx : H Tx = some (.frz o2 u2)) {x : Addr} {k : List Str} (h : Kd H x k) : Rq ≠ x ∧ Tx ≠ x := by
  obtain ⟨C, d, fs, e, _⟩ := h
  exact Z.nfr hq hx e fun a u z => nomatch z
theorem frz2 {u1 u2 : HO} {H' : Hp} (hq : H' Rq = some (.frz o1 u1)) (hx : H' Tx = some (.frz o2 u2)) : ∀ x ∈ [Rq, Tx], ∃ o u, H' x = some (.frz o u) := fun x hx' => by
  simp only [List.mem_cons, List.not_mem_nil, or_false] at hx'
  rcases hx' with rfl | rfl
  · exact ⟨_, _, hq⟩
  · exact ⟨_, _, hx⟩
theorem Ll.feed (h : Ll K T R H s p L Fl a b f g vl fo n r1 ld1 m1 ks1 r2 ld2 m2 ks2 Rq Tx rq tx i o1 o2) {m : Nat} {ks : List Nat} (e : Ch [r1, ld1] H H') (hF : Fol K T H' f r1 ld1 m ks) (hI : FInv n m ks) : Ll K T R H' s p L Fl a b f g vl fo n r1 ld1 m ks r2 ld2 m2 ks2 Rq Tx rq tx i o1 o2 := by
  obtain ⟨q1, q2⟩ := h.co'.fol1.kdr.nfr h.hq h.hx
  obtain ⟨kvs, hld⟩ := h.co'.fol1.dict
  obtain ⟨q3, q4⟩ := nfr h.hq h.hx hld fun a u z => nomatch z
  have hq' := e.to h.hq (by simp [q1, q3])
  have hx' := e.to h.hx (by simp [q2, q4])
  exact ⟨tabs_ h.tabs e, h.ne, hq', hx', h.lt, h.co.feed (Ch.era e fun x hx => .inr hx) (hF.lock (frz2 hq' hx')) hI⟩
theorem Ll.snap (h : Ll K T R H s p L Fl a b f g vl fo n r1 ld1 m1 ks1 r2 ld2 m2 ks2 Rq Tx rq tx i o1 o2) {r ld : Addr} {m : Nat} {ks : List Nat} (e : Ch [f] H H') (hr : H r = none) (hl : H ld = none) (hF : Fol K T H' f r ld m ks) (hI : FInv n m ks) : Ll K T R H' s p L Fl a b f g vl fo n r ld m ks r2 ld2 m2 ks2 Rq Tx rq tx i o1 o2 := by
  obtain ⟨q1, q2⟩ := h.co'.fol1.kd.nfr h.hq h.hx
  have hq' := e.to h.hq (by simp [q1])
  have hx' := e.to h.hx (by simp [q2])
  exact ⟨tabs_ h.tabs e, h.ne, hq', hx', h.lt, h.co.snap (Ch.era e fun x hx => .inr hx) (eraS_none hr) (eraS_none hl) (hF.lock (frz2 hq' hx')) hI⟩
theorem Ll.cmp (h : Ll K T R H s p L Fl a b f g vl fo n r1 ld1 m1 ks1 r2 ld2 m2 ks2 Rq Tx rq tx i o1 o2) {vl' : Addr} {fo' : Nat} (e : Ch [p] H H') (hP : Prm K T R H' p vl' fo' n) : Ll K T R H' s p L Fl a b f g vl' fo' n r1 ld1 m1 ks1 r2 ld2 m2 ks2 Rq Tx rq tx i o1 o2 := by
  obtain ⟨q1, q2⟩ := h.co'.prm.kd.nfr h.hq h.hx
  have hq' := e.to h.hq (by simp [q1])
  have hx' := e.to h.hx (by simp [q2])
  exact ⟨tabs_ h.tabs e, h.ne, hq', hx', h.lt, h.co.cmp (Ch.era e fun x hx => .inr hx) (hP.lock (frz2 hq' hx'))⟩
/-- a revision more: behind the write, and behind its table -/
theorem Ll.wr (h : Ll K T R H s p L Fl a b f g vl fo n r1 ld1 m1 ks1 r2 ld2 m2 ks2 Rq Tx rq tx i o1 o2) (hn : n < 30) {S0 R' : Gr → Bool} {H1 : Hp} (c1 : Ch [vl] H H1) (hP : Prm K (ext T (n + 1) S0) R' H1 p vl fo (n + 1)) :
    (H1 Tx = some (.frz o2 (txO tx)) ∧ (upd H1 Tx (txO tx)) Rq = some (.frz o1 (txO rq))) ∧ Tabs K (Uk H1 Rq Tx rq tx) ∧ Prm K (ext T (n + 1) S0) R' (Uk H1 Rq Tx rq tx) p vl fo (n + 1) ∧ ∃ as : List Addr, as.length = n + 1 ∧ (Uk H1 Rq Tx rq tx) L = some (.lst (as.map V.ref)) ∧
      ∀ Hg Hz l ws, Ex (Uk H1 Rq Tx rq tx) Hg → (Uk H1 Rq Tx rq tx) l = none → Hg l = some (.lst ws) → TDs NoL Hg ws ((tb (ext T (n + 1) S0 (n + 1))).map gD) → Ch [L] Hg Hz → Hz L = some (.lst (as.map V.ref ++ [.ref l])) →
        Lp K (ext T (n + 1) S0) R' Hz s p L Fl a b f g vl fo (n + 1) r1 ld1 m1 ks1 r2 ld2 m2 ks2 Rq Tx rq tx i := by
  obtain ⟨vxs, vr, hvl, kvr⟩ := h.co'.prm.lst
  obtain ⟨q1, q2⟩ := nfr h.hq h.hx hvl fun a u z => nomatch z
  have hq' := c1.to h.hq (by simp [q1])
  have hx' := c1.to h.hx (by simp [q2])
  have hPe := hP.lock (frz2 hq' hx')
  obtain ⟨as, t1, t2, t3⟩ := h.co'.tbl
  obtain ⟨nL1, nL2⟩ := nfr h.hq h.hx t1 fun a u z => nomatch z
  have hL1 := c1.at1 t1 h.co'.nLv
  have hLu : (Uk H1 Rq Tx rq tx) L = some (.lst (as.map V.ref)) := by
    show upd (upd H1 Tx _) Rq _ L = _
    rw [upd_ne (Ne.symm nL1), upd_ne (Ne.symm nL2)]
    exact hL1
  have eu : eraS (Uk H1 Rq Tx rq tx) [Rq, Tx] = eraS H1 [Rq, Tx] := era_uk
  have hPu : Prm K (ext T (n + 1) S0) R' (Uk H1 Rq Tx rq tx) p vl fo (n + 1) := Prm.ex (by rw [eu]; exact hPe) (eraS_ex _ [Rq, Tx])
  have hqu : (Uk H1 Rq Tx rq tx) Rq = some (txO rq) := upd_same
  have hxu : (Uk H1 Rq Tx rq tx) Tx = some (txO tx) := by show upd (upd H1 Tx _) Rq _ Tx = _; rw [upd_ne (Ne.symm h.ne)]; exact upd_same
  refine ⟨⟨hx', by rw [upd_ne h.ne]; exact hq'⟩, uk_tabs h.ne hq' hx' (tabs_ h.tabs c1), hPu, as, t2, hLu, fun Hg Hz l ws e2 hl0 hl tl c3 hz => ?_⟩
  have hT : ∀ k, k ≤ n → T k = ext T (n + 1) S0 k := fun k hk => (if_neg (by omega)).symm
  have hqg := e2.at hqu
  have hxg := e2.at hxu
  have nW : ∀ {x : Addr} {o : HO}, Hg x = some o → (∀ ws, o ≠ .lst ws) → x ∉ [Rq, Tx] := fun {x o} q n z => by
    simp only [List.mem_cons, List.not_mem_nil, or_false] at z
    rcases z with rfl | rfl
    · rw [hqg] at q
      exact n _ (Option.some.inj q).symm
    · rw [hxg] at q
      exact n _ (Option.some.inj q).symm
  have nl : l ∉ [Rq, Tx] := fun z => by
    simp only [List.mem_cons, List.not_mem_nil, or_false] at z
    rcases z with rfl | rfl
    · rw [hqu] at hl0
      cases hl0
    · rw [hxu] at hl0
      cases hl0
  have nLW : L ∉ [Rq, Tx] := by simp [Ne.symm nL1, Ne.symm nL2]
  refine ⟨tabs_ (tabs_ (S := []) (uk_tabs h.ne hq' hx' (tabs_ h.tabs c1)) e2) c3, h.ne, c3.at1 hqg nL1, c3.at1 hxg nL2, ⟨h.lt.ql, h.lt.xl, fun x hx => (h.lt.rok x hx).mono (Nat.le_succ n), fun x hx => (h.lt.tok x hx).congr hT (Nat.le_succ n)⟩, ?_⟩
  refine h.co.wr hn (H1 := eraS (Uk H1 Rq Tx rq tx) [Rq, Tx]) (H2 := eraS Hg [Rq, Tx]) (l := l) (ws := ws) ?_ ?_ e2.era (eraS_none hl0) (eraS_at hl nl) (TDs.gE (fun q => nW q fun ws z => nomatch z) _ tl) (Ch.era c3 fun x hx => .inr hx) fun xs hxs => ?_
  · rw [eu]
    exact Ch.era c1 fun x hx => .inr hx
  · rw [eu]
    exact hPe
  · have q := (eraS_some hxs).2
    rw [t1] at q
    injection Option.some.inj q with q
    rw [← q]
    exact eraS_at hz nLW
theorem Lp.addq (h : Lp K T R H s p L Fl a b f g vl fo n r1 ld1 m1 ks1 r2 ld2 m2 ks2 Rq Tx rq tx i) {x : Str} (e : Ch [Rq] H H') (hz : H' Rq = some (.lst (rq.map V.str ++ [.str x]))) (hx : ReqOk n x) : Lp K T R H' s p L Fl a b f g vl fo n r1 ld1 m1 ks1 r2 ld2 m2 ks2 Rq Tx (rq ++ [x]) tx (i + 1) :=
  ⟨tabs_ h.tabs e, h.ne, by rw [hz]; unfold txO; rw [List.map_append]; rfl, e.at1 h.hx (Ne.symm h.ne), h.lt.addq hx, h.co.ex (Ch.era e fun y hy => .inl (by rw [List.mem_singleton.mp hy]; exact List.mem_cons_self))⟩
theorem Lp.addx (h : Lp K T R H s p L Fl a b f g vl fo n r1 ld1 m1 ks1 r2 ld2 m2 ks2 Rq Tx rq tx i) {x : Str} (e : Ch [Tx] H H') (hz : H' Tx = some (.lst (tx.map V.str ++ [.str x]))) (hx : TxtOk T n x) : Lp K T R H' s p L Fl a b f g vl fo n r1 ld1 m1 ks1 r2 ld2 m2 ks2 Rq Tx rq (tx ++ [x]) (i + 1) :=
  ⟨tabs_ h.tabs e, h.ne, e.at1 h.hq h.ne, by rw [hz]; unfold txO; rw [List.map_append]; rfl, h.lt.addx hx, h.co.ex (Ch.era e fun y hy => .inl (by rw [List.mem_singleton.mp hy]; exact List.mem_cons_of_mem _ List.mem_cons_self))⟩
end
/-! ### requests and answers -/
theorem FInv.req {n m : Nat} {ks ms : List Nat} (h : FInv n m ks) (hn : n ≤ 30) (hp : ms.Perm ks) (hs : ms.Pairwise (· < ·)) : (m ≤ n ∧ (∀ k ∈ ms, k ≤ n) ∧ ms.length ≤ 50) ∧ ReqOk n (reqText m ms) := by
  have a : ∀ k ∈ ms, k ≤ n := fun k hk => (h.2.1 k (hp.mem_iff.mp hk)).2
  have b : ms.length ≤ 50 := by
    have := h.len
    rw [hp.length_eq]
    omega
  exact ⟨⟨h.1, a, b⟩, m, ms, rfl, h.1, a, hs, b⟩
theorem txt_feed {T : Nat → Gr → Bool} {n m : Nat} {ms : List Nat} : TxtOk T n (feedText ((due m n ms).map (enT T))) := .inr ⟨_, due_len m n ms, fun j hj => by
  have := due_mem hj
  omega, rfl⟩
theorem txt_snap {T : Nat → Gr → Bool} {n : Nat} : TxtOk T n (snapText n (tb (T n))) := .inl ⟨n, Nat.le_refl _, rfl⟩
theorem recvs_done : ∀ (ms : List Nat) (n : Nat), (∀ k ∈ ms, k ≤ n) → recvs (n, []) ms = (n, [])
  | [], n, _ => rfl
  | k :: ms, n, h => by
    show recvs (recv n [] k) ms = _
    have e : recv n [] k = (n, []) := by
      unfold recv
      rw [if_pos (.inl (h k List.mem_cons_self))]
    rw [e]
    exact recvs_done ms n fun j hj => h j (List.mem_cons_of_mem _ hj)
theorem missL_nil (n : Nat) : missL n (n, []) = [] := filter_pre
theorem miss_feed {n m : Nat} {ks ms : List Nat} (h : FInv n m ks) (hp : ms.Perm ks) : FInv n (recvs (m, ks) (due m n ms)).1 (recvs (m, ks) (due m n ms)).2 ∧ (missL n (recvs (m, ks) (due m n ms))).length = (missL n (m, ks)).length - 10 := by
  refine ⟨(recvs_inv (N := n) _ (m, ks) h fun j hj => (due_mem hj).2).1, ?_⟩
  rw [due_missL h.1 hp]
  exact missL_after h


section
variable {P : Program} {w : World} {K : PySem.W.Frag} {mg : Str → Option Value} {base : Heap}
abbrev sp_law (K : PySem.W.Frag) : Sp := fun vs H Q _ => ∃ s, vs = [.ref s] ∧ Tabs K H ∧ Scr K H s ∧ ∀ H', Q (.bl true) H'
theorem len7 {ds : List Int} (h : ds.length = 7) : ∃ a b c d e f g, ds = [a, b, c, d, e, f, g] := by
  match ds, h with
  | [a, b, c, d, e, f, g], _ => exact ⟨a, b, c, d, e, f, g, rfl⟩
theorem Lp.pick {K : PySem.W.Frag} {T : Nat → Gr → Bool} {R : Gr → Bool} {H : Hp} {s p L Fl a b f g vl : Addr} {fo n : Nat} {r1 ld1 : Addr} {m1 : Nat} {ks1 : List Nat} {r2 ld2 : Addr} {m2 : Nat} {ks2 : List Nat} {Rq Tx : Addr} {rq tx : List Str} {i : Nat}
    (h : Lp K T R H s p L Fl a b f g vl fo n r1 ld1 m1 ks1 r2 ld2 m2 ks2 Rq Tx rq tx i) {j : Addr} (hj : j = a ∨ j = b) : ∃ g' r1' ld1' m1' ks1' r2' ld2' m2' ks2', Lp K T R H s p L Fl a b j g' vl fo n r1' ld1' m1' ks1' r2' ld2' m2' ks2' Rq Tx rq tx i := by
  rcases h.co.ab with ⟨rfl, rfl⟩ | ⟨rfl, rfl⟩ <;> rcases hj with rfl | rfl
  · exact ⟨_, _, _, _, _, _, _, _, _, h⟩
  · exact ⟨_, _, _, _, _, _, _, _, _, h.swap⟩
  · exact ⟨_, _, _, _, _, _, _, _, _, h.swap⟩
  · exact ⟨_, _, _, _, _, _, _, _, _, h⟩
theorem Co.pick {K : PySem.W.Frag} {T : Nat → Gr → Bool} {R : Gr → Bool} {H : Hp} {s p L Fl a b f g vl : Addr} {fo n : Nat} {r1 ld1 : Addr} {m1 : Nat} {ks1 : List Nat} {r2 ld2 : Addr} {m2 : Nat} {ks2 : List Nat}
    (h : Co K T R H s p L Fl a b f g vl fo n r1 ld1 m1 ks1 r2 ld2 m2 ks2) {j : Addr} (hj : j = a ∨ j = b) : ∃ g' r1' ld1' m1' ks1' r2' ld2' m2' ks2', Co K T R H s p L Fl a b j g' vl fo n r1' ld1' m1' ks1' r2' ld2' m2' ks2' := by
  rcases h.ab with ⟨rfl, rfl⟩ | ⟨rfl, rfl⟩ <;> rcases hj with rfl | rfl
  · exact ⟨_, _, _, _, _, _, _, _, _, h⟩
  · exact ⟨_, _, _, _, _, _, _, _, _, h.swap⟩
  · exact ⟨_, _, _, _, _, _, _, _, _, h.swap⟩
  · exact ⟨_, _, _, _, _, _, _, _, _, h⟩
theorem Prm.le {K : PySem.W.Frag} {T : Nat → Gr → Bool} {R : Gr → Bool} {H : Hp} {p vl : Addr} {f n : Nat} (h : Prm K T R H p vl f n) : f ≤ n := by
  obtain ⟨dx, as, r, h1, h2, h3, h4, h5⟩ := h
  omega
theorem mod_nat (d : Int) (b : Nat) (hb : 0 < b) : ∃ k : Nat, d % (b : Nat) = k ∧ k < b := ⟨(d % b).toNat, by
  have h1 := Int.emod_nonneg d (show (b : Int) ≠ 0 by omega)
  omega, by
  have h1 := Int.emod_nonneg d (show (b : Int) ≠ 0 by omega)
  have h2 := Int.emod_lt_of_pos d (show (0 : Int) < b by omega)
  omega⟩
theorem line_uni : ∀ (a : Fin 2) (b : Fin 3), (("d:" ++ chr "pq" a.val, "o", "u:" ++ chr "abc" b.val) : Gr) ∈ URel ∧ (("d:" ++ chr "pq" a.val, "w", "u:" ++ chr "abc" b.val) : Gr) ∈ URel ∧ (("d:" ++ chr "pq" a.val, "b", "u:" ++ chr "abc" b.val) : Gr) ∈ URel ∧ (("d:" ++ chr "pq" a.val, "w", "g:x#m") : Gr) ∈ URel ∧ (("g:x", "m", "u:" ++ chr "abc" b.val) : Gr) ∈ URel := by decide +kernel
theorem five_at {a b c e f : V} (d : Int) {p : V → Prop} (ha : p a) (hb : p b) (hc : p c) (he : p e) (hf : p f) : ∃ v, p v ∧ atI [a, b, c, e, f] (d % 5) = some v := by
  have : d % 5 = 0 ∨ d % 5 = 1 ∨ d % 5 = 2 ∨ d % 5 = 3 ∨ d % 5 = 4 := by omega
  rcases this with h | h | h | h | h
  · exact ⟨a, ha, by rw [h]; rfl⟩
  · exact ⟨b, hb, by rw [h]; rfl⟩
  · exact ⟨c, hc, by rw [h]; rfl⟩
  · exact ⟨e, he, by rw [h]; rfl⟩
  · exact ⟨f, hf, by rw [h]; rfl⟩
theorem lk_ne {H : Hp} {Rq Tx x : Addr} {rq tx : List Str} {o1 o2 : Obj} (h1 : x ≠ Rq) (h2 : x ≠ Tx) : Lk H Rq Tx rq tx o1 o2 x = H x := by
  show upd (upd H Rq _) Tx _ x = _
  rw [upd_ne h2, upd_ne h1]
theorem lk_at {H : Hp} {Rq Tx x : Addr} {rq tx : List Str} {o1 o2 : Obj} {o : HO} (hq : H Rq = some (txO rq)) (hx : H Tx = some (txO tx)) (h : H x = some o) (n : ∀ ws, o ≠ .lst ws) : Lk H Rq Tx rq tx o1 o2 x = some o := by
  rw [lk_ne (fun z => ?_) (fun z => ?_)]
  · exact h
  · rw [z, hq] at h
    exact n _ (Option.some.inj h).symm
  · rw [z, hx] at h
    exact n _ (Option.some.inj h).symm
theorem in67 (kd : Int) : inV (V.int kd) [V.int 6, V.int 7] = decide (kd = 6 ∨ kd = 7) := by
  rw [Bool.eq_iff_iff]
  simp only [inV, List.any_cons, List.any_nil, eqV, Bool.or_false, Bool.or_eq_true, beq_iff_eq, decide_eq_true_eq]
  omega
theorem str_at {xs : List Str} (d : Int) (h : 0 < xs.length) : ∃ x ∈ xs, atI (xs.map V.str) (d % (((xs.map V.str).length : Nat) : Int)) = some (.str x) := by
  rw [List.length_map]
  obtain ⟨k, hk, hkl⟩ := mod_nat d xs.length h
  rw [hk]
  exact ⟨xs[k], List.getElem_mem hkl, atI_nat (by rw [List.getElem?_map, List.getElem?_eq_getElem hkl]; rfl)⟩
theorem shaped_rev (n : Nat) : SeqAt.shaped (.tuple [.str "main", .int n]) = true := Fine.shaped (n := 1) (fine_tup fun d hd => by
  simp only [List.mem_cons, List.not_mem_nil, or_false] at hd
  rcases hd with rfl | rfl
  · exact fine_main
  · exact fine_int _) (by decide)
theorem eqv_rev (n : Nat) : PyData.eqv (.tuple [.str "main", .int n]) (.tuple [.str "main", .int n]) = true := by
  simp [PyData.eqv, PyData.eqvAll]
theorem two_at {a b : Addr} (d : Int) : ∃ j, (j = a ∨ j = b) ∧ atI [V.ref a, V.ref b] (d % 2) = some (.ref j) := by
  have : d % 2 = 0 ∨ d % 2 = 1 := by omega
  rcases this with h | h
  · exact ⟨a, .inl rfl, by rw [h]; rfl⟩
  · exact ⟨b, .inr rfl, by rw [h]; rfl⟩
abbrev N_law : List Str := ["_law_script", "_law_primary", "_law_tables", "_law_followers", "_law_requests", "_law_texts", "_law_k", "_law_draws_here", "_law_kind", "_law_follower", "_law_thing", "_law_who", "_law_line", "_law_is_there", "_law_request", "_law_text", "_law_turn"]
theorem sc_law : FnScope N_law ["_law_script"] (defScope s_law) := ⟨rfl, rfl, rfl, by decide +kernel, rfl, by decide +kernel, by decide +kernel⟩
theorem ok_law (T : Tx w K mg base) : FnOk P w K mg base CX0 15 (a_law K) (fd_law K) ["_law_script"] (sp_law K) := by
  refine T.f_law.ok sc_law (fun vs H Q E h => ?_) (fun cdv A outer s H vs Q E hr h => ?_)
  · obtain ⟨s, rfl, _⟩ := h
    rfl
  obtain ⟨s, rfl, tb_, hS, kk⟩ := h
  refine ⟨_, PSs.nox (pss_cons (ps_set (i := 1) sc_law.nd rfl (Or.inl rfl) (pe_call (ok_law_store T) (hr.mono (by decide)) rfl T.g_law_store T.f_law_store.kp T.b_law_store .nil pass0 (pa_cons (pv 0) (pa_cons pe_int (pa_cons pe_int pa_nil))))) (pss_cons (ps_set (i := 2) sc_law.nd rfl (Or.inl rfl) (pe_lst (pa_cons (pe_meth (pv 1) T.c_Primary T.m_Primary_grants (ok_Primary_grants T) (hr.mono (by decide)) T.b_Primary_grants .nil pass0 (pa_cons pe_str pa_nil)) pa_nil))) (pss_cons (ps_set (i := 3) sc_law.nd rfl (Or.inl rfl) (pe_lst (pa_cons (pe_make T.k_Follower (ok_Follower_init T) (hr.mono (by decide)) rfl T.g_Follower T.b_Follower_init .nil pass0 (pa_cons (pe_meth (pv 1) T.c_Primary T.m_Primary_snapshot (ok_Primary_snapshot T) (hr.mono (by decide)) T.b_Primary_snapshot .nil pass0 (pa_cons pe_str pa_nil)) pa_nil)) (pa_cons (pe_make T.k_Follower (ok_Follower_init T) (hr.mono (by decide)) rfl T.g_Follower T.b_Follower_init .nil pass0 (pa_cons (pe_meth (pv 1) T.c_Primary T.m_Primary_snapshot (ok_Primary_snapshot T) (hr.mono (by decide)) T.b_Primary_snapshot .nil pass0 (pa_cons pe_str pa_nil)) pa_nil)) pa_nil)))) (pss_cons (ps_set (i := 4) sc_law.nd rfl (Or.inl rfl) (pe_lst pa_nil)) (pss_cons (ps_set (i := 5) sc_law.nd rfl (Or.inl rfl) (pe_lst pa_nil)) (pss_cons (ps_for PassesOwn.never rfl (pi_range1 (by rfl) T.n_range (pa_cons (pe_op op_mod (pe_call (ok_law_cell T) (hr.mono (by decide)) rfl T.g_law_cell T.f_law_cell.kp T.b_law_cell .nil pass0 (pa_cons (pv 0) (pa_cons pe_int pa_nil))) pe_int) pa_nil)) (pg_name (i := 6) sc_law.nd rfl (Or.inl rfl)) (pss_cons (ps_set (i := 7) sc_law.nd rfl (Or.inl rfl) (pe_call (ok_law_draws T) (hr.mono (by decide)) rfl T.g_law_draws T.f_law_draws.kp T.b_law_draws .nil pass0 (pa_cons (pe_call (ok_law_cell T) (hr.mono (by decide)) rfl T.g_law_cell T.f_law_cell.kp T.b_law_cell .nil pass0 (pa_cons (pv 0) (pa_cons (pe_op op_add pe_int (pv 6)) pa_nil))) (pa_cons pe_int pa_nil)))) (pss_cons (ps_set (i := 8) sc_law.nd rfl (Or.inl rfl) (pe_op op_mod (pe_callTy call_int1 (by rfl) T.n_int (by decide +kernel) (pa_cons (pe_ix ix_list (pv 7) pe_int (fun _ _ => rfl)) pa_nil)) pe_int)) (pss_cons (ps_set (i := 9) sc_law.nd rfl (Or.inl rfl) (pe_ix ix_list (pv 3) (pe_op op_mod (pe_callTy call_int1 (by rfl) T.n_int (by decide +kernel) (pa_cons (pe_ix ix_list (pv 7) pe_int (fun _ _ => rfl)) pa_nil)) pe_int) (fun _ _ => rfl))) (pss_one (ps_if (PW.pt (pw_and (pt_cmpR (op_lt) (pv 8) pe_int (nomark _)) (pw_and1 (pt_cmpR (op_lt) (pe_meth0 (pv 1) T.c_Primary T.m_Primary_revision (ok_Primary_revision T) (hr.mono (by decide)) T.b_Primary_revision .nil pass0) pe_int (nomark _))))) (pss_cons (ps_set (i := 10) sc_law.nd rfl (Or.inl rfl) (pe_op op_add_str pe_str (pe_ix ix_str pe_str (pe_op op_mod (pe_callTy call_int1 (by rfl) T.n_int (by decide +kernel) (pa_cons (pe_ix ix_list (pv 7) pe_int (fun _ _ => rfl)) pa_nil)) pe_int) (fun _ _ => rfl)))) (pss_cons (ps_set (i := 11) sc_law.nd rfl (Or.inl rfl) (pe_op op_add_str pe_str (pe_ix ix_str pe_str (pe_op op_mod (pe_callTy call_int1 (by rfl) T.n_int (by decide +kernel) (pa_cons (pe_ix ix_list (pv 7) pe_int (fun _ _ => rfl)) pa_nil)) pe_int) (fun _ _ => rfl)))) (pss_cons (ps_set (i := 12) sc_law.nd rfl (Or.inl rfl) (pe_ix ix_list (pe_lst (pa_cons (pe_tup (pa_cons (pv 10) (pa_cons pe_str (pa_cons (pv 11) pa_nil)))) (pa_cons (pe_tup (pa_cons (pv 10) (pa_cons pe_str (pa_cons (pv 11) pa_nil)))) (pa_cons (pe_tup (pa_cons (pv 10) (pa_cons pe_str (pa_cons (pv 11) pa_nil)))) (pa_cons (pe_tup (pa_cons (pv 10) (pa_cons pe_str (pa_cons pe_str pa_nil)))) (pa_cons (pe_tup (pa_cons pe_str (pa_cons pe_str (pa_cons (pv 11) pa_nil)))) pa_nil)))))) (pe_op op_mod (pe_callTy call_int1 (by rfl) T.n_int (by decide +kernel) (pa_cons (pe_ix ix_list (pv 7) pe_int (fun _ _ => rfl)) pa_nil)) pe_int) (fun _ _ => rfl))) (pss_cons (ps_set (i := 13) sc_law.nd rfl (Or.inl rfl) (pe_cmpR (op_inD (hu_w hr)) (pv 12) (pe_meth (pv 1) T.c_Primary T.m_Primary_relationships (ok_Primary_relationships T) (hr.mono (by decide)) T.b_Primary_relationships .nil pass0 (pa_cons pe_str pa_nil)) (by rfl))) (pss_cons (ps_lock (ps_lock (ps_expr (pe_meth (pv 1) T.c_Primary T.m_Primary_write (ok_Primary_write T) (hr.mono (by decide)) T.b_Primary_write .nil pass0 (pa_cons (pe_lst (pa_cons (pe_op op_catA (pe_tup (pa_cons (pe_ifExp (PW.pt (pw_and (pt_val (pv 13)) (pw_and1 (pt_cmpR (op_eq) (pe_op op_mod (pe_callTy call_int1 (by rfl) T.n_int (by decide +kernel) (pa_cons (pe_ix ix_list (pv 7) pe_int (fun _ _ => rfl)) pa_nil)) pe_int) pe_int (nomark _))))) pe_str pe_str) pa_nil)) (pv 12)) pa_nil)) pa_nil))))) (pss_one (ps_expr (pe_bm PySem.F.plainAttrs_list PySem.F.slot_list_append PySem.F.type_list_append mt_append (pv 2) (pa_cons (pe_meth (pv 1) T.c_Primary T.m_Primary_grants (ok_Primary_grants T) (hr.mono (by decide)) T.b_Primary_grants .nil pass0 (pa_cons pe_str pa_nil)) pa_nil))))))))) (pss_one (ps_if (pt_cmpR (op_eq) (pv 8) pe_int (nomark _)) (pss_cons (ps_set (i := 14) sc_law.nd rfl (Or.inl rfl) (pe_meth0 (pv 9) T.c_Follower T.m_Follower_ask (ok_Follower_ask T) (hr.mono (by decide)) T.b_Follower_ask .nil pass0)) (pss_cons (ps_if (pt_cmpR (op_neD (Nat.lt_of_succ_lt (hu_w hr))) (pe_slice sl_tupA (pe_call (ok_read_request T) (hr.mono (by decide)) rfl T.g_read_request T.f_read_request.kp T.b_read_request .nil pass0 (pa_cons (pv 14) pa_nil)) po_none (po_some pe_int)) (pe_tup (pa_cons pe_str (pa_cons (pe_meth0 (pv 9) T.c_Follower T.m_Follower_revision (ok_Follower_revision T) (hr.mono (by decide)) T.b_Follower_revision .nil pass0) pa_nil))) (nomark _)) (pss_one (ps_ret pe_bl)) pss_nil) (pss_one (ps_expr (pe_bm PySem.F.plainAttrs_list PySem.F.slot_list_append PySem.F.type_list_append mt_append (pv 4) (pa_cons (pv 14) pa_nil)))))) (pss_one (ps_if (PW.pt (pw_and (pt_cmpR (op_eq) (pv 8) pe_int (nomark _)) (pw_and1 (pt_cmpR (op_gt) (pe_callB call_len_seq (by rfl) T.n_len (by decide +kernel) (pa_cons (pv 4) pa_nil)) pe_int (nomark _))))) (pss_cons (ps_set (i := 14) sc_law.nd rfl (Or.inl rfl) (pe_ix ix_list (pv 4) (pe_op op_mod (pe_callTy call_int1 (by rfl) T.n_int (by decide +kernel) (pa_cons (pe_ix ix_list (pv 7) pe_int (fun _ _ => rfl)) pa_nil)) (pe_callB call_len_seq (by rfl) T.n_len (by decide +kernel) (pa_cons (pv 4) pa_nil))) (fun _ _ => rfl))) (pss_cons (ps_set (i := 15) sc_law.nd rfl (Or.inl rfl) (pe_call (ok_answer_to T) (hr.mono (by decide)) rfl T.g_answer_to T.f_answer_to.kp T.b_answer_to .nil pass0 (pa_cons (pv 1) (pa_cons (pv 14) pa_nil)))) (pss_cons (ps_if (pt_not (pt_val (pe_call (ok_law_is_answer T) (hr.mono (by decide)) rfl T.g_law_is_answer T.f_law_is_answer.kp T.b_law_is_answer .nil pass0 (pa_cons (pv 1) (pa_cons (pv 14) (pa_cons (pv 15) pa_nil)))))) (pss_one (ps_ret pe_bl)) pss_nil) (pss_one (ps_expr (pe_bm PySem.F.plainAttrs_list PySem.F.slot_list_append PySem.F.type_list_append mt_append (pv 5) (pa_cons (pv 15) pa_nil))))))) (pss_one (ps_if (PW.pt (pw_and (pt_cmpR (op_in_seq) (pv 8) (pe_tup (pa_cons pe_int (pa_cons pe_int pa_nil))) (by rfl)) (pw_and1 (pt_cmpR (op_gt) (pe_callB call_len_seq (by rfl) T.n_len (by decide +kernel) (pa_cons (pv 5) pa_nil)) pe_int (nomark _))))) (pss_one (ps_lock (ps_lock (ps_if (PW.pt (pw_or (pt_not (pt_val (pe_call (ok_law_taken T) (hr.mono (by decide)) rfl T.g_law_taken T.f_law_taken.kp T.b_law_taken .nil pass0 (pa_cons (pv 9) (pa_cons (pe_ix ix_list (pv 5) (pe_op op_mod (pe_callTy call_int1 (by rfl) T.n_int (by decide +kernel) (pa_cons (pe_ix ix_list (pv 7) pe_int (fun _ _ => rfl)) pa_nil)) (pe_callB call_len_seq (by rfl) T.n_len (by decide +kernel) (pa_cons (pv 5) pa_nil))) (fun _ _ => rfl)) pa_nil))))) (pw_or1 (pt_not (pt_val (pe_call (ok_law_is_true T) (hr.mono (by decide)) rfl T.g_law_is_true T.f_law_is_true.kp T.b_law_is_true .nil pass0 (pa_cons (pv 9) (pa_cons (pv 2) pa_nil)))))))) (pss_one (ps_ret pe_bl)) pss_nil)))) (pss_one (ps_if (PW.pt (pw_and (pt_cmpR (op_eq) (pv 8) pe_int (nomark _)) (pw_and1 (pt_cmpR (op_eq) (pe_op op_mod (pe_call (ok_law_cell T) (hr.mono (by decide)) rfl T.g_law_cell T.f_law_cell.kp T.b_law_cell .nil pass0 (pa_cons (pv 0) (pa_cons pe_int pa_nil))) pe_int) pe_int (nomark _))))) (pss_one (ps_lock (ps_lock (ps_expr (pe_meth (pv 1) T.c_Primary T.m_Primary_compact (ok_Primary_compact T) (hr.mono (by decide)) T.b_Primary_compact .nil pass0 (pa_cons (pe_op op_add (pe_meth0 (pv 1) T.c_Primary T.m_Primary_oldest (ok_Primary_oldest T) (hr.mono (by decide)) T.b_Primary_oldest .nil pass0) (pe_op op_mod (pe_callTy call_int1 (by rfl) T.n_int (by decide +kernel) (pa_cons (pe_ix ix_list (pv 7) pe_int (fun _ _ => rfl)) pa_nil)) (pe_op op_add (pe_op op_sub (pe_meth0 (pv 1) T.c_Primary T.m_Primary_revision (ok_Primary_revision T) (hr.mono (by decide)) T.b_Primary_revision .nil pass0) (pe_meth0 (pv 1) T.c_Primary T.m_Primary_oldest (ok_Primary_oldest T) (hr.mono (by decide)) T.b_Primary_oldest .nil pass0)) pe_int))) pa_nil)))))) pss_nil)))))))))))))) (pss_cons (ps_for PassesOwn.never rfl (pi_list (pv 3)) (pg_name (i := 9) sc_law.nd rfl (Or.inl rfl)) (pss_cons (ps_for PassesOwn.never rfl (pi_range1 (by rfl) T.n_range (pa_cons pe_int pa_nil)) (pg_name (i := 16) sc_law.nd rfl (Or.inl rfl)) (pss_one (ps_expr (pe_meth (pv 9) T.c_Follower T.m_Follower_take (ok_Follower_take T) (hr.mono (by decide)) T.b_Follower_take .nil pass0 (pa_cons (pe_call (ok_answer_to T) (hr.mono (by decide)) rfl T.g_answer_to T.f_answer_to.kp T.b_answer_to .nil pass0 (pa_cons (pv 1) (pa_cons (pe_meth0 (pv 9) T.c_Follower T.m_Follower_ask (ok_Follower_ask T) (hr.mono (by decide)) T.b_Follower_ask .nil pass0) pa_nil))) pa_nil))))) (pss_one (ps_if (PW.pt (pw_or (pt_cmpR (op_ne) (pe_meth0 (pv 9) T.c_Follower T.m_Follower_revision (ok_Follower_revision T) (hr.mono (by decide)) T.b_Follower_revision .nil pass0) (pe_meth0 (pv 1) T.c_Primary T.m_Primary_revision (ok_Primary_revision T) (hr.mono (by decide)) T.b_Primary_revision .nil pass0) (nomark _)) (pw_or1 (pt_not (pt_val (pe_call (ok_law_is_true T) (hr.mono (by decide)) rfl T.g_law_is_true T.f_law_is_true.kp T.b_law_is_true .nil pass0 (pa_cons (pv 9) (pa_cons (pv 2) pa_nil)))))))) (pss_one (ps_ret pe_bl)) pss_nil)))) (pss_one (ps_ret pe_bl))))))))), ?_⟩
  wtm_at "go"
  intro p vl R0 S0 H1 e1 hp0 hP
  obtain ⟨dxp, asp, rp, hp1, -⟩ := id hP
  wtm_at "go"
  refine ⟨_, _, p, vl, _, _, rfl, hP, fun l ws H2 e2 hl0 hl tl => ?_⟩
  wtm_at "go"
  rename_i L hL0 H3 e3 hL
  have hP3 := (hP.ex e2).ex e3
  refine ⟨_, _, p, vl, _, _, rfl, hP3, fun v1 H4 e4 tv1 => ?_⟩
  wtm_at "go"
  rename_i f dx hf0 hdx0 hne H5 e5 hf
  refine ⟨fun _ => S0, f, dx, 0, v1, rfl, hf, (tv1.e e5).w fun _ _ => trivial, fun r1 ld1 H6 c6 hr1 hld1 hF1 => ?_⟩
  have E6 : Ex H3 H6 := e4.trans (exD e5 hf0 c6)
  have hP6 := hP3.ex E6
  wtm_at "go"
  refine ⟨_, _, p, vl, _, _, rfl, hP6, fun v2 H7 e7 tv2 => ?_⟩
  wtm_at "go"
  rename_i g dx2 hg0 hdx20 hne2 H8 e8 hg
  refine ⟨fun _ => S0, g, dx2, 0, v2, rfl, hg, (tv2.e e8).w fun _ _ => trivial, fun r2 ld2 H9 c9 hr2 hld2 hF2 => ?_⟩
  have E9 : Ex H6 H9 := e7.trans (exD e8 hg0 c9)
  wtm_at "go"
  rename_i Fl hFl0 H10 e10 hFl Rq hRq0 H11 e11 hRq Tx hTx0 H12 e12 hTx
  have E10 : Ex H H10 := ((((e1.trans e2).trans e3).trans E6).trans E9).trans e10
  have E12 : Ex H H12 := (E10.trans e11).trans e12
  have hRq2 := e12.at hRq
  have hne : Rq ≠ Tx := fun z => by
    rw [← z, hRq] at hTx0
    cases hTx0
  have co : Co K (fun _ => S0) R0 H10 s p L Fl f g f g vl 0 0 r1 ld1 0 [] r2 ld2 0 [] := by
    refine ⟨hFl, .inl ⟨rfl, rfl⟩, hS.ch E10 (nmem s), (hP6.ex E9).ex e10, ⟨[l], e10.at (E9.at (E6.at hL)), rfl, fun i a hi => ?_⟩, (hF1.ex E9).ex e10, FInv.nil (Nat.le_refl _), hF2.ex e10, FInv.nil (Nat.le_refl _), fun z => ?_, fun z => ?_, fun z => ?_, by omega⟩
    · cases i with
      | zero =>
        cases hi
        refine ⟨fun z => ?_, ws, e10.at (E9.at (E6.at (e3.at hl))), (((tl.e e3).e E6).e E9).e e10⟩
        rw [z, hL0] at hl
        cases hl
      | succ i => cases hi
    · obtain ⟨C, d, fs, q, _⟩ := hF1.kd
      have q := e7.at q
      rw [z, hg0] at q
      cases q
    · obtain ⟨C, d, fs, q, _⟩ := hF1.kdr
      have q := e8.at (e7.at q)
      rw [z, hr2] at q
      cases q
    · obtain ⟨kvs, q⟩ := hF1.dict
      have q := e8.at (e7.at q)
      rw [z, hld2] at q
      cases q
  have lp : Lp K (fun _ => S0) R0 H12 s p L Fl f g f g vl 0 0 r1 ld1 0 [] r2 ld2 0 [] Rq Tx [] [] 0 := by
    refine ⟨tabs_ (S := []) tb_ E12, hne, hRq2, hTx, ⟨Nat.le_refl _, Nat.le_refl _, (fun x hx => nomatch hx), (fun x hx => nomatch hx)⟩, co.ex (ex_eraS (e11.trans e12) fun x hx => ?_)⟩
    simp only [List.mem_cons, List.not_mem_nil, or_false] at hx
    rcases hx with rfl | rfl
    · exact hRq0
    · exact Ch.free e11 hTx0
  refine ⟨lp.co'.scr, fun c0 _ => ?_⟩
  wtm_at "go"
  refine gI (by decide) ?_
  wtm_at "go"
  refine ⟨by omega, by omega, ?_⟩
  refine for_it walk_range (fun i σ H' => ∃ T R f' g' vl fo n r1 ld1 m1 ks1 r2 ld2 m2 ks2 rq tx x6 x7 x8 x9 x10 x11 x12 x13 x14 x15 x16, Lp K T R H' s p L Fl f g f' g' vl fo n r1 ld1 m1 ks1 r2 ld2 m2 ks2 Rq Tx rq tx i ∧
    σ = [some (.ref s), some (.ref p), some (.ref L), some (.ref Fl), some (.ref Rq), some (.ref Tx), x6, x7, x8, x9, x10, x11, x12, x13, x14, x15, x16]) ?_ ?_ ?_ ?_
  · exact ⟨_, _, _, _, _, _, _, _, _, _, _, _, _, _, _, _, _, _, _, _, _, _, _, _, _, _, _, _, lp, rfl⟩
  · exact fun _ _ _ _ _ => trivial
  · rintro i v σ H0 H_ hi ⟨T1, R1, f', g', vl1, fo, n, r1, ld1, m1, ks1, r2, ld2, m2, ks2, rq, tx, x6, x7, x8, x9, x10, x11, x12, x13, x14, x15, x16, lp, rfl⟩ ⟨rfl, rfl⟩
    have hi : i < 51 := by
      have : i < (c0 % 51).toNat := hi
      omega
    wtm_at "go"
    refine ⟨lp.co'.scr, fun c1 hc1 => ?_⟩
    wtm_at "go"
    intro dl ds H15 e15 hdl hds hlen
    obtain ⟨d0, d1, d2, d3, d4, d5, d6, rfl⟩ := len7 hlen
    have hds : H15 dl = some (.lst [.int d0, .int d1, .int d2, .int d3, .int d4, .int d5, .int d6]) := hds
    have lp0 := lp
    have lp := lp.ex e15
    obtain ⟨j, hj, hat⟩ := two_at (a := f) (b := g) d1
    obtain ⟨g'', r1', ld1', m1', ks1', r2', ld2', m2', ks2', lp⟩ := lp.pick hj
    have hFl := lp.co'.fl
    wtm_at "go"
    refine gI (by decide) ?_
    wtm_at "go"
    generalize hkd : d0 % 9 = kd
    refine gI (by decide) ?_
    refine gIxL hFl hat ?_
    wtm_at "go"
    have ndR : dl ≠ Rq := fun z => by rw [z, lp0.hq] at hdl; cases hdl
    have ndT : dl ≠ Tx := fun z => by rw [z, lp0.hx] at hdl; cases hdl
    obtain ⟨k2, hk2, hk2l⟩ := mod_nat d2 2 (by decide)
    obtain ⟨k3, hk3, hk3l⟩ := mod_nat d3 3 (by decide)
    obtain ⟨u1, u2, u3, u4, u5⟩ := line_uni ⟨k2, hk2l⟩ ⟨k3, hk3l⟩
    refine ifd (fun h4 => ?_) (fun h4 => ?_)
    · have hP15 := lp.co'.prm
      obtain ⟨dx1, as1, rr1, hp1, -⟩ := id hP15
      wtm_at "go"
      refine ⟨_, _, p, vl1, fo, n, rfl, hP15, ?_⟩
      wtm_at "go"
      refine ifd (fun h30 => ?_) (fun h30 => ?_)
      · have h30 : n < 30 := by omega
        -- W<
        wtm_at "go"
        refine gI (by decide) ?_
        refine gIxS (by decide) (chr_at (k := k2) hk2 (show k2 < 2 by omega)) ?_
        wtm_at "go"
        refine ⟨by show 2 + 1 ≤ sizeLine; decide, ?_⟩
        wtm_at "go"
        refine gI (by decide) ?_
        refine gIxS (by decide) (chr_at (k := k3) hk3 (show k3 < 3 by omega)) ?_
        wtm_at "go"
        refine ⟨by show 2 + 1 ≤ sizeLine; decide, ?_⟩
        wtm_at "go"
        rename_i q1 hq1 G1 g1 t1 q2 hq2 G2 g2 t2 q3 hq3 G3 g3 t3 q4 hq4 G4 g4 t4 q5 hq5 G5 g5 t5 ql hql G6 g6 tl6
        have E6 := ((((g1.trans g2).trans g3).trans g4).trans g5).trans g6
        obtain ⟨vq, ⟨q, gl, rfl, hq, hgl⟩, hat4⟩ := five_at (a := .ref q1) (b := .ref q2) (c := .ref q3) (e := .ref q4) (f := .ref q5) d4 (p := fun v => ∃ q, ∃ gl : Gr, v = .ref q ∧ G6 q = some (.tup [.str gl.1, .str gl.2.1, .str gl.2.2]) ∧ gl ∈ URel)
          ⟨q1, _, rfl, g6.at (g5.at (g4.at (g3.at (g2.at t1)))), u1⟩ ⟨q2, _, rfl, g6.at (g5.at (g4.at (g3.at t2))), u2⟩ ⟨q3, _, rfl, g6.at (g5.at (g4.at t3)), u3⟩ ⟨q4, _, rfl, g6.at (g5.at t4), u4⟩ ⟨q5, _, rfl, g6.at t5, u5⟩
        refine gI (by decide) ?_
        refine gIxL tl6 hat4 ?_
        wtm_at "go"
        have lp6 := lp.ex E6
        refine ⟨_, _, p, vl1, fo, n, rfl, lp6.co'.prm, fun lr wr G7 g7 hlr0 hlr tlr => ?_⟩
        refine gInG (g := gl) (g7.at hq) hlr tlr (fine_r hgl) (fun x hx => fine_r (mem_rb.mp hx).1) ?_
        wtm_at "go"
        have lp7 := lp6.ex g7
        have hx7 : ∀ o, upd G7 Rq o Tx = some (txO tx) := fun o => by rw [upd_ne (Ne.symm lp7.ne)]; exact lp7.hx
        refine ⟨Rq, _, lp7.hq, trivial, fun o1 => ?_⟩
        refine ⟨Tx, _, hx7 _, trivial, fun o2 => ?_⟩
        have ll := lp7.lock o1 o2
        have hqL : Lk G7 Rq Tx rq tx o1 o2 q = _ := lk_at lp7.hq lp7.hx (g7.at hq) (fun ws z => nomatch z)
        have hdL : Lk G7 Rq Tx rq tx o1 o2 dl = _ := (lk_ne ndR ndT).trans (g7.at (E6.at hds))
        obtain ⟨dx2, as2, rr2, hp2, -⟩ := id ll.co'.prm
        dsimp only
        generalize hHL : upd (upd G7 Rq _) Tx _ = HL
        rw [show Lk G7 Rq Tx rq tx o1 o2 = HL from hHL] at ll hqL hdL hp2
        wtm_at "go"
        refine ifd (fun hin => ?_) (fun hin => ?_)
        · wtm_at "go"
          refine gI (by decide) ?_
          wtm_at "go"
          refine ifd (fun h5 => ?_) (fun h5 => ?_)
          · wtm_at "go"
            rename_i y hy0 HM eM hy
            refine gCatT hy (eM.at hqL) (by simp) (by simp) (Nat.le_of_ble_eq_true rfl) fun u HN hu0 eN hu => ?_
            wtm_at "go"
            rename_i ul hul0 HO' eO hul
            have llO := ((ll.ex eM).ex eN).ex eO
            refine ⟨_, _, p, vl1, fo, n, ul, u, gl, _, rfl, llO.co'.prm, by omega, hul, eO.at hu, hgl, .inr ⟨rfl, hin⟩, fun R' S HW cW hPW => ?_⟩
            obtain ⟨⟨a1, a2⟩, tabs, hPu, as, asl, hLu, fin⟩ := llO.wr h30 cW hPW
            obtain ⟨dx3, as3, rr3, hp3, -⟩ := id hPu
            refine ⟨a1, a2, ?_⟩
            wtm_at "go"
            refine ⟨_, _, p, vl1, fo, n + 1, rfl, hPu, fun l2 w2 HG eG hl0 hl tl2 => ?_⟩
            wtm_at "go"
            refine gApp (eG.at hLu) (Nat.lt_of_le_of_lt (by rw [List.length_map, asl]; omega : _ ≤ 100) (by decide)) fun HZ cZ hZ => ?_
            exact ⟨_, _, _, _, _, _, _, _, _, _, _, _, _, _, _, _, _, _, _, _, _, _, _, _, _, _, _, _, (fin HG HZ l2 w2 eG hl0 hl tl2 cZ hZ).up, rfl⟩
          · wtm_at "go"
            rename_i y hy0 HM eM hy
            refine gCatT hy (eM.at hqL) (by simp) (by simp) (Nat.le_of_ble_eq_true rfl) fun u HN hu0 eN hu => ?_
            wtm_at "go"
            rename_i ul hul0 HO' eO hul
            have llO := ((ll.ex eM).ex eN).ex eO
            refine ⟨_, _, p, vl1, fo, n, ul, u, gl, _, rfl, llO.co'.prm, by omega, hul, eO.at hu, hgl, .inl rfl, fun R' S HW cW hPW => ?_⟩
            obtain ⟨⟨a1, a2⟩, tabs, hPu, as, asl, hLu, fin⟩ := llO.wr h30 cW hPW
            obtain ⟨dx3, as3, rr3, hp3, -⟩ := id hPu
            refine ⟨a1, a2, ?_⟩
            wtm_at "go"
            refine ⟨_, _, p, vl1, fo, n + 1, rfl, hPu, fun l2 w2 HG eG hl0 hl tl2 => ?_⟩
            wtm_at "go"
            refine gApp (eG.at hLu) (Nat.lt_of_le_of_lt (by rw [List.length_map, asl]; omega : _ ≤ 100) (by decide)) fun HZ cZ hZ => ?_
            exact ⟨_, _, _, _, _, _, _, _, _, _, _, _, _, _, _, _, _, _, _, _, _, _, _, _, _, _, _, _, (fin HG HZ l2 w2 eG hl0 hl tl2 cZ hZ).up, rfl⟩
        · wtm_at "go"
          rename_i y hy0 HM eM hy
          refine gCatT hy (eM.at hqL) (by simp) (by simp) (Nat.le_of_ble_eq_true rfl) fun u HN hu0 eN hu => ?_
          wtm_at "go"
          rename_i ul hul0 HO' eO hul
          have llO := ((ll.ex eM).ex eN).ex eO
          refine ⟨_, _, p, vl1, fo, n, ul, u, gl, _, rfl, llO.co'.prm, by omega, hul, eO.at hu, hgl, .inl rfl, fun R' S HW cW hPW => ?_⟩
          obtain ⟨⟨a1, a2⟩, tabs, hPu, as, asl, hLu, fin⟩ := llO.wr h30 cW hPW
          obtain ⟨dx3, as3, rr3, hp3, -⟩ := id hPu
          refine ⟨a1, a2, ?_⟩
          wtm_at "go"
          refine ⟨_, _, p, vl1, fo, n + 1, rfl, hPu, fun l2 w2 HG eG hl0 hl tl2 => ?_⟩
          wtm_at "go"
          refine gApp (eG.at hLu) (Nat.lt_of_le_of_lt (by rw [List.length_map, asl]; omega : _ ≤ 100) (by decide)) fun HZ cZ hZ => ?_
          exact ⟨_, _, _, _, _, _, _, _, _, _, _, _, _, _, _, _, _, _, _, _, _, _, _, _, _, _, _, _, (fin HG HZ l2 w2 eG hl0 hl tl2 cZ hZ).up, rfl⟩
        -- W>
      · wtm_at "go"
        refine ifd (fun h => absurd h (by omega)) (fun _ => ?_)
        wtm_at "go"
        refine ifd (fun h => absurd h (by omega)) (fun _ => ?_)
        wtm_at "go"
        rename_i qx hqx GX ex tx'
        rw [in67]
        refine ifd (fun h => absurd h (by omega)) (fun _ => ?_)
        wtm_at "go"
        refine ifd (fun h => absurd h (by omega)) (fun _ => ?_)
        wtm_at "go"
        exact ⟨_, _, _, _, _, _, _, _, _, _, _, _, _, _, _, _, _, _, _, _, _, _, _, _, _, _, _, _, (lp.ex ex).up, rfl⟩
    · wtm_at "go"
      have inv := lp.co'.inv1
      have hn30 := lp.co'.hn
      have hlen := inv.len
      have hqf := lp.hq
      have hxf := lp.hx
      obtain ⟨dx1, hj1, -⟩ := id lp.co'.fol1
      refine ifd (fun h => ?_) (fun h44 => ?_)
      · -- A<
        wtm_at "go"
        refine ⟨T1, j, r1', ld1', m1', ks1', rfl, lp.tabs, lp.co'.fol1, Nat.le_trans inv.1 (by omega), by omega, fun k hk => Nat.le_trans (inv.2.1 k hk).2 (by omega), inv.2.2, fun ms H16 e16 hp hs => ?_⟩
        obtain ⟨⟨y1, y2, y3⟩, hreq⟩ := inv.req hn30 hp hs
        have lp16 := lp.ex e16
        wtm_at "go"
        refine ⟨lp16.tabs, by omega, fun k hk => Nat.le_trans (y2 k hk) (by omega), hs, y3, fun rp l H17 e17 hrp hl0 hl hr1 => ?_⟩
        have lp17 := lp16.ex e17
        wtm_at "go"
        refine gSlT hr1 (fun z => absurd z.2 (by show ¬ HT.sIx 3 3 (some 2) = 3; decide)) fun q H18 hq e18 hq18 => ?_
        have hq18 : H18 q = some (.tup [.str "main", .int m1']) := hq18
        have lp18 := lp17.ex e18
        obtain ⟨dx18, hj18, -⟩ := id lp18.co'.fol1
        wtm_at "go"
        refine ⟨T1, j, r1', ld1', m1', ks1', rfl, lp18.co'.fol1, ?_⟩
        wtm_at "go"
        rename_i q2 hq2 H19 e19 hq19
        have lp19 := lp18.ex e19
        refine ⟨_, _, TD.dp (A := AnyL) (.tup (e19.at hq18) (.cons (.str _) (.cons (.int _) .nil))), TD.dp (A := AnyL) (.tup hq19 (.cons (.str _) (.cons (.int _) .nil))), shaped_rev _, shaped_rev _, ?_⟩
        rw [eqv_rev]
        wtm_at "go"
        refine gApp lp19.hq (Nat.lt_of_le_of_lt (by rw [List.length_map]; have := lp.lt.ql; omega : _ ≤ 100) (by decide)) fun HZ cZ hZ => ?_
        exact ⟨_, _, _, _, _, _, _, _, _, _, _, _, _, _, _, _, _, _, _, _, _, _, _, _, _, _, _, _,  lp19.addq cZ hZ hreq, rfl⟩
        -- A>
      · wtm_at "go"
        refine ifd (fun h5 => ?_) (fun h55 => ?_)
        · -- B<
          wtm_at "go"
          refine ifd (fun hl => ?_) (fun hl => ?_)
          · have hl : 0 < rq.length := by
              rw [List.length_map] at hl
              omega
            obtain ⟨x, hx, hatq⟩ := str_at d2 hl
            obtain ⟨m, ms, rfl, hm, hms, hso, hml⟩ := lp.lt.rok x hx
            wtm_at "go"
            refine gI (by rw [List.length_map]; omega) ?_
            refine gIxL hqf hatq ?_
            wtm_at "go"
            refine ⟨T1, R1, p, vl1, fo, n, m, ms, rfl, lp.tabs, lp.co'.prm, by omega, hm, fun k hk => Nat.le_trans (hms k hk) (by omega), hso, hml, fun hlt H16 e16 => ?_, fun hge H16 e16 => ?_⟩
            · have lp16 := lp.ex e16
              wtm_at "go"
              refine ⟨T1, R1, p, vl1, fo, n, m, ms, _, rfl, lp16.tabs, lp16.co'.prm, by omega, hm, fun k hk => Nat.le_trans (hms k hk) (by omega), hso, hml, fun _ => rfl, fun z => absurd z (by omega), fun H17 e17 => ?_⟩
              have lp17 := lp16.ex e17
              wtm_at "go"
              refine gApp lp17.hx (Nat.lt_of_le_of_lt (by rw [List.length_map]; have := lp.lt.xl; omega : _ ≤ 100) (by decide)) fun HZ cZ hZ => ?_
              exact ⟨_, _, _, _, _, _, _, _, _, _, _, _, _, _, _, _, _, _, _, _, _, _, _, _, _, _, _, _,  lp17.addx cZ hZ txt_snap, rfl⟩
            · have lp16 := lp.ex e16
              wtm_at "go"
              refine ⟨T1, R1, p, vl1, fo, n, m, ms, _, rfl, lp16.tabs, lp16.co'.prm, by omega, hm, fun k hk => Nat.le_trans (hms k hk) (by omega), hso, hml, fun z => absurd z (by omega), fun _ => rfl, fun H17 e17 => ?_⟩
              have lp17 := lp16.ex e17
              wtm_at "go"
              refine gApp lp17.hx (Nat.lt_of_le_of_lt (by rw [List.length_map]; have := lp.lt.xl; omega : _ ≤ 100) (by decide)) fun HZ cZ hZ => ?_
              exact ⟨_, _, _, _, _, _, _, _, _, _, _, _, _, _, _, _, _, _, _, _, _, _, _, _, _, _, _, _,  lp17.addx cZ hZ txt_feed, rfl⟩
          · -- no request yet
            wtm_at "go"
            rename_i qx hqx GX ex tx'
            rw [in67]
            refine ifd (fun h => absurd h (by omega)) (fun _ => ?_)
            wtm_at "go"
            refine ifd (fun h => absurd h (by omega)) (fun _ => ?_)
            wtm_at "go"
            exact ⟨_, _, _, _, _, _, _, _, _, _, _, _, _, _, _, _, _, _, _, _, _, _, _, _, _, _, _, _, (lp.ex ex).up, rfl⟩
          -- B>
        · wtm_at "go"
          rw [in67]
          rename_i qx hqx GX ex tx'
          have lpG := lp.ex ex
          have hdG := ex.at hds
          have hxf := lpG.hx
          refine ifd (fun h6 => ?_) (fun h66 => ?_)
          · -- C<
            wtm_at "go"
            refine ifd (fun hl => ?_) (fun hl => ?_)
            · have hl : 0 < tx.length := by
                rw [List.length_map] at hl
                omega
              obtain ⟨x, hx, hatx⟩ := str_at d2 hl
              have hxG : ∀ o, upd GX Rq o Tx = some (txO tx) := fun o => by rw [upd_ne (Ne.symm lpG.ne)]; exact lpG.hx
              refine ⟨Rq, _, lpG.hq, trivial, fun o1 => ?_⟩
              refine ⟨Tx, _, hxG _, trivial, fun o2 => ?_⟩
              have ll := lpG.lock o1 o2
              have hdL : Lk GX Rq Tx rq tx o1 o2 dl = _ := (lk_ne ndR ndT).trans hdG
              obtain ⟨dx2, as2, rr2, hp2, hvl2, hfo, -⟩ := id ll.co'.prm
              dsimp only
              generalize hHL : upd (upd GX Rq _) Tx _ = HL
              rw [show Lk GX Rq Tx rq tx o1 o2 = HL from hHL] at ll hdL hp2
              clear hvl2
              have hsq : SqL K HL Tx (tx.map V.str) := .inl (.inr ⟨o2, ll.hx⟩)
              wtm_at "go"
              refine ⟨Tx, _, rfl, .inl hsq, ?_⟩
              wtm_at "go"
              refine gI (by rw [List.length_map]; omega) ?_
              refine ⟨Tx, _, _, _, rfl, rfl, hsq, hatx, ?_⟩
              wtm_at "go"
              refine ⟨T1, j, r1', ld1', m1', ks1', x, rfl, ll.tabs, ll.co'.fol1, by omega, fun k hk => Nat.le_trans (inv.2.1 k hk).2 (by omega), ?_⟩
              rcases lp.lt.tok x hx with ⟨m, hm, rfl⟩ | ⟨js, hjl, hj, rfl⟩
              · refine .inl ⟨m, rfl, by omega, fun hle H16 e16 => ?_, fun hlt ms r' ld' H16 hp hs hr hld c16 hF => ?_⟩
                · have llx := ll.ex e16
                  wtm_at "go"
                  refine ⟨T1, j, _, _, _, _, L, n, rfl, llx.tabs, llx.co'.fol1, llx.co'.tbl, llx.co'.inv1.1, by omega, fun H17 e17 => ?_⟩
                  have llz := llx.ex e17
                  obtain ⟨a1, a2⟩ := llz.done
                  wtm_at "go"
                  exact ⟨_, _, _, _, _, _, _, _, _, _, _, _, _, _, _, _, _, _, _, _, _, _, _, _, _, _, _, _,  llz.unlock.up, rfl⟩
                · have llx := ll.snap c16 hr hld hF (recvs_inv (N := n) ms (m, []) (FInv.nil hm) fun k hk => (inv.2.1 k (hp.mem_iff.mp hk)).2).1
                  wtm_at "go"
                  refine ⟨T1, j, _, _, _, _, L, n, rfl, llx.tabs, llx.co'.fol1, llx.co'.tbl, llx.co'.inv1.1, by omega, fun H17 e17 => ?_⟩
                  have llz := llx.ex e17
                  obtain ⟨a1, a2⟩ := llz.done
                  wtm_at "go"
                  exact ⟨_, _, _, _, _, _, _, _, _, _, _, _, _, _, _, _, _, _, _, _, _, _, _, _, _, _, _, _,  llz.unlock.up, rfl⟩
              · refine .inr ⟨js, rfl, by omega, fun k hk => ⟨(hj k hk).1, Nat.le_trans (hj k hk).2 (by omega)⟩, fun H16 c16 hF => ?_⟩
                have llx := ll.feed c16 hF (recvs_inv (N := n) js (m1', ks1') inv fun k hk => (hj k hk).2).1
                wtm_at "go"
                refine ⟨T1, j, _, _, _, _, L, n, rfl, llx.tabs, llx.co'.fol1, llx.co'.tbl, llx.co'.inv1.1, by omega, fun H17 e17 => ?_⟩
                have llz := llx.ex e17
                obtain ⟨a1, a2⟩ := llz.done
                wtm_at "go"
                exact ⟨_, _, _, _, _, _, _, _, _, _, _, _, _, _, _, _, _, _, _, _, _, _, _, _, _, _, _, _,  llz.unlock.up, rfl⟩
            · wtm_at "go"
              refine ifd (fun h => absurd h (by omega)) (fun _ => ?_)
              wtm_at "go"
              exact ⟨_, _, _, _, _, _, _, _, _, _, _, _, _, _, _, _, _, _, _, _, _, _, _, _, _, _, _, _,  lpG.up, rfl⟩
            -- C>
          · -- D<
            wtm_at "go"
            refine ifd (fun h8 => ?_) (fun h88 => ?_)
            · wtm_at "go"
              refine ⟨lpG.co'.scr, fun c2 _ => ?_⟩
              wtm_at "go"
              refine gI (by decide) ?_
              wtm_at "go"
              refine ifd (fun hev => ?_) (fun hod => ?_)
              · skip
                have hxG : ∀ o, upd GX Rq o Tx = some (txO tx) := fun o => by rw [upd_ne (Ne.symm lpG.ne)]; exact lpG.hx
                refine ⟨Rq, _, lpG.hq, trivial, fun o1 => ?_⟩
                refine ⟨Tx, _, hxG _, trivial, fun o2 => ?_⟩
                have ll := lpG.lock o1 o2
                have hdL : Lk GX Rq Tx rq tx o1 o2 dl = _ := (lk_ne ndR ndT).trans hdG
                obtain ⟨dx2, as2, rr2, hp2, hvl2, hfo, -⟩ := id ll.co'.prm
                dsimp only
                generalize hHL : upd (upd GX Rq _) Tx _ = HL
                rw [show Lk GX Rq Tx rq tx o1 o2 = HL from hHL] at ll hdL hp2
                clear hvl2
                wtm_at "go"
                refine ⟨_, _, p, vl1, fo, n, rfl, ll.co'.prm, ?_⟩
                wtm_at "go"
                refine ⟨_, _, p, vl1, fo, n, rfl, ll.co'.prm, ?_⟩
                wtm_at "go"
                refine ⟨_, _, p, vl1, fo, n, rfl, ll.co'.prm, ?_⟩
                wtm_at "go"
                refine gI (by omega) ?_
                obtain ⟨m, hm, hm1, hm2⟩ : ∃ m : Nat, ((fo : Nat) : Int) + d3 % (((n : Nat) : Int) - ((fo : Nat) : Int) + 1) = ((m : Nat) : Int) ∧ fo ≤ m ∧ m ≤ n := by
                  have z1 := Int.emod_nonneg d3 (show ((n : Nat) : Int) - ((fo : Nat) : Int) + 1 ≠ 0 by omega)
                  have z2 := Int.emod_lt_of_pos d3 (show (0 : Int) < ((n : Nat) : Int) - ((fo : Nat) : Int) + 1 by omega)
                  generalize d3 % (((n : Nat) : Int) - ((fo : Nat) : Int) + 1) = z at z1 z2
                  exact ⟨(((fo : Nat) : Int) + z).toNat, by omega, by omega, by omega⟩
                wtm_at "go"
                rw [hm]
                refine ⟨_, _, p, vl1, fo, n, m, rfl, ll.co'.prm, hm1, hm2, fun vl' H16 c16 hP16 => ?_⟩
                have llz := ll.cmp c16 hP16
                obtain ⟨a1, a2⟩ := llz.done
                wtm_at "go"
                exact ⟨_, _, _, _, _, _, _, _, _, _, _, _, _, _, _, _, _, _, _, _, _, _, _, _, _, _, _, _,  llz.unlock.up, rfl⟩
              · wtm_at "go"
                exact ⟨_, _, _, _, _, _, _, _, _, _, _, _, _, _, _, _, _, _, _, _, _, _, _, _, _, _, _, _,  lpG.up, rfl⟩
            · wtm_at "go"
              exact ⟨_, _, _, _, _, _, _, _, _, _, _, _, _, _, _, _, _, _, _, _, _, _, _, _, _, _, _, _,  lpG.up, rfl⟩
            -- D>
  · -- E<
    rintro σ H0 ⟨T1, R1, f', g', vl1, fo, n, r1, ld1, m1, ks1, r2, ld2, m2, ks2, rq, tx, x6, x7, x8, x9, x10, x11, x12, x13, x14, x15, x16, lp, rfl⟩
    have co1 := lp.co'
    have tb1 := lp.tabs
    have hFl1 := co1.fl
    have hn30 := co1.hn
    clear lp
    wtm_at "go"
    refine for_it (walk_list (xs := [.ref f, .ref g])) (fun i σ H' => ∃ f' g' r1 ld1 m1 ks1 r2 ld2 m2 ks2 x9 x16, Tabs K H' ∧ Co K T1 R1 H' s p L Fl f g f' g' vl1 fo n r1 ld1 m1 ks1 r2 ld2 m2 ks2 ∧
      σ = [some (.ref s), some (.ref p), some (.ref L), some (.ref Fl), some (.ref Rq), some (.ref Tx), x6, x7, x8, x9, x10, x11, x12, x13, x14, x15, x16]) ?_ ?_ ?_ ?_
    · exact ⟨_, _, _, _, _, _, _, _, _, _, _, _, tb1, co1, rfl⟩
    · rintro i σ H' _ ⟨_, _, _, _, _, _, _, _, _, _, _, _, _, co, rfl⟩
      exact sqL_ co.fl
    · rintro i v σ H1 H2 hi ⟨f1, g1, r1, ld1, m1, ks1, r2, ld2, m2, ks2, y9, y16, tb2, co2, rfl⟩ ⟨rfl, hv⟩
      obtain ⟨j, hj, rfl⟩ : ∃ j, (j = f ∨ j = g) ∧ v = .ref j := by
        have hi : i < 2 := hi
        have : i = 0 ∨ i = 1 := by omega
        rcases this with rfl | rfl
        · cases hv
          exact ⟨f, .inl rfl, rfl⟩
        · cases hv
          exact ⟨g, .inr rfl, rfl⟩
      obtain ⟨g2, r1, ld1, m1, ks1, r2, ld2, m2, ks2, co2⟩ := co2.pick hj
      wtm_at "go"
      refine for_it walk_range (fun i σ H' => ∃ r1 ld1 m1 ks1 x16, Tabs K H' ∧ Co K T1 R1 H' s p L Fl f g j g2 vl1 fo n r1 ld1 m1 ks1 r2 ld2 m2 ks2 ∧ (missL n (m1, ks1)).length ≤ 30 - 10 * i ∧
        σ = [some (.ref s), some (.ref p), some (.ref L), some (.ref Fl), some (.ref Rq), some (.ref Tx), x6, x7, x8, some (.ref j), x10, x11, x12, x13, x14, x15, x16]) ?_ ?_ ?_ ?_
      · exact ⟨_, _, _, _, _, tb2, co2, Nat.le_trans (missL_len _) hn30, rfl⟩
      · exact fun _ _ _ _ _ => trivial
      · rintro i v σ H3 H4 hi ⟨r1, ld1, m1, ks1, x16, tb3, co3, hml, rfl⟩ ⟨rfl, rfl⟩
        obtain ⟨dx1, hj1, -⟩ := id co3.fol1
        have inv := co3.inv1
        have hlen := inv.len
        wtm_at "go"
        refine ⟨T1, j, r1, ld1, m1, ks1, rfl, tb3, co3.fol1, Nat.le_trans inv.1 (by omega), by omega, fun k hk => Nat.le_trans (inv.2.1 k hk).2 (by omega), inv.2.2, fun ms H16 e16 hp hs => ?_⟩
        obtain ⟨⟨y1, y2, y3⟩, hreq⟩ := inv.req hn30 hp hs
        have co4 := co3.ex e16
        have tb4 := tabs_ (S := []) tb3 e16
        wtm_at "go"
        refine ⟨T1, R1, p, vl1, fo, n, m1, ms, rfl, tb4, co4.prm, by omega, y1, fun k hk => Nat.le_trans (y2 k hk) (by omega), hs, y3, fun hlt H17 e17 => ?_, fun hge H17 e17 => ?_⟩
        · have co5 := co4.ex e17
          have tb5 := tabs_ (S := []) tb4 e17
          have hle := co5.prm.le
          wtm_at "go"
          refine ⟨T1, j, r1, ld1, m1, ks1, _, rfl, tb5, co5.fol1, by omega, fun k hk => Nat.le_trans (inv.2.1 k hk).2 (by omega), .inl ⟨n, rfl, by omega, fun z H18 e18 => absurd z (by omega), fun _ ms2 r' ld' H18 hp2 hs2 hr2 hl2 c18 hF => ?_⟩⟩
          rw [recvs_done ms2 n fun k hk => (inv.2.1 k (hp2.mem_iff.mp hk)).2] at hF
          have co6 := co5.snap c18 hr2 hl2 hF (FInv.nil (Nat.le_refl _))
          wtm_at "go"
          exact ⟨_, _, _, _, _, tabs_ tb5 c18, co6, by rw [missL_nil]; exact Nat.zero_le _, rfl⟩
        · have co5 := co4.ex e17
          have tb5 := tabs_ (S := []) tb4 e17
          obtain ⟨i2, hl2⟩ := miss_feed inv hp
          wtm_at "go"
          refine ⟨T1, j, r1, ld1, m1, ks1, _, rfl, tb5, co5.fol1, by omega, fun k hk => Nat.le_trans (inv.2.1 k hk).2 (by omega), .inr ⟨due m1 n ms, rfl, Nat.le_trans (due_len _ _ _) (by decide), fun k hk => ?_, fun H18 c18 _ hF => ?_⟩⟩
          · have := due_mem hk
            omega
          · have co6 := co5.feed c18 hF i2
            wtm_at "go"
            refine ⟨_, _, _, _, _, tabs_ tb5 c18, co6, ?_, rfl⟩
            rw [Prod.eta, hl2]
            omega
      · rintro σ H3 ⟨r1, ld1, m1, ks1, x16, tb3, co3, hml, rfl⟩
        have hml : (missL n (m1, ks1)).length ≤ 30 - 10 * 5 := hml
        obtain rfl := missL_full co3.inv1 (List.eq_nil_of_length_eq_zero (by omega))
        obtain ⟨dx1, hj1, -⟩ := id co3.fol1
        obtain ⟨dxp, asp, rp, hp3, -⟩ := id co3.prm
        wtm_at "go"
        refine ⟨T1, j, r1, ld1, _, ks1, rfl, co3.fol1, ?_⟩
        wtm_at "go"
        refine ⟨_, _, p, vl1, fo, _, rfl, co3.prm, ?_⟩
        wtm_at "go"
        rw [decide_eq_true (rfl : ((m1 : Nat) : Int) = ((m1 : Nat) : Int))]
        wtm_at "go"
        refine ⟨T1, j, r1, ld1, _, ks1, L, _, rfl, tb3, co3.fol1, co3.tbl, Nat.le_refl _, by omega, fun H17 e17 => ?_⟩
        wtm_at "go"
        exact ⟨_, _, _, _, _, _, _, _, _, _, _, _, tabs_ (S := []) tb3 e17, co3.ex e17, rfl⟩
    · rintro σ H1 ⟨f1, g1, r1, ld1, m1, ks1, r2, ld2, m2, ks2, y9, y16, tb2, co2, rfl⟩
      wtm_at "go"
      exact kk _
    -- E>

end
end Z
set_option Elab.async false
set_option linter.all false
set_option maxRecDepth 100000
set_option maxHeartbeats 0
namespace Z
open PySem PySem.Spec PyProof.Rows L2
/-! ### the law at the head's end -/
theorem law_fd {K : PySem.W.Frag} (c : He.SaysD fa fn K) : FunD K "law" "law" (defArgs s_law) (defBody s_law) (defScope s_law) [] [] (a_law K) (fd_law K) := by
  obtain ⟨fd, F⟩ := c.def_ 100 (d := d_law) rfl
  have e : fd_law K = fd := by
    obtain ⟨_, _, _, _, _, _, _, _, _, _, _, q, _⟩ := F.ex
    show fdA K ("law", none) = fd
    unfold fdA
    rw [show K.lookup (He.fAd K ("law", none)) = _ from q]
  rw [e]
  exact F
theorem law_at {w : World} {K : PySem.W.Frag} {h : Heap} {mg : Str → Option Value} {f : Addr} (X : K.In h) (G : h.Ns mainGlobals mg) (hf : mg ("law" : Str) = some (.ref f)) (c : He.SaysX fa fn [] tf exB w h K) :
    LamX.LawAtS PySem.Challenge.rw_authsync_k60_whole_followers w K CX0 15 63 "_law_script" mg f h := by
  have cd := c.t.d
  have e := hf.symm.trans (He.glo_ok X G (cd.facts (f := .glo "law") (List.mem_of_getElem? (i := 53) rfl)))
  injection e with e
  injection e with e
  have F := law_fd cd
  have b := FunD.bindsA (ps := ["_law_script"]) F fun _ _ _ _ _ _ us hl => match us, hl with | [_], _ => rfl
  refine ⟨fd_law K, tf.map (He.cT K), sp_law K, ?_, ?_, ?_, fun s v => b s [v] rfl, ?_, ?_⟩
  · intro p hp
    obtain ⟨q, hq, rfl⟩ := List.mem_map.mp hp
    exact c.empty q hq
  · intro p hp
    obtain ⟨q, hq, rfl⟩ := List.mem_map.mp hp
    exact c.out q hq
  · intro p hp
    obtain ⟨q, hq, rfl⟩ := List.mem_map.mp hp
    exact PySem.W.codeHd_of_K X (c.hd q hq)
  · intro H a ns _ hb ht hS
    refine ⟨a, rfl, fun q hq => ⟨#[], ht _ (List.mem_map_of_mem hq), ?_⟩, ⟨ns, hS, fun z hz => ?_⟩, fun _ => rfl⟩
    · simp [TriplesOk]
    · have := hb z hz
      unfold Builtin.Int.intBits at this
      split at this
      · rename_i z0
        rw [eq_of_beq z0]
        decide
      · omega
  · intro base KB GB tb
    rw [e]
    exact ok_law (P := (PySem.Challenge.rw_authsync_k60_whole_followers).prog) ⟨cd, fun x hx => He.glo_ok KB GB (cd.facts hx), fun x hx => He.free_ok KB GB (cd.facts hx), fun x i hx => He.int_ok KB GB (cd.facts hx), c.more, fun q hq => tb _ (List.mem_map_of_mem hq)⟩
end Z
set_option Elab.async false
set_option linter.all false
set_option maxRecDepth 100000
set_option maxHeartbeats 0
open PySem PySem.W PySem.Calls PyProof.Rows
theorem PySem.Challenge.cw_authsync_k60_whole_followers_holds : PySem.Challenge.rw_authsync_k60_whole_followers.Holds := by
  w_on; o_law
  refine HandSHeadRun.head_any (r := Z.RR) (q := Z.qv) (H := Z.hk) (ob := Z.ob) (M := 40000) (loose := Z.names) (d := Z.dv) (kwd := []) Z.ob_eq
    Z.h_open Z.h_fence Z.run Z.h_def Z.h_par Z.h_kw Z.h_wr Z.h_said Z.h_ok Z.h_bare Z.h_wit ?hc
  case hc =>
    refine LamX.walk_ofTsE (l := PySem.Challenge.rw_authsync_k60_whole_followers) (n := 63) (k := 15) (x := "_law_script") (CX := fun _ => L2.CX0) rfl (by decide) (by kernel_rfl) ⟨rfl, by decide, by decide⟩ ?F (fun _ _ _ _ _ z => z)
    intro w mg fa h Y G hmg0
    obtain ⟨K, KX, c⟩ := Y
    have hmg : mg ("law" : PySem.Str) = some (.ref fa) := by
      have e : (HandSHeadRun.topDef (OpenLaw.row PySem.Challenge.rw_authsync_k60_whole_followers).prog 89).name = ("law" : PySem.Str) := by kernel_rfl
      rw [← e]
      exact hmg0
    exact ⟨K, KX, Z.law_at KX G hmg c⟩
