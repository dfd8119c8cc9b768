import PyProof.Rows.All
import Wide.All
import OpenK.AllK
import Wide.FinOn
import KE.KStateDown
import HandS.ForMost
import HandS.More
import HandS.Exc
import HandS.Codes
import HandS.Defaults
import HandS.Head0
import HandS.Head1
import HandS.Head2
import HandS.HeadEnd
import HandS.HeadHook1
import HandS.HeadHook2
import HandS.HeadHook3
import HandS.HeadHook4
import HandS.IsInst
import HandS.TupAny
import HandS.Zip
import HandS.Style
import HandS.Walk
import KE.GoesEnum
import HandS.Wide
import HandS.DictComp
import HandS.NoneIn
import HandS.OwnEq
import HandS.Sort
import KE.DatumOrd
import PyProof.InstEq
import HandS.Small
import HandS.WordsList
import PySem.Challenge.RW_harmonicdues_k06_whole_policies_turned_a
set_option Elab.async false
set_option linter.all false
set_option maxRecDepth 100000
set_option maxHeartbeats 4000000
/-! The head: the texts by places, the facts by names. Printed by gen_head.py. -/
namespace K6
open PySem PySem.Spec PyProof.Rows L2
def top (i : Nat) : Stmt := PySem.Challenge.pw_harmonicdues_k06_whole_policies_turned_a.main.body.getD i (.Pass ⟨0, 0, 0, 0⟩)
abbrev s_is_integer : Stmt := top 1
abbrev s_is_within : Stmt := top 2
abbrev s_is_lot : Stmt := top 3
abbrev s_check_people : Stmt := top 17
abbrev s_is_name : Stmt := top 32
abbrev s_is_leaf : Stmt := top 33
abbrev s_parts_in : Stmt := top 34
abbrev s_is_expression : Stmt := top 35
abbrev s_has_own_parts : Stmt := top 36
abbrev s_first_bad : Stmt := top 37
abbrev s_statements_in : Stmt := top 38
abbrev s_Policy_init : Stmt := inClass (top 39) 0
abbrev s_Policy_eq : Stmt := inClass (top 39) 1
abbrev s_whole : Stmt := top 43
abbrev s_reckoned : Stmt := top 44
abbrev s_Run_init : Stmt := inClass (top 45) 0
abbrev s_Run_value : Stmt := inClass (top 45) 1
abbrev s_Run_do : Stmt := inClass (top 45) 2
abbrev s_others : Stmt := top 46
abbrev s_check_policy : Stmt := top 47
abbrev s_are_numbers : Stmt := top 48
abbrev s_next_taker : Stmt := top 49
abbrev s_parted : Stmt := top 50
abbrev s_Teller_init : Stmt := inClass (top 51) 0
abbrev s_Teller_run_for : Stmt := inClass (top 51) 1
abbrev s_Teller_shares : Stmt := inClass (top 51) 2
abbrev s_Teller_turned : Stmt := inClass (top 51) 3
abbrev s_Teller_kept : Stmt := inClass (top 51) 4
abbrev s_Teller_owned : Stmt := inClass (top 51) 5
abbrev s_Teller_copy : Stmt := inClass (top 51) 6
abbrev s__law_hand : Stmt := top 53
abbrev s__law_draw : Stmt := top 54
abbrev s__law_any : Stmt := top 55
abbrev s__law_name : Stmt := top 56
abbrev s__law_lone : Stmt := top 57
abbrev s__law_expression : Stmt := top 58
abbrev s__law_parts : Stmt := top 59
abbrev s__law_small : Stmt := top 60
abbrev s__law_statement : Stmt := top 61
abbrev s__law_block : Stmt := top 62
abbrev s__law_count : Stmt := top 63
abbrev s__law_policy : Stmt := top 64
abbrev s__law_value : Stmt := top 65
abbrev s__law_led : Stmt := top 66
abbrev s__law_run : Stmt := top 67
abbrev s__law_tops : Stmt := top 68
abbrev s__law_state : Stmt := top 69
abbrev s__law_here : Stmt := top 70
abbrev s__law_numbers : Stmt := top 71
abbrev s__law_kept : Stmt := top 72
abbrev s__law_copied : Stmt := top 73
abbrev s__law_beats : Stmt := top 74
abbrev s_law : Stmt := top 75
def d_is_integer : He.DefD := ⟨("is_integer", none), "is_integer", "is_integer", defArgs s_is_integer, defBody s_is_integer, defScope s_is_integer, [], []⟩
def d_is_within : He.DefD := ⟨("is_within", none), "is_within", "is_within", defArgs s_is_within, defBody s_is_within, defScope s_is_within, [], []⟩
def d_is_lot : He.DefD := ⟨("is_lot", none), "is_lot", "is_lot", defArgs s_is_lot, defBody s_is_lot, defScope s_is_lot, [], []⟩
def d_check_people : He.DefD := ⟨("check_people", none), "check_people", "check_people", defArgs s_check_people, defBody s_check_people, defScope s_check_people, [], []⟩
def d_is_name : He.DefD := ⟨("is_name", none), "is_name", "is_name", defArgs s_is_name, defBody s_is_name, defScope s_is_name, [], []⟩
def d_is_leaf : He.DefD := ⟨("is_leaf", none), "is_leaf", "is_leaf", defArgs s_is_leaf, defBody s_is_leaf, defScope s_is_leaf, [], []⟩
def d_parts_in : He.DefD := ⟨("parts_in", none), "parts_in", "parts_in", defArgs s_parts_in, defBody s_parts_in, defScope s_parts_in, [], []⟩
def d_is_expression : He.DefD := ⟨("is_expression", none), "is_expression", "is_expression", defArgs s_is_expression, defBody s_is_expression, defScope s_is_expression, [], []⟩
def d_has_own_parts : He.DefD := ⟨("has_own_parts", none), "has_own_parts", "has_own_parts", defArgs s_has_own_parts, defBody s_has_own_parts, defScope s_has_own_parts, [], []⟩
def d_first_bad : He.DefD := ⟨("first_bad", none), "first_bad", "first_bad", defArgs s_first_bad, defBody s_first_bad, defScope s_first_bad, [], []⟩
def d_statements_in : He.DefD := ⟨("statements_in", none), "statements_in", "statements_in", defArgs s_statements_in, defBody s_statements_in, defScope s_statements_in, [], []⟩
def d_Policy_init : He.DefD := ⟨("Policy", some "__init__"), "__init__", "Policy.__init__", defArgs s_Policy_init, defBody s_Policy_init, defScope s_Policy_init, [], []⟩
def d_Policy_eq : He.DefD := ⟨("Policy", some "__eq__"), "__eq__", "Policy.__eq__", defArgs s_Policy_eq, defBody s_Policy_eq, defScope s_Policy_eq, [], []⟩
def d_whole : He.DefD := ⟨("whole", none), "whole", "whole", defArgs s_whole, defBody s_whole, defScope s_whole, [], []⟩
def d_reckoned : He.DefD := ⟨("reckoned", none), "reckoned", "reckoned", defArgs s_reckoned, defBody s_reckoned, defScope s_reckoned, [], []⟩
def d_Run_init : He.DefD := ⟨("Run", some "__init__"), "__init__", "Run.__init__", defArgs s_Run_init, defBody s_Run_init, defScope s_Run_init, [], []⟩
def d_Run_value : He.DefD := ⟨("Run", some "value"), "value", "Run.value", defArgs s_Run_value, defBody s_Run_value, defScope s_Run_value, [], []⟩
def d_Run_do : He.DefD := ⟨("Run", some "do"), "do", "Run.do", defArgs s_Run_do, defBody s_Run_do, defScope s_Run_do, [], []⟩
def d_others : He.DefD := ⟨("others", none), "others", "others", defArgs s_others, defBody s_others, defScope s_others, [], []⟩
def d_check_policy : He.DefD := ⟨("check_policy", none), "check_policy", "check_policy", defArgs s_check_policy, defBody s_check_policy, defScope s_check_policy, [], []⟩
def d_are_numbers : He.DefD := ⟨("are_numbers", none), "are_numbers", "are_numbers", defArgs s_are_numbers, defBody s_are_numbers, defScope s_are_numbers, [], []⟩
def d_next_taker : He.DefD := ⟨("next_taker", none), "next_taker", "next_taker", defArgs s_next_taker, defBody s_next_taker, defScope s_next_taker, [], []⟩
def d_parted : He.DefD := ⟨("parted", none), "parted", "parted", defArgs s_parted, defBody s_parted, defScope s_parted, [], []⟩
def d_Teller_init : He.DefD := ⟨("Teller", some "__init__"), "__init__", "Teller.__init__", defArgs s_Teller_init, defBody s_Teller_init, defScope s_Teller_init, [], []⟩
def d_Teller_run_for : He.DefD := ⟨("Teller", some "run_for"), "run_for", "Teller.run_for", defArgs s_Teller_run_for, defBody s_Teller_run_for, defScope s_Teller_run_for, [], []⟩
def d_Teller_shares : He.DefD := ⟨("Teller", some "shares"), "shares", "Teller.shares", defArgs s_Teller_shares, defBody s_Teller_shares, defScope s_Teller_shares, [], []⟩
def d_Teller_turned : He.DefD := ⟨("Teller", some "turned"), "turned", "Teller.turned", defArgs s_Teller_turned, defBody s_Teller_turned, defScope s_Teller_turned, [], []⟩
def d_Teller_kept : He.DefD := ⟨("Teller", some "kept"), "kept", "Teller.kept", defArgs s_Teller_kept, defBody s_Teller_kept, defScope s_Teller_kept, [], []⟩
def d_Teller_owned : He.DefD := ⟨("Teller", some "owned"), "owned", "Teller.owned", defArgs s_Teller_owned, defBody s_Teller_owned, defScope s_Teller_owned, [], []⟩
def d_Teller_copy : He.DefD := ⟨("Teller", some "copy"), "copy", "Teller.copy", defArgs s_Teller_copy, defBody s_Teller_copy, defScope s_Teller_copy, [], []⟩
def d__law_hand : He.DefD := ⟨("_law_hand", none), "_law_hand", "_law_hand", defArgs s__law_hand, defBody s__law_hand, defScope s__law_hand, [], []⟩
def d__law_draw : He.DefD := ⟨("_law_draw", none), "_law_draw", "_law_draw", defArgs s__law_draw, defBody s__law_draw, defScope s__law_draw, [], []⟩
def d__law_any : He.DefD := ⟨("_law_any", none), "_law_any", "_law_any", defArgs s__law_any, defBody s__law_any, defScope s__law_any, [], []⟩
def d__law_name : He.DefD := ⟨("_law_name", none), "_law_name", "_law_name", defArgs s__law_name, defBody s__law_name, defScope s__law_name, [], []⟩
def d__law_lone : He.DefD := ⟨("_law_lone", none), "_law_lone", "_law_lone", defArgs s__law_lone, defBody s__law_lone, defScope s__law_lone, [], []⟩
def d__law_expression : He.DefD := ⟨("_law_expression", none), "_law_expression", "_law_expression", defArgs s__law_expression, defBody s__law_expression, defScope s__law_expression, [], []⟩
def d__law_parts : He.DefD := ⟨("_law_parts", none), "_law_parts", "_law_parts", defArgs s__law_parts, defBody s__law_parts, defScope s__law_parts, [], []⟩
def d__law_small : He.DefD := ⟨("_law_small", none), "_law_small", "_law_small", defArgs s__law_small, defBody s__law_small, defScope s__law_small, [], []⟩
def d__law_statement : He.DefD := ⟨("_law_statement", none), "_law_statement", "_law_statement", defArgs s__law_statement, defBody s__law_statement, defScope s__law_statement, [], []⟩
def d__law_block : He.DefD := ⟨("_law_block", none), "_law_block", "_law_block", defArgs s__law_block, defBody s__law_block, defScope s__law_block, [], []⟩
def d__law_count : He.DefD := ⟨("_law_count", none), "_law_count", "_law_count", defArgs s__law_count, defBody s__law_count, defScope s__law_count, [], []⟩
def d__law_policy : He.DefD := ⟨("_law_policy", none), "_law_policy", "_law_policy", defArgs s__law_policy, defBody s__law_policy, defScope s__law_policy, [], []⟩
def d__law_value : He.DefD := ⟨("_law_value", none), "_law_value", "_law_value", defArgs s__law_value, defBody s__law_value, defScope s__law_value, [], []⟩
def d__law_led : He.DefD := ⟨("_law_led", none), "_law_led", "_law_led", defArgs s__law_led, defBody s__law_led, defScope s__law_led, [], []⟩
def d__law_run : He.DefD := ⟨("_law_run", none), "_law_run", "_law_run", defArgs s__law_run, defBody s__law_run, defScope s__law_run, [], []⟩
def d__law_tops : He.DefD := ⟨("_law_tops", none), "_law_tops", "_law_tops", defArgs s__law_tops, defBody s__law_tops, defScope s__law_tops, [], []⟩
def d__law_state : He.DefD := ⟨("_law_state", none), "_law_state", "_law_state", defArgs s__law_state, defBody s__law_state, defScope s__law_state, [], []⟩
def d__law_here : He.DefD := ⟨("_law_here", none), "_law_here", "_law_here", defArgs s__law_here, defBody s__law_here, defScope s__law_here, [], []⟩
def d__law_numbers : He.DefD := ⟨("_law_numbers", none), "_law_numbers", "_law_numbers", defArgs s__law_numbers, defBody s__law_numbers, defScope s__law_numbers, [], []⟩
def d__law_kept : He.DefD := ⟨("_law_kept", none), "_law_kept", "_law_kept", defArgs s__law_kept, defBody s__law_kept, defScope s__law_kept, [], []⟩
def d__law_copied : He.DefD := ⟨("_law_copied", none), "_law_copied", "_law_copied", defArgs s__law_copied, defBody s__law_copied, defScope s__law_copied, [], []⟩
def d__law_beats : He.DefD := ⟨("_law_beats", none), "_law_beats", "_law_beats", defArgs s__law_beats, defBody s__law_beats, defScope s__law_beats, [], []⟩
def d_law : He.DefD := ⟨("law", none), "law", "law", defArgs s_law, defBody s_law, defScope s_law, [], []⟩
def fn : List He.DefD := [d_is_integer, d_is_within, d_is_lot, d_check_people, d_is_name, d_is_leaf, d_parts_in, d_is_expression, d_has_own_parts, d_first_bad, d_statements_in, d_Policy_init, d_Policy_eq, d_whole, d_reckoned, d_Run_init, d_Run_value, d_Run_do, d_others, d_check_policy, d_are_numbers, d_next_taker, d_parted, d_Teller_init, d_Teller_run_for, d_Teller_shares, d_Teller_turned, d_Teller_kept, d_Teller_owned, d_Teller_copy, d__law_hand, d__law_draw, d__law_any, d__law_name, d__law_lone, d__law_expression, d__law_parts, d__law_small, d__law_statement, d__law_block, d__law_count, d__law_policy, d__law_value, d__law_led, d__law_run, d__law_tops, d__law_state, d__law_here, d__law_numbers, d__law_kept, d__law_copied, d__law_beats, d_law]
def fa : List He.Fa := [.glo "is_integer", .glo "is_within", .glo "is_lot", .glo "check_people", .glo "is_name", .glo "is_leaf", .glo "parts_in", .glo "is_expression", .glo "has_own_parts", .glo "first_bad", .glo "statements_in", .glo "whole", .glo "reckoned", .glo "others", .glo "check_policy", .glo "are_numbers", .glo "next_taker", .glo "parted", .glo "_law_hand", .glo "_law_draw", .glo "_law_any", .glo "_law_name", .glo "_law_lone", .glo "_law_expression", .glo "_law_parts", .glo "_law_small", .glo "_law_statement", .glo "_law_block", .glo "_law_count", .glo "_law_policy", .glo "_law_value", .glo "_law_led", .glo "_law_run", .glo "_law_tops", .glo "_law_state", .glo "_law_here", .glo "_law_numbers", .glo "_law_kept", .glo "_law_copied", .glo "_law_beats", .glo "law", .glo "Policy", .glo "Run", .glo "Teller", .glo "STATED", .glo "SAID", .glo "FACTS", .glo "SIGNS", .glo "HOLDERS", .glo "GIVERS", .glo "WRONG", .free "isinstance", .free "int", .free "bool", .free "tuple", .free "str", .free "len", .free "all", .free "min", .free "max", .free "abs", .free "sum", .free "dict", .free "enumerate", .free "range", .free "zip", .int "MOST_PEOPLE" 12, .int "MOST_BOTTOM" 360, .int "MOST_NUMBER" 1000000000000000000, .int "MOST_NAME" 8, .int "MOST_DEEP" 6, .int "MOST_PARTS" 30, .int "MOST_BLOCKS" 4, .int "MOST_STATEMENTS" 60, .int "MOST_NEED" 1000000000, .str "LETTERS" "abcdefghijklmnopqrstuvwxyz", .cls "Policy", .mkr "Policy", .noat "Policy" "bottom", .noat "Policy" "block", .cls "Run", .mkr "Run", .noat "Run" "facts", .noat "Run" "numbers", .noat "Run" "told", .noat "Run" "is_right", .cls "Teller", .mkr "Teller", .noat "Teller" "kept_n", .noat "Teller" "kept_policy", .noat "Teller" "kept_beat", .noat "Teller" "kept_keep", .noat "Teller" "kept_own", .meth "Policy" "__eq__", .meth "Run" "value", .meth "Run" "do", .meth "Teller" "run_for", .meth "Teller" "shares", .meth "Teller" "turned", .meth "Teller" "kept", .meth "Teller" "owned", .meth "Teller" "copy"]
/-- what else the top tells: its tuples, what isinstance asks of Policy, two classes apart -/
def e_tup_STATED (K : PySem.W.Frag) : Bool := He.tupB K "STATED" [.str "let", .str "keep", .str "own", .str "if", .str "else", .str "do", .str "end", .str "weight", .str "cap", .str "all", .str "bottom"]
def e_tup_SAID (K : PySem.W.Frag) : Bool := He.tupB K "SAID" [.str "min", .str "max", .str "mod", .str "and", .str "or", .str "not"]
def e_tup_FACTS (K : PySem.W.Frag) : Bool := He.tupB K "FACTS" [.str "beat", .str "person", .str "need", .str "things", .str "people"]
def e_tup_SIGNS (K : PySem.W.Frag) : Bool := He.tupB K "SIGNS" [.str "+", .str "-", .str "*", .str "/", .str "mod", .str "min", .str "max", .str "<", .str "=", .str "and", .str "or"]
def e_tup_HOLDERS (K : PySem.W.Frag) : Bool := He.tupB K "HOLDERS" [.str "let", .str "keep", .str "own"]
def e_tup_GIVERS (K : PySem.W.Frag) : Bool := He.tupB K "GIVERS" [.str "weight", .str "cap"]
def e_tup_WRONG (K : PySem.W.Frag) : Bool := He.tupB K "WRONG" [.bl false, .int 0]
def e_is1 (K : PySem.W.Frag) : Bool := He.eqO (PySem.W.findIn K (.ref (He.ga K "Policy")) "__class__") (some (some (.builtin "object.__class__")))
def e_is2 (K : PySem.W.Frag) : Bool := He.eqO (PySem.W.specialIn K (.builtin "object.__class__") "__get__") (some (some (.builtin "getset_descriptor.__get__")))
def e_is3 (K : PySem.W.Frag) : Bool := decide (PySem.W.takesIn K (.builtin "object.__class__") = some true)
def e_is4 (K : PySem.W.Frag) : Bool := decide (PySem.W.mroIn K (He.ga K "Policy") (.type "object") = some true)
def e_is5 (K : PySem.W.Frag) : Bool := decide (PySem.W.kitOne K (.ref (He.ga K "Policy")) (.ref (He.ga K "Policy")) = some true)
def e_ne_PT (K : PySem.W.Frag) : Bool := decide (He.ga K "Policy" ≠ He.ga K "Teller")
def e_ne_PR (K : PySem.W.Frag) : Bool := decide (He.ga K "Policy" ≠ He.ga K "Run")
def e_eq1 (K : PySem.W.Frag) : Bool := He.eqO (PySem.W.findIn K (.ref (He.ga K "Teller")) "__eq__") (some (some (.builtin "object.__eq__")))
def e_ne1 (K : PySem.W.Frag) : Bool := He.eqO (PySem.W.findIn K (.ref (He.ga K "Teller")) "__ne__") (some (some (.builtin "object.__ne__")))
def exL : List (PySem.W.Frag → Bool) := [e_tup_STATED, e_tup_SAID, e_tup_FACTS, e_tup_SIGNS, e_tup_HOLDERS, e_tup_GIVERS, e_tup_WRONG, e_is1, e_is2, e_is3, e_is4, e_is5, e_ne_PT, e_ne_PR, e_eq1, e_ne1]
def ex (K : PySem.W.Frag) : Bool := exL.all fun e => e K
/-- what the walk leans on: K the written part, mg the module's names -/
structure Txt (K : PySem.W.Frag) (mg : Str → Option Value) : Prop where
  base : ∃ h : Heap, K.In h ∧ h.Ns mainGlobals mg
  sd : He.SaysD fa fn K
  ex : ex K = true
def fdOf (K : PySem.W.Frag) (f : Addr) : FuncData := match K.lookup f with
  | some ⟨_, _, .func fd, _⟩ => fd
  | _ => PySem.W.fnOf "" "" (defArgs (top 0)) [] (defScope (top 0)) .none .none .none .none none .none .none
section
variable {K : PySem.W.Frag} {mg : Str → Option Value}
theorem Txt.glo (T : Txt K mg) (i : Nat) {x : Str} (h : fa[i]? = some (.glo x)) : mg x = some (.ref (He.ga K x)) := by
  obtain ⟨_, X, G⟩ := T.base
  exact He.glo_ok X G (T.sd.fact i h)
theorem Txt.free (T : Txt K mg) (i : Nat) {x : Str} (h : fa[i]? = some (.free x)) : mg x = none := by
  obtain ⟨_, X, G⟩ := T.base
  exact He.free_ok X G (T.sd.fact i h)
theorem Txt.int (T : Txt K mg) (i : Nat) {x : Str} {z : Int} (h : fa[i]? = some (.int x z)) : ∃ u, mg x = some u ∧ RelV (.int z) u := by
  obtain ⟨_, X, G⟩ := T.base
  obtain ⟨t, e⟩ := He.int_ok X G (T.sd.fact i h)
  exact ⟨_, e, t, rfl⟩
theorem Txt.str (T : Txt K mg) (i : Nat) {x z : Str} (h : fa[i]? = some (.str x z)) : ∃ u, mg x = some u ∧ RelV (.str z) u := by
  obtain ⟨_, X, G⟩ := T.base
  obtain ⟨t, e⟩ := He.str_ok X G (T.sd.fact i h)
  exact ⟨_, e, t, rfl⟩
theorem Txt.def_ (T : Txt K mg) (i : Nat) {d : He.DefD} (h : fn[i]? = some d) : FunD K d.name d.qual d.params d.body d.scope (d.dvs K) (d.kws K) (He.fAd K d.at_) (fdOf K (He.fAd K d.at_)) := by
  obtain ⟨fd, F⟩ := T.sd.def_ i h
  obtain ⟨oc, od, dV, kV, doc, pm, an, cdv, ct, osl, e, lk, r⟩ := F.ex
  have q : fdOf K (He.fAd K d.at_) = fd := by
    unfold fdOf
    rw [lk]
  rw [q]
  exact F
theorem Txt.more (T : Txt K mg) (i : Nat) {e : PySem.W.Frag → Bool} (h : exL[i]? = some e) : e K = true :=
  List.all_eq_true.mp (show (exL.all fun e => e K) = true from T.ex) e (List.mem_of_getElem? h)
theorem Txt.g_is_integer (T : Txt K mg) : mg "is_integer" = some (.ref (He.ga K "is_integer")) := T.glo 0 rfl
theorem Txt.g_is_within (T : Txt K mg) : mg "is_within" = some (.ref (He.ga K "is_within")) := T.glo 1 rfl
theorem Txt.g_is_lot (T : Txt K mg) : mg "is_lot" = some (.ref (He.ga K "is_lot")) := T.glo 2 rfl
theorem Txt.g_check_people (T : Txt K mg) : mg "check_people" = some (.ref (He.ga K "check_people")) := T.glo 3 rfl
theorem Txt.g_is_name (T : Txt K mg) : mg "is_name" = some (.ref (He.ga K "is_name")) := T.glo 4 rfl
theorem Txt.g_is_leaf (T : Txt K mg) : mg "is_leaf" = some (.ref (He.ga K "is_leaf")) := T.glo 5 rfl
theorem Txt.g_parts_in (T : Txt K mg) : mg "parts_in" = some (.ref (He.ga K "parts_in")) := T.glo 6 rfl
theorem Txt.g_is_expression (T : Txt K mg) : mg "is_expression" = some (.ref (He.ga K "is_expression")) := T.glo 7 rfl
theorem Txt.g_has_own_parts (T : Txt K mg) : mg "has_own_parts" = some (.ref (He.ga K "has_own_parts")) := T.glo 8 rfl
theorem Txt.g_first_bad (T : Txt K mg) : mg "first_bad" = some (.ref (He.ga K "first_bad")) := T.glo 9 rfl
theorem Txt.g_statements_in (T : Txt K mg) : mg "statements_in" = some (.ref (He.ga K "statements_in")) := T.glo 10 rfl
theorem Txt.g_whole (T : Txt K mg) : mg "whole" = some (.ref (He.ga K "whole")) := T.glo 11 rfl
theorem Txt.g_reckoned (T : Txt K mg) : mg "reckoned" = some (.ref (He.ga K "reckoned")) := T.glo 12 rfl
theorem Txt.g_others (T : Txt K mg) : mg "others" = some (.ref (He.ga K "others")) := T.glo 13 rfl
theorem Txt.g_check_policy (T : Txt K mg) : mg "check_policy" = some (.ref (He.ga K "check_policy")) := T.glo 14 rfl
theorem Txt.g_are_numbers (T : Txt K mg) : mg "are_numbers" = some (.ref (He.ga K "are_numbers")) := T.glo 15 rfl
theorem Txt.g_next_taker (T : Txt K mg) : mg "next_taker" = some (.ref (He.ga K "next_taker")) := T.glo 16 rfl
theorem Txt.g_parted (T : Txt K mg) : mg "parted" = some (.ref (He.ga K "parted")) := T.glo 17 rfl
theorem Txt.g__law_hand (T : Txt K mg) : mg "_law_hand" = some (.ref (He.ga K "_law_hand")) := T.glo 18 rfl
theorem Txt.g__law_draw (T : Txt K mg) : mg "_law_draw" = some (.ref (He.ga K "_law_draw")) := T.glo 19 rfl
theorem Txt.g__law_any (T : Txt K mg) : mg "_law_any" = some (.ref (He.ga K "_law_any")) := T.glo 20 rfl
theorem Txt.g__law_name (T : Txt K mg) : mg "_law_name" = some (.ref (He.ga K "_law_name")) := T.glo 21 rfl
theorem Txt.g__law_lone (T : Txt K mg) : mg "_law_lone" = some (.ref (He.ga K "_law_lone")) := T.glo 22 rfl
theorem Txt.g__law_expression (T : Txt K mg) : mg "_law_expression" = some (.ref (He.ga K "_law_expression")) := T.glo 23 rfl
theorem Txt.g__law_parts (T : Txt K mg) : mg "_law_parts" = some (.ref (He.ga K "_law_parts")) := T.glo 24 rfl
theorem Txt.g__law_small (T : Txt K mg) : mg "_law_small" = some (.ref (He.ga K "_law_small")) := T.glo 25 rfl
theorem Txt.g__law_statement (T : Txt K mg) : mg "_law_statement" = some (.ref (He.ga K "_law_statement")) := T.glo 26 rfl
theorem Txt.g__law_block (T : Txt K mg) : mg "_law_block" = some (.ref (He.ga K "_law_block")) := T.glo 27 rfl
theorem Txt.g__law_count (T : Txt K mg) : mg "_law_count" = some (.ref (He.ga K "_law_count")) := T.glo 28 rfl
theorem Txt.g__law_policy (T : Txt K mg) : mg "_law_policy" = some (.ref (He.ga K "_law_policy")) := T.glo 29 rfl
theorem Txt.g__law_value (T : Txt K mg) : mg "_law_value" = some (.ref (He.ga K "_law_value")) := T.glo 30 rfl
theorem Txt.g__law_led (T : Txt K mg) : mg "_law_led" = some (.ref (He.ga K "_law_led")) := T.glo 31 rfl
theorem Txt.g__law_run (T : Txt K mg) : mg "_law_run" = some (.ref (He.ga K "_law_run")) := T.glo 32 rfl
theorem Txt.g__law_tops (T : Txt K mg) : mg "_law_tops" = some (.ref (He.ga K "_law_tops")) := T.glo 33 rfl
theorem Txt.g__law_state (T : Txt K mg) : mg "_law_state" = some (.ref (He.ga K "_law_state")) := T.glo 34 rfl
theorem Txt.g__law_here (T : Txt K mg) : mg "_law_here" = some (.ref (He.ga K "_law_here")) := T.glo 35 rfl
theorem Txt.g__law_numbers (T : Txt K mg) : mg "_law_numbers" = some (.ref (He.ga K "_law_numbers")) := T.glo 36 rfl
theorem Txt.g__law_kept (T : Txt K mg) : mg "_law_kept" = some (.ref (He.ga K "_law_kept")) := T.glo 37 rfl
theorem Txt.g__law_copied (T : Txt K mg) : mg "_law_copied" = some (.ref (He.ga K "_law_copied")) := T.glo 38 rfl
theorem Txt.g__law_beats (T : Txt K mg) : mg "_law_beats" = some (.ref (He.ga K "_law_beats")) := T.glo 39 rfl
theorem Txt.g_law (T : Txt K mg) : mg "law" = some (.ref (He.ga K "law")) := T.glo 40 rfl
theorem Txt.g_Policy (T : Txt K mg) : mg "Policy" = some (.ref (He.ga K "Policy")) := T.glo 41 rfl
theorem Txt.g_Run (T : Txt K mg) : mg "Run" = some (.ref (He.ga K "Run")) := T.glo 42 rfl
theorem Txt.g_Teller (T : Txt K mg) : mg "Teller" = some (.ref (He.ga K "Teller")) := T.glo 43 rfl
theorem Txt.g_STATED (T : Txt K mg) : mg "STATED" = some (.ref (He.ga K "STATED")) := T.glo 44 rfl
theorem Txt.g_SAID (T : Txt K mg) : mg "SAID" = some (.ref (He.ga K "SAID")) := T.glo 45 rfl
theorem Txt.g_FACTS (T : Txt K mg) : mg "FACTS" = some (.ref (He.ga K "FACTS")) := T.glo 46 rfl
theorem Txt.g_SIGNS (T : Txt K mg) : mg "SIGNS" = some (.ref (He.ga K "SIGNS")) := T.glo 47 rfl
theorem Txt.g_HOLDERS (T : Txt K mg) : mg "HOLDERS" = some (.ref (He.ga K "HOLDERS")) := T.glo 48 rfl
theorem Txt.g_GIVERS (T : Txt K mg) : mg "GIVERS" = some (.ref (He.ga K "GIVERS")) := T.glo 49 rfl
theorem Txt.g_WRONG (T : Txt K mg) : mg "WRONG" = some (.ref (He.ga K "WRONG")) := T.glo 50 rfl
theorem Txt.z_isinstance (T : Txt K mg) : mg "isinstance" = none := T.free 51 rfl
theorem Txt.z_int (T : Txt K mg) : mg "int" = none := T.free 52 rfl
theorem Txt.z_bool (T : Txt K mg) : mg "bool" = none := T.free 53 rfl
theorem Txt.z_tuple (T : Txt K mg) : mg "tuple" = none := T.free 54 rfl
theorem Txt.z_str (T : Txt K mg) : mg "str" = none := T.free 55 rfl
theorem Txt.z_len (T : Txt K mg) : mg "len" = none := T.free 56 rfl
theorem Txt.z_all (T : Txt K mg) : mg "all" = none := T.free 57 rfl
theorem Txt.z_min (T : Txt K mg) : mg "min" = none := T.free 58 rfl
theorem Txt.z_max (T : Txt K mg) : mg "max" = none := T.free 59 rfl
theorem Txt.z_abs (T : Txt K mg) : mg "abs" = none := T.free 60 rfl
theorem Txt.z_sum (T : Txt K mg) : mg "sum" = none := T.free 61 rfl
theorem Txt.z_dict (T : Txt K mg) : mg "dict" = none := T.free 62 rfl
theorem Txt.z_enumerate (T : Txt K mg) : mg "enumerate" = none := T.free 63 rfl
theorem Txt.z_range (T : Txt K mg) : mg "range" = none := T.free 64 rfl
theorem Txt.z_zip (T : Txt K mg) : mg "zip" = none := T.free 65 rfl
theorem Txt.i_MOST_PEOPLE (T : Txt K mg) : ∃ u, mg "MOST_PEOPLE" = some u ∧ RelV (.int 12) u := T.int 66 rfl
theorem Txt.i_MOST_BOTTOM (T : Txt K mg) : ∃ u, mg "MOST_BOTTOM" = some u ∧ RelV (.int 360) u := T.int 67 rfl
theorem Txt.i_MOST_NUMBER (T : Txt K mg) : ∃ u, mg "MOST_NUMBER" = some u ∧ RelV (.int 1000000000000000000) u := T.int 68 rfl
theorem Txt.i_MOST_NAME (T : Txt K mg) : ∃ u, mg "MOST_NAME" = some u ∧ RelV (.int 8) u := T.int 69 rfl
theorem Txt.i_MOST_DEEP (T : Txt K mg) : ∃ u, mg "MOST_DEEP" = some u ∧ RelV (.int 6) u := T.int 70 rfl
theorem Txt.i_MOST_PARTS (T : Txt K mg) : ∃ u, mg "MOST_PARTS" = some u ∧ RelV (.int 30) u := T.int 71 rfl
theorem Txt.i_MOST_BLOCKS (T : Txt K mg) : ∃ u, mg "MOST_BLOCKS" = some u ∧ RelV (.int 4) u := T.int 72 rfl
theorem Txt.i_MOST_STATEMENTS (T : Txt K mg) : ∃ u, mg "MOST_STATEMENTS" = some u ∧ RelV (.int 60) u := T.int 73 rfl
theorem Txt.i_MOST_NEED (T : Txt K mg) : ∃ u, mg "MOST_NEED" = some u ∧ RelV (.int 1000000000) u := T.int 74 rfl
theorem Txt.t_LETTERS (T : Txt K mg) : ∃ u, mg "LETTERS" = some u ∧ RelV (.str "abcdefghijklmnopqrstuvwxyz") u := T.str 75 rfl
theorem Txt.c_Policy (T : Txt K mg) : Cls K (He.ga K "Policy") := He.cls_ok (T.sd.fact 76 rfl)
theorem Txt.k_Policy (T : Txt K mg) : Mk K (He.ga K "Policy") (He.ma K (He.ga K "Policy") "__init__") := He.mkr_ok (T.sd.fact 77 rfl)
theorem Txt.n_Policy_bottom (T : Txt K mg) : NoAttr K (He.ga K "Policy") "bottom" := He.noat_ok (T.sd.fact 78 rfl)
theorem Txt.n_Policy_block (T : Txt K mg) : NoAttr K (He.ga K "Policy") "block" := He.noat_ok (T.sd.fact 79 rfl)
theorem Txt.c_Run (T : Txt K mg) : Cls K (He.ga K "Run") := He.cls_ok (T.sd.fact 80 rfl)
theorem Txt.k_Run (T : Txt K mg) : Mk K (He.ga K "Run") (He.ma K (He.ga K "Run") "__init__") := He.mkr_ok (T.sd.fact 81 rfl)
theorem Txt.n_Run_facts (T : Txt K mg) : NoAttr K (He.ga K "Run") "facts" := He.noat_ok (T.sd.fact 82 rfl)
theorem Txt.n_Run_numbers (T : Txt K mg) : NoAttr K (He.ga K "Run") "numbers" := He.noat_ok (T.sd.fact 83 rfl)
theorem Txt.n_Run_told (T : Txt K mg) : NoAttr K (He.ga K "Run") "told" := He.noat_ok (T.sd.fact 84 rfl)
theorem Txt.n_Run_is_right (T : Txt K mg) : NoAttr K (He.ga K "Run") "is_right" := He.noat_ok (T.sd.fact 85 rfl)
theorem Txt.c_Teller (T : Txt K mg) : Cls K (He.ga K "Teller") := He.cls_ok (T.sd.fact 86 rfl)
theorem Txt.k_Teller (T : Txt K mg) : Mk K (He.ga K "Teller") (He.ma K (He.ga K "Teller") "__init__") := He.mkr_ok (T.sd.fact 87 rfl)
theorem Txt.n_Teller_kept_n (T : Txt K mg) : NoAttr K (He.ga K "Teller") "kept_n" := He.noat_ok (T.sd.fact 88 rfl)
theorem Txt.n_Teller_kept_policy (T : Txt K mg) : NoAttr K (He.ga K "Teller") "kept_policy" := He.noat_ok (T.sd.fact 89 rfl)
theorem Txt.n_Teller_kept_beat (T : Txt K mg) : NoAttr K (He.ga K "Teller") "kept_beat" := He.noat_ok (T.sd.fact 90 rfl)
theorem Txt.n_Teller_kept_keep (T : Txt K mg) : NoAttr K (He.ga K "Teller") "kept_keep" := He.noat_ok (T.sd.fact 91 rfl)
theorem Txt.n_Teller_kept_own (T : Txt K mg) : NoAttr K (He.ga K "Teller") "kept_own" := He.noat_ok (T.sd.fact 92 rfl)
theorem Txt.m_Policy_eq (T : Txt K mg) : Meth K (He.ga K "Policy") "__eq__" (He.ma K (He.ga K "Policy") "__eq__") := He.meth_ok (T.sd.fact 93 rfl)
theorem Txt.m_Run_value (T : Txt K mg) : Meth K (He.ga K "Run") "value" (He.ma K (He.ga K "Run") "value") := He.meth_ok (T.sd.fact 94 rfl)
theorem Txt.m_Run_do (T : Txt K mg) : Meth K (He.ga K "Run") "do" (He.ma K (He.ga K "Run") "do") := He.meth_ok (T.sd.fact 95 rfl)
theorem Txt.m_Teller_run_for (T : Txt K mg) : Meth K (He.ga K "Teller") "run_for" (He.ma K (He.ga K "Teller") "run_for") := He.meth_ok (T.sd.fact 96 rfl)
theorem Txt.m_Teller_shares (T : Txt K mg) : Meth K (He.ga K "Teller") "shares" (He.ma K (He.ga K "Teller") "shares") := He.meth_ok (T.sd.fact 97 rfl)
theorem Txt.m_Teller_turned (T : Txt K mg) : Meth K (He.ga K "Teller") "turned" (He.ma K (He.ga K "Teller") "turned") := He.meth_ok (T.sd.fact 98 rfl)
theorem Txt.m_Teller_kept (T : Txt K mg) : Meth K (He.ga K "Teller") "kept" (He.ma K (He.ga K "Teller") "kept") := He.meth_ok (T.sd.fact 99 rfl)
theorem Txt.m_Teller_owned (T : Txt K mg) : Meth K (He.ga K "Teller") "owned" (He.ma K (He.ga K "Teller") "owned") := He.meth_ok (T.sd.fact 100 rfl)
theorem Txt.m_Teller_copy (T : Txt K mg) : Meth K (He.ga K "Teller") "copy" (He.ma K (He.ga K "Teller") "copy") := He.meth_ok (T.sd.fact 101 rfl)
theorem Txt.tup_STATED (T : Txt K mg) : e_tup_STATED K = true := T.more 0 rfl
theorem Txt.tup_SAID (T : Txt K mg) : e_tup_SAID K = true := T.more 1 rfl
theorem Txt.tup_FACTS (T : Txt K mg) : e_tup_FACTS K = true := T.more 2 rfl
theorem Txt.tup_SIGNS (T : Txt K mg) : e_tup_SIGNS K = true := T.more 3 rfl
theorem Txt.tup_HOLDERS (T : Txt K mg) : e_tup_HOLDERS K = true := T.more 4 rfl
theorem Txt.tup_GIVERS (T : Txt K mg) : e_tup_GIVERS K = true := T.more 5 rfl
theorem Txt.tup_WRONG (T : Txt K mg) : e_tup_WRONG K = true := T.more 6 rfl
theorem Txt.is1 (T : Txt K mg) : e_is1 K = true := T.more 7 rfl
theorem Txt.is2 (T : Txt K mg) : e_is2 K = true := T.more 8 rfl
theorem Txt.is3 (T : Txt K mg) : e_is3 K = true := T.more 9 rfl
theorem Txt.is4 (T : Txt K mg) : e_is4 K = true := T.more 10 rfl
theorem Txt.is5 (T : Txt K mg) : e_is5 K = true := T.more 11 rfl
theorem Txt.ne_PT (T : Txt K mg) : e_ne_PT K = true := T.more 12 rfl
theorem Txt.ne_PR (T : Txt K mg) : e_ne_PR K = true := T.more 13 rfl
theorem Txt.eq1 (T : Txt K mg) : e_eq1 K = true := T.more 14 rfl
theorem Txt.ne1 (T : Txt K mg) : e_ne1 K = true := T.more 15 rfl
abbrev a_is_integer (K : PySem.W.Frag) : Addr := He.ga K "is_integer"
theorem Txt.F_is_integer (T : Txt K mg) : FunD K "is_integer" "is_integer" (defArgs s_is_integer) (defBody s_is_integer) (defScope s_is_integer) [] [] (a_is_integer K) (fdOf K (a_is_integer K)) := T.def_ 0 (d := d_is_integer) rfl
theorem Txt.b_is_integer (T : Txt K mg) : Binds K (fdOf K (a_is_integer K)) ["thing"] [] := T.F_is_integer.bindsN fun _ _ _ _ _ _ us hl => match us, hl with | [_], _ => rfl
abbrev a_is_within (K : PySem.W.Frag) : Addr := He.ga K "is_within"
theorem Txt.F_is_within (T : Txt K mg) : FunD K "is_within" "is_within" (defArgs s_is_within) (defBody s_is_within) (defScope s_is_within) [] [] (a_is_within K) (fdOf K (a_is_within K)) := T.def_ 1 (d := d_is_within) rfl
theorem Txt.b_is_within (T : Txt K mg) : Binds K (fdOf K (a_is_within K)) ["thing", "low", "high"] [] := T.F_is_within.bindsN fun _ _ _ _ _ _ us hl => match us, hl with | [_, _, _], _ => rfl
abbrev a_is_lot (K : PySem.W.Frag) : Addr := He.ga K "is_lot"
theorem Txt.F_is_lot (T : Txt K mg) : FunD K "is_lot" "is_lot" (defArgs s_is_lot) (defBody s_is_lot) (defScope s_is_lot) [] [] (a_is_lot K) (fdOf K (a_is_lot K)) := T.def_ 2 (d := d_is_lot) rfl
theorem Txt.b_is_lot (T : Txt K mg) : Binds K (fdOf K (a_is_lot K)) ["thing", "many"] [] := T.F_is_lot.bindsN fun _ _ _ _ _ _ us hl => match us, hl with | [_, _], _ => rfl
abbrev a_check_people (K : PySem.W.Frag) : Addr := He.ga K "check_people"
theorem Txt.F_check_people (T : Txt K mg) : FunD K "check_people" "check_people" (defArgs s_check_people) (defBody s_check_people) (defScope s_check_people) [] [] (a_check_people K) (fdOf K (a_check_people K)) := T.def_ 3 (d := d_check_people) rfl
theorem Txt.b_check_people (T : Txt K mg) : Binds K (fdOf K (a_check_people K)) ["n"] [] := T.F_check_people.bindsN fun _ _ _ _ _ _ us hl => match us, hl with | [_], _ => rfl
abbrev a_is_name (K : PySem.W.Frag) : Addr := He.ga K "is_name"
theorem Txt.F_is_name (T : Txt K mg) : FunD K "is_name" "is_name" (defArgs s_is_name) (defBody s_is_name) (defScope s_is_name) [] [] (a_is_name K) (fdOf K (a_is_name K)) := T.def_ 4 (d := d_is_name) rfl
theorem Txt.b_is_name (T : Txt K mg) : Binds K (fdOf K (a_is_name K)) ["thing"] [] := T.F_is_name.bindsN fun _ _ _ _ _ _ us hl => match us, hl with | [_], _ => rfl
abbrev a_is_leaf (K : PySem.W.Frag) : Addr := He.ga K "is_leaf"
theorem Txt.F_is_leaf (T : Txt K mg) : FunD K "is_leaf" "is_leaf" (defArgs s_is_leaf) (defBody s_is_leaf) (defScope s_is_leaf) [] [] (a_is_leaf K) (fdOf K (a_is_leaf K)) := T.def_ 5 (d := d_is_leaf) rfl
theorem Txt.b_is_leaf (T : Txt K mg) : Binds K (fdOf K (a_is_leaf K)) ["thing"] [] := T.F_is_leaf.bindsN fun _ _ _ _ _ _ us hl => match us, hl with | [_], _ => rfl
abbrev a_parts_in (K : PySem.W.Frag) : Addr := He.ga K "parts_in"
theorem Txt.F_parts_in (T : Txt K mg) : FunD K "parts_in" "parts_in" (defArgs s_parts_in) (defBody s_parts_in) (defScope s_parts_in) [] [] (a_parts_in K) (fdOf K (a_parts_in K)) := T.def_ 6 (d := d_parts_in) rfl
theorem Txt.b_parts_in (T : Txt K mg) : Binds K (fdOf K (a_parts_in K)) ["thing", "deep"] [] := T.F_parts_in.bindsN fun _ _ _ _ _ _ us hl => match us, hl with | [_, _], _ => rfl
abbrev a_is_expression (K : PySem.W.Frag) : Addr := He.ga K "is_expression"
theorem Txt.F_is_expression (T : Txt K mg) : FunD K "is_expression" "is_expression" (defArgs s_is_expression) (defBody s_is_expression) (defScope s_is_expression) [] [] (a_is_expression K) (fdOf K (a_is_expression K)) := T.def_ 7 (d := d_is_expression) rfl
theorem Txt.b_is_expression (T : Txt K mg) : Binds K (fdOf K (a_is_expression K)) ["thing"] [] := T.F_is_expression.bindsN fun _ _ _ _ _ _ us hl => match us, hl with | [_], _ => rfl
abbrev a_has_own_parts (K : PySem.W.Frag) : Addr := He.ga K "has_own_parts"
theorem Txt.F_has_own_parts (T : Txt K mg) : FunD K "has_own_parts" "has_own_parts" (defArgs s_has_own_parts) (defBody s_has_own_parts) (defScope s_has_own_parts) [] [] (a_has_own_parts K) (fdOf K (a_has_own_parts K)) := T.def_ 8 (d := d_has_own_parts) rfl
theorem Txt.b_has_own_parts (T : Txt K mg) : Binds K (fdOf K (a_has_own_parts K)) ["thing"] [] := T.F_has_own_parts.bindsN fun _ _ _ _ _ _ us hl => match us, hl with | [_], _ => rfl
abbrev a_first_bad (K : PySem.W.Frag) : Addr := He.ga K "first_bad"
theorem Txt.F_first_bad (T : Txt K mg) : FunD K "first_bad" "first_bad" (defArgs s_first_bad) (defBody s_first_bad) (defScope s_first_bad) [] [] (a_first_bad K) (fdOf K (a_first_bad K)) := T.def_ 9 (d := d_first_bad) rfl
theorem Txt.b_first_bad (T : Txt K mg) : Binds K (fdOf K (a_first_bad K)) ["block", "deep"] [] := T.F_first_bad.bindsN fun _ _ _ _ _ _ us hl => match us, hl with | [_, _], _ => rfl
abbrev a_statements_in (K : PySem.W.Frag) : Addr := He.ga K "statements_in"
theorem Txt.F_statements_in (T : Txt K mg) : FunD K "statements_in" "statements_in" (defArgs s_statements_in) (defBody s_statements_in) (defScope s_statements_in) [] [] (a_statements_in K) (fdOf K (a_statements_in K)) := T.def_ 10 (d := d_statements_in) rfl
theorem Txt.b_statements_in (T : Txt K mg) : Binds K (fdOf K (a_statements_in K)) ["block"] [] := T.F_statements_in.bindsN fun _ _ _ _ _ _ us hl => match us, hl with | [_], _ => rfl
abbrev a_Policy_init (K : PySem.W.Frag) : Addr := He.ma K (He.ga K "Policy") "__init__"
theorem Txt.F_Policy_init (T : Txt K mg) : FunD K "__init__" "Policy.__init__" (defArgs s_Policy_init) (defBody s_Policy_init) (defScope s_Policy_init) [] [] (a_Policy_init K) (fdOf K (a_Policy_init K)) := T.def_ 11 (d := d_Policy_init) rfl
theorem Txt.b_Policy_init (T : Txt K mg) : Binds K (fdOf K (a_Policy_init K)) ["self", "bottom", "block"] [] := T.F_Policy_init.bindsN fun _ _ _ _ _ _ us hl => match us, hl with | [_, _, _], _ => rfl
abbrev a_Policy_eq (K : PySem.W.Frag) : Addr := He.ma K (He.ga K "Policy") "__eq__"
theorem Txt.F_Policy_eq (T : Txt K mg) : FunD K "__eq__" "Policy.__eq__" (defArgs s_Policy_eq) (defBody s_Policy_eq) (defScope s_Policy_eq) [] [] (a_Policy_eq K) (fdOf K (a_Policy_eq K)) := T.def_ 12 (d := d_Policy_eq) rfl
theorem Txt.b_Policy_eq (T : Txt K mg) : Binds K (fdOf K (a_Policy_eq K)) ["self", "other"] [] := T.F_Policy_eq.bindsN fun _ _ _ _ _ _ us hl => match us, hl with | [_, _], _ => rfl
abbrev a_whole (K : PySem.W.Frag) : Addr := He.ga K "whole"
theorem Txt.F_whole (T : Txt K mg) : FunD K "whole" "whole" (defArgs s_whole) (defBody s_whole) (defScope s_whole) [] [] (a_whole K) (fdOf K (a_whole K)) := T.def_ 13 (d := d_whole) rfl
theorem Txt.b_whole (T : Txt K mg) : Binds K (fdOf K (a_whole K)) ["number"] [] := T.F_whole.bindsN fun _ _ _ _ _ _ us hl => match us, hl with | [_], _ => rfl
abbrev a_reckoned (K : PySem.W.Frag) : Addr := He.ga K "reckoned"
theorem Txt.F_reckoned (T : Txt K mg) : FunD K "reckoned" "reckoned" (defArgs s_reckoned) (defBody s_reckoned) (defScope s_reckoned) [] [] (a_reckoned K) (fdOf K (a_reckoned K)) := T.def_ 14 (d := d_reckoned) rfl
theorem Txt.b_reckoned (T : Txt K mg) : Binds K (fdOf K (a_reckoned K)) ["sign", "one", "other"] [] := T.F_reckoned.bindsN fun _ _ _ _ _ _ us hl => match us, hl with | [_, _, _], _ => rfl
abbrev a_Run_init (K : PySem.W.Frag) : Addr := He.ma K (He.ga K "Run") "__init__"
theorem Txt.F_Run_init (T : Txt K mg) : FunD K "__init__" "Run.__init__" (defArgs s_Run_init) (defBody s_Run_init) (defScope s_Run_init) [] [] (a_Run_init K) (fdOf K (a_Run_init K)) := T.def_ 15 (d := d_Run_init) rfl
theorem Txt.b_Run_init (T : Txt K mg) : Binds K (fdOf K (a_Run_init K)) ["self", "facts", "keep", "own", "bottom"] [] := T.F_Run_init.bindsN fun _ _ _ _ _ _ us hl => match us, hl with | [_, _, _, _, _], _ => rfl
abbrev a_Run_value (K : PySem.W.Frag) : Addr := He.ma K (He.ga K "Run") "value"
theorem Txt.F_Run_value (T : Txt K mg) : FunD K "value" "Run.value" (defArgs s_Run_value) (defBody s_Run_value) (defScope s_Run_value) [] [] (a_Run_value K) (fdOf K (a_Run_value K)) := T.def_ 16 (d := d_Run_value) rfl
theorem Txt.b_Run_value (T : Txt K mg) : Binds K (fdOf K (a_Run_value K)) ["self", "thing"] [] := T.F_Run_value.bindsN fun _ _ _ _ _ _ us hl => match us, hl with | [_, _], _ => rfl
abbrev a_Run_do (K : PySem.W.Frag) : Addr := He.ma K (He.ga K "Run") "do"
theorem Txt.F_Run_do (T : Txt K mg) : FunD K "do" "Run.do" (defArgs s_Run_do) (defBody s_Run_do) (defScope s_Run_do) [] [] (a_Run_do K) (fdOf K (a_Run_do K)) := T.def_ 17 (d := d_Run_do) rfl
theorem Txt.b_Run_do (T : Txt K mg) : Binds K (fdOf K (a_Run_do K)) ["self", "block"] [] := T.F_Run_do.bindsN fun _ _ _ _ _ _ us hl => match us, hl with | [_, _], _ => rfl
abbrev a_others (K : PySem.W.Frag) : Addr := He.ga K "others"
theorem Txt.F_others (T : Txt K mg) : FunD K "others" "others" (defArgs s_others) (defBody s_others) (defScope s_others) [] [] (a_others K) (fdOf K (a_others K)) := T.def_ 18 (d := d_others) rfl
theorem Txt.b_others (T : Txt K mg) : Binds K (fdOf K (a_others K)) ["numbers"] [] := T.F_others.bindsN fun _ _ _ _ _ _ us hl => match us, hl with | [_], _ => rfl
abbrev a_check_policy (K : PySem.W.Frag) : Addr := He.ga K "check_policy"
theorem Txt.F_check_policy (T : Txt K mg) : FunD K "check_policy" "check_policy" (defArgs s_check_policy) (defBody s_check_policy) (defScope s_check_policy) [] [] (a_check_policy K) (fdOf K (a_check_policy K)) := T.def_ 19 (d := d_check_policy) rfl
theorem Txt.b_check_policy (T : Txt K mg) : Binds K (fdOf K (a_check_policy K)) ["thing"] [] := T.F_check_policy.bindsN fun _ _ _ _ _ _ us hl => match us, hl with | [_], _ => rfl
abbrev a_are_numbers (K : PySem.W.Frag) : Addr := He.ga K "are_numbers"
theorem Txt.F_are_numbers (T : Txt K mg) : FunD K "are_numbers" "are_numbers" (defArgs s_are_numbers) (defBody s_are_numbers) (defScope s_are_numbers) [] [] (a_are_numbers K) (fdOf K (a_are_numbers K)) := T.def_ 20 (d := d_are_numbers) rfl
theorem Txt.b_are_numbers (T : Txt K mg) : Binds K (fdOf K (a_are_numbers K)) ["n", "thing"] [] := T.F_are_numbers.bindsN fun _ _ _ _ _ _ us hl => match us, hl with | [_, _], _ => rfl
abbrev a_next_taker (K : PySem.W.Frag) : Addr := He.ga K "next_taker"
theorem Txt.F_next_taker (T : Txt K mg) : FunD K "next_taker" "next_taker" (defArgs s_next_taker) (defBody s_next_taker) (defScope s_next_taker) [] [] (a_next_taker K) (fdOf K (a_next_taker K)) := T.def_ 21 (d := d_next_taker) rfl
theorem Txt.b_next_taker (T : Txt K mg) : Binds K (fdOf K (a_next_taker K)) ["here", "weights", "caps", "parts"] [] := T.F_next_taker.bindsN fun _ _ _ _ _ _ us hl => match us, hl with | [_, _, _, _], _ => rfl
abbrev a_parted (K : PySem.W.Frag) : Addr := He.ga K "parted"
theorem Txt.F_parted (T : Txt K mg) : FunD K "parted" "parted" (defArgs s_parted) (defBody s_parted) (defScope s_parted) [] [] (a_parted K) (fdOf K (a_parted K)) := T.def_ 22 (d := d_parted) rfl
theorem Txt.b_parted (T : Txt K mg) : Binds K (fdOf K (a_parted K)) ["n", "bottom", "here", "weights", "caps"] [] := T.F_parted.bindsN fun _ _ _ _ _ _ us hl => match us, hl with | [_, _, _, _, _], _ => rfl
abbrev a_Teller_init (K : PySem.W.Frag) : Addr := He.ma K (He.ga K "Teller") "__init__"
theorem Txt.F_Teller_init (T : Txt K mg) : FunD K "__init__" "Teller.__init__" (defArgs s_Teller_init) (defBody s_Teller_init) (defScope s_Teller_init) [] [] (a_Teller_init K) (fdOf K (a_Teller_init K)) := T.def_ 23 (d := d_Teller_init) rfl
theorem Txt.b_Teller_init (T : Txt K mg) : Binds K (fdOf K (a_Teller_init K)) ["self", "n", "policy"] [] := T.F_Teller_init.bindsN fun _ _ _ _ _ _ us hl => match us, hl with | [_, _, _], _ => rfl
abbrev a_Teller_run_for (K : PySem.W.Frag) : Addr := He.ma K (He.ga K "Teller") "run_for"
theorem Txt.F_Teller_run_for (T : Txt K mg) : FunD K "run_for" "Teller.run_for" (defArgs s_Teller_run_for) (defBody s_Teller_run_for) (defScope s_Teller_run_for) [] [] (a_Teller_run_for K) (fdOf K (a_Teller_run_for K)) := T.def_ 24 (d := d_Teller_run_for) rfl
theorem Txt.b_Teller_run_for (T : Txt K mg) : Binds K (fdOf K (a_Teller_run_for K)) ["self", "person", "facts"] [] := T.F_Teller_run_for.bindsN fun _ _ _ _ _ _ us hl => match us, hl with | [_, _, _], _ => rfl
abbrev a_Teller_shares (K : PySem.W.Frag) : Addr := He.ma K (He.ga K "Teller") "shares"
theorem Txt.F_Teller_shares (T : Txt K mg) : FunD K "shares" "Teller.shares" (defArgs s_Teller_shares) (defBody s_Teller_shares) (defScope s_Teller_shares) [] [] (a_Teller_shares K) (fdOf K (a_Teller_shares K)) := T.def_ 25 (d := d_Teller_shares) rfl
theorem Txt.b_Teller_shares (T : Txt K mg) : Binds K (fdOf K (a_Teller_shares K)) ["self", "needs", "here", "things"] [] := T.F_Teller_shares.bindsN fun _ _ _ _ _ _ us hl => match us, hl with | [_, _, _, _], _ => rfl
abbrev a_Teller_turned (K : PySem.W.Frag) : Addr := He.ma K (He.ga K "Teller") "turned"
theorem Txt.F_Teller_turned (T : Txt K mg) : FunD K "turned" "Teller.turned" (defArgs s_Teller_turned) (defBody s_Teller_turned) (defScope s_Teller_turned) [] [] (a_Teller_turned K) (fdOf K (a_Teller_turned K)) := T.def_ 26 (d := d_Teller_turned) rfl
theorem Txt.b_Teller_turned (T : Txt K mg) : Binds K (fdOf K (a_Teller_turned K)) ["self", "policy"] [] := T.F_Teller_turned.bindsN fun _ _ _ _ _ _ us hl => match us, hl with | [_, _], _ => rfl
abbrev a_Teller_kept (K : PySem.W.Frag) : Addr := He.ma K (He.ga K "Teller") "kept"
theorem Txt.F_Teller_kept (T : Txt K mg) : FunD K "kept" "Teller.kept" (defArgs s_Teller_kept) (defBody s_Teller_kept) (defScope s_Teller_kept) [] [] (a_Teller_kept K) (fdOf K (a_Teller_kept K)) := T.def_ 27 (d := d_Teller_kept) rfl
theorem Txt.b_Teller_kept (T : Txt K mg) : Binds K (fdOf K (a_Teller_kept K)) ["self"] [] := T.F_Teller_kept.bindsN fun _ _ _ _ _ _ us hl => match us, hl with | [_], _ => rfl
abbrev a_Teller_owned (K : PySem.W.Frag) : Addr := He.ma K (He.ga K "Teller") "owned"
theorem Txt.F_Teller_owned (T : Txt K mg) : FunD K "owned" "Teller.owned" (defArgs s_Teller_owned) (defBody s_Teller_owned) (defScope s_Teller_owned) [] [] (a_Teller_owned K) (fdOf K (a_Teller_owned K)) := T.def_ 28 (d := d_Teller_owned) rfl
theorem Txt.b_Teller_owned (T : Txt K mg) : Binds K (fdOf K (a_Teller_owned K)) ["self", "person"] [] := T.F_Teller_owned.bindsN fun _ _ _ _ _ _ us hl => match us, hl with | [_, _], _ => rfl
abbrev a_Teller_copy (K : PySem.W.Frag) : Addr := He.ma K (He.ga K "Teller") "copy"
theorem Txt.F_Teller_copy (T : Txt K mg) : FunD K "copy" "Teller.copy" (defArgs s_Teller_copy) (defBody s_Teller_copy) (defScope s_Teller_copy) [] [] (a_Teller_copy K) (fdOf K (a_Teller_copy K)) := T.def_ 29 (d := d_Teller_copy) rfl
theorem Txt.b_Teller_copy (T : Txt K mg) : Binds K (fdOf K (a_Teller_copy K)) ["self"] [] := T.F_Teller_copy.bindsN fun _ _ _ _ _ _ us hl => match us, hl with | [_], _ => rfl
abbrev a__law_hand (K : PySem.W.Frag) : Addr := He.ga K "_law_hand"
theorem Txt.F__law_hand (T : Txt K mg) : FunD K "_law_hand" "_law_hand" (defArgs s__law_hand) (defBody s__law_hand) (defScope s__law_hand) [] [] (a__law_hand K) (fdOf K (a__law_hand K)) := T.def_ 30 (d := d__law_hand) rfl
theorem Txt.b__law_hand (T : Txt K mg) : Binds K (fdOf K (a__law_hand K)) ["_law_script"] [] := T.F__law_hand.bindsN fun _ _ _ _ _ _ us hl => match us, hl with | [_], _ => rfl
abbrev a__law_draw (K : PySem.W.Frag) : Addr := He.ga K "_law_draw"
theorem Txt.F__law_draw (T : Txt K mg) : FunD K "_law_draw" "_law_draw" (defArgs s__law_draw) (defBody s__law_draw) (defScope s__law_draw) [] [] (a__law_draw K) (fdOf K (a__law_draw K)) := T.def_ 31 (d := d__law_draw) rfl
theorem Txt.b__law_draw (T : Txt K mg) : Binds K (fdOf K (a__law_draw K)) ["_law_hand_here", "_law_many"] [] := T.F__law_draw.bindsN fun _ _ _ _ _ _ us hl => match us, hl with | [_, _], _ => rfl
abbrev a__law_any (K : PySem.W.Frag) : Addr := He.ga K "_law_any"
theorem Txt.F__law_any (T : Txt K mg) : FunD K "_law_any" "_law_any" (defArgs s__law_any) (defBody s__law_any) (defScope s__law_any) [] [] (a__law_any K) (fdOf K (a__law_any K)) := T.def_ 32 (d := d__law_any) rfl
theorem Txt.b__law_any (T : Txt K mg) : Binds K (fdOf K (a__law_any K)) ["_law_hand_here", "_law_some"] [] := T.F__law_any.bindsN fun _ _ _ _ _ _ us hl => match us, hl with | [_, _], _ => rfl
abbrev a__law_name (K : PySem.W.Frag) : Addr := He.ga K "_law_name"
theorem Txt.F__law_name (T : Txt K mg) : FunD K "_law_name" "_law_name" (defArgs s__law_name) (defBody s__law_name) (defScope s__law_name) [] [] (a__law_name K) (fdOf K (a__law_name K)) := T.def_ 33 (d := d__law_name) rfl
theorem Txt.b__law_name (T : Txt K mg) : Binds K (fdOf K (a__law_name K)) ["_law_hand_here"] [] := T.F__law_name.bindsN fun _ _ _ _ _ _ us hl => match us, hl with | [_], _ => rfl
abbrev a__law_lone (K : PySem.W.Frag) : Addr := He.ga K "_law_lone"
theorem Txt.F__law_lone (T : Txt K mg) : FunD K "_law_lone" "_law_lone" (defArgs s__law_lone) (defBody s__law_lone) (defScope s__law_lone) [] [] (a__law_lone K) (fdOf K (a__law_lone K)) := T.def_ 34 (d := d__law_lone) rfl
theorem Txt.b__law_lone (T : Txt K mg) : Binds K (fdOf K (a__law_lone K)) ["_law_hand_here"] [] := T.F__law_lone.bindsN fun _ _ _ _ _ _ us hl => match us, hl with | [_], _ => rfl
abbrev a__law_expression (K : PySem.W.Frag) : Addr := He.ga K "_law_expression"
theorem Txt.F__law_expression (T : Txt K mg) : FunD K "_law_expression" "_law_expression" (defArgs s__law_expression) (defBody s__law_expression) (defScope s__law_expression) [] [] (a__law_expression K) (fdOf K (a__law_expression K)) := T.def_ 35 (d := d__law_expression) rfl
theorem Txt.b__law_expression (T : Txt K mg) : Binds K (fdOf K (a__law_expression K)) ["_law_hand_here", "_law_deep"] [] := T.F__law_expression.bindsN fun _ _ _ _ _ _ us hl => match us, hl with | [_, _], _ => rfl
abbrev a__law_parts (K : PySem.W.Frag) : Addr := He.ga K "_law_parts"
theorem Txt.F__law_parts (T : Txt K mg) : FunD K "_law_parts" "_law_parts" (defArgs s__law_parts) (defBody s__law_parts) (defScope s__law_parts) [] [] (a__law_parts K) (fdOf K (a__law_parts K)) := T.def_ 36 (d := d__law_parts) rfl
theorem Txt.b__law_parts (T : Txt K mg) : Binds K (fdOf K (a__law_parts K)) ["_law_thing"] [] := T.F__law_parts.bindsN fun _ _ _ _ _ _ us hl => match us, hl with | [_], _ => rfl
abbrev a__law_small (K : PySem.W.Frag) : Addr := He.ga K "_law_small"
theorem Txt.F__law_small (T : Txt K mg) : FunD K "_law_small" "_law_small" (defArgs s__law_small) (defBody s__law_small) (defScope s__law_small) [] [] (a__law_small K) (fdOf K (a__law_small K)) := T.def_ 37 (d := d__law_small) rfl
theorem Txt.b__law_small (T : Txt K mg) : Binds K (fdOf K (a__law_small K)) ["_law_hand_here"] [] := T.F__law_small.bindsN fun _ _ _ _ _ _ us hl => match us, hl with | [_], _ => rfl
abbrev a__law_statement (K : PySem.W.Frag) : Addr := He.ga K "_law_statement"
theorem Txt.F__law_statement (T : Txt K mg) : FunD K "_law_statement" "_law_statement" (defArgs s__law_statement) (defBody s__law_statement) (defScope s__law_statement) [] [] (a__law_statement K) (fdOf K (a__law_statement K)) := T.def_ 38 (d := d__law_statement) rfl
theorem Txt.b__law_statement (T : Txt K mg) : Binds K (fdOf K (a__law_statement K)) ["_law_hand_here", "_law_deep"] [] := T.F__law_statement.bindsN fun _ _ _ _ _ _ us hl => match us, hl with | [_, _], _ => rfl
abbrev a__law_block (K : PySem.W.Frag) : Addr := He.ga K "_law_block"
theorem Txt.F__law_block (T : Txt K mg) : FunD K "_law_block" "_law_block" (defArgs s__law_block) (defBody s__law_block) (defScope s__law_block) [] [] (a__law_block K) (fdOf K (a__law_block K)) := T.def_ 39 (d := d__law_block) rfl
theorem Txt.b__law_block (T : Txt K mg) : Binds K (fdOf K (a__law_block K)) ["_law_hand_here", "_law_deep"] [] := T.F__law_block.bindsN fun _ _ _ _ _ _ us hl => match us, hl with | [_, _], _ => rfl
abbrev a__law_count (K : PySem.W.Frag) : Addr := He.ga K "_law_count"
theorem Txt.F__law_count (T : Txt K mg) : FunD K "_law_count" "_law_count" (defArgs s__law_count) (defBody s__law_count) (defScope s__law_count) [] [] (a__law_count K) (fdOf K (a__law_count K)) := T.def_ 40 (d := d__law_count) rfl
theorem Txt.b__law_count (T : Txt K mg) : Binds K (fdOf K (a__law_count K)) ["_law_block_here"] [] := T.F__law_count.bindsN fun _ _ _ _ _ _ us hl => match us, hl with | [_], _ => rfl
abbrev a__law_policy (K : PySem.W.Frag) : Addr := He.ga K "_law_policy"
theorem Txt.F__law_policy (T : Txt K mg) : FunD K "_law_policy" "_law_policy" (defArgs s__law_policy) (defBody s__law_policy) (defScope s__law_policy) [] [] (a__law_policy K) (fdOf K (a__law_policy K)) := T.def_ 41 (d := d__law_policy) rfl
theorem Txt.b__law_policy (T : Txt K mg) : Binds K (fdOf K (a__law_policy K)) ["_law_hand_here"] [] := T.F__law_policy.bindsN fun _ _ _ _ _ _ us hl => match us, hl with | [_], _ => rfl
abbrev a__law_value (K : PySem.W.Frag) : Addr := He.ga K "_law_value"
theorem Txt.F__law_value (T : Txt K mg) : FunD K "_law_value" "_law_value" (defArgs s__law_value) (defBody s__law_value) (defScope s__law_value) [] [] (a__law_value K) (fdOf K (a__law_value K)) := T.def_ 42 (d := d__law_value) rfl
theorem Txt.b__law_value (T : Txt K mg) : Binds K (fdOf K (a__law_value K)) ["_law_book", "_law_thing"] [] := T.F__law_value.bindsN fun _ _ _ _ _ _ us hl => match us, hl with | [_, _], _ => rfl
abbrev a__law_led (K : PySem.W.Frag) : Addr := He.ga K "_law_led"
theorem Txt.F__law_led (T : Txt K mg) : FunD K "_law_led" "_law_led" (defArgs s__law_led) (defBody s__law_led) (defScope s__law_led) [] [] (a__law_led K) (fdOf K (a__law_led K)) := T.def_ 43 (d := d__law_led) rfl
theorem Txt.b__law_led (T : Txt K mg) : Binds K (fdOf K (a__law_led K)) ["_law_book", "_law_block_here"] [] := T.F__law_led.bindsN fun _ _ _ _ _ _ us hl => match us, hl with | [_, _], _ => rfl
abbrev a__law_run (K : PySem.W.Frag) : Addr := He.ga K "_law_run"
theorem Txt.F__law_run (T : Txt K mg) : FunD K "_law_run" "_law_run" (defArgs s__law_run) (defBody s__law_run) (defScope s__law_run) [] [] (a__law_run K) (fdOf K (a__law_run K)) := T.def_ 44 (d := d__law_run) rfl
theorem Txt.b__law_run (T : Txt K mg) : Binds K (fdOf K (a__law_run K)) ["_law_state_here", "_law_bottom", "_law_block_here", "_law_facts"] [] := T.F__law_run.bindsN fun _ _ _ _ _ _ us hl => match us, hl with | [_, _, _, _], _ => rfl
abbrev a__law_tops (K : PySem.W.Frag) : Addr := He.ga K "_law_tops"
theorem Txt.F__law_tops (T : Txt K mg) : FunD K "_law_tops" "_law_tops" (defArgs s__law_tops) (defBody s__law_tops) (defScope s__law_tops) [] [] (a__law_tops K) (fdOf K (a__law_tops K)) := T.def_ 45 (d := d__law_tops) rfl
theorem Txt.b__law_tops (T : Txt K mg) : Binds K (fdOf K (a__law_tops K)) ["_law_state_here", "_law_bottom", "_law_block_here", "_law_needs", "_law_here_here", "_law_things"] [] := T.F__law_tops.bindsN fun _ _ _ _ _ _ us hl => match us, hl with | [_, _, _, _, _, _], _ => rfl
abbrev a__law_state (K : PySem.W.Frag) : Addr := He.ga K "_law_state"
theorem Txt.F__law_state (T : Txt K mg) : FunD K "_law_state" "_law_state" (defArgs s__law_state) (defBody s__law_state) (defScope s__law_state) [] [] (a__law_state K) (fdOf K (a__law_state K)) := T.def_ 46 (d := d__law_state) rfl
theorem Txt.b__law_state (T : Txt K mg) : Binds K (fdOf K (a__law_state K)) ["_law_n"] [] := T.F__law_state.bindsN fun _ _ _ _ _ _ us hl => match us, hl with | [_], _ => rfl
abbrev a__law_here (K : PySem.W.Frag) : Addr := He.ga K "_law_here"
theorem Txt.F__law_here (T : Txt K mg) : FunD K "_law_here" "_law_here" (defArgs s__law_here) (defBody s__law_here) (defScope s__law_here) [] [] (a__law_here K) (fdOf K (a__law_here K)) := T.def_ 47 (d := d__law_here) rfl
theorem Txt.b__law_here (T : Txt K mg) : Binds K (fdOf K (a__law_here K)) ["_law_hand_here", "_law_n"] [] := T.F__law_here.bindsN fun _ _ _ _ _ _ us hl => match us, hl with | [_, _], _ => rfl
abbrev a__law_numbers (K : PySem.W.Frag) : Addr := He.ga K "_law_numbers"
theorem Txt.F__law_numbers (T : Txt K mg) : FunD K "_law_numbers" "_law_numbers" (defArgs s__law_numbers) (defBody s__law_numbers) (defScope s__law_numbers) [] [] (a__law_numbers K) (fdOf K (a__law_numbers K)) := T.def_ 48 (d := d__law_numbers) rfl
theorem Txt.b__law_numbers (T : Txt K mg) : Binds K (fdOf K (a__law_numbers K)) ["_law_hand_here", "_law_n"] [] := T.F__law_numbers.bindsN fun _ _ _ _ _ _ us hl => match us, hl with | [_, _], _ => rfl
abbrev a__law_kept (K : PySem.W.Frag) : Addr := He.ga K "_law_kept"
theorem Txt.F__law_kept (T : Txt K mg) : FunD K "_law_kept" "_law_kept" (defArgs s__law_kept) (defBody s__law_kept) (defScope s__law_kept) [] [] (a__law_kept K) (fdOf K (a__law_kept K)) := T.def_ 49 (d := d__law_kept) rfl
theorem Txt.b__law_kept (T : Txt K mg) : Binds K (fdOf K (a__law_kept K)) ["_law_book"] [] := T.F__law_kept.bindsN fun _ _ _ _ _ _ us hl => match us, hl with | [_], _ => rfl
abbrev a__law_copied (K : PySem.W.Frag) : Addr := He.ga K "_law_copied"
theorem Txt.F__law_copied (T : Txt K mg) : FunD K "_law_copied" "_law_copied" (defArgs s__law_copied) (defBody s__law_copied) (defScope s__law_copied) [] [] (a__law_copied K) (fdOf K (a__law_copied K)) := T.def_ 50 (d := d__law_copied) rfl
theorem Txt.b__law_copied (T : Txt K mg) : Binds K (fdOf K (a__law_copied K)) ["_law_state_here"] [] := T.F__law_copied.bindsN fun _ _ _ _ _ _ us hl => match us, hl with | [_], _ => rfl
abbrev a__law_beats (K : PySem.W.Frag) : Addr := He.ga K "_law_beats"
theorem Txt.F__law_beats (T : Txt K mg) : FunD K "_law_beats" "_law_beats" (defArgs s__law_beats) (defBody s__law_beats) (defScope s__law_beats) [] [] (a__law_beats K) (fdOf K (a__law_beats K)) := T.def_ 51 (d := d__law_beats) rfl
theorem Txt.b__law_beats (T : Txt K mg) : Binds K (fdOf K (a__law_beats K)) ["_law_hand_here", "_law_teller", "_law_state_here", "_law_policy_here", "_law_n"] [] := T.F__law_beats.bindsN fun _ _ _ _ _ _ us hl => match us, hl with | [_, _, _, _, _], _ => rfl
abbrev a_law (K : PySem.W.Frag) : Addr := He.ga K "law"
theorem Txt.F_law (T : Txt K mg) : FunD K "law" "law" (defArgs s_law) (defBody s_law) (defScope s_law) [] [] (a_law K) (fdOf K (a_law K)) := T.def_ 52 (d := d_law) rfl
theorem Txt.b_law (T : Txt K mg) : Binds K (fdOf K (a_law K)) ["_law_script"] [] := T.F_law.bindsN fun _ _ _ _ _ _ us hl => match us, hl with | [_], _ => rfl
end
theorem sc_is_integer : FnScope ["thing"] ["thing"] (defScope s_is_integer) := ⟨rfl, rfl, rfl, by decide +kernel, rfl, by decide +kernel, by decide +kernel⟩
theorem sc_is_within : FnScope ["thing", "low", "high"] ["thing", "low", "high"] (defScope s_is_within) := ⟨rfl, rfl, rfl, by decide +kernel, rfl, by decide +kernel, by decide +kernel⟩
theorem sc_is_lot : FnScope ["thing", "many", "one", "other"] ["thing", "many"] (defScope s_is_lot) := ⟨rfl, rfl, rfl, by decide +kernel, rfl, by decide +kernel, by decide +kernel⟩
theorem sc_check_people : FnScope ["n"] ["n"] (defScope s_check_people) := ⟨rfl, rfl, rfl, by decide +kernel, rfl, by decide +kernel, by decide +kernel⟩
theorem sc_is_name : FnScope ["thing", "sign"] ["thing"] (defScope s_is_name) := ⟨rfl, rfl, rfl, by decide +kernel, rfl, by decide +kernel, by decide +kernel⟩
theorem sc_is_leaf : FnScope ["thing"] ["thing"] (defScope s_is_leaf) := ⟨rfl, rfl, rfl, by decide +kernel, rfl, by decide +kernel, by decide +kernel⟩
theorem sc_parts_in : FnScope ["thing", "deep", "found", "part", "many"] ["thing", "deep"] (defScope s_parts_in) := ⟨rfl, rfl, rfl, by decide +kernel, rfl, by decide +kernel, by decide +kernel⟩
theorem sc_is_expression : FnScope ["thing", "many"] ["thing"] (defScope s_is_expression) := ⟨rfl, rfl, rfl, by decide +kernel, rfl, by decide +kernel, by decide +kernel⟩
theorem sc_has_own_parts : FnScope ["thing", "word"] ["thing"] (defScope s_has_own_parts) := ⟨rfl, rfl, rfl, by decide +kernel, rfl, by decide +kernel, by decide +kernel⟩
theorem sc_first_bad : FnScope ["block", "deep", "number", "thing", "side", "one", "found"] ["block", "deep"] (defScope s_first_bad) := ⟨rfl, rfl, rfl, by decide +kernel, rfl, by decide +kernel, by decide +kernel⟩
theorem sc_statements_in : FnScope ["block", "found", "statement"] ["block"] (defScope s_statements_in) := ⟨rfl, rfl, rfl, by decide +kernel, rfl, by decide +kernel, by decide +kernel⟩
theorem sc_Policy_init : FnScope ["self", "bottom", "block", "found"] ["self", "bottom", "block"] (defScope s_Policy_init) := ⟨rfl, rfl, rfl, by decide +kernel, rfl, by decide +kernel, by decide +kernel⟩
theorem sc_Policy_eq : FnScope ["self", "other"] ["self", "other"] (defScope s_Policy_eq) := ⟨rfl, rfl, rfl, by decide +kernel, rfl, by decide +kernel, by decide +kernel⟩
theorem sc_whole : FnScope ["number"] ["number"] (defScope s_whole) := ⟨rfl, rfl, rfl, by decide +kernel, rfl, by decide +kernel, by decide +kernel⟩
theorem sc_reckoned : FnScope ["sign", "one", "other"] ["sign", "one", "other"] (defScope s_reckoned) := ⟨rfl, rfl, rfl, by decide +kernel, rfl, by decide +kernel, by decide +kernel⟩
theorem sc_Run_init : FnScope ["self", "facts", "keep", "own", "bottom"] ["self", "facts", "keep", "own", "bottom"] (defScope s_Run_init) := ⟨rfl, rfl, rfl, by decide +kernel, rfl, by decide +kernel, by decide +kernel⟩
theorem sc_Run_value : FnScope ["self", "thing", "word", "is_right", "one", "other"] ["self", "thing"] (defScope s_Run_value) := ⟨rfl, rfl, rfl, by decide +kernel, rfl, by decide +kernel, by decide +kernel⟩
theorem sc_Run_do : FnScope ["self", "block", "statement", "word", "is_right", "number"] ["self", "block"] (defScope s_Run_do) := ⟨rfl, rfl, rfl, by decide +kernel, rfl, by decide +kernel, by decide +kernel⟩
theorem sc_others : FnScope ["numbers", "name", "number"] ["numbers"] (defScope s_others) := ⟨rfl, rfl, rfl, by decide +kernel, rfl, by decide +kernel, by decide +kernel⟩
theorem sc_check_policy : FnScope ["thing"] ["thing"] (defScope s_check_policy) := ⟨rfl, rfl, rfl, by decide +kernel, rfl, by decide +kernel, by decide +kernel⟩
theorem sc_are_numbers : FnScope ["n", "thing", "one"] ["n", "thing"] (defScope s_are_numbers) := ⟨rfl, rfl, rfl, by decide +kernel, rfl, by decide +kernel, by decide +kernel⟩
theorem sc_next_taker : FnScope ["here", "weights", "caps", "parts", "found", "person", "least"] ["here", "weights", "caps", "parts"] (defScope s_next_taker) := ⟨rfl, rfl, rfl, by decide +kernel, rfl, by decide +kernel, by decide +kernel⟩
theorem sc_parted : FnScope ["n", "bottom", "here", "weights", "caps", "parts", "turn"] ["n", "bottom", "here", "weights", "caps"] (defScope s_parted) := ⟨rfl, rfl, rfl, by decide +kernel, rfl, by decide +kernel, by decide +kernel⟩
theorem sc_Teller_init : FnScope ["self", "n", "policy"] ["self", "n", "policy"] (defScope s_Teller_init) := ⟨rfl, rfl, rfl, by decide +kernel, rfl, by decide +kernel, by decide +kernel⟩
theorem sc_Teller_run_for : FnScope ["self", "person", "facts", "run"] ["self", "person", "facts"] (defScope s_Teller_run_for) := ⟨rfl, rfl, rfl, by decide +kernel, rfl, by decide +kernel, by decide +kernel⟩
theorem sc_Teller_shares : FnScope ["self", "needs", "here", "things", "weights", "caps", "person", "facts", "bottom"] ["self", "needs", "here", "things"] (defScope s_Teller_shares) := ⟨rfl, rfl, rfl, by decide +kernel, rfl, by decide +kernel, by decide +kernel⟩
theorem sc_Teller_turned : FnScope ["self", "policy", "found", "person", "numbers"] ["self", "policy"] (defScope s_Teller_turned) := ⟨rfl, rfl, rfl, by decide +kernel, rfl, by decide +kernel, by decide +kernel⟩
theorem sc_Teller_kept : FnScope ["self"] ["self"] (defScope s_Teller_kept) := ⟨rfl, rfl, rfl, by decide +kernel, rfl, by decide +kernel, by decide +kernel⟩
theorem sc_Teller_owned : FnScope ["self", "person"] ["self", "person"] (defScope s_Teller_owned) := ⟨rfl, rfl, rfl, by decide +kernel, rfl, by decide +kernel, by decide +kernel⟩
theorem sc_Teller_copy : FnScope ["self"] ["self"] (defScope s_Teller_copy) := ⟨rfl, rfl, rfl, by decide +kernel, rfl, by decide +kernel, by decide +kernel⟩
theorem sc__law_hand : FnScope ["_law_script", "_law_cell", "_law_cells"] ["_law_script"] (defScope s__law_hand) := ⟨rfl, rfl, rfl, by decide +kernel, rfl, by decide +kernel, by decide +kernel⟩
theorem sc__law_draw : FnScope ["_law_hand_here", "_law_many", "_law_cell", "_law_digit", "_law_number"] ["_law_hand_here", "_law_many"] (defScope s__law_draw) := ⟨rfl, rfl, rfl, by decide +kernel, rfl, by decide +kernel, by decide +kernel⟩
theorem sc__law_any : FnScope ["_law_hand_here", "_law_some"] ["_law_hand_here", "_law_some"] (defScope s__law_any) := ⟨rfl, rfl, rfl, by decide +kernel, rfl, by decide +kernel, by decide +kernel⟩
theorem sc__law_name : FnScope ["_law_hand_here"] ["_law_hand_here"] (defScope s__law_name) := ⟨rfl, rfl, rfl, by decide +kernel, rfl, by decide +kernel, by decide +kernel⟩
theorem sc__law_lone : FnScope ["_law_hand_here", "_law_kind"] ["_law_hand_here"] (defScope s__law_lone) := ⟨rfl, rfl, rfl, by decide +kernel, rfl, by decide +kernel, by decide +kernel⟩
theorem sc__law_expression : FnScope ["_law_hand_here", "_law_deep", "_law_kind", "_law_sign"] ["_law_hand_here", "_law_deep"] (defScope s__law_expression) := ⟨rfl, rfl, rfl, by decide +kernel, rfl, by decide +kernel, by decide +kernel⟩
theorem sc__law_parts : FnScope ["_law_thing", "_law_one"] ["_law_thing"] (defScope s__law_parts) := ⟨rfl, rfl, rfl, by decide +kernel, rfl, by decide +kernel, by decide +kernel⟩
theorem sc__law_small : FnScope ["_law_hand_here", "_law_found", "_law_turn"] ["_law_hand_here"] (defScope s__law_small) := ⟨rfl, rfl, rfl, by decide +kernel, rfl, by decide +kernel, by decide +kernel⟩
theorem sc__law_statement : FnScope ["_law_hand_here", "_law_deep", "_law_kind"] ["_law_hand_here", "_law_deep"] (defScope s__law_statement) := ⟨rfl, rfl, rfl, by decide +kernel, rfl, by decide +kernel, by decide +kernel⟩
theorem sc__law_block : FnScope ["_law_hand_here", "_law_deep", "_law_turn"] ["_law_hand_here", "_law_deep"] (defScope s__law_block) := ⟨rfl, rfl, rfl, by decide +kernel, rfl, by decide +kernel, by decide +kernel⟩
theorem sc__law_count : FnScope ["_law_block_here", "_law_found", "_law_one"] ["_law_block_here"] (defScope s__law_count) := ⟨rfl, rfl, rfl, by decide +kernel, rfl, by decide +kernel, by decide +kernel⟩
theorem sc__law_policy : FnScope ["_law_hand_here", "_law_block_here", "_law_bottom"] ["_law_hand_here"] (defScope s__law_policy) := ⟨rfl, rfl, rfl, by decide +kernel, rfl, by decide +kernel, by decide +kernel⟩
theorem sc__law_value : FnScope ["_law_book", "_law_thing", "_law_word", "_law_one", "_law_values", "_law_other", "_law_found"] ["_law_book", "_law_thing"] (defScope s__law_value) := ⟨rfl, rfl, rfl, by decide +kernel, rfl, by decide +kernel, by decide +kernel⟩
theorem sc__law_led : FnScope ["_law_book", "_law_block_here", "_law_one", "_law_value_here"] ["_law_book", "_law_block_here"] (defScope s__law_led) := ⟨rfl, rfl, rfl, by decide +kernel, rfl, by decide +kernel, by decide +kernel⟩
theorem sc__law_run : FnScope ["_law_state_here", "_law_bottom", "_law_block_here", "_law_facts", "_law_person", "_law_book"] ["_law_state_here", "_law_bottom", "_law_block_here", "_law_facts"] (defScope s__law_run) := ⟨rfl, rfl, rfl, by decide +kernel, rfl, by decide +kernel, by decide +kernel⟩
theorem sc__law_tops : FnScope ["_law_state_here", "_law_bottom", "_law_block_here", "_law_needs", "_law_here_here", "_law_things", "_law_ranks", "_law_parts_here", "_law_person", "_law_facts", "_law_turn", "_law_best", "_law_weight", "_law_cap"] ["_law_state_here", "_law_bottom", "_law_block_here", "_law_needs", "_law_here_here", "_law_things"] (defScope s__law_tops) := ⟨rfl, rfl, rfl, by decide +kernel, rfl, by decide +kernel, by decide +kernel⟩
theorem sc__law_state : FnScope ["_law_n", "_law_person"] ["_law_n"] (defScope s__law_state) := ⟨rfl, rfl, rfl, by decide +kernel, rfl, by decide +kernel, by decide +kernel⟩
theorem sc__law_here : FnScope ["_law_hand_here", "_law_n", "_law_person", "_law_found"] ["_law_hand_here", "_law_n"] (defScope s__law_here) := ⟨rfl, rfl, rfl, by decide +kernel, rfl, by decide +kernel, by decide +kernel⟩
theorem sc__law_numbers : FnScope ["_law_hand_here", "_law_n", "_law_person"] ["_law_hand_here", "_law_n"] (defScope s__law_numbers) := ⟨rfl, rfl, rfl, by decide +kernel, rfl, by decide +kernel, by decide +kernel⟩
theorem sc__law_kept : FnScope ["_law_book", "_law_name_here"] ["_law_book"] (defScope s__law_kept) := ⟨rfl, rfl, rfl, by decide +kernel, rfl, by decide +kernel, by decide +kernel⟩
theorem sc__law_copied : FnScope ["_law_state_here", "_law_one"] ["_law_state_here"] (defScope s__law_copied) := ⟨rfl, rfl, rfl, by decide +kernel, rfl, by decide +kernel, by decide +kernel⟩
theorem sc__law_beats : FnScope ["_law_hand_here", "_law_teller", "_law_state_here", "_law_policy_here", "_law_n", "_law_beat", "_law_needs", "_law_here_here", "_law_things", "_law_told", "_law_person"] ["_law_hand_here", "_law_teller", "_law_state_here", "_law_policy_here", "_law_n"] (defScope s__law_beats) := ⟨rfl, rfl, rfl, by decide +kernel, rfl, by decide +kernel, by decide +kernel⟩
theorem sc_law : FnScope ["_law_script", "_law_hand_here", "_law_n", "_law_policy_here", "_law_some", "_law_turn", "_law_at", "_law_teller", "_law_state_here", "_law_kind", "_law_other", "_law_told"] ["_law_script"] (defScope s_law) := ⟨rfl, rfl, rfl, by decide +kernel, rfl, by decide +kernel, by decide +kernel⟩
end K6
set_option maxHeartbeats 0
/-! The top's run, once, in the kernel. Printed by gen_run.py. -/
namespace K6
open PySem PySem.Spec PyProof.Rows L2
def loose : List Str := (["is_integer", "is_within", "is_lot", "DuesError", "NoPeople", "NoPerson", "NoBottom", "BadBlock", "NoPolicy", "NoNeeds", "NoLot", "NoNumbers", "MOST_PEOPLE", "MOST_BOTTOM", "check_people", "LETTERS", "STATED", "SAID", "FACTS", "SIGNS", "HOLDERS", "GIVERS", "MOST_NUMBER", "MOST_NAME", "MOST_DEEP", "MOST_PARTS", "MOST_BLOCKS", "MOST_STATEMENTS", "is_name", "is_leaf"] : List Str) ++ (["parts_in", "is_expression", "has_own_parts", "first_bad", "statements_in", "Policy", "MOST_NEED", "WRONG", "whole", "reckoned", "Run", "others", "check_policy", "are_numbers", "next_taker", "parted", "Teller", "_law_hand", "_law_draw", "_law_any", "_law_name", "_law_lone", "_law_expression", "_law_parts", "_law_small", "_law_statement", "_law_block", "_law_count", "_law_policy", "_law_value"] : List Str) ++ (["_law_led", "_law_run", "_law_tops", "_law_state", "_law_here", "_law_numbers", "_law_kept", "_law_copied", "_law_beats"] : List Str)
abbrev R : PySem.W.OpenRow := PySem.W.OpenLaw.row PySem.Challenge.rw_harmonicdues_k06_whole_policies_turned_a
abbrev hk : PySem.W.Hook := He.hookX 6 fa fn [] [] ex
def ob (s : PySem.W.SharedT) : He.AlX := He.obsX 6 fa fn [] [] ex (HandSHeadRun.getT s)
theorem ob_eq (s : PySem.W.SharedT) : ob s = hk.obs s.abs := He.obsX_eq (HandSHeadRun.getT_eq s)
theorem run (w : World) : HandSHeadRun.RunEq R (PySem.W.view R.prog [75]) hk ob 6000 loose w := by
  intro os
  kernel_rfl
end K6
set_option maxHeartbeats 4000000
/-! The plain side: expressions, blocks, what they come to; what stands in the heap for them. -/
namespace K6
open PySem PySem.Spec PyProof.Rows L2

inductive Fct | beat | person | need | things | people
  deriving DecidableEq
def Fct.str : Fct → Str
  | .beat => "beat" | .person => "person" | .need => "need" | .things => "things" | .people => "people"
inductive Hd | lt | kp | ow
  deriving DecidableEq
def Hd.str : Hd → Str
  | .lt => "let" | .kp => "keep" | .ow => "own"
inductive Nm | a | b | zz | h
  deriving DecidableEq
def Nm.str : Nm → Str
  | .a => "a" | .b => "b" | .zz => "zz" | .h => "abcdefgh"
inductive Gv | weight | cap
  deriving DecidableEq
def Gv.str : Gv → Str
  | .weight => "weight" | .cap => "cap"
inductive Sg | add | sub | mul | div | mod | min | max | less | eq | and | or
  deriving DecidableEq
def Sg.str : Sg → Str
  | .add => "+" | .sub => "-" | .mul => "*" | .div => "/" | .mod => "mod" | .min => "min" | .max => "max" | .less => "<" | .eq => "=" | .and => "and" | .or => "or"
theorem Hd.inj {a b : Hd} (h : a.str = b.str) : a = b := by
  cases a <;> cases b <;> first | rfl | exact absurd h (by decide +kernel)
theorem Nm.inj {a b : Nm} (h : a.str = b.str) : a = b := by
  cases a <;> cases b <;> first | rfl | exact absurd h (by decide +kernel)
theorem Fct.inj {a b : Fct} (h : a.str = b.str) : a = b := by
  cases a <;> cases b <;> first | rfl | exact absurd h (by decide +kernel)

inductive Ex
  | num (k : Int) | fact (f : Fct) | hold (h : Hd) (n : Nm) | neg (a : Ex) | bin (s : Sg) (a b : Ex)
def Ex.depth : Ex → Nat
  | .num _ => 1 | .fact _ => 1 | .hold _ _ => 1
  | .neg a => a.depth + 1
  | .bin _ a b => Nat.max a.depth b.depth + 1
def Ex.parts : Ex → Nat
  | .num _ => 1 | .fact _ => 1 | .hold _ _ => 1
  | .neg a => a.parts + 1
  | .bin _ a b => a.parts + b.parts + 1
def big : Int := 1000000000000000000
/-- its written numbers are within bounds -/
def Ex.bd : Ex → Prop
  | .num k => -big ≤ k ∧ k ≤ big
  | .fact _ => True | .hold _ _ => True
  | .neg a => a.bd
  | .bin _ a b => a.bd ∧ b.bd
def Ex.ok (e : Ex) : Prop := e.depth ≤ 6 ∧ e.parts ≤ 30 ∧ e.bd
inductive Blk
  | nil | set (h : Hd) (n : Nm) (e : Ex) (r : Blk) | give (g : Gv) (e : Ex) (r : Blk) | ite (e : Ex) (a b r : Blk)
/-- how deep a block is (1: no ifs) -/
def Blk.lev : Blk → Nat
  | .nil => 1
  | .set _ _ _ r => r.lev
  | .give _ _ r => r.lev
  | .ite _ a b r => Nat.max (Nat.max a.lev b.lev + 1) r.lev
def Blk.ok : Blk → Prop
  | .nil => True
  | .set _ _ e r => e.ok ∧ r.ok
  | .give _ e r => e.ok ∧ r.ok
  | .ite e a b r => e.ok ∧ a.ok ∧ b.ok ∧ r.ok
def Blk.count : Blk → Nat
  | .nil => 0
  | .set _ _ _ r => r.count + 1
  | .give _ _ r => r.count + 1
  | .ite _ a b r => a.count + b.count + r.count + 1
def Blk.len : Blk → Nat
  | .nil => 0
  | .set _ _ _ r => r.len + 1
  | .give _ _ r => r.len + 1
  | .ite _ _ _ r => r.len + 1
def Blk.app : Blk → Blk → Blk
  | .nil, z => z
  | .set h n e r, z => .set h n e (r.app z)
  | .give g e r, z => .give g e (r.app z)
  | .ite e a b r, z => .ite e a b (r.app z)
theorem Blk.lev_pos : ∀ b : Blk, 1 ≤ b.lev
  | .nil => Nat.le_refl 1
  | .set _ _ _ r => lev_pos r
  | .give _ _ r => lev_pos r
  | .ite _ a b r => Nat.le_trans (lev_pos r) (Nat.le_max_right _ _)
theorem Ex.depth_pos : ∀ e : Ex, 1 ≤ e.depth
  | .num _ => Nat.le_refl 1 | .fact _ => Nat.le_refl 1 | .hold _ _ => Nat.le_refl 1
  | .neg _ => Nat.succ_le_succ (Nat.zero_le _)
  | .bin _ _ _ => Nat.succ_le_succ (Nat.zero_le _)

/-! ### what they come to -/
def bnd (z : Int) : Option Int := if -big ≤ z ∧ z ≤ big then some z else none
def b2 (b : Bool) : Int := if b then 1 else 0
def Sg.ap : Sg → Int → Int → Option Int
  | .add, a, b => bnd (a + b)
  | .sub, a, b => bnd (a - b)
  | .mul, a, b => bnd (a * b)
  | .div, a, b => if b = 0 then none else bnd (a.fdiv b)
  | .mod, a, b => if b = 0 then none else bnd (a.fmod b)
  | .min, a, b => some (if b < a then b else a)
  | .max, a, b => some (if b > a then b else a)
  | .less, a, b => some (b2 (decide (a < b)))
  | .eq, a, b => some (b2 (decide (a = b)))
  | .and, a, b => some (b2 (decide (a ≠ 0) && decide (b ≠ 0)))
  | .or, a, b => some (b2 (decide (a ≠ 0) || decide (b ≠ 0)))
structure Env where
  facts : Fct → Int
  nums : Hd → Nm → Int
  w : Int
  c : Int
def Env.set (E : Env) (h : Hd) (n : Nm) (z : Int) : Env := { E with nums := fun h' n' => if h' = h ∧ n' = n then z else E.nums h' n' }
def Env.give (E : Env) : Gv → Int → Env
  | .weight, z => { E with w := z }
  | .cap, z => { E with c := z }
def Ex.ev (E : Env) : Ex → Option Int
  | .num k => some k
  | .fact f => some (E.facts f)
  | .hold h n => some (E.nums h n)
  | .neg a => (a.ev E).map fun z => b2 (decide (z = 0))
  | .bin s a b => match a.ev E, b.ev E with
    | some x, some y => s.ap x y
    | _, _ => none
def Blk.run : Blk → Env → Option Env
  | .nil, E => some E
  | .set h n e r, E => match e.ev E with
    | some z => r.run (E.set h n z)
    | none => none
  | .give g e r, E => match e.ev E with
    | some z => r.run (E.give g z)
    | none => none
  | .ite e a b r, E => match e.ev E with
    | some z => (match (if z ≠ 0 then a.run E else b.run E) with
      | some E' => r.run E'
      | none => none)
    | none => none
def within (z : Int) : Prop := -big ≤ z ∧ z ≤ big
structure Env.bd (E : Env) : Prop where
  f : ∀ f, within (E.facts f)
  n : ∀ h n, within (E.nums h n)
theorem bnd_in {z x : Int} (h : bnd z = some x) : x = z ∧ within x := by
  unfold bnd at h
  split at h
  · cases h
    exact ⟨rfl, by assumption⟩
  · cases h
theorem b2_in (b : Bool) : within (b2 b) := by
  cases b <;> constructor <;> decide
theorem Sg.ap_in {s : Sg} {a b z : Int} (ha : within a) (hb : within b) (h : s.ap a b = some z) : within z := by
  cases s <;> simp only [Sg.ap] at h
  · exact (bnd_in h).2
  · exact (bnd_in h).2
  · exact (bnd_in h).2
  · split at h
    · cases h
    · exact (bnd_in h).2
  · split at h
    · cases h
    · exact (bnd_in h).2
  · cases h; split <;> assumption
  · cases h; split <;> assumption
  · cases h; exact b2_in _
  · cases h; exact b2_in _
  · cases h; exact b2_in _
  · cases h; exact b2_in _
theorem Ex.ev_in {E : Env} (hE : E.bd) : ∀ {e : Ex} {z : Int}, e.bd → e.ev E = some z → within z
  | .num k, z, h, q => by cases q; exact h
  | .fact f, z, _, q => by cases q; exact hE.f f
  | .hold h n, z, _, q => by cases q; exact hE.n h n
  | .neg a, z, _, q => by
    simp only [Ex.ev, Option.map_eq_some_iff] at q
    obtain ⟨y, _, rfl⟩ := q
    exact b2_in _
  | .bin s a b, z, h, q => by
    simp only [Ex.ev] at q
    cases ea : a.ev E with
    | none => rw [ea] at q; cases q
    | some x =>
      cases eb : b.ev E with
      | none => rw [ea, eb] at q; cases q
      | some y =>
        rw [ea, eb] at q
        exact Sg.ap_in (ev_in hE h.1 ea) (ev_in hE h.2 eb) q
theorem Env.bd.set {E : Env} (hE : E.bd) (h : Hd) (n : Nm) {z : Int} (hz : within z) : (E.set h n z).bd :=
  ⟨hE.f, fun h' n' => by
    show within (if h' = h ∧ n' = n then z else E.nums h' n')
    split
    · exact hz
    · exact hE.n h' n'⟩
theorem Env.bd.give {E : Env} (hE : E.bd) (g : Gv) (z : Int) : (E.give g z).bd := by
  cases g
  · exact ⟨hE.f, hE.n⟩
  · exact ⟨hE.f, hE.n⟩
theorem Blk.run_bd : ∀ {b : Blk} {E E' : Env}, b.ok → E.bd → b.run E = some E' → E'.bd
  | .nil, E, E', _, hE, q => by cases q; exact hE
  | .set h n e r, E, E', ho, hE, q => by
    simp only [Blk.run] at q
    cases ee : e.ev E with
    | none => rw [ee] at q; cases q
    | some z =>
      rw [ee] at q
      exact run_bd ho.2 (hE.set h n (Ex.ev_in hE ho.1.2.2 ee)) q
  | .give g e r, E, E', ho, hE, q => by
    simp only [Blk.run] at q
    cases ee : e.ev E with
    | none => rw [ee] at q; cases q
    | some z =>
      rw [ee] at q
      exact run_bd ho.2 (hE.give g z) q
  | .ite e a b r, E, E', ho, hE, q => by
    simp only [Blk.run] at q
    cases ee : e.ev E with
    | none => rw [ee] at q; cases q
    | some z =>
      rw [ee] at q
      simp only at q
      by_cases hz : z ≠ 0
      · rw [if_pos hz] at q
        cases e1 : a.run E with
        | none => rw [e1] at q; cases q
        | some E1 =>
          rw [e1] at q
          exact run_bd ho.2.2.2 (run_bd ho.2.1 hE e1) q
      · rw [if_neg hz] at q
        cases e1 : b.run E with
        | none => rw [e1] at q; cases q
        | some E1 =>
          rw [e1] at q
          exact run_bd ho.2.2.2 (run_bd ho.2.2.1 hE e1) q

/-! ### the heap -/
/-- tuples stay -/
def Tp (H H' : Hp) : Prop := ∀ b xs, H b = some (.tup xs) → H' b = some (.tup xs)
theorem same_tp {H H' : Hp} (s : Same H H') : Tp H H' := fun b _ e => s b _ e
theorem Tp.refl (H : Hp) : Tp H H := fun _ _ e => e
theorem Tp.trans {H H1 H2 : Hp} (a : Tp H H1) (b : Tp H1 H2) : Tp H H2 := fun c o e => b c o (a c o e)
theorem same_new {H : Hp} {p : Addr} {o : HO} (h : H p = none) : Same H (upd H p o) := fun a u e => by
  rw [upd_ne (ne_of_none e h)]
  exact e
def ExAt (H : Hp) : V → Ex → Prop
  | v, .num k => ∃ p, v = .ref p ∧ H p = some (.tup [.str "num", .int k])
  | v, .fact f => ∃ p, v = .ref p ∧ H p = some (.tup [.str "fact", .str f.str])
  | v, .hold h n => ∃ p, v = .ref p ∧ H p = some (.tup [.str h.str, .str n.str])
  | v, .neg a => ∃ p x, v = .ref p ∧ H p = some (.tup [.str "not", x]) ∧ ExAt H x a
  | v, .bin s a b => ∃ p x y, v = .ref p ∧ H p = some (.tup [.str s.str, x, y]) ∧ ExAt H x a ∧ ExAt H y b
theorem ExAt.mono {H H' : Hp} (t : Tp H H') : ∀ {e : Ex} {v : V}, ExAt H v e → ExAt H' v e
  | .num k, v, ⟨p, h1, h2⟩ => ⟨p, h1, t _ _ h2⟩
  | .fact k, v, ⟨p, h1, h2⟩ => ⟨p, h1, t _ _ h2⟩
  | .hold h n, v, ⟨p, h1, h2⟩ => ⟨p, h1, t _ _ h2⟩
  | .neg a, v, ⟨p, x, h1, h2, h3⟩ => ⟨p, x, h1, t _ _ h2, h3.mono t⟩
  | .bin s a b, v, ⟨p, x, y, h1, h2, h3, h4⟩ => ⟨p, x, y, h1, t _ _ h2, h3.mono t, h4.mono t⟩
def StsAt (H : Hp) : List V → Blk → Prop
  | vs, .nil => vs = []
  | vs, .set h n e r => ∃ p x ws, vs = .ref p :: ws ∧ H p = some (.tup [.str h.str, .str n.str, x]) ∧ ExAt H x e ∧ StsAt H ws r
  | vs, .give g e r => ∃ p x ws, vs = .ref p :: ws ∧ H p = some (.tup [.str g.str, x]) ∧ ExAt H x e ∧ StsAt H ws r
  | vs, .ite e a b r => ∃ p x pa pb as bs ws, vs = .ref p :: ws ∧ H p = some (.tup [.str "if", x, .ref pa, .ref pb]) ∧ ExAt H x e ∧ H pa = some (.tup as) ∧ StsAt H as a ∧ H pb = some (.tup bs) ∧ StsAt H bs b ∧ StsAt H ws r
theorem StsAt.mono {H H' : Hp} (t : Tp H H') : ∀ {b : Blk} {vs : List V}, StsAt H vs b → StsAt H' vs b
  | .nil, vs, h => h
  | .set h n e r, vs, ⟨p, x, ws, h1, h2, h3, h4⟩ => ⟨p, x, ws, h1, t _ _ h2, h3.mono t, h4.mono t⟩
  | .give g e r, vs, ⟨p, x, ws, h1, h2, h3, h4⟩ => ⟨p, x, ws, h1, t _ _ h2, h3.mono t, h4.mono t⟩
  | .ite e a b r, vs, ⟨p, x, pa, pb, as, bs, ws, h1, h2, h3, h4, h5, h6, h7, h8⟩ => ⟨p, x, pa, pb, as, bs, ws, h1, t _ _ h2, h3.mono t, t _ _ h4, h5.mono t, t _ _ h6, h7.mono t, h8.mono t⟩
theorem StsAt.len {H : Hp} : ∀ {b : Blk} {vs : List V}, StsAt H vs b → vs.length = b.len
  | .nil, vs, h => by rw [show vs = [] from h]; rfl
  | .set h n e r, vs, ⟨p, x, ws, h1, _, _, h4⟩ => by rw [h1]; exact congrArg Nat.succ h4.len
  | .give g e r, vs, ⟨p, x, ws, h1, _, _, h4⟩ => by rw [h1]; exact congrArg Nat.succ h4.len
  | .ite e a b r, vs, ⟨p, x, pa, pb, as, bs, ws, h1, _, _, _, _, _, _, h8⟩ => by rw [h1]; exact congrArg Nat.succ h8.len
theorem StsAt.app {H : Hp} : ∀ {b z : Blk} {vs us : List V}, StsAt H vs b → StsAt H us z → StsAt H (vs ++ us) (b.app z)
  | .nil, z, vs, us, h, k => by rw [show vs = [] from h]; exact k
  | .set h n e r, z, vs, us, ⟨p, x, ws, h1, h2, h3, h4⟩, k => ⟨p, x, ws ++ us, by rw [h1]; rfl, h2, h3, h4.app k⟩
  | .give g e r, z, vs, us, ⟨p, x, ws, h1, h2, h3, h4⟩, k => ⟨p, x, ws ++ us, by rw [h1]; rfl, h2, h3, h4.app k⟩
  | .ite e a b r, z, vs, us, ⟨p, x, pa, pb, as, bs, ws, h1, h2, h3, h4, h5, h6, h7, h8⟩, k => ⟨p, x, pa, pb, as, bs, ws ++ us, by rw [h1]; rfl, h2, h3, h4, h5, h6, h7, h8.app k⟩
theorem Blk.app_ok : ∀ {b z : Blk}, b.ok → z.ok → (b.app z).ok
  | .nil, z, _, k => k
  | .set h n e r, z, h1, k => ⟨h1.1, app_ok h1.2 k⟩
  | .give g e r, z, h1, k => ⟨h1.1, app_ok h1.2 k⟩
  | .ite e a b r, z, h1, k => ⟨h1.1, h1.2.1, h1.2.2.1, app_ok h1.2.2.2 k⟩
theorem Blk.app_lev : ∀ {b z : Blk} {n : Nat}, b.lev ≤ n → z.lev ≤ n → (b.app z).lev ≤ n
  | .nil, z, n, _, k => k
  | .set h m e r, z, n, h1, k => app_lev (b := r) h1 k
  | .give g e r, z, n, h1, k => app_lev (b := r) h1 k
  | .ite e a b r, z, n, h1, k => Nat.max_le.mpr ⟨(Nat.max_le.mp h1).1, app_lev (Nat.max_le.mp h1).2 k⟩
theorem Blk.app_len : ∀ {b z : Blk}, (b.app z).len = b.len + z.len
  | .nil, z => (Nat.zero_add _).symm
  | .set h m e r, z => by show (r.app z).len + 1 = r.len + 1 + z.len; rw [app_len]; omega
  | .give g e r, z => by show (r.app z).len + 1 = r.len + 1 + z.len; rw [app_len]; omega
  | .ite e a b r, z => by show (r.app z).len + 1 = r.len + 1 + z.len; rw [app_len]; omega
def BlkAt (H : Hp) (v : V) (b : Blk) : Prop := ∃ p vs, v = .ref p ∧ H p = some (.tup vs) ∧ StsAt H vs b
theorem BlkAt.mono {H H' : Hp} (t : Tp H H') {v : V} {b : Blk} : BlkAt H v b → BlkAt H' v b := fun ⟨p, vs, h1, h2, h3⟩ => ⟨p, vs, h1, t _ _ h2, h3.mono t⟩
/-- an expression's first word, its items -/
def Ex.word : Ex → Str
  | .num _ => "num" | .fact _ => "fact" | .hold h _ => h.str | .neg _ => "not" | .bin s _ _ => s.str
/-! ### frames: what a def may change. C: the class whose instances stay for ever -/
structure Fr (C : Addr) (S : Addr → Prop) (H H' : Hp) : Prop where
  st : ∀ b o, H b = some o → ¬ S b → H' b = some o
  tp : Tp H H'
  pl : ∀ b dx fs, H b = some (.ins C dx fs) → H' b = some (.ins C dx fs)
  al : ∀ b o, H b = some o → ∃ o', H' b = some o'
section
variable {C : Addr} {S S' : Addr → Prop} {H H1 H2 : Hp}
theorem Fr.refl : Fr C S H H := ⟨fun _ _ e _ => e, fun _ _ e => e, fun _ _ _ e => e, fun _ o e => ⟨o, e⟩⟩
theorem Fr.of_same (s : Same H H1) : Fr C S H H1 := ⟨fun b o e _ => s b o e, same_tp s, fun b dx fs e => s b _ e, fun b o e => ⟨o, s b _ e⟩⟩
theorem Fr.trans (a : Fr C S H H1) (b : Fr C S H1 H2) : Fr C S H H2 := ⟨fun x o e n => b.st x o (a.st x o e n) n, a.tp.trans b.tp, fun x dx fs e => b.pl x dx fs (a.pl x dx fs e), fun x o e => (a.al x o e).elim fun o' e' => b.al x o' e'⟩
/-- what comes behind may change what was new -/
theorem Fr.trans' (a : Fr C S H H1) (b : Fr C S' H1 H2) (h : ∀ x, S' x → S x ∨ H x = none) : Fr C S H H2 :=
  ⟨fun x o e n => b.st x o (a.st x o e n) (fun s => (h x s).elim n fun z => by rw [z] at e; cases e), a.tp.trans b.tp, fun x dx fs e => b.pl x dx fs (a.pl x dx fs e), fun x o e => (a.al x o e).elim fun o' e' => b.al x o' e'⟩
theorem Fr.mono (a : Fr C S H H1) (h : ∀ x, S x → S' x) : Fr C S' H H1 := ⟨fun x o e n => a.st x o e fun s => n (h x s), a.tp, a.pl, a.al⟩
theorem Fr.new {p : Addr} {o : HO} (a : Fr C S H H1) (h : H1 p = none) : Fr C S H (upd H1 p o) := a.trans (Fr.of_same (same_new h))
/-- a store at p, which is no tuple and no instance of C -/
theorem Fr.put {p : Addr} {o u : HO} (hs : S p) (hp : H p = some u) (h1 : ∀ xs, u ≠ .tup xs) (h2 : ∀ dx fs, u ≠ .ins C dx fs) : Fr C S H (upd H p o) :=
  ⟨fun b z e n => by
    have : b ≠ p := fun q => n (by rw [q]; exact hs)
    rw [upd_ne this]; exact e, fun b xs e => by
    have : b ≠ p := fun q => by rw [q, hp] at e; exact h1 xs (Option.some.inj e)
    rw [upd_ne this]; exact e, fun b dx fs e => by
    have : b ≠ p := fun q => by rw [q, hp] at e; exact h2 dx fs (Option.some.inj e)
    rw [upd_ne this]; exact e, fun b z e => by
    by_cases q : b = p
    · exact ⟨o, by rw [q, upd_same]⟩
    · exact ⟨z, by rw [upd_ne q]; exact e⟩⟩
theorem Fr.free {b : Addr} (a : Fr C S H H1) (h : H1 b = none) : H b = none := by
  cases e : H b with
  | none => rfl
  | some o =>
    obtain ⟨o', q⟩ := a.al b o e
    rw [h] at q
    cases q
theorem Fr.at (a : Fr C S H H1) {b : Addr} {o : HO} (e : H b = some o) (n : ¬ S b) : H1 b = some o := a.st b o e n
end
end K6
set_option maxHeartbeats 4000000
/-! What all walks use. -/
namespace K6
open PySem PySem.Spec PyProof.Rows L2 RZ
theorem pe_gc {X : Cx} {x : Str} {pos : Pos} {v : V} (hg : Gl X x) (h : ∃ u, X.mg x = some u ∧ RelV v u) (hd : (x == ("__debug__" : Str)) = false := by decide) : PE X (.Name x pos) (tC v) := C8.pe_gc hg h hd
theorem ifT {c : Bool} {A B : Prop} (hc : c = true) (h : A) : if c = true then A else B := by
  rw [if_pos hc]
  exact h
theorem ifF {c : Bool} {A B : Prop} (hc : c = false) (h : B) : if c = true then A else B := by
  rw [hc, if_neg Bool.false_ne_true]
  exact h
theorem if2 {c : Bool} {A B : Prop} (h1 : c = true → A) (h2 : c = false → B) : if c = true then A else B := by
  cases c with
  | true => exact iteT (h1 rfl)
  | false => exact iteF (h2 rfl)
theorem szl {n : Nat} (h : n ≤ 100000) : n ≤ sizeLine := Nat.le_trans h (by decide)
theorem szr {n : Nat} (h : Nat.ble n 100000 = true := by rfl) : n ≤ sizeLine := szl (Nat.le_of_ble_eq_true h)
theorem szt {n : Nat} (h : n < 100000) : n < sizeLine := Nat.lt_of_lt_of_le h (by decide)
theorem at0 {a : V} {xs : List V} : atI (a :: xs) 0 = some a := atI_nat (j := 0) rfl
theorem at1 {a b : V} {xs : List V} : atI (a :: b :: xs) 1 = some b := atI_nat (j := 1) rfl
/-! ### the top's tuples -/
def vSTATED : List V := [.str "let", .str "keep", .str "own", .str "if", .str "else", .str "do", .str "end", .str "weight", .str "cap", .str "all", .str "bottom"]
def vSAID : List V := [.str "min", .str "max", .str "mod", .str "and", .str "or", .str "not"]
def vFACTS : List V := [.str "beat", .str "person", .str "need", .str "things", .str "people"]
def vSIGNS : List V := [.str "+", .str "-", .str "*", .str "/", .str "mod", .str "min", .str "max", .str "<", .str "=", .str "and", .str "or"]
def vHOLDERS : List V := [.str "let", .str "keep", .str "own"]
def vGIVERS : List V := [.str "weight", .str "cap"]
def vWRONG : List V := [.bl false, .int 0]
section
variable {K : PySem.W.Frag} {mg : Str → Option Value}
theorem Txt.q_STATED (T : Txt K mg) (H : Hp) : SqT K H (He.ga K "STATED") vSTATED := He.tupB_ok T.tup_STATED H
theorem Txt.q_SAID (T : Txt K mg) (H : Hp) : SqT K H (He.ga K "SAID") vSAID := He.tupB_ok T.tup_SAID H
theorem Txt.q_FACTS (T : Txt K mg) (H : Hp) : SqT K H (He.ga K "FACTS") vFACTS := He.tupB_ok T.tup_FACTS H
theorem Txt.q_SIGNS (T : Txt K mg) (H : Hp) : SqT K H (He.ga K "SIGNS") vSIGNS := He.tupB_ok T.tup_SIGNS H
theorem Txt.q_HOLDERS (T : Txt K mg) (H : Hp) : SqT K H (He.ga K "HOLDERS") vHOLDERS := He.tupB_ok T.tup_HOLDERS H
theorem Txt.q_GIVERS (T : Txt K mg) (H : Hp) : SqT K H (He.ga K "GIVERS") vGIVERS := He.tupB_ok T.tup_GIVERS H
theorem Txt.q_WRONG (T : Txt K mg) (H : Hp) : SqT K H (He.ga K "WRONG") vWRONG := He.tupB_ok T.tup_WRONG H
theorem Txt.isC (T : Txt K mg) : C8.InsC K (He.ga K "Policy") := ⟨T.c_Policy, He.eqO_ok T.is1, He.eqO_ok T.is2, of_decide_eq_true T.is3, of_decide_eq_true T.is4, of_decide_eq_true T.is5⟩
/-! ### comprehensions: what is made so far -/
structure Lc (H1 : Hp) (D : Addr) (f : Nat → V) (i : Nat) (H : Hp) : Prop where
  fr : H1 D = none
  sm : Same H1 H
  at_ : H D = some (.lst ((List.range i).map f))
theorem Lc.zero {H1 : Hp} {D : Addr} {f : Nat → V} (h : H1 D = none) : Lc H1 D f 0 (upd H1 D (.lst [])) := ⟨h, same_new h, upd_same⟩
theorem Lc.step {H1 H H4 : Hp} {D : Addr} {f : Nat → V} {i : Nat} {y : V} (p : Lc H1 D f i H) (s : Same H H4) (e : y = f i) (hi : i < 100000) :
    ∃ acc, H4 D = some (.lst acc) ∧ acc.length < sizeLine ∧ Lc H1 D f (i + 1) (upd H4 D (.lst (acc ++ [y]))) := by
  refine ⟨_, s _ _ p.at_, by rw [List.length_map, List.length_range]; exact szt hi, p.fr, fun b o q => ?_, ?_⟩
  · rw [upd_ne (ne_of_none q p.fr)]
    exact s _ _ (p.sm _ _ q)
  · rw [upd_same, List.range_succ, List.map_append, e]
    rfl
/-- the same where what stands in S may change -/
structure LcF (C : Addr) (S : Addr → Prop) (H1 : Hp) (D : Addr) (xs : List V) (H : Hp) : Prop where
  fr : H1 D = none
  ns : ¬ S D
  sm : Fr C S H1 H
  at_ : H D = some (.lst xs)
theorem LcF.zero {C : Addr} {S : Addr → Prop} {H1 : Hp} {D : Addr} (h : H1 D = none) (ns : ¬ S D) : LcF C S H1 D [] (upd H1 D (.lst [])) := ⟨h, ns, Fr.of_same (same_new h), upd_same⟩
theorem LcF.step {C : Addr} {S : Addr → Prop} {H1 H H4 : Hp} {D : Addr} {xs : List V} {y : V} (p : LcF C S H1 D xs H) (s : Fr C S H H4) (hi : xs.length < 100000) :
    ∃ acc, H4 D = some (.lst acc) ∧ acc.length < sizeLine ∧ LcF C S H1 D (xs ++ [y]) (upd H4 D (.lst (acc ++ [y]))) := by
  refine ⟨xs, s.st _ _ p.at_ p.ns, szt hi, p.fr, p.ns, ?_, upd_same⟩
  have q := p.sm.trans s
  refine ⟨fun b o e n => ?_, fun b us e => ?_, fun b dx fs e => ?_, fun b o e => ?_⟩
  · rw [upd_ne (ne_of_none e p.fr)]
    exact q.st b o e n
  · rw [upd_ne (ne_of_none e p.fr)]
    exact q.tp b us e
  · rw [upd_ne (ne_of_none e p.fr)]
    exact q.pl b dx fs e
  · rw [upd_ne (ne_of_none e p.fr)]
    exact q.al b o e
theorem walk_zipT {a b : Addr} {xs ys : List V} {n : Nat} (hn : n = min xs.length ys.length) : Walk (ItzT K a b) n (fun H => SqT K H a xs ∧ SqT K H b ys) (YPair (fun i => xs[i]?) (fun i => ys[i]?)) := by
  subst hn
  refine ⟨fun i H hi h => ?_, fun H h => ?_, fun i H v H' hi h y => ?_⟩
  · have h1 : i < xs.length := by omega
    have h2 : i < ys.length := by omega
    exact ⟨xs, ys, xs[i], ys[i], h.1, h.2, List.getElem?_eq_getElem h1, List.getElem?_eq_getElem h2⟩
  · exact ⟨xs, ys, h.1, h.2, by omega⟩
  · obtain ⟨T, x, y, e1, e2, e3, e4, e5⟩ := y
    exact ⟨T, x, y, e1, e2, e3, e4 xs h.1, e5 ys h.2⟩
end
end K6
set_option maxHeartbeats 4000000
/-! The checks of numbers, names, expressions. -/
namespace K6
open PySem PySem.Spec PyProof.Rows L2 RZ
def sp_is_integer : Sp := fun vs H Q _ => ∃ i : Int, vs = [.int i] ∧ Q (.bl true) H
def sp_is_within : Sp := fun vs H Q _ => ∃ i lo hi : Int, vs = [.int i, .int lo, .int hi] ∧ Q (.bl (decide (lo ≤ i) && decide (i ≤ hi))) H
def sp_check_people : Sp := fun vs H Q _ => ∃ i : Int, vs = [.int i] ∧ 1 ≤ i ∧ i ≤ 12 ∧ Q .non H
def sp_is_name : Sp := fun vs H Q _ => ∃ n : Nm, vs = [.str n.str] ∧ ∀ H', Same H H' → Q (.bl true) H'
local macro_rules | `(tactic| walk_at "go") => `(tactic| repeat first
  | refine ⟨_, rfl, ?_⟩ | refine ⟨_, _, rfl, rfl, ?_⟩ | refine ⟨rfl, ?_⟩ | refine iteT ?_ | refine iteF ?_)
local macro_rules | `(tactic| walk_at "gg") => `(tactic| repeat first
  | refine ⟨_, rfl, ?_⟩ | refine ⟨_, _, rfl, rfl, ?_⟩ | refine ⟨rfl, ?_⟩ | refine iteT ?_ | refine iteF ?_
  | refine ⟨_, _, _, _, rfl, rfl, SqT.of (by assumption), rfl, ?_⟩
  | refine ⟨_, _, _, _, rfl, rfl, SqT.of (by assumption), at0, ?_⟩
  | refine ⟨_, _, rfl, .inr (SqT.of (by assumption)), ?_⟩
  | refine ⟨_, _, rfl, .inr (Txt.q_HOLDERS (by assumption) _), rfl, rfl, ?_⟩
  | refine ⟨_, _, rfl, .inr (Txt.q_GIVERS (by assumption) _), rfl, rfl, ?_⟩
  | refine ⟨_, _, rfl, .inr (Txt.q_FACTS (by assumption) _), rfl, rfl, ?_⟩
  | refine ⟨_, _, rfl, .inr (Txt.q_SIGNS (by assumption) _), rfl, rfl, ?_⟩)
theorem letters_all (n : Nm) : ∀ c ∈ n.str.cps.toList, c ∈ ("abcdefghijklmnopqrstuvwxyz" : Str).cps.toList := by
  cases n <;> decide +kernel
def Ex.leaf : Ex → Bool
  | .neg _ => false | .bin _ _ _ => false | _ => true
def sp_is_leaf : Sp := fun vs H Q _ => ∃ v e, vs = [v] ∧ ExAt H v e ∧ e.bd ∧ ∀ H', Same H H' → Q (.bl e.leaf) H'
def Ex.subs : Ex → List Ex
  | .neg a => [a] | .bin _ a b => [a, b] | _ => []
def psum (es : List Ex) : Nat := (es.map Ex.parts).sum
theorem psum_one {es : List Ex} {i : Nat} {a : Ex} (h : es[i]? = some a) : psum (es.take (i + 1)) = psum (es.take i) + a.parts := by
  unfold psum
  rw [List.take_add_one, h, List.map_append, List.sum_append]
  simp
theorem Ex.parts_node {e : Ex} (h : e.leaf = false) : e.parts = psum e.subs + 1 := by
  cases e <;> first | (simp [psum, Ex.parts, Ex.subs]; done) | (simp [psum, Ex.parts, Ex.subs]; omega) | cases h
theorem Ex.parts_leaf {e : Ex} (h : e.leaf = true) : e.parts = 1 := by
  cases e <;> first | rfl | cases h
theorem Ex.subs_depth {e a : Ex} {i n : Nat} (h : e.subs[i]? = some a) (hd : e.depth ≤ n + 1) : a.depth ≤ n := by
  cases e with
  | neg b =>
    have hd : b.depth + 1 ≤ n + 1 := hd
    have hm : a ∈ [b] := List.mem_of_getElem? h
    rw [List.mem_singleton.mp hm]
    omega
  | bin s b c =>
    have hd : Nat.max b.depth c.depth + 1 ≤ n + 1 := hd
    have hm : a ∈ [b, c] := List.mem_of_getElem? h
    have h1 : b.depth ≤ Nat.max b.depth c.depth := Nat.le_max_left _ _
    have h2 : c.depth ≤ Nat.max b.depth c.depth := Nat.le_max_right _ _
    rcases List.mem_cons.mp hm with q | q
    · rw [q]; omega
    · rw [List.mem_singleton.mp q]; omega
  | _ => simp [Ex.subs] at h
theorem Ex.subs_bd {e a : Ex} {i : Nat} (h : e.subs[i]? = some a) (hd : e.bd) : a.bd := by
  cases e with
  | neg b =>
    have hm : a ∈ [b] := List.mem_of_getElem? h
    rw [List.mem_singleton.mp hm]
    exact hd
  | bin s b c =>
    have hm : a ∈ [b, c] := List.mem_of_getElem? h
    rcases List.mem_cons.mp hm with q | q
    · rw [q]; exact hd.1
    · rw [List.mem_singleton.mp q]; exact hd.2
  | _ => simp [Ex.subs] at h
/-- the expressions es stand at xs -/
def ExsAt (H : Hp) (xs : List V) (es : List Ex) : Prop := xs.length = es.length ∧ ∀ (i : Nat) (x : V) (a : Ex), xs[i]? = some x → es[i]? = some a → ExAt H x a
theorem ExsAt.mono {H H' : Hp} {xs : List V} {es : List Ex} (t : Tp H H') (h : ExsAt H xs es) : ExsAt H' xs es := ⟨h.1, fun i x a h1 h2 => (h.2 i x a h1 h2).mono t⟩
theorem ExsAt.get {H : Hp} {xs : List V} {es : List Ex} (h : ExsAt H xs es) {i : Nat} {x : V} (hx : xs[i]? = some x) : ∃ a, es[i]? = some a ∧ ExAt H x a := by
  have hi : i < xs.length := (List.getElem?_eq_some_iff.mp hx).1
  have hj : i < es.length := by rw [← h.1]; exact hi
  exact ⟨es[i], List.getElem?_eq_getElem hj, h.2 i x _ hx (List.getElem?_eq_getElem hj)⟩
theorem ExAt.node {H : Hp} {v : V} {e : Ex} (h : ExAt H v e) (hl : e.leaf = false) : ∃ p xs, v = .ref p ∧ H p = some (.tup (.str e.word :: xs)) ∧ ExsAt H xs e.subs := by
  cases e with
  | neg a =>
    obtain ⟨p, x, rfl, hp, ha⟩ := h
    refine ⟨p, [x], rfl, hp, rfl, fun i y b h1 h2 => ?_⟩
    match i, h1, h2 with
    | 0, h1, h2 =>
      cases h1
      cases h2
      exact ha
  | bin s a b =>
    obtain ⟨p, x, y, rfl, hp, ha, hb⟩ := h
    refine ⟨p, [x, y], rfl, hp, rfl, fun i z c h1 h2 => ?_⟩
    match i, h1, h2 with
    | 0, h1, h2 =>
      cases h1
      cases h2
      exact ha
    | 1, h1, h2 =>
      cases h1
      cases h2
      exact hb
  | _ => cases hl
theorem ExAt.tup {H : Hp} {v : V} {e : Ex} (h : ExAt H v e) : ∃ p xs, v = .ref p ∧ H p = some (.tup (.str e.word :: xs)) ∧ xs ≠ [] := by
  cases e with
  | num z => obtain ⟨p, rfl, hp⟩ := h; exact ⟨p, _, rfl, hp, by simp⟩
  | fact z => obtain ⟨p, rfl, hp⟩ := h; exact ⟨p, _, rfl, hp, by simp⟩
  | hold z n => obtain ⟨p, rfl, hp⟩ := h; exact ⟨p, _, rfl, hp, by simp⟩
  | neg a => obtain ⟨p, x, rfl, hp, _⟩ := h; exact ⟨p, _, rfl, hp, by simp⟩
  | bin s a b => obtain ⟨p, x, y, rfl, hp, _⟩ := h; exact ⟨p, _, rfl, hp, by simp⟩
/-- t[1:] -/
theorem sIx1 (n : Nat) : HT.sIx (n + 1) 0 (some 1) = 1 := by
  have h := HT.sIx_nat (n + 1) 0 1
  have h2 : HT.sIx (n + 1) 0 (some 1) = min 1 (n + 1) := h
  rw [h2]
  omega
theorem cut1 (w : V) (xs : List V) : cutV (w :: xs) (some 1) none = xs := by
  unfold cutV
  have h : HT.sIx (w :: xs).length 0 (some 1) = 1 := sIx1 xs.length
  rw [h]
  show List.take ((w :: xs).length - 1) xs = xs
  exact List.take_of_length_le (Nat.le_refl _)
theorem not_all1 {w : V} {xs : List V} : ¬ (HT.sIx (w :: xs).length 0 (some 1) = 0 ∧ HT.sIx (w :: xs).length (w :: xs).length none = (w :: xs).length) := fun h => by
  have q : HT.sIx (w :: xs).length 0 (some 1) = 1 := sIx1 xs.length
  rw [q] at h
  cases h.1
theorem FnOk.vac {P : Program} {w : World} {K : PySem.W.Frag} {mg : Str → Option Value} {base : Heap} {k : Nat} {f : Addr} {fd : FuncData} {ps : List Str} {sp : Sp} (no : ∀ vs H Q E, ¬ sp vs H Q E) : FnOk P w K mg base CX0 k f fd ps sp :=
  ⟨fun vs H Q E h => absurd h (no vs H Q E), fun A outer s H args us vs Q E _ _ _ _ h => absurd h (no vs H Q E)⟩
def sp_parts_in (n : Nat) : Sp := fun vs H Q _ => ∃ v e, ∃ d : Int, vs = [v, .int d] ∧ ExAt H v e ∧ e.bd ∧ e.depth ≤ n ∧ (n : Int) ≤ d ∧ ∀ H', Same H H' → Q (.int e.parts) H'
def sp_is_expression : Sp := fun vs H Q _ => ∃ v e, vs = [v] ∧ ExAt H v e ∧ e.ok ∧ ∀ H', Same H H' → Q (.bl true) H'
section
variable {P : Program} {w : World} {K : PySem.W.Frag} {mg : Str → Option Value} {base : Heap}
theorem ok_is_integer (T : Txt K mg) : FnOk P w K mg base CX0 1 (a_is_integer K) (fdOf K (a_is_integer K)) ["thing"] sp_is_integer := by
  refine T.F_is_integer.ok sc_is_integer (fun vs H Q E h => ?_) (fun cdv A outer s H vs Q E hr h => ?_)
  · obtain ⟨i, rfl, _⟩ := h
    rfl
  obtain ⟨i, rfl, k⟩ := h
  refine ⟨_, PSs.nox (pss_one (ps_ret (pe_and (pe_callB call_isi (by rfl) T.z_isinstance (by decide +kernel) (pa_cons (pv 0) (pa_cons (pe_bltn (v := .ty "int") rfl T.z_int boot_int rfl) pa_nil))) (pe_one (pe_not (pe_callB call_isi (by rfl) T.z_isinstance (by decide +kernel) (pa_cons (pv 0) (pa_cons (pe_bltn (v := .ty "bool") rfl T.z_bool boot_bool rfl) pa_nil)))))))), ?_⟩
  walk_at "go"
  refine ⟨_, _, _, _, true, rfl, .ty _, .base (.int _), kit_ty (by decide +kernel), ?_⟩
  walk_at "go"
  refine ⟨_, _, _, _, false, rfl, .ty _, .base (.int _), kit_ty (by decide +kernel), ?_⟩
  walk_at "go"
  exact k
theorem ok_is_within (T : Txt K mg) : FnOk P w K mg base CX0 2 (a_is_within K) (fdOf K (a_is_within K)) ["thing", "low", "high"] sp_is_within := by
  have G_is_integer := ok_is_integer (P := P) (w := w) (base := base) T
  refine T.F_is_within.ok sc_is_within (fun vs H Q E h => ?_) (fun cdv A outer s H vs Q E hr h => ?_)
  · obtain ⟨i, lo, hi, rfl, _⟩ := h
    rfl
  obtain ⟨i, lo, hi, rfl, k⟩ := h
  refine ⟨_, PSs.nox (pss_one (ps_ret (pe_and (pe_call G_is_integer (hr.mono (by decide)) rfl T.g_is_integer T.F_is_integer.kp T.b_is_integer .nil pass0 (pa_cons (pv 0) pa_nil)) (pe_one (pe_chain op_le op_le (pv 1) (pv 0) (pv 2)))))), ?_⟩
  refine ⟨_, rfl, i, rfl, ?_⟩
  walk_at "go"
  cases h1 : decide (lo ≤ i) with
  | true =>
    rw [h1] at k
    walk_at "go"
    exact k
  | false =>
    rw [h1] at k
    exact iteF k
theorem ok_check_people (T : Txt K mg) : FnOk P w K mg base CX0 3 (a_check_people K) (fdOf K (a_check_people K)) ["n"] sp_check_people := by
  have G_is_within := ok_is_within (P := P) (w := w) (base := base) T
  refine T.F_check_people.ok sc_check_people (fun vs H Q E h => ?_) (fun cdv A outer s H vs Q E hr h => ?_)
  · obtain ⟨i, rfl, _⟩ := h
    rfl
  obtain ⟨i, rfl, h1, h2, k⟩ := h
  refine ⟨_, PSs.nox (pss_one (ps_if (pt_not (pt_val (pe_call G_is_within (hr.mono (by decide)) rfl T.g_is_within T.F_is_within.kp T.b_is_within .nil pass0 (pa_cons (pv 0) (pa_cons pe_int (pa_cons (pe_gc rfl T.i_MOST_PEOPLE) pa_nil))))))
    (pss_one ps_never)
    pss_nil)), ?_⟩
  refine ⟨_, rfl, i, 1, 12, rfl, ?_⟩
  walk_at "go"
  rw [decide_eq_true h1, decide_eq_true h2]
  exact iteF k
theorem ok_is_name (T : Txt K mg) : FnOk P w K mg base CX0 1 (a_is_name K) (fdOf K (a_is_name K)) ["thing"] sp_is_name := by
  refine T.F_is_name.ok sc_is_name (fun vs H Q E h => ?_) (fun cdv A outer s H vs Q E hr h => ?_)
  · obtain ⟨i, rfl, _⟩ := h
    rfl
  obtain ⟨n, rfl, k⟩ := h
  have hl : n.str.length ≤ sizeLine := by cases n <;> decide +kernel
  have hs : n.str.cps.size < 100000 := by cases n <;> decide +kernel
  have hl8 : decide ((1 : Int) ≤ (n.str.length : Nat)) = true ∧ decide (((n.str.length : Nat) : Int) ≤ 8) = true := by cases n <;> decide +kernel
  refine ⟨_, PSs.nox (pss_cons (ps_if (PW.pt (pw_or (pt_not (pt_val (pe_callB call_isi (by rfl) T.z_isinstance (by decide +kernel) (pa_cons (pv 0) (pa_cons (pe_bltn (v := .ty "str") rfl T.z_str boot_str rfl) pa_nil))))) (pw_or (pt_not (pt_chain op_le op_le pe_int (pe_callB call_len_str (by rfl) T.z_len boot_len (pa_cons (pv 0) pa_nil)) (pe_gc rfl T.i_MOST_NAME))) (pw_or1 (pt_cmpR op_in_seq (pv 0) (pe_op op_catA (pe_op op_catA (pe_gc (v := .ref _) rfl ⟨_, T.g_STATED, rfl⟩) (pe_gc (v := .ref _) rfl ⟨_, T.g_SAID, rfl⟩)) (pe_gc (v := .ref _) rfl ⟨_, T.g_FACTS, rfl⟩)) (by rfl))))))
    (pss_one (ps_ret pe_bl))
    pss_nil)
    (pss_one (ps_ret (pe_callB (cr_all rfl) (by rfl) T.z_all (by decide +kernel) (pa_cons (pe_lc (own := [("sign", 1)]) rfl sc_is_name.nd (pi_str (pv 0)) (blkOk_by (own := [("sign", 1)]) (N := ["thing", "sign"]) (sc := defScope s_is_name) (by decide +kernel)) (fun _ _ _ _ _ => (pg_name (i := 1) sc_is_name.nd rfl (Or.inl rfl))) (fun _ _ _ _ _ => pts_nil) (fun _ _ _ _ _ => (pe_cmpR op_in_sign (pv 1) (pe_gc rfl T.t_LETTERS) (by rfl)))) pa_nil))))), ?_⟩
  walk_at "go"
  refine ⟨_, _, _, _, true, rfl, .ty _, .base (.str _), kit_ty (by decide +kernel), ?_⟩
  walk_at "go"
  refine ⟨hl, ?_⟩
  walk_at "go"
  rw [hl8.1]
  walk_at "go"
  rw [hl8.2]
  walk_at "go"
  refine ⟨_, _, _, _, rfl, rfl, T.q_STATED H, T.q_SAID H, szl (by decide), (fun z => nomatch z), (fun _ z => nomatch z), fun _ _ p hp => ?_⟩
  refine ⟨_, _, _, _, rfl, rfl, SqT.of upd_same, T.q_FACTS _, szl (by decide), (fun z => nomatch z), (fun _ z => nomatch z), fun _ _ q hq => ?_⟩
  have s2 : Same H (upd (upd H p (.tup (vSTATED ++ vSAID))) q (.tup (vSTATED ++ vSAID ++ vFACTS))) := (same_new hp).trans (same_new hq)
  refine ⟨_, _, rfl, .inr (SqT.of upd_same), rfl, by decide +kernel, ?_⟩
  have hin : inV (.str n.str) (vSTATED ++ vSAID ++ vFACTS) = false := by cases n <;> decide +kernel
  walk_at "go"
  refine ifF hin ?_
  walk_at "go"
  intro D hD
  refine lc_it walk_str (Lc _ D fun _ => .bl true) (Lc.zero hD) (fun _ _ _ _ => trivial) (fun i x H1 H2 hi p y => ?_) (fun H1 p => ?_)
  · obtain ⟨rfl, c, hc, rfl⟩ := y
    have hm : decide (c ∈ ("abcdefghijklmnopqrstuvwxyz" : Str).cps.toList) = true := decide_eq_true (letters_all n c (List.mem_of_getElem? (by rw [Array.getElem?_toList]; exact hc)))
    walk_at "go"
    exact p.step (Same.refl _) (by rw [hm]) (Nat.lt_trans hi hs)
  · refine ⟨D, (List.range n.str.cps.size).map fun _ => true, rfl, SqL.of (by rw [p.at_, List.map_map]; rfl), ?_⟩
    have e : (((List.range n.str.cps.size).map fun _ => true).all id) = true := by simp
    rw [e]
    exact k _ (s2.trans p.sm)
theorem ok_is_leaf (T : Txt K mg) : FnOk P w K mg base CX0 3 (a_is_leaf K) (fdOf K (a_is_leaf K)) ["thing"] sp_is_leaf := by
  have G_is_within := ok_is_within (P := P) (w := w) (base := base) T
  have G_is_name := ok_is_name (P := P) (w := w) (base := base) T
  refine T.F_is_leaf.ok sc_is_leaf (fun vs H Q E h => ?_) (fun cdv A outer s H vs Q E hr h => ?_)
  · obtain ⟨v, e, rfl, _⟩ := h
    rfl
  obtain ⟨v, e, rfl, he, hb, k⟩ := h
  refine ⟨_, PSs.nox (pss_cons (ps_if (pt_cmpR op_ne (pe_callB call_len_seq (by rfl) T.z_len boot_len (pa_cons (pv 0) pa_nil)) pe_int (nomark _))
    (pss_one (ps_ret pe_bl))
    pss_nil)
    (pss_cons (ps_if (pt_cmpR op_eq (pe_ix ix_tup (pv 0) pe_int (fun _ _ => rfl)) pe_str (nomark _))
    (pss_one (ps_ret (pe_call G_is_within (hr.mono (by decide)) rfl T.g_is_within T.F_is_within.kp T.b_is_within .nil pass0 (pa_cons (pe_ix ix_tup (pv 0) pe_int (fun _ _ => rfl)) (pa_cons (pe_un un_neg (pe_gc rfl T.i_MOST_NUMBER)) (pa_cons (pe_gc rfl T.i_MOST_NUMBER) pa_nil))))))
    pss_nil)
    (pss_cons (ps_if (pt_cmpR op_eq (pe_ix ix_tup (pv 0) pe_int (fun _ _ => rfl)) pe_str (nomark _))
    (pss_one (ps_ret (pe_and (pe_callB call_isi (by rfl) T.z_isinstance (by decide +kernel) (pa_cons (pe_ix ix_tup (pv 0) pe_int (fun _ _ => rfl)) (pa_cons (pe_bltn (v := .ty "str") rfl T.z_str boot_str rfl) pa_nil))) (pe_one (pe_cmpR op_in_seq (pe_ix ix_tup (pv 0) pe_int (fun _ _ => rfl)) (pe_gc (v := .ref _) rfl ⟨_, T.g_FACTS, rfl⟩) (by rfl))))))
    pss_nil)
    (pss_one (ps_ret (pe_and (pe_cmpR op_in_seq (pe_ix ix_tup (pv 0) pe_int (fun _ _ => rfl)) (pe_gc (v := .ref _) rfl ⟨_, T.g_HOLDERS, rfl⟩) (by rfl)) (pe_one (pe_call G_is_name (hr.mono (by decide)) rfl T.g_is_name T.F_is_name.kp T.b_is_name .nil pass0 (pa_cons (pe_ix ix_tup (pv 0) pe_int (fun _ _ => rfl)) pa_nil))))))))), ?_⟩
  cases e with
  | num z =>
    obtain ⟨p, rfl, hp⟩ := he
    walk_at "gg"
    refine ⟨z, _, _, rfl, ?_⟩
    have e1 : (decide (-big ≤ z) && decide (z ≤ big)) = true := by rw [decide_eq_true hb.1, decide_eq_true hb.2]; rfl
    have e1 : (decide (-1000000000000000000 ≤ z) && decide (z ≤ 1000000000000000000)) = true := e1
    rw [e1]
    exact k _ (Same.refl _)
  | fact f =>
    obtain ⟨p, rfl, hp⟩ := he
    walk_at "gg"
    refine ⟨_, _, _, _, true, rfl, .ty _, .base (.str _), kit_ty (by decide +kernel), ?_⟩
    walk_at "gg"
    have e1 : inV (.str f.str) vFACTS = true := by cases f <;> decide +kernel
    refine Eq.mpr (congrArg (fun b => Q (.bl b) H) e1) (k _ (Same.refl _))
  | hold h n =>
    obtain ⟨p, rfl, hp⟩ := he
    have e1 : decide (V.str h.str = V.str "num") = false := by cases h <;> decide +kernel
    have e2 : decide (V.str h.str = V.str "fact") = false := by cases h <;> decide +kernel
    have e3 : inV (.str h.str) vHOLDERS = true := by cases h <;> decide +kernel
    walk_at "gg"
    refine ifF e1 ?_
    walk_at "gg"
    refine ifF e2 ?_
    walk_at "gg"
    refine ifT e3 ?_
    walk_at "gg"
    exact fun H' s => k _ s
  | neg a =>
    obtain ⟨p, x, rfl, hp, _⟩ := he
    walk_at "gg"
    exact k _ (Same.refl _)
  | bin s a b =>
    obtain ⟨p, x, y, rfl, hp, _⟩ := he
    walk_at "gg"
    exact k _ (Same.refl _)
theorem ok_parts_in (T : Txt K mg) : ∀ n : Nat, FnOk P w K mg base CX0 (3 + n) (a_parts_in K) (fdOf K (a_parts_in K)) ["thing", "deep"] (sp_parts_in n)
  | 0 => FnOk.vac fun vs H Q E h => by
    obtain ⟨v, e, d, _, _, _, h0, _⟩ := h
    have := e.depth_pos
    omega
  | n + 1 => by
    have G_is_leaf := ok_is_leaf (P := P) (w := w) (base := base) T
    have G_parts_in := ok_parts_in T n
    refine T.F_parts_in.ok sc_parts_in (fun vs H Q E h => ?_) (fun cdv A outer s H vs Q E hr h => ?_)
    · obtain ⟨v, e, d, rfl, _⟩ := h
      rfl
    obtain ⟨v, e, d, rfl, he, hb, hd, hn, k⟩ := h
    have hr : Room (n + 3) _ := hr.mono (by simp; omega)
    refine ⟨_, PSs.nox (pss_cons (ps_if (PW.pt (pw_or (pt_not (pt_val (pe_callB call_isi (by rfl) T.z_isinstance (by decide +kernel) (pa_cons (pv 0) (pa_cons (pe_bltn (v := .ty "tuple") rfl T.z_tuple boot_tuple rfl) pa_nil))))) (pw_or (pt_cmpR op_lt (pe_callB call_len_seq (by rfl) T.z_len boot_len (pa_cons (pv 0) pa_nil)) pe_int (nomark _)) (pw_or (pt_not (pt_val (pe_callB call_isi (by rfl) T.z_isinstance (by decide +kernel) (pa_cons (pe_ix ix_tup (pv 0) pe_int (fun _ _ => rfl)) (pa_cons (pe_bltn (v := .ty "str") rfl T.z_str boot_str rfl) pa_nil))))) (pw_or1 (pt_cmpR op_eq (pv 1) pe_int (nomark _)))))))
    (pss_one (ps_ret pe_non))
    pss_nil)
    (pss_cons (ps_if (pt_val (pe_call G_is_leaf (hr.mono (by omega)) rfl T.g_is_leaf T.F_is_leaf.kp T.b_is_leaf .nil pass0 (pa_cons (pv 0) pa_nil)))
    (pss_one (ps_ret pe_int))
    pss_nil)
    (C8.pss_cut (ps_if (PW.pt (pw_or (PW.pt (pw_and (pt_cmpR op_ne (pe_ix ix_tup (pv 0) pe_int (fun _ _ => rfl)) pe_str (nomark _)) (pw_and1 (pt_cmpR op_notIn_seq (pe_ix ix_tup (pv 0) pe_int (fun _ _ => rfl)) (pe_gc (v := .ref _) rfl ⟨_, T.g_SIGNS, rfl⟩) (by rfl))))) (pw_or1 (pt_cmpR op_ne (pe_callB call_len_seq (by rfl) T.z_len boot_len (pa_cons (pv 0) pa_nil)) (pe_ifExp (pt_cmpR op_eq (pe_ix ix_tup (pv 0) pe_int (fun _ _ => rfl)) pe_str (nomark _)) pe_int pe_int) (nomark _)))))
    (pss_one (ps_ret pe_non))
    pss_nil)
    (pss_cons (ps_set (i := 2) sc_parts_in.nd rfl (Or.inl rfl) pe_int)
    (pss_cons (ps_for PassesOwn.never rfl (pi_tup (pe_slice sl_tupA (pv 0) (po_some pe_int) po_none)) (pg_name (i := 3) sc_parts_in.nd rfl (Or.inl rfl))
    (pss_cons (ps_set (i := 4) sc_parts_in.nd rfl (Or.inl rfl) (pe_call G_parts_in (hr.mono (by omega)) rfl T.g_parts_in T.F_parts_in.kp T.b_parts_in .nil pass0 (pa_cons (pv 3) (pa_cons (pe_op op_sub (pv 1) pe_int) pa_nil))))
    (pss_cons (ps_if (pt_cmpR op_isN (pv 4) pe_non (nomark _))
    (pss_one (ps_ret pe_non))
    pss_nil)
    (pss_one (ps_aug (i := 2) sc_parts_in.nd rfl (Or.inl rfl) (pv 4) ip_add)))))
    (pss_one (ps_ret (pv 2)))))))), ?_⟩
    obtain ⟨p, xs, rfl, hp, hx⟩ := he.tup
    walk_at "gg"
    refine ⟨_, _, _, _, true, rfl, .ty _, .base (.tup hp), kit_ty (by decide +kernel), ?_⟩
    walk_at "gg"
    have h1 : decide (((V.str e.word :: xs).length : Int) < 2) = false := decide_eq_false fun z => by
      have z2 : ((xs.length + 1 : Nat) : Int) < 2 := z
      cases xs with
      | nil => exact hx rfl
      | cons a r => rw [List.length_cons] at z2; omega
    have h2 : decide (V.int d = V.int 0) = false := decide_eq_false fun z => by
      injection z with z
      omega
    refine ifF h1 ?_
    walk_at "gg"
    refine ⟨_, _, _, _, true, rfl, .ty _, .base (.str _), kit_ty (by decide +kernel), ?_⟩
    walk_at "gg"
    refine ifF h2 ?_
    walk_at "gg"
    refine ⟨_, e, rfl, he, hb, fun H1 s1 => ?_⟩
    walk_at "gg"
    refine if2 (fun hl => ?_) (fun hl => ?_)
    · have q := k H1 s1
      rw [Ex.parts_leaf hl] at q
      exact q
    clear h1 hx hp xs
    obtain ⟨p', xs, ep, hp, hx⟩ := (he.mono (same_tp s1)).node hl
    cases ep
    refine ⟨fun σ' H' => σ' = [some (.ref p), some (.int d), none, none, none] ∧ H' = H1, ?_, ?_⟩
    · have e1 : xs.length = e.subs.length := hx.1
      cases e with
      | neg a =>
        obtain ⟨x, rfl⟩ : ∃ x, xs = [x] := by
          match xs, e1 with
          | [x], _ => exact ⟨x, rfl⟩
        walk_at "gg"
        rfl
      | bin s a b =>
        obtain ⟨x, y, rfl⟩ : ∃ x y, xs = [x, y] := by
          match xs, e1 with
          | [x, y], _ => exact ⟨x, y, rfl⟩
        have f1 : decide (V.str s.str = V.str "not") = false := by cases s <;> decide +kernel
        have f2 : inV (V.str s.str) vSIGNS = true := by cases s <;> decide +kernel
        walk_at "gg"
        refine ifT (congrArg not f1) ?_
        walk_at "gg"
        refine ifF (congrArg not f2) ?_
        walk_at "gg"
        refine ifF f1 ?_
        walk_at "gg"
        rfl
      | _ => cases hl
    rintro σ' H' ⟨rfl, rfl⟩
    walk_at "gg"
    refine ⟨_, _, rfl, SqT.of hp, (fun z => absurd z not_all1), fun _ q hq => ?_⟩
    rw [cut1]
    have hx2 : ExsAt (upd H' q (.tup xs)) xs e.subs := hx.mono (same_tp (same_new hq))
    refine ⟨q, rfl, ⟨_, SqT.of upd_same⟩, for_tup (xs := xs) (fun i σ H2 => ∃ a b, σ = [some (.ref p), some (.int d), some (.int ((psum (e.subs.take i) + 1 : Nat) : Int)), a, b] ∧ Same (upd H' q (.tup xs)) H2) ⟨none, none, rfl, Same.refl _⟩ (fun i σ H2 _ ⟨_, _, _, s2⟩ => SqT.of (s2 _ _ upd_same)) ?_ ?_⟩
    · rintro i x σ H2 hi ⟨a, b, rfl, s2⟩
      obtain ⟨c, hc, hcx⟩ := (hx2.mono (same_tp s2)).get hi
      walk_at "gg"
      refine ⟨_, c, _, rfl, hcx, Ex.subs_bd hc hb, Ex.subs_depth hc hd, by omega, fun H3 s3 => ?_⟩
      walk_at "gg"
      refine ⟨some x, some (.int (c.parts : Int)), ?_, s2.trans s3⟩
      rw [psum_one hc]
      have e3 : ((psum (e.subs.take i) + 1 : Nat) : Int) + (c.parts : Int) = ((psum (e.subs.take i) + c.parts + 1 : Nat) : Int) := by omega
      rw [← e3]
      rfl
    · rintro σ H2 ⟨a, b, rfl, s2⟩
      walk_at "gg"
      have q1 := k H2 ((s1.trans (same_new hq)).trans s2)
      rw [Ex.parts_node hl] at q1
      rw [hx.1, List.take_length]
      exact q1
end
end K6
set_option maxHeartbeats 4000000
/-! Rules of our own: enumerate over a tuple; // by any divisor; a list's item by place for an augmented store. -/
namespace K6
open PySem PySem.Spec PyProof.Rows L2 RZ
/-- any divisor but 0 of less than 9000 bits -/
def CDivP (_ j : Int) : Prop := j ≠ 0 ∧ j.natAbs.log2 < 9000
theorem op_fdivP {X : Cx} : OpR X (binaryOp .FloorDiv) (rI CDivP fun i j => .int (i.fdiv j)) :=
  opI fun _ _ _ _ _ _ _ hc q => floordiv_int hc.1 q (.inl (PyProof.noPylong_of_log2 hc.2))
theorem cdivP {i j : Int} (h : j ≠ 0) (hb : within j) : CDivP i j := by
  refine ⟨h, Nat.lt_of_lt_of_le (PySem.Flt.log2_lt_of (show 0 < 64 by decide) ?_) (show 64 ≤ 9000 by decide)⟩
  have h1 : -1000000000000000000 ≤ j := hb.1
  have h2 : j ≤ 1000000000000000000 := hb.2
  omega
/-! ### enumerate(t), t a tuple -/
set_option maxHeartbeats 1000000 in
theorem meets_en1 {v : Value} {o : Obj} {F : Heap → Prop} (B : Begins v o F) :
    Meets (Builtin.«enumerate.__new__» ⟨[.type "enumerate", v], []⟩) (fun _ R s => F s.heap ∧ R (.ok (.ret (.ref (s.heap.push o).objs.size)))
      { s with heap := (s.heap.push o).push { cls := .type "enumerate", data := .fields #[.none, .bool false, .ref s.heap.objs.size, rawInt 0, .none, .none] } }) :=
  .of_wp fun prog w A R s hh => by
    obtain ⟨hp, g, d, tk, os⟩ := s
    obtain ⟨h1, h⟩ := hh
    have hsub := sub_enumerate
    have q1 : ∀ {A' : Around} {E Q : Value → Shared → Prop}, Q (.ref hp.objs.size) ⟨hp.push o, g, d, tk, os⟩ → PySem.wpAny (model prog w) A' (pyIter v) Q E ⟨hp, g, d, tk, os⟩ := fun q => B.iter prog w _ _ ⟨hp, g, d, tk, os⟩ _ h1 q
    wp_walk using q1
    refine wpAny_stack_any fun st => wpAny_pure ?_
    split
    · rename_i c _ _ _ _ _
      cases (c == Value.type "enumerate") <;> (wp_walk using q1; exact ⟨_, rfl, h⟩)
    · wp_walk using q1
      exact ⟨_, rfl, h⟩
section
variable {prog : Program} {w : World} {A : Around} {E : Value → Shared → Prop} {s : Shared}
theorem call_en1 {v : Value} {o : Obj} {G0 : Heap → Prop} {Q : Value → Shared → Prop} (B : Begins v o G0) (hF : G0 s.heap)
    (h : ∀ h', IsEnum h' (s.heap.objs.size + 1) s.heap.objs.size 0 .none → h'.get? s.heap.objs.size = some o → h'.objs.size = s.heap.objs.size + 2 → (∀ b u, s.heap.get? b = some u → h'.get? b = some u) → Q (.ref (s.heap.objs.size + 1)) { s with heap := h' }) :
    PySem.wpAny (model prog w) A (call (.type "enumerate") [v]) Q E s := by
  refine callType_new F.called_enumerate (by decide) (F.typeCall_enumerate_1 _) (F.newCall_enumerate_1 _) (fun obj => F.args_object_init_2 obj _) F.entry_enumerate_new (meets_en1 B) ⟨hF, ?_⟩
  have hz : (s.heap.push o).objs.size = s.heap.objs.size + 1 := Heap.size_push ..
  show _ ∧ _
  rw [hz]
  have he := Heap.get?_push_size (s.heap.push o) (o := { cls := .type "enumerate", data := .fields #[.none, .bool false, .ref s.heap.objs.size, rawInt 0, .none, .none] }) rfl
  rw [hz] at he
  exact ⟨⟨_, he, rfl⟩, h _ he (Heap.get?_push_of_some _ (Heap.get?_push_size _ B.free)) (by rw [Heap.size_push, hz]) fun b u q => Heap.get?_push_of_some _ (Heap.get?_push_of_some _ q)⟩
end
/-- the tuple at a, each item in a new pair with its number -/
def IteT (K : PySem.W.Frag) (a : Addr) : It where
  go := fun i H => ∃ (xs : List V) (x : V), SqT K H a xs ∧ xs[i]? = some x
  yld := fun i H v H' => ∃ p x, v = .ref p ∧ H p = none ∧ H' = upd H p (.tup [.int ((i : Nat) : Int), x]) ∧ ∀ xs, SqT K H a xs → xs[i]? = some x
  stop := fun i H => ∃ xs : List V, SqT K H a xs ∧ xs.length = i
theorem turn_enT {P : Program} {w : World} {K : PySem.W.Frag} {elts : List Expr} {kk : Nat} {tpos : Pos} (a e it : Addr) :
    Turn P w K (.Tuple elts kk tpos) (IteT K a) [e, it] e (fun i h => (∃ old, IsEnum h e it ((i : Nat) : Int) old) ∧ h.IsTupleIter it a i ∧ e ≠ it) where
  mem := List.mem_cons_self ..
  obj := fun i h st b hb => by
    obtain ⟨⟨old, he⟩, ⟨o, ho, hc, hd⟩, _⟩ := st
    rcases List.mem_cons.mp hb with z | z
    · subst z
      exact ⟨_, he, fun v q => nomatch q⟩
    · obtain rfl := List.mem_singleton.mp z
      exact ⟨o, ho, fun v q => by rw [hd] at q; cases q⟩
  keep := fun i h h' st k => by
    obtain ⟨⟨old, he⟩, hi, hne⟩ := st
    exact ⟨⟨old, k e (by simp) _ he⟩, hi.at fun o q => k it (by simp) o q, hne⟩
  item := by
    intro X hP hw hK hc i pins s σ H E I hf st hg
    subst hP hw hK
    obtain ⟨⟨old, he⟩, hit, hne⟩ := st
    obtain ⟨xs, x, hq, hx⟩ := hg
    obtain ⟨its, rv, p, hz⟩ := I.tuple hq
    obtain ⟨u, hu, ru⟩ := rv.get hx
    have hel : e < s.heap.objs.size := Heap.lt_size he
    have hil : it < s.heap.objs.size := by
      obtain ⟨_, q, _⟩ := hit
      exact Heap.lt_size q
    have nai : a ≠ it := fun z => by
      subst z
      obtain ⟨o1, q1, q2, _⟩ := hit
      obtain ⟨o2, q3, q4, _⟩ := p
      rw [q1] at q3
      cases q3
      rw [q2] at q4
      exact absurd q4 (by simp)
    have nae : a ≠ e := fun z => by
      subst z
      obtain ⟨o2, q3, q4, _⟩ := p
      have he2 : s.heap.get? a = _ := he
      rw [he2] at q3
      cases q3
      exact absurd q4 (by simp)
    have D := Draws.tuple (prog := X.prog) (w := X.w) (A := X.A.in1) (show X.A.in1.handled = none from I.ok.hd hc) it a nai its.toArray
    have hlt : i < its.toArray.size := by
      have := (List.getElem?_eq_some_iff.mp hu).1
      simpa using this
    refine wpAny_pyNext_enum_itemD D he ⟨hit, p⟩ hlt hne (by simp [hne, nae.symm]) fun u' h' tk hP' ho hst' hT hsz hk => ?_
    have eu : u' = u := by
      have q : its[i]? = some u' := by simpa using hP'
      rw [hu] at q
      exact (Option.some.inj q).symm
    subst eu
    refine ⟨_, rfl, wpAny_letOwnedTupleGo_enum (s := { s with heap := h', toks := tk + 1 }) ho fun h'' he' sb => ?_⟩
    have hT2 : h''.get? s.heap.objs.size = some { cls := .type "tuple", data := .seq #[.int i tk, u'] } := (sb.2 _ (Nat.ne_of_gt hel)).trans hT
    have new : ObjOk X.prog X.w (upd H s.heap.objs.size (.tup [.int ((i : Nat) : Int), x])) h'' s.heap.objs.size (.tup [.int ((i : Nat) : Int), x]) :=
      ⟨szl (show 2 ≤ 100000 by decide), [.int i tk, u'], .cons ⟨_, rfl⟩ (.cons ru .nil), _, hT2, rfl, _, rfl⟩
    have I1 : Inv X pins σ (upd H s.heap.objs.size (.tup [.int ((i : Nat) : Int), x])) { s with heap := h'', toks := tk + 1 } := by
      refine I.turnedNew (ch := [e, it]) (fun b ob hb q => ?_) hf (Nat.le_refl _) new
      have n1 : b ≠ e := fun z => hb (by simp [z])
      have n2 : b ≠ it := fun z => hb (by simp [z])
      exact (sb.2 b n1).trans (hk b ob n1 n2 q)
    refine ⟨.ref s.heap.objs.size, _, I1, rfl, ⟨_, x, rfl, I.hok.fresh (Nat.le_refl _), rfl, fun ys hy => by rw [I.tuple_inj hy hq]; exact hx⟩, ⟨⟨u', ?_⟩, hst'.1.at fun o q => (sb.2 it hne.symm).trans q, hne⟩, fun b hb => ?_⟩
    · have e1 : ((i + 1 : Nat) : Int) = (i : Int) + 1 := by omega
      rw [e1]
      exact he'
    · have hb' : b < s.heap.objs.size := by
        rcases List.mem_cons.mp hb with z | z
        · rw [z]; exact hel
        · rw [List.mem_singleton.mp z]; exact hil
      rw [upd_ne (Nat.ne_of_lt hb')]
      exact (hf b hb).1
  done := by
    intro X hP hw hK hc i pins s σ H E I hf st hg
    subst hP hw hK
    obtain ⟨⟨old, he⟩, hit, hne⟩ := st
    obtain ⟨xs, hq, hx⟩ := hg
    obtain ⟨its, rv, p, hz⟩ := I.tuple hq
    have nai : a ≠ it := fun z => by
      subst z
      obtain ⟨o1, q1, q2, _⟩ := hit
      obtain ⟨o2, q3, q4, _⟩ := p
      rw [q1] at q3
      cases q3
      rw [q2] at q4
      exact absurd q4 (by simp)
    obtain ⟨f0, f1, f2, f3, f4, f5⟩ := hf it (by simp)
    have hl := rv.length
    have D := Draws.tuple (prog := X.prog) (w := X.w) (A := X.A.in1) (show X.A.in1.handled = none from I.ok.hd hc) it a nai its.toArray
    have ei : i = its.toArray.size := by
      rw [← hx, hl]
      simp
    exact wpAny_pyNext_enum_endD D he (ei ▸ ⟨hit, p⟩) fun h' eb => ⟨rfl, I.turned (t' := s.toks) (fun b o hb q => eb b o hb q) f0 f1 f3 f4 f5⟩
  self := fun A i s Q E st h => by
    obtain ⟨⟨_, he⟩, _⟩ := st
    exact wpAny_pyIter_enum he h
def iEnT (K : PySem.W.Frag) (ta : TA) : TI := fun σ H R => ta σ H fun vs H1 => ∃ a xs, vs = [.ref a] ∧ SqT K H1 a xs ∧ R (IteT K a) H1
theorem pi_enumT {X : Cx} {e : Expr} {ta : TA} {p pos tpos : Pos} {elts : List Expr} {kk : Nat} (hg : Gl X "enumerate") (hm : X.mg "enumerate" = none) (ha : PA X [e] ta) (hs : starEach [e] X.env = [(false, eval e X.env)] := by rfl) :
    PI X (.Tuple elts kk tpos) (.Call (.Name "enumerate" p) [e] [] pos) (iEnT X.K ta) := by
  constructor
  intro pins s σ H R I h
  refine Call_ (ld_blt I hg hm boot_enumerate (PyProof.Rows.callWith_type1 (thn (ha.run pos pins s σ H _ I h) ?_) hs rfl))
  rintro us s1 ⟨vs, H1, I1, r1, a, xs, rfl, hq, q⟩
  cases r1 with
  | cons r rr =>
    cases rr
    cases r
    obtain ⟨its, rv, p', hz⟩ := I1.tuple hq
    refine call_en1 (begins_tuple a its.toArray) p' fun h' he hit hsz hk => wpAny_pyIter_enum he ?_
    have I2 : Inv X pins σ H1 { s1 with heap := h' } := I1.kept (t' := s1.toks) hk
    refine ⟨s1.heap.objs.size + 1, [s1.heap.objs.size + 1, s1.heap.objs.size], _, _, H1, rfl, I2, turn_enT a (s1.heap.objs.size + 1) s1.heap.objs.size, ⟨⟨.none, he⟩, ⟨_, hit, rfl, rfl⟩, Nat.succ_ne_self _⟩, fun b hb => ?_, q⟩
    have hle : s1.heap.objs.size ≤ b := by
      rcases List.mem_cons.mp hb with z | z
      · rw [z]; exact Nat.le_add_right _ _
      · rw [List.mem_singleton.mp z]; exact Nat.le_refl _
    exact I1.fpOk hle (I1.hok.fresh hle)
theorem walk_enumT {K : PySem.W.Frag} {a : Addr} {xs : List V} : Walk (IteT K a) xs.length (fun H => SqT K H a xs) (YPair (fun i => some (.int ((i : Nat) : Int))) (fun i => xs[i]?)) := by
  refine ⟨fun i H hi h => ⟨xs, xs[i], h, List.getElem?_eq_getElem hi⟩, fun H h => ⟨xs, h, rfl⟩, fun i H v H' hi h y => ?_⟩
  obtain ⟨p, x, e1, e2, e3, e4⟩ := y
  exact ⟨p, _, x, e1, e2, e3, rfl, e4 xs h⟩
/-- xs[i] by values, the place not below 0 -/
def rGetL (K : PySem.W.Frag) : V → V → Hp → VK → Prop := fun o i H Q => ∃ p xs v, ∃ j : Nat, o = .ref p ∧ i = .int (j : Int) ∧ SqL K H p xs ∧ xs[j]? = some v ∧ Q v H
theorem get_list {X : Cx} : PGet X (rGetL X.K) := by
  rintro pins s σ H o i ov iv Q I ro ri ⟨p, xs, v, j, rfl, rfl, hq, hj, q⟩
  cases ro
  obtain ⟨t, rfl⟩ := ri
  obtain ⟨its, r, pl, hz⟩ := I.list hq
  obtain ⟨u, hu, ru⟩ := r.get hj
  have hl := r.length
  have hn := line63
  have hlt : j < its.length := (List.getElem?_eq_some_iff.mp hu).1
  exact wpAny_getItem_list (Q := EP X pins σ Q) pl.isList (x := u) (Int.natCast_nonneg j) (by omega) (by simpa using hu) ⟨v, H, I, ru, q⟩
end K6
set_option maxHeartbeats 4000000
/-! The checks of statements, blocks; policies. -/
namespace K6
open PySem PySem.Spec PyProof.Rows L2 RZ
local macro_rules | `(tactic| walk_at "gg") => `(tactic| repeat first
  | refine ⟨_, rfl, ?_⟩ | refine ⟨_, _, rfl, rfl, ?_⟩ | refine ⟨rfl, ?_⟩ | refine iteT ?_ | refine iteF ?_
  | refine ⟨_, _, _, _, rfl, rfl, SqT.of (by assumption), rfl, ?_⟩
  | refine ⟨_, _, _, _, rfl, rfl, SqT.of (by assumption), at0, ?_⟩
  | refine ⟨_, _, _, _, rfl, rfl, SqL.of (by assumption), rfl, ?_⟩
  | refine ⟨_, _, rfl, .inr (SqT.of (by assumption)), ?_⟩
  | refine ⟨_, _, rfl, .inl (SqL.of (by assumption)), ?_⟩
  | refine ⟨_, _, rfl, .inr (SqT.of upd_same), rfl, rfl, ?_⟩
  | refine ⟨_, _, rfl, .inr (Txt.q_HOLDERS (by assumption) _), rfl, rfl, ?_⟩
  | refine ⟨_, _, rfl, .inr (Txt.q_GIVERS (by assumption) _), rfl, rfl, ?_⟩
  | refine ⟨_, _, rfl, .inr (Txt.q_FACTS (by assumption) _), rfl, rfl, ?_⟩
  | refine ⟨_, _, rfl, .inr (Txt.q_SIGNS (by assumption) _), rfl, rfl, ?_⟩
  | refine ⟨_, _, rfl, SqT.of upd_same, rfl, ?_⟩
  | refine ⟨_, _, rfl, SqT.of (by assumption), rfl, ?_⟩
  | refine ⟨_, _, rfl, ?_⟩
  | refine .inl ⟨_, rfl, ?_⟩
  | refine .inr ⟨_, rfl, ?_⟩
  | refine ⟨(by show (0 : Int) < _; decide), ?_⟩
  | refine ⟨.inr ⟨by decide, by decide⟩, ?_⟩
  | refine ⟨.inl ⟨by decide, by decide⟩, ?_⟩
  | refine ⟨⟨by decide, by decide⟩, ?_⟩
  | refine ⟨⟨by decide, by decide, by decide⟩, ?_⟩)
/-! ### a block as a list of statements -/
inductive Stm
  | set (h : Hd) (n : Nm) (e : Ex) | give (g : Gv) (e : Ex) | ite (e : Ex) (a b : Blk)
def Blk.stms : Blk → List Stm
  | .nil => []
  | .set h n e r => .set h n e :: r.stms
  | .give g e r => .give g e :: r.stms
  | .ite e a b r => .ite e a b :: r.stms
def StmAt (H : Hp) (v : V) : Stm → Prop
  | .set h n e => ∃ p x, v = .ref p ∧ H p = some (.tup [.str h.str, .str n.str, x]) ∧ ExAt H x e
  | .give g e => ∃ p x, v = .ref p ∧ H p = some (.tup [.str g.str, x]) ∧ ExAt H x e
  | .ite e a b => ∃ p x pa pb as bs, v = .ref p ∧ H p = some (.tup [.str "if", x, .ref pa, .ref pb]) ∧ ExAt H x e ∧ H pa = some (.tup as) ∧ StsAt H as a ∧ H pb = some (.tup bs) ∧ StsAt H bs b
def Stm.ok : Stm → Prop
  | .set _ _ e => e.ok
  | .give _ e => e.ok
  | .ite e a b => e.ok ∧ a.ok ∧ b.ok
def Stm.count : Stm → Nat
  | .ite _ a b => a.count + b.count + 1
  | _ => 1
theorem StsAt.get {H : Hp} : ∀ {b : Blk} {vs : List V} {i : Nat} {v : V}, StsAt H vs b → vs[i]? = some v → ∃ s, b.stms[i]? = some s ∧ StmAt H v s
  | .nil, vs, i, v, h, e => by
    rw [show vs = [] from h] at e
    simp at e
  | .set h n x r, vs, i, v, ⟨p, y, ws, h1, h2, h3, h4⟩, e => by
    subst h1
    match i, e with
    | 0, e =>
      cases e
      exact ⟨_, rfl, p, y, rfl, h2, h3⟩
    | i + 1, e => exact h4.get (i := i) e
  | .give g x r, vs, i, v, ⟨p, y, ws, h1, h2, h3, h4⟩, e => by
    subst h1
    match i, e with
    | 0, e =>
      cases e
      exact ⟨_, rfl, p, y, rfl, h2, h3⟩
    | i + 1, e => exact h4.get (i := i) e
  | .ite x a b r, vs, i, v, ⟨p, y, pa, pb, as, bs, ws, h1, h2, h3, h4, h5, h6, h7, h8⟩, e => by
    subst h1
    match i, e with
    | 0, e =>
      cases e
      exact ⟨_, rfl, p, y, pa, pb, as, bs, rfl, h2, h3, h4, h5, h6, h7⟩
    | i + 1, e => exact h8.get (i := i) e
theorem Blk.stms_len : ∀ b : Blk, b.stms.length = b.len
  | .nil => rfl
  | .set _ _ _ r => congrArg Nat.succ r.stms_len
  | .give _ _ r => congrArg Nat.succ r.stms_len
  | .ite _ _ _ r => congrArg Nat.succ r.stms_len
theorem Blk.stms_ok : ∀ {b : Blk} {s : Stm}, b.ok → s ∈ b.stms → s.ok
  | .nil, s, _, m => by cases m
  | .set _ _ _ r, s, h, m => by
    rcases List.mem_cons.mp m with q | q
    · rw [q]; exact h.1
    · exact stms_ok h.2 q
  | .give _ _ r, s, h, m => by
    rcases List.mem_cons.mp m with q | q
    · rw [q]; exact h.1
    · exact stms_ok h.2 q
  | .ite _ _ _ r, s, h, m => by
    rcases List.mem_cons.mp m with q | q
    · rw [q]; exact ⟨h.1, h.2.1, h.2.2.1⟩
    · exact stms_ok h.2.2.2 q
theorem Blk.stms_lev : ∀ {b : Blk} {e : Ex} {x y : Blk}, Stm.ite e x y ∈ b.stms → x.lev + 1 ≤ b.lev ∧ y.lev + 1 ≤ b.lev
  | .nil, _, _, _, m => by cases m
  | .set _ _ _ r, e, x, y, m => by
    rcases List.mem_cons.mp m with q | q
    · cases q
    · exact stms_lev (b := r) q
  | .give _ _ r, e, x, y, m => by
    rcases List.mem_cons.mp m with q | q
    · cases q
    · exact stms_lev (b := r) q
  | .ite u a b r, e, x, y, m => by
    have h0 : (Blk.ite u a b r).lev = Nat.max (Nat.max a.lev b.lev + 1) r.lev := rfl
    have h1 : Nat.max a.lev b.lev + 1 ≤ Nat.max (Nat.max a.lev b.lev + 1) r.lev := Nat.le_max_left _ _
    have h2 : r.lev ≤ Nat.max (Nat.max a.lev b.lev + 1) r.lev := Nat.le_max_right _ _
    have h3 : a.lev ≤ Nat.max a.lev b.lev := Nat.le_max_left _ _
    have h4 : b.lev ≤ Nat.max a.lev b.lev := Nat.le_max_right _ _
    rcases List.mem_cons.mp m with q | q
    · cases q
      rw [h0]
      omega
    · have := stms_lev (b := r) q
      rw [h0]
      omega
theorem Blk.count_stms : ∀ b : Blk, b.count = (b.stms.map Stm.count).sum
  | .nil => rfl
  | .set _ _ _ r => by
    show r.count + 1 = (1 :: r.stms.map Stm.count).sum
    rw [List.sum_cons, r.count_stms]
    omega
  | .give _ _ r => by
    show r.count + 1 = (1 :: r.stms.map Stm.count).sum
    rw [List.sum_cons, r.count_stms]
    omega
  | .ite _ a b r => by
    show a.count + b.count + r.count + 1 = ((a.count + b.count + 1) :: r.stms.map Stm.count).sum
    rw [List.sum_cons, r.count_stms]
    omega
/-- what stands within -/
def Stm.ext : Stm → Nat
  | .ite _ a b => a.count + b.count
  | _ => 0
def extS (l : List Stm) : Nat := (l.map Stm.ext).sum
theorem extS_one {l : List Stm} {i : Nat} {s : Stm} (h : l[i]? = some s) : extS (l.take (i + 1)) = extS (l.take i) + s.ext := by
  unfold extS
  rw [List.take_add_one, h, List.map_append, List.sum_append]
  simp
theorem Blk.count_ext : ∀ b : Blk, b.count = b.stms.length + extS b.stms
  | .nil => rfl
  | .set _ _ _ r => by
    show r.count + 1 = (r.stms.length + 1) + (0 :: r.stms.map Stm.ext).sum
    have := r.count_ext
    unfold extS at this
    rw [List.sum_cons]
    omega
  | .give _ _ r => by
    show r.count + 1 = (r.stms.length + 1) + (0 :: r.stms.map Stm.ext).sum
    have := r.count_ext
    unfold extS at this
    rw [List.sum_cons]
    omega
  | .ite _ a b r => by
    show a.count + b.count + r.count + 1 = (r.stms.length + 1) + ((a.count + b.count) :: r.stms.map Stm.ext).sum
    have := r.count_ext
    unfold extS at this
    rw [List.sum_cons]
    omega
theorem StmAt.mono {H H' : Hp} (t : Tp H H') : ∀ {s : Stm} {v : V}, StmAt H v s → StmAt H' v s
  | .set h n e, v, ⟨p, x, h1, h2, h3⟩ => ⟨p, x, h1, t _ _ h2, h3.mono t⟩
  | .give g e, v, ⟨p, x, h1, h2, h3⟩ => ⟨p, x, h1, t _ _ h2, h3.mono t⟩
  | .ite e a b, v, ⟨p, x, pa, pb, as, bs, h1, h2, h3, h4, h5, h6, h7⟩ => ⟨p, x, pa, pb, as, bs, h1, t _ _ h2, h3.mono t, t _ _ h4, h5.mono t, t _ _ h6, h7.mono t⟩
def sp_has_own_parts : Sp := fun vs H Q _ => ∃ v s, vs = [v] ∧ StmAt H v s ∧ s.ok ∧ ∀ H', Same H H' → Q (.bl true) H'
def sp_first_bad (n : Nat) : Sp := fun vs H Q _ => ∃ p ws b, ∃ d : Int, vs = [.ref p, .int d] ∧ H p = some (.tup ws) ∧ StsAt H ws b ∧ b.ok ∧ b.lev ≤ n ∧ d + n ≤ 5 ∧ ∀ H', Same H H' → Q .non H'
def sp_statements_in (n : Nat) : Sp := fun vs H Q _ => ∃ p ws b, vs = [.ref p] ∧ H p = some (.tup ws) ∧ StsAt H ws b ∧ b.lev ≤ n ∧ ∀ H', Same H H' → Q (.int b.count) H'
section
variable {P : Program} {w : World} {K : PySem.W.Frag} {mg : Str → Option Value} {base : Heap}
theorem ok_is_expression (T : Txt K mg) : FnOk P w K mg base CX0 10 (a_is_expression K) (fdOf K (a_is_expression K)) ["thing"] sp_is_expression := by
  have G_parts_in := ok_parts_in (P := P) (w := w) (base := base) T 6
  refine T.F_is_expression.ok sc_is_expression (fun vs H Q E h => ?_) (fun cdv A outer s H vs Q E hr h => ?_)
  · obtain ⟨v, e, rfl, _⟩ := h
    rfl
  obtain ⟨v, e, rfl, he, ho, k⟩ := h
  refine ⟨_, PSs.nox (pss_cons (ps_set (i := 1) sc_is_expression.nd rfl (Or.inl rfl) (pe_call G_parts_in (hr.mono (by decide)) rfl T.g_parts_in T.F_parts_in.kp T.b_parts_in .nil pass0 (pa_cons (pv 0) (pa_cons (pe_gc rfl T.i_MOST_DEEP) pa_nil))))
    (pss_one (ps_ret (pe_and (pe_cmpR op_notN (pv 1) pe_non (nomark _)) (pe_one (pe_cmpR op_le (pv 1) (pe_gc rfl T.i_MOST_PARTS) (nomark _))))))), ?_⟩
  walk_at "gg"
  refine ⟨_, e, _, rfl, he, ho.2.2, ho.1, by decide, fun H1 s1 => ?_⟩
  walk_at "gg"
  have h1 : decide (((e.parts : Nat) : Int) ≤ 30) = true := decide_eq_true (by have := ho.2.1; omega)
  show Q (.bl (decide (((e.parts : Nat) : Int) ≤ 30))) H1
  rw [h1]
  exact k _ s1
theorem ok_has_own_parts (T : Txt K mg) : FnOk P w K mg base CX0 11 (a_has_own_parts K) (fdOf K (a_has_own_parts K)) ["thing"] sp_has_own_parts := by
  have G_is_name := ok_is_name (P := P) (w := w) (base := base) T
  have G_is_expression := ok_is_expression (P := P) (w := w) (base := base) T
  refine T.F_has_own_parts.ok sc_has_own_parts (fun vs H Q E h => ?_) (fun cdv A outer s H vs Q E hr h => ?_)
  · obtain ⟨v, e, rfl, _⟩ := h
    rfl
  obtain ⟨v, st, rfl, he, ho, k⟩ := h
  refine ⟨_, PSs.nox (pss_cons (ps_if (PW.pt (pw_or (pt_not (pt_val (pe_callB call_isi (by rfl) T.z_isinstance (by decide +kernel) (pa_cons (pv 0) (pa_cons (pe_bltn (v := .ty "tuple") rfl T.z_tuple boot_tuple rfl) pa_nil))))) (pw_or (pt_cmpR op_eq (pe_callB call_len_seq (by rfl) T.z_len boot_len (pa_cons (pv 0) pa_nil)) pe_int (nomark _)) (pw_or1 (pt_not (pt_val (pe_callB call_isi (by rfl) T.z_isinstance (by decide +kernel) (pa_cons (pe_ix ix_tup (pv 0) pe_int (fun _ _ => rfl)) (pa_cons (pe_bltn (v := .ty "str") rfl T.z_str boot_str rfl) pa_nil)))))))))
    (pss_one (ps_ret pe_bl))
    pss_nil)
    (pss_cons (ps_set (i := 1) sc_has_own_parts.nd rfl (Or.inl rfl) (pe_ix ix_tup (pv 0) pe_int (fun _ _ => rfl)))
    (pss_cons (ps_if (pt_cmpR op_in_seq (pv 1) (pe_gc (v := .ref _) rfl ⟨_, T.g_HOLDERS, rfl⟩) (by rfl))
    (pss_one (ps_ret (pe_and (pe_cmpR op_eq (pe_callB call_len_seq (by rfl) T.z_len boot_len (pa_cons (pv 0) pa_nil)) pe_int (nomark _)) (pe_and (pe_call G_is_name (hr.mono (by decide)) rfl T.g_is_name T.F_is_name.kp T.b_is_name .nil pass0 (pa_cons (pe_ix ix_tup (pv 0) pe_int (fun _ _ => rfl)) pa_nil)) (pe_one (pe_call G_is_expression (hr.mono (by decide)) rfl T.g_is_expression T.F_is_expression.kp T.b_is_expression .nil pass0 (pa_cons (pe_ix ix_tup (pv 0) pe_int (fun _ _ => rfl)) pa_nil)))))))
    pss_nil)
    (pss_cons (ps_if (pt_cmpR op_in_seq (pv 1) (pe_gc (v := .ref _) rfl ⟨_, T.g_GIVERS, rfl⟩) (by rfl))
    (pss_one (ps_ret (pe_and (pe_cmpR op_eq (pe_callB call_len_seq (by rfl) T.z_len boot_len (pa_cons (pv 0) pa_nil)) pe_int (nomark _)) (pe_one (pe_call G_is_expression (hr.mono (by decide)) rfl T.g_is_expression T.F_is_expression.kp T.b_is_expression .nil pass0 (pa_cons (pe_ix ix_tup (pv 0) pe_int (fun _ _ => rfl)) pa_nil))))))
    pss_nil)
    (pss_cons (ps_if (PW.pt (pw_or (pt_cmpR op_ne (pv 1) pe_str (nomark _)) (pw_or (pt_cmpR op_ne (pe_callB call_len_seq (by rfl) T.z_len boot_len (pa_cons (pv 0) pa_nil)) pe_int (nomark _)) (pw_or1 (pt_not (pt_val (pe_call G_is_expression (hr.mono (by decide)) rfl T.g_is_expression T.F_is_expression.kp T.b_is_expression .nil pass0 (pa_cons (pe_ix ix_tup (pv 0) pe_int (fun _ _ => rfl)) pa_nil))))))))
    (pss_one (ps_ret pe_bl))
    pss_nil)
    (pss_one (ps_ret (pe_and (pe_callB call_isi (by rfl) T.z_isinstance (by decide +kernel) (pa_cons (pe_ix ix_tup (pv 0) pe_int (fun _ _ => rfl)) (pa_cons (pe_bltn (v := .ty "tuple") rfl T.z_tuple boot_tuple rfl) pa_nil))) (pe_one (pe_callB call_isi (by rfl) T.z_isinstance (by decide +kernel) (pa_cons (pe_ix ix_tup (pv 0) pe_int (fun _ _ => rfl)) (pa_cons (pe_bltn (v := .ty "tuple") rfl T.z_tuple boot_tuple rfl) pa_nil)))))))))))), ?_⟩
  cases st with
  | set h n e =>
    obtain ⟨p, x, rfl, hp, hx⟩ := he
    have f1 : inV (.str h.str) vHOLDERS = true := by cases h <;> decide +kernel
    walk_at "gg"
    refine ⟨_, _, _, _, true, rfl, .ty _, .base (.tup hp), kit_ty (by decide +kernel), ?_⟩
    walk_at "gg"
    refine ⟨_, _, _, _, true, rfl, .ty _, .base (.str _), kit_ty (by decide +kernel), ?_⟩
    walk_at "gg"
    refine ifT f1 ?_
    walk_at "gg"
    intro H1 s1
    have hp := s1 _ _ hp
    walk_at "gg"
    exact ⟨_, e, rfl, hx.mono (same_tp s1), ho, fun H2 s2 => k _ (s1.trans s2)⟩
  | give g e =>
    obtain ⟨p, x, rfl, hp, hx⟩ := he
    have f1 : inV (.str g.str) vHOLDERS = false := by cases g <;> decide +kernel
    have f2 : inV (.str g.str) vGIVERS = true := by cases g <;> decide +kernel
    walk_at "gg"
    refine ⟨_, _, _, _, true, rfl, .ty _, .base (.tup hp), kit_ty (by decide +kernel), ?_⟩
    walk_at "gg"
    refine ⟨_, _, _, _, true, rfl, .ty _, .base (.str _), kit_ty (by decide +kernel), ?_⟩
    walk_at "gg"
    refine ifF f1 ?_
    walk_at "gg"
    refine ifT f2 ?_
    walk_at "gg"
    exact ⟨_, e, rfl, hx, ho, fun H2 s2 => k _ s2⟩
  | ite e a b =>
    obtain ⟨p, x, pa, pb, as, bs, rfl, hp, hx, ha, ha2, hb, hb2⟩ := he
    walk_at "gg"
    refine ⟨_, _, _, _, true, rfl, .ty _, .base (.tup hp), kit_ty (by decide +kernel), ?_⟩
    walk_at "gg"
    refine ⟨_, _, _, _, true, rfl, .ty _, .base (.str _), kit_ty (by decide +kernel), ?_⟩
    walk_at "gg"
    refine ⟨_, e, rfl, hx, ho.1, fun H1 s1 => ?_⟩
    have hp := s1 _ _ hp
    walk_at "gg"
    refine ⟨_, _, _, _, true, rfl, .ty _, .base (.tup (s1 _ _ ha)), kit_ty (by decide +kernel), ?_⟩
    walk_at "gg"
    refine ⟨_, _, _, _, true, rfl, .ty _, .base (.tup (s1 _ _ hb)), kit_ty (by decide +kernel), ?_⟩
    exact k _ s1
theorem ok_first_bad (T : Txt K mg) : ∀ n : Nat, FnOk P w K mg base CX0 (11 + n) (a_first_bad K) (fdOf K (a_first_bad K)) ["block", "deep"] (sp_first_bad n)
  | 0 => FnOk.vac fun vs H Q E h => by
    obtain ⟨p, ws, b, d, _, _, _, _, h0, _⟩ := h
    have := b.lev_pos
    omega
  | n + 1 => by
    have G_has_own_parts := ok_has_own_parts (P := P) (w := w) (base := base) T
    have G_first_bad := ok_first_bad T n
    refine T.F_first_bad.ok sc_first_bad (fun vs H Q E h => ?_) (fun cdv A outer s H vs Q E hr h => ?_)
    · obtain ⟨p, ws, b, d, rfl, _⟩ := h
      rfl
    obtain ⟨p, ws, b, d, rfl, hp, hs, ho, hl, hd, k⟩ := h
    have hr : Room (n + 11) _ := hr.mono (by simp; omega)
    refine ⟨_, PSs.nox (pss_cons (ps_for PassesOwn.never rfl (pi_enumT (by rfl) T.z_enumerate (pa_cons (pv 0) pa_nil)) (pg_tup rfl (pgs_cons (pg_name (i := 2) sc_first_bad.nd rfl (Or.inl rfl)) (pgs_cons (pg_name (i := 3) sc_first_bad.nd rfl (Or.inl rfl)) pgs_nil)))
    (pss_cons (ps_if (PW.pt (pw_or (pt_not (pt_val (pe_call G_has_own_parts (hr.mono (by omega)) rfl T.g_has_own_parts T.F_has_own_parts.kp T.b_has_own_parts .nil pass0 (pa_cons (pv 3) pa_nil)))) (pw_or1 (PW.pt (pw_and (pt_cmpR op_eq (pe_ix ix_tup (pv 3) pe_int (fun _ _ => rfl)) pe_str (nomark _)) (pw_and1 (pt_cmpR op_eq (pv 1) (pe_gc rfl T.i_MOST_BLOCKS) (nomark _))))))))
    (pss_one (ps_ret (pe_tup (pa_cons (pv 2) pa_nil))))
    pss_nil)
    (pss_one (ps_for PassesOwn.never rfl (pi_enumT (by rfl) T.z_enumerate (pa_cons (pe_ifExp (pt_cmpR op_eq (pe_ix ix_tup (pv 3) pe_int (fun _ _ => rfl)) pe_str (nomark _)) (pe_slice sl_tupA (pv 3) (po_some pe_int) po_none) (pe_tup pa_nil)) pa_nil)) (pg_tup rfl (pgs_cons (pg_name (i := 4) sc_first_bad.nd rfl (Or.inl rfl)) (pgs_cons (pg_name (i := 5) sc_first_bad.nd rfl (Or.inl rfl)) pgs_nil)))
    (pss_cons (ps_set (i := 6) sc_first_bad.nd rfl (Or.inl rfl) (pe_call G_first_bad (hr.mono (by omega)) rfl T.g_first_bad T.F_first_bad.kp T.b_first_bad .nil pass0 (pa_cons (pv 5) (pa_cons (pe_op op_add (pv 1) pe_int) pa_nil))))
    (pss_one (ps_if (pt_cmpR op_notN (pv 6) pe_non (nomark _))
    (pss_one (ps_ret (pe_op op_catA (pe_tup (pa_cons (pv 2) (pa_cons (pv 4) pa_nil))) (pv 6))))
    pss_nil)))))))
    (pss_one (ps_ret pe_non))), ?_⟩
    walk_at "gg"
    refine ⟨p, ws, rfl, SqT.of hp, for_it walk_enumT (fun i σ H2 => ∃ a b c e f, σ = [some (.ref p), some (.int d), a, b, c, e, f] ∧ Same H H2) ⟨none, none, none, none, none, rfl, Same.refl _⟩ (fun i σ H2 _ ⟨_, _, _, _, _, _, s2⟩ => SqT.of (s2 _ _ hp)) ?_ ?_⟩
    · rintro i x σ H2 H3 hi ⟨a, b', c, e', f, rfl, s2⟩ ⟨q, y, z, rfl, hq, rfl, ey, ez⟩
      cases ey
      obtain ⟨st, hst, hz⟩ := hs.get ez
      have hm := List.mem_of_getElem? hst
      have hok := Blk.stms_ok ho hm
      have s3 := s2.trans (same_new (o := .tup [.int (i : Int), z]) hq)
      walk_at "gg"
      refine ⟨_, st, rfl, hz.mono (same_tp s3), hok, fun H4 s4 => ?_⟩
      have s5 := s3.trans s4
      replace hz := hz.mono (same_tp s5)
      walk_at "gg"
      cases st with
      | set h m e =>
        obtain ⟨p2, x2, rfl, hp2, hx2⟩ := hz
        have f1 : decide (V.str h.str = V.str "if") = false := by cases h <;> decide +kernel
        walk_at "gg"
        refine ifF f1 ?_
        walk_at "gg"
        refine ifF f1 ?_
        walk_at "gg"
        refine ⟨szl (by decide), fun u hu => ?_⟩
        walk_at "gg"
        refine ⟨u, [], rfl, SqT.of upd_same, for_it (walk_enumT (xs := [])) (fun _ σ H5 => σ = [some (.ref p), some (.int d), some (.int (i : Int)), some (.ref p2), c, e', f] ∧ H5 = upd H4 u (.tup [])) ⟨rfl, rfl⟩ (fun _ σ H5 _ ⟨_, e5⟩ => by rw [e5]; exact SqT.of upd_same) (fun j x σ H5 H6 hj => absurd hj (Nat.not_lt_zero j)) ?_⟩
        rintro σ H5 ⟨rfl, rfl⟩
        exact ⟨_, _, c, e', f, rfl, s5.trans (same_new hu)⟩
      | give g e =>
        obtain ⟨p2, x2, rfl, hp2, hx2⟩ := hz
        have f1 : decide (V.str g.str = V.str "if") = false := by cases g <;> decide +kernel
        walk_at "gg"
        refine ifF f1 ?_
        walk_at "gg"
        refine ifF f1 ?_
        walk_at "gg"
        refine ⟨szl (by decide), fun u hu => ?_⟩
        walk_at "gg"
        refine ⟨u, [], rfl, SqT.of upd_same, for_it (walk_enumT (xs := [])) (fun _ σ H5 => σ = [some (.ref p), some (.int d), some (.int (i : Int)), some (.ref p2), c, e', f] ∧ H5 = upd H4 u (.tup [])) ⟨rfl, rfl⟩ (fun _ σ H5 _ ⟨_, e5⟩ => by rw [e5]; exact SqT.of upd_same) (fun j x σ H5 H6 hj => absurd hj (Nat.not_lt_zero j)) ?_⟩
        rintro σ H5 ⟨rfl, rfl⟩
        exact ⟨_, _, c, e', f, rfl, s5.trans (same_new hu)⟩
      | ite e a2 b2 =>
        obtain ⟨p2, x2, pa, pb, as, bs, rfl, hp2, hx2, ha, ha2, hb, hb2⟩ := hz
        obtain ⟨l1, l2⟩ := Blk.stms_lev hm
        have := a2.lev_pos
        have f2 : decide (V.int d = V.int 4) = false := decide_eq_false fun z => by
          injection z with z
          omega
        walk_at "gg"
        refine ifF f2 ?_
        walk_at "gg"
        refine ⟨_, _, rfl, SqT.of hp2, (fun z => nomatch (show (2 : Nat) = 0 from z.1)), fun _ u hu => ?_⟩
        walk_at "gg"
        have s6 := s5.trans (same_new (o := .tup [.ref pa, .ref pb]) hu)
        refine ⟨u, [.ref pa, .ref pb], rfl, SqT.of upd_same, for_it walk_enumT (fun _ σ H5 => ∃ c e' f, σ = [some (.ref p), some (.int d), some (.int (i : Int)), some (.ref p2), c, e', f] ∧ Same (upd H4 u (.tup [.ref pa, .ref pb])) H5) ⟨_, _, _, rfl, Same.refl _⟩ (fun _ σ H5 _ ⟨_, _, _, _, s7⟩ => SqT.of (s7 _ _ upd_same)) ?_ ?_⟩
        · rintro j x σ H5 H6 hj ⟨c', e'', f', rfl, s7⟩ ⟨q', y', z', rfl, hq', rfl, ey', ez'⟩
          cases ey'
          obtain ⟨pc, cs, cb, rfl, hc, hc2, okc, levc⟩ : ∃ pc cs cb, z' = .ref pc ∧ H4 pc = some (.tup cs) ∧ StsAt H4 cs cb ∧ cb.ok ∧ cb.lev ≤ n := by
            match j, ez' with
            | 0, ez' =>
              cases ez'
              exact ⟨pa, as, a2, rfl, ha, ha2, hok.2.1, by omega⟩
            | 1, ez' =>
              cases ez'
              exact ⟨pb, bs, b2, rfl, hb, hb2, hok.2.2, by omega⟩
          have s8 : Same H4 (upd H5 q' (.tup [.int (j : Int), .ref pc])) := ((same_new hu).trans s7).trans (same_new hq')
          walk_at "gg"
          refine ⟨pc, cs, cb, d + 1, rfl, s8 _ _ hc, hc2.mono (same_tp s8), okc, levc, by omega, fun H7 s9 => ?_⟩
          walk_at "gg"
          exact ⟨_, _, _, rfl, (s7.trans (same_new hq')).trans s9⟩
        · rintro σ H5 ⟨c', e'', f', rfl, s7⟩
          exact ⟨_, _, _, _, _, rfl, s6.trans s7⟩
    · rintro σ H2 ⟨a, b', c, e, f, rfl, s2⟩
      exact k _ s2
theorem ok_statements_in (T : Txt K mg) : ∀ n : Nat, FnOk P w K mg base CX0 n (a_statements_in K) (fdOf K (a_statements_in K)) ["block"] (sp_statements_in n)
  | 0 => FnOk.vac fun vs H Q E h => by
    obtain ⟨p, ws, b, _, _, _, h0, _⟩ := h
    have := b.lev_pos
    omega
  | n + 1 => by
    have G_statements_in := ok_statements_in T n
    refine T.F_statements_in.ok sc_statements_in (fun vs H Q E h => ?_) (fun cdv A outer s H vs Q E hr h => ?_)
    · obtain ⟨p, ws, b, rfl, _⟩ := h
      rfl
    obtain ⟨p, ws, b, rfl, hp, hs, hl, k⟩ := h
    refine ⟨_, PSs.nox (pss_cons (ps_set (i := 1) sc_statements_in.nd rfl (Or.inl rfl) (pe_callB call_len_seq (by rfl) T.z_len boot_len (pa_cons (pv 0) pa_nil)))
    (pss_cons (ps_for PassesOwn.never rfl (pi_tup (pv 0)) (pg_name (i := 2) sc_statements_in.nd rfl (Or.inl rfl))
    (pss_one (ps_if (pt_cmpR op_eq (pe_ix ix_tup (pv 2) pe_int (fun _ _ => rfl)) pe_str (nomark _))
    (pss_one (ps_aug (i := 1) sc_statements_in.nd rfl (Or.inl rfl) (pe_op op_add (pe_call G_statements_in (hr.mono (by omega)) rfl T.g_statements_in T.F_statements_in.kp T.b_statements_in .nil pass0 (pa_cons (pe_ix ix_tup (pv 2) pe_int (fun _ _ => rfl)) pa_nil)) (pe_call G_statements_in (hr.mono (by omega)) rfl T.g_statements_in T.F_statements_in.kp T.b_statements_in .nil pass0 (pa_cons (pe_ix ix_tup (pv 2) pe_int (fun _ _ => rfl)) pa_nil))) ip_add))
    pss_nil)))
    (pss_one (ps_ret (pv 1))))), ?_⟩
    walk_at "gg"
    have hlen : ws.length = b.stms.length := by rw [hs.len, b.stms_len]
    refine ⟨⟨_, SqT.of hp⟩, for_tup (xs := ws) (fun i σ H2 => ∃ a, σ = [some (.ref p), some (.int ((ws.length + extS (b.stms.take i) : Nat) : Int)), a] ∧ Same H H2) ⟨none, rfl, Same.refl _⟩ (fun i σ H2 _ ⟨_, _, s2⟩ => SqT.of (s2 _ _ hp)) ?_ ?_⟩
    · rintro i x σ H2 hi ⟨a, rfl, s2⟩
      obtain ⟨st, hst, hz⟩ := hs.get hi
      have hm := List.mem_of_getElem? hst
      rw [extS_one hst]
      replace hz := hz.mono (same_tp s2)
      cases st with
      | set h m e =>
        obtain ⟨p2, x2, rfl, hp2, hx2⟩ := hz
        have f1 : decide (V.str h.str = V.str "if") = false := by cases h <;> decide +kernel
        walk_at "gg"
        refine ifF f1 ?_
        exact ⟨_, rfl, s2⟩
      | give g e =>
        obtain ⟨p2, x2, rfl, hp2, hx2⟩ := hz
        have f1 : decide (V.str g.str = V.str "if") = false := by cases g <;> decide +kernel
        walk_at "gg"
        refine ifF f1 ?_
        exact ⟨_, rfl, s2⟩
      | ite e a2 b2 =>
        obtain ⟨p2, x2, pa, pb, as, bs, rfl, hp2, hx2, ha, ha2, hb, hb2⟩ := hz
        obtain ⟨l1, l2⟩ := Blk.stms_lev hm
        walk_at "gg"
        refine ⟨pa, as, a2, rfl, ha, ha2, by omega, fun H3 s3 => ?_⟩
        have hp2 := s3 _ _ hp2
        walk_at "gg"
        refine ⟨pb, bs, b2, rfl, s3 _ _ hb, hb2.mono (same_tp s3), by omega, fun H4 s4 => ?_⟩
        walk_at "gg"
        refine ⟨some (.ref p2), ?_, (s2.trans s3).trans s4⟩
        have e3 : ((ws.length + extS (b.stms.take i) : Nat) : Int) + ((a2.count : Int) + (b2.count : Int)) = ((ws.length + (extS (b.stms.take i) + (a2.count + b2.count)) : Nat) : Int) := by omega
        show _ = [some (V.ref p), some (V.int ((ws.length + (extS (b.stms.take i) + (a2.count + b2.count)) : Nat) : Int)), some (V.ref p2)]
        rw [← e3]
        rfl
    · rintro σ H2 ⟨a, rfl, s2⟩
      have q1 := k H2 s2
      rw [b.count_ext, ← hlen, ← List.take_length (l := b.stms), ← hlen] at q1
      walk_at "gg"
      exact q1
/-! ### policies -/
def polF (bot : Int) (q : Addr) : List (Str × V) := [("bottom", .int bot), ("block", .ref q)]
def sp_Policy_init (C : Addr) : Sp := fun vs H Q _ => ∃ p dx q ws b, ∃ bot : Int, vs = [.ref p, .int bot, .ref q] ∧ H p = some (.ins C dx []) ∧ 1 ≤ bot ∧ bot ≤ 360 ∧ H q = some (.tup ws) ∧ StsAt H ws b ∧ b.ok ∧ b.lev ≤ 4 ∧ b.count ≤ 60 ∧
  ∀ H', (∀ c o, H c = some o → c ≠ p → H' c = some o) → H' p = some (.ins C dx (polF bot q)) → Q .non H'
theorem ok_Policy_init (T : Txt K mg) : FnOk P w K mg base CX0 16 (a_Policy_init K) (fdOf K (a_Policy_init K)) ["self", "bottom", "block"] (sp_Policy_init (He.ga K "Policy")) := by
  have G_is_within := ok_is_within (P := P) (w := w) (base := base) T
  have G_first_bad := ok_first_bad (P := P) (w := w) (base := base) T 4
  have G_statements_in := ok_statements_in (P := P) (w := w) (base := base) T 4
  refine T.F_Policy_init.ok sc_Policy_init (fun vs H Q E h => ?_) (fun cdv A outer s H vs Q E hr h => ?_)
  · obtain ⟨p, dx, q, ws, b, bot, rfl, _⟩ := h
    rfl
  obtain ⟨p, dx, q, ws, b, bot, rfl, hp, hb1, hb2, hq, hs, ho, hl, hc, k⟩ := h
  refine ⟨_, PSs.nox (pss_cons (ps_if (pt_not (pt_val (pe_call G_is_within (hr.mono (by decide)) rfl T.g_is_within T.F_is_within.kp T.b_is_within .nil pass0 (pa_cons (pv 1) (pa_cons pe_int (pa_cons (pe_gc rfl T.i_MOST_BOTTOM) pa_nil))))))
    (pss_one ps_never)
    pss_nil)
    (pss_cons (ps_if (pt_not (pt_val (pe_callB call_isi (by rfl) T.z_isinstance (by decide +kernel) (pa_cons (pv 2) (pa_cons (pe_bltn (v := .ty "tuple") rfl T.z_tuple boot_tuple rfl) pa_nil)))))
    (pss_one ps_never)
    pss_nil)
    (pss_cons (ps_set (i := 3) sc_Policy_init.nd rfl (Or.inl rfl) (pe_call G_first_bad (hr.mono (by decide)) rfl T.g_first_bad T.F_first_bad.kp T.b_first_bad .nil pass0 (pa_cons (pv 2) (pa_cons pe_int pa_nil))))
    (pss_cons (ps_if (pt_cmpR op_notN (pv 3) pe_non (nomark _))
    (pss_one ps_never)
    pss_nil)
    (pss_cons (ps_if (pt_cmpR op_gt (pe_call G_statements_in (hr.mono (by decide)) rfl T.g_statements_in T.F_statements_in.kp T.b_statements_in .nil pass0 (pa_cons (pv 2) pa_nil)) (pe_gc rfl T.i_MOST_STATEMENTS) (nomark _))
    (pss_one ps_never)
    pss_nil)
    (pss_cons (ps_fld (pv 0) (pv 1) rfl)
    (pss_one (ps_fld (pv 0) (pv 2) rfl)))))))), ?_⟩
  walk_at "gg"
  refine ⟨bot, 1, 360, rfl, ?_⟩
  walk_at "gg"
  refine ifF (by rw [decide_eq_true hb1, decide_eq_true hb2]; rfl) ?_
  walk_at "gg"
  refine ⟨_, _, _, _, true, rfl, .ty _, .base (.tup hq), kit_ty (by decide +kernel), ?_⟩
  walk_at "gg"
  refine ⟨q, ws, b, 1, rfl, hq, hs, ho, hl, by decide, fun H1 s1 => ?_⟩
  walk_at "gg"
  refine ⟨q, ws, b, rfl, s1 _ _ hq, hs.mono (same_tp s1), hl, fun H2 s2 => ?_⟩
  walk_at "gg"
  refine ifF (decide_eq_false (by omega)) ?_
  have s3 := s1.trans s2
  walk_at "gg"
  refine ⟨p, _, dx, _, rfl, s3 _ _ hp, T.c_Policy, T.n_Policy_bottom, by decide, ?_⟩
  walk_at "gg"
  refine ⟨p, _, dx, _, rfl, upd_same, T.c_Policy, T.n_Policy_block, (show 1 < 1000 by decide), ?_⟩
  refine k _ (fun c o e n => ?_) ?_
  · rw [upd_ne n, upd_ne n]
    exact s3 _ _ e
  · rw [upd_same]
    rfl
def sp_check_policy (C : Addr) : Sp := fun vs H Q _ => ∃ p dx fs, vs = [.ref p] ∧ H p = some (.ins C dx fs) ∧ Q .non H
theorem ok_check_policy (T : Txt K mg) : FnOk P w K mg base CX0 1 (a_check_policy K) (fdOf K (a_check_policy K)) ["thing"] (sp_check_policy (He.ga K "Policy")) := by
  refine T.F_check_policy.ok sc_check_policy (fun vs H Q E h => ?_) (fun cdv A outer s H vs Q E hr h => ?_)
  · obtain ⟨p, dx, fs, rfl, _⟩ := h
    rfl
  obtain ⟨p, dx, fs, rfl, hp, k⟩ := h
  refine ⟨_, PSs.nox (pss_one (ps_if (pt_not (pt_val (pe_callB (C8.call_isC T.isC) (by rfl) T.z_isinstance (by decide +kernel) (pa_cons (pv 0) (pa_cons (pe_gc (v := .ref _) rfl ⟨_, T.g_Policy, rfl⟩) pa_nil)))))
    (pss_one ps_never)
    pss_nil)), ?_⟩
  walk_at "gg"
  refine ⟨p, dx, fs, rfl, hp, ?_⟩
  walk_at "gg"
  exact k
/-- a tuple of numbers from 0 to 10 ^ 9 -/
def NumsAt (H : Hp) (p : Addr) (ns : List Int) : Prop := H p = some (.tup (ns.map V.int)) ∧ ∀ z ∈ ns, 0 ≤ z ∧ z ≤ 1000000000
def sp_are_numbers : Sp := fun vs H Q _ => ∃ p ns, vs = [.int (ns.length : Nat), .ref p] ∧ NumsAt H p ns ∧ ns.length ≤ 100 ∧ ∀ H', Same H H' → Q (.bl true) H'
theorem get_int {ns : List Int} {i : Nat} {x : V} (h : (ns.map V.int)[i]? = some x) : ∃ z, ns[i]? = some z ∧ x = .int z := by
  rw [List.getElem?_map] at h
  cases e : ns[i]? with
  | none =>
    rw [e] at h
    cases h
  | some z =>
    rw [e] at h
    exact ⟨z, rfl, (Option.some.inj h).symm⟩
theorem ok_are_numbers (T : Txt K mg) : FnOk P w K mg base CX0 3 (a_are_numbers K) (fdOf K (a_are_numbers K)) ["n", "thing"] sp_are_numbers := by
  have G_is_within := ok_is_within (P := P) (w := w) (base := base) T
  refine T.F_are_numbers.ok sc_are_numbers (fun vs H Q E h => ?_) (fun cdv A outer s H vs Q E hr h => ?_)
  · obtain ⟨p, ns, rfl, _⟩ := h
    rfl
  obtain ⟨p, ns, rfl, hn, hl, k⟩ := h
  refine ⟨_, PSs.nox (pss_one (ps_ret (pe_and (pe_callB call_isi (by rfl) T.z_isinstance (by decide +kernel) (pa_cons (pv 1) (pa_cons (pe_bltn (v := .ty "tuple") rfl T.z_tuple boot_tuple rfl) pa_nil))) (pe_and (pe_cmpR op_eq (pe_callB call_len_seq (by rfl) T.z_len boot_len (pa_cons (pv 1) pa_nil)) (pv 0) (nomark _)) (pe_one (pe_callB (cr_all rfl) (by rfl) T.z_all (by decide +kernel) (pa_cons (pe_lc (own := [("one", 2)]) rfl sc_are_numbers.nd (pi_tup (pv 1)) (blkOk_by (own := [("one", 2)]) (N := ["n", "thing", "one"]) (sc := defScope s_are_numbers) (by decide +kernel)) (fun _ _ _ _ _ => (pg_name (i := 2) sc_are_numbers.nd rfl (Or.inl rfl))) (fun _ _ _ _ _ => pts_nil) (fun _ _ _ _ _ => (pe_call G_is_within (hr.mono (by decide)) rfl T.g_is_within T.F_is_within.kp T.b_is_within .nil pass0 (pa_cons (pv 2) (pa_cons pe_int (pa_cons (pe_gc rfl T.i_MOST_NEED) pa_nil)))))) pa_nil))))))), ?_⟩
  have hp := hn.1
  walk_at "gg"
  refine ⟨_, _, _, _, true, rfl, .ty _, .base (.tup hp), kit_ty (by decide +kernel), ?_⟩
  walk_at "gg"
  refine ifT (decide_eq_true (by rw [List.length_map])) ?_
  walk_at "gg"
  refine ⟨⟨_, SqT.of hp⟩, fun D hD => lc_tup (xs := ns.map V.int) (Lc _ D fun _ => .bl true) (Lc.zero hD) (fun i H1 _ q => SqT.of (q.sm _ _ hp)) ?_ ?_⟩
  · intro i x H1 hx q
    obtain ⟨z, hz, rfl⟩ := get_int hx
    obtain ⟨h1, h2⟩ := hn.2 z (List.mem_of_getElem? hz)
    have hi := (List.getElem?_eq_some_iff.mp hz).1
    walk_at "gg"
    refine ⟨z, 0, _, rfl, ?_⟩
    exact q.step (Same.refl _) (by rw [decide_eq_true h1, decide_eq_true h2]; rfl) (by omega)
  · intro H1 q
    walk_at "gg"
    refine ⟨D, (List.range (ns.map V.int).length).map fun _ => true, rfl, SqL.of (by rw [q.at_, List.map_map]; rfl), ?_⟩
    have e : (((List.range (ns.map V.int).length).map fun _ => true).all id) = true := by simp
    rw [e]
    exact k _ q.sm
/-- an ascending tuple of numbers below m -/
def nV (n : Nat) : V := .int (n : Int)
def LotAt (H : Hp) (p : Addr) (ns : List Nat) (m : Nat) : Prop := H p = some (.tup (ns.map nV)) ∧ (∀ z ∈ ns, z < m) ∧ ∀ (i : Nat) (a b : Nat), ns[i]? = some a → ns[i + 1]? = some b → a < b
def sp_is_lot : Sp := fun vs H Q _ => ∃ p ns m, vs = [.ref p, .int ((m : Nat) : Int)] ∧ LotAt H p ns m ∧ ns ≠ [] ∧ ns.length ≤ 100 ∧ ∀ H', Same H H' → Q (.bl true) H'
theorem get_nat {ns : List Nat} {i : Nat} {x : V} (h : (ns.map nV)[i]? = some x) : ∃ z, ns[i]? = some z ∧ x = .int (z : Int) := by
  rw [List.getElem?_map] at h
  cases e : ns[i]? with
  | none =>
    rw [e] at h
    cases h
  | some z =>
    rw [e] at h
    exact ⟨z, rfl, (Option.some.inj h).symm⟩
theorem ok_is_lot (T : Txt K mg) : FnOk P w K mg base CX0 3 (a_is_lot K) (fdOf K (a_is_lot K)) ["thing", "many"] sp_is_lot := by
  have G_is_within := ok_is_within (P := P) (w := w) (base := base) T
  refine T.F_is_lot.ok sc_is_lot (fun vs H Q E h => ?_) (fun cdv A outer s H vs Q E hr h => ?_)
  · obtain ⟨p, ns, m, rfl, _⟩ := h
    rfl
  obtain ⟨p, ns, m, rfl, hn, hne, hl, k⟩ := h
  refine ⟨_, PSs.nox (pss_cons (ps_if (PW.pt (pw_or (pt_not (pt_val (pe_callB call_isi (by rfl) T.z_isinstance (by decide +kernel) (pa_cons (pv 0) (pa_cons (pe_bltn (v := .ty "tuple") rfl T.z_tuple boot_tuple rfl) pa_nil))))) (pw_or1 (pt_not (pt_val (pe_callB (cr_all rfl) (by rfl) T.z_all (by decide +kernel) (pa_cons (pe_lc (own := [("one", 2)]) rfl sc_is_lot.nd (pi_tup (pv 0)) (blkOk_by (own := [("one", 2)]) (N := ["thing", "many", "one", "other"]) (sc := defScope s_is_lot) (by decide +kernel)) (fun _ _ _ _ _ => (pg_name (i := 2) sc_is_lot.nd rfl (Or.inl rfl))) (fun _ _ _ _ _ => pts_nil) (fun _ _ _ _ _ => (pe_call G_is_within (hr.mono (by decide)) rfl T.g_is_within T.F_is_within.kp T.b_is_within .nil pass0 (pa_cons (pv 2) (pa_cons pe_int (pa_cons (pe_op op_sub (pv 1) pe_int) pa_nil)))))) pa_nil)))))))
    (pss_one (ps_ret pe_bl))
    pss_nil)
    (pss_one (ps_ret (pe_callB (cr_all rfl) (by rfl) T.z_all (by decide +kernel) (pa_cons (pe_lc (own := [("one", 2), ("other", 3)]) (g := (gTup K 2 (gCons (gName 2) (gCons (gName 3) gNil)))) rfl sc_is_lot.nd (pi_zipA (by rfl) T.z_zip (pa_cons (pv 0) (pa_cons (pe_slice sl_tupA (pv 0) (po_some pe_int) po_none) pa_nil))) (blkOk_by (own := [("one", 2), ("other", 3)]) (N := ["thing", "many", "one", "other"]) (sc := defScope s_is_lot) (by decide +kernel)) (fun _ _ _ _ _ => by exact (pg_tup rfl (pgs_cons (pg_name (i := 2) sc_is_lot.nd rfl (Or.inl rfl)) (pgs_cons (pg_name (i := 3) sc_is_lot.nd rfl (Or.inl rfl)) pgs_nil)))) (fun _ _ _ _ _ => pts_nil) (fun _ _ _ _ _ => (pe_cmpR op_lt (pv 2) (pv 3) (nomark _)))) pa_nil))))), ?_⟩
  have hp := hn.1
  walk_at "gg"
  refine ⟨_, _, _, _, true, rfl, .ty _, .base (.tup hp), kit_ty (by decide +kernel), ?_⟩
  walk_at "gg"
  refine ⟨⟨_, SqT.of hp⟩, fun D hD => lc_tup (xs := ns.map nV) (Lc _ D fun _ => .bl true) (Lc.zero hD) (fun i H1 _ q => SqT.of (q.sm _ _ hp)) ?_ ?_⟩
  · intro i x H1 hx q
    obtain ⟨z, hz, rfl⟩ := get_nat hx
    have h2 := hn.2.1 z (List.mem_of_getElem? hz)
    have hi := (List.getElem?_eq_some_iff.mp hz).1
    walk_at "gg"
    refine ⟨(z : Int), 0, (m : Int) - 1, rfl, ?_⟩
    exact q.step (Same.refl _) (by rw [decide_eq_true (by omega), decide_eq_true (by omega)]; rfl) (by omega)
  intro H1 q
  walk_at "gg"
  refine ⟨D, (List.range (ns.map nV).length).map fun _ => true, rfl, SqL.of (by rw [q.at_, List.map_map]; rfl), ?_⟩
  have e : (((List.range (ns.map nV).length).map fun _ => true).all id) = true := by simp
  rw [e]
  have s1 := q.sm
  have hp1 := s1 _ _ hp
  clear q
  walk_at "gg"
  obtain ⟨n0, r, rfl⟩ : ∃ a r, ns = a :: r := by
    cases ns with
    | nil => exact absurd rfl hne
    | cons a r => exact ⟨a, r, rfl⟩
  refine ⟨_, _, rfl, SqT.of hp1, (fun z => absurd z not_all1), fun _ u hu => ?_⟩
  have e2 : cutV ((n0 :: r).map nV) (some 1) none = r.map nV := cut1 _ _
  rw [e2]
  have s2 := s1.trans (same_new (o := .tup (r.map nV)) hu)
  refine ⟨p, u, _, _, rfl, .inr ⟨SqT.of (s2 _ _ hp), SqT.of upd_same, fun D2 hD2 => lc_it (walk_zipT rfl) (Lc _ D2 fun _ => .bl true) (Lc.zero hD2) (fun i H2 _ q => ⟨SqT.of (q.sm _ _ (s2 _ _ hp)), SqT.of (q.sm _ _ upd_same)⟩) ?_ ?_⟩⟩
  · rintro i x H2 H3 hi q ⟨t, y, z, rfl, ht, rfl, ey, ez⟩
    obtain ⟨y, hy, rfl⟩ := get_nat ey
    obtain ⟨z, hz, rfl⟩ := get_nat ez
    have hlt : y < z := hn.2.2 i y z hy hz
    have hi2 : i < 100 := by
      have := (List.getElem?_eq_some_iff.mp hy).1
      omega
    walk_at "gg"
    exact q.step (same_new ht) (congrArg V.bl (decide_eq_true (show (y : Int) < (z : Int) by omega))) (by omega)
  · intro H2 q
    walk_at "gg"
    generalize min ((n0 :: r).map nV).length (r.map nV).length = n at q
    refine ⟨D2, (List.range n).map fun _ => true, rfl, SqL.of (by rw [q.at_, List.map_map]; rfl), ?_⟩
    have e : (((List.range n).map fun _ => true).all id) = true := by simp
    rw [e]
    exact k _ (s2.trans q.sm)
end
end K6
set_option maxHeartbeats 4000000
/-! What the law draws. -/
namespace K6
open PySem PySem.Spec PyProof.Rows L2 RZ
local macro_rules | `(tactic| walk_at "gg") => `(tactic| repeat first
  | refine ⟨_, rfl, ?_⟩ | refine ⟨_, _, rfl, rfl, ?_⟩ | refine ⟨rfl, ?_⟩ | refine iteT ?_ | refine iteF ?_
  | refine ⟨_, _, _, _, rfl, rfl, SqT.of (by assumption), rfl, ?_⟩
  | refine ⟨_, _, _, _, rfl, rfl, SqT.of (by assumption), at0, ?_⟩
  | refine ⟨_, _, _, _, rfl, rfl, SqL.of (by assumption), rfl, ?_⟩
  | refine ⟨_, _, rfl, .inr (SqT.of (by assumption)), ?_⟩
  | refine ⟨_, _, rfl, .inl (SqL.of (by assumption)), ?_⟩
  | refine ⟨_, _, rfl, .inr (SqT.of upd_same), rfl, rfl, ?_⟩
  | refine ⟨_, _, rfl, .inr (Txt.q_HOLDERS (by assumption) _), rfl, rfl, ?_⟩
  | refine ⟨_, _, rfl, .inr (Txt.q_GIVERS (by assumption) _), rfl, rfl, ?_⟩
  | refine ⟨_, _, rfl, .inr (Txt.q_FACTS (by assumption) _), rfl, rfl, ?_⟩
  | refine ⟨_, _, rfl, .inr (Txt.q_SIGNS (by assumption) _), rfl, rfl, ?_⟩
  | refine ⟨_, _, rfl, SqT.of upd_same, rfl, ?_⟩
  | refine ⟨_, _, rfl, SqT.of (by assumption), rfl, ?_⟩
  | refine ⟨_, _, rfl, ?_⟩
  | refine .inl ⟨_, rfl, ?_⟩
  | refine .inr ⟨_, rfl, ?_⟩
  | refine ⟨(by show (0 : Int) < _; decide), ?_⟩
  | refine ⟨.inr ⟨by decide, by decide⟩, ?_⟩
  | refine ⟨.inl ⟨by decide, by decide⟩, ?_⟩
  | refine ⟨⟨by decide, by decide⟩, ?_⟩
  | refine ⟨⟨by decide, by decide, by decide⟩, ?_⟩)
abbrev CP (K : PySem.W.Frag) : Addr := He.ga K "Policy"
/-- the hand: its list at hd, its cells' list at ca -/
structure HandIs (H : Hp) (hd ca : Addr) (cells : List Int) (i c x y : Int) : Prop where
  at_ : H hd = some (.lst [.ref ca, .int i, .int c, .int x, .int y])
  cs : H ca = some (.lst (cells.map V.int))
  ne : ca ≠ hd
  nn : 0 ≤ i
def HandAt (H : Hp) (hd ca : Addr) : Prop := ∃ cells i c x y, HandIs H hd ca cells i c x y
/-- the hand has turned, all else stands -/
structure Hn (C : Addr) (hd ca : Addr) (H H' : Hp) : Prop where
  fr : Fr C (· = hd) H H'
  hand : HandAt H' hd ca
theorem HandIs.put {C : Addr} {H : Hp} {hd ca : Addr} {cells : List Int} {i c x y i' c' x' y' : Int} (h : HandIs H hd ca cells i c x y) (hi : 0 ≤ i') :
    HandIs (upd H hd (.lst [.ref ca, .int i', .int c', .int x', .int y'])) hd ca cells i' c' x' y' ∧ Fr C (· = hd) H (upd H hd (.lst [.ref ca, .int i', .int c', .int x', .int y'])) :=
  ⟨⟨upd_same, by rw [upd_ne h.ne]; exact h.cs, h.ne, hi⟩, Fr.put rfl h.at_ (fun xs z => by cases z) fun dx fs z => by cases z⟩
theorem HandAt.frame {C : Addr} {S : Addr → Prop} {H H' : Hp} {hd ca : Addr} (h : HandAt H hd ca) (f : Fr C S H H') (n1 : ¬ S hd) (n2 : ¬ S ca) : HandAt H' hd ca := by
  obtain ⟨cells, i, c, x, y, q⟩ := h
  exact ⟨cells, i, c, x, y, f.st _ _ q.at_ n1, f.st _ _ q.cs n2, q.ne, q.nn⟩
theorem HandAt.same {H H' : Hp} {hd ca : Addr} (h : HandAt H hd ca) (f : Same H H') : HandAt H' hd ca := h.frame (C := hd) (S := fun _ => False) (Fr.of_same f) (fun z => z) fun z => z
theorem HandAt.some {H : Hp} {hd ca : Addr} (h : HandAt H hd ca) : ∃ o, H hd = some o := by
  obtain ⟨cells, i, c, x, y, q⟩ := h
  exact ⟨_, q.at_⟩
theorem HandAt.ne {H : Hp} {hd ca p : Addr} (h : HandAt H hd ca) (e : H p = none) : p ≠ hd := by
  obtain ⟨o, q⟩ := h.some
  exact fun z => by rw [z, q] at e; cases e
section
variable {C hd ca : Addr} {H H1 H2 : Hp}
theorem Hn.trans (a : Hn C hd ca H H1) (b : Hn C hd ca H1 H2) : Hn C hd ca H H2 := ⟨a.fr.trans b.fr, b.hand⟩
theorem Hn.same (a : Hn C hd ca H H1) (b : Same H1 H2) : Hn C hd ca H H2 := ⟨a.fr.trans (Fr.of_same b), a.hand.same b⟩
theorem Hn.refl (h : HandAt H hd ca) : Hn C hd ca H H := ⟨Fr.refl, h⟩
theorem Hn.new {p : Addr} {o : HO} (a : Hn C hd ca H H1) (h : H1 p = none) : Hn C hd ca H (upd H1 p o) := a.same (same_new h)
end
/-- a comprehension in whose turns the hand turns -/
structure LcH (C hd ca : Addr) (H1 : Hp) (D : Addr) (xs : List V) (H : Hp) : Prop where
  lc : LcF C (· = hd) H1 D xs H
  hand : HandAt H hd ca
  nc : D ≠ ca
theorem Tp.put {H : Hp} {p : Addr} {xs : List V} {o : HO} (h : H p = some (.lst xs)) : Tp H (upd H p o) := fun b us e => by
  have : b ≠ p := fun z => by rw [z, h] at e; cases e
  rw [upd_ne this]
  exact e
theorem HandAt.upd' {H : Hp} {hd ca D : Addr} {o : HO} (h : HandAt H hd ca) (n1 : D ≠ hd) (n2 : D ≠ ca) : HandAt (upd H D o) hd ca := by
  obtain ⟨cells, i, c, x, y, q⟩ := h
  exact ⟨cells, i, c, x, y, by rw [upd_ne n1.symm]; exact q.at_, by rw [upd_ne n2.symm]; exact q.cs, q.ne, q.nn⟩
theorem HandAt.nc {H : Hp} {hd ca D : Addr} (h : HandAt H hd ca) (e : H D = none) : D ≠ ca := by
  obtain ⟨cells, i, c, x, y, q⟩ := h
  exact fun z => by rw [z, q.cs] at e; cases e
section
variable {C hd ca D : Addr} {H1 H H4 : Hp} {xs : List V} {y : V}
theorem LcH.zero (h : H1 D = none) (hh : HandAt H1 hd ca) : LcH C hd ca H1 D [] (upd H1 D (.lst [])) := ⟨LcF.zero h (hh.ne h), hh.same (same_new h), hh.nc h⟩
theorem LcH.step (p : LcH C hd ca H1 D xs H) (n : Hn C hd ca H H4) (hi : xs.length < 100000) :
    H4 D = some (.lst xs) ∧ xs.length < sizeLine ∧ LcH C hd ca H1 D (xs ++ [y]) (upd H4 D (.lst (xs ++ [y]))) ∧ Tp H4 (upd H4 D (.lst (xs ++ [y]))) := by
  obtain ⟨acc, g1, g2, g3⟩ := p.lc.step (y := y) n.fr hi
  have ea : acc = xs := by
    have := n.fr.st _ _ p.lc.at_ p.lc.ns
    rw [g1] at this
    injection this with this
    injection this
  subst ea
  exact ⟨g1, g2, ⟨g3, n.hand.upd' p.lc.ns p.nc, p.nc⟩, Tp.put g1⟩
theorem LcH.done (p : LcH C hd ca H1 D xs H) : Hn C hd ca H1 H := ⟨p.lc.sm, p.hand⟩
end
theorem cmul_mod {z M t : Int} (h : 0 < M) (h2 : M < 4294967296) : CMul (z % M) t := by
  have h3 := Int.emod_nonneg z (show M ≠ 0 by omega)
  have h4 := Int.emod_lt_of_pos z h
  exact .inl ⟨by omega, by omega⟩
def sp_draw (C : Addr) : Sp := fun vs H Q _ => ∃ hd ca, ∃ m : Int, vs = [.ref hd, .int m] ∧ HandAt H hd ca ∧ 0 < m ∧ m < 1000000 ∧ ∀ (r : Int) H', 0 ≤ r → r < m → Hn C hd ca H H' → Q (.int r) H'
section
variable {P : Program} {w : World} {K : PySem.W.Frag} {mg : Str → Option Value} {base : Heap}
theorem ok__law_draw (T : Txt K mg) : FnOk P w K mg base CX0 1 (a__law_draw K) (fdOf K (a__law_draw K)) ["_law_hand_here", "_law_many"] (sp_draw (CP K)) := by
  refine T.F__law_draw.ok sc__law_draw (fun vs H Q E h => ?_) (fun cdv A outer s H vs Q E hr h => ?_)
  · obtain ⟨hd, ca, m, rfl, _⟩ := h
    rfl
  obtain ⟨hd, ca, m, rfl, ⟨cells, i, c, x, y, hh⟩, hm0, hm1, k⟩ := h
  refine ⟨_, PSs.nox (C8.pss_cut (ps_if (PW.pt (pw_and (pt_cmpR op_eq (pe_ix ix_list (pv 0) pe_int (fun _ _ => rfl)) pe_int (nomark _)) (pw_and1 (pt_cmpR op_lt (pe_ix ix_list (pv 0) pe_int (fun _ _ => rfl)) (pe_callB call_len_seq (by rfl) T.z_len boot_len (pa_cons (pe_ix ix_list (pv 0) pe_int (fun _ _ => rfl)) pa_nil)) (nomark _)))))
    (pss_cons (ps_set (i := 2) sc__law_draw.nd rfl (Or.inl rfl) (pe_ix ix_list (pe_ix ix_list (pv 0) pe_int (fun _ _ => rfl)) (pe_ix ix_list (pv 0) pe_int (fun _ _ => rfl)) (fun _ _ => rfl)))
    (pss_cons (ps_asg (pe_op op_add (pe_ix ix_list (pv 0) pe_int (fun _ _ => rfl)) pe_int) (pg_sub (pv 0) pe_int set_list))
    (pss_cons (ps_asg (pe_op op_mod (pe_callTy call_int1 (by rfl) T.z_int (by decide +kernel) (pa_cons (pe_op op_add (pe_op op_add (pe_op op_mul (pe_ix ix_list (pv 0) pe_int (fun _ _ => rfl)) pe_int) (pv 2)) pe_int) pa_nil)) pe_int) (pg_sub (pv 0) pe_int set_list))
    (pss_one (ps_if (pt_cmpR op_ge (pv 2) (pe_op op_pow pe_int pe_int) (nomark _))
    (pss_one (ps_asg (pv 2) (pg_sub (pv 0) pe_int set_list)))
    pss_nil)))))
    pss_nil)
    (pss_cons (ps_if (pt_cmpR op_gt (pe_ix ix_list (pv 0) pe_int (fun _ _ => rfl)) pe_int (nomark _))
    (pss_cons (ps_set (i := 3) sc__law_draw.nd rfl (Or.inl rfl) (pe_op op_mod (pe_callTy call_int1 (by rfl) T.z_int (by decide +kernel) (pa_cons (pe_ix ix_list (pv 0) pe_int (fun _ _ => rfl)) pa_nil)) (pv 1)))
    (pss_cons (ps_asg (pe_op op_fdivP (pe_ix ix_list (pv 0) pe_int (fun _ _ => rfl)) (pv 1)) (pg_sub (pv 0) pe_int set_list))
    (pss_one (ps_ret (pv 3)))))
    pss_nil)
    (pss_cons (ps_asg (pe_op op_add (pe_ix ix_list (pv 0) pe_int (fun _ _ => rfl)) pe_int) (pg_sub (pv 0) pe_int set_list))
    (pss_cons (ps_set (i := 4) sc__law_draw.nd rfl (Or.inl rfl) (pe_op op_mod (pe_callTy call_int1 (by rfl) T.z_int (by decide +kernel) (pa_cons (pe_op op_mul (pe_callTy call_int1 (by rfl) T.z_int (by decide +kernel) (pa_cons (pe_op op_add (pe_ix ix_list (pv 0) pe_int (fun _ _ => rfl)) (pe_op op_mul pe_int (pe_ix ix_list (pv 0) pe_int (fun _ _ => rfl)))) pa_nil)) pe_int) pa_nil)) pe_int))
    (pss_cons (ps_set (i := 4) sc__law_draw.nd rfl (Or.inl rfl) (pe_op op_mod (pe_callTy call_int1 (by rfl) T.z_int (by decide +kernel) (pa_cons (pe_op op_mul (pv 4) (pe_op op_add (pe_op op_fdiv (pv 4) pe_int) pe_int)) pa_nil)) pe_int))
    (pss_cons (ps_set (i := 4) sc__law_draw.nd rfl (Or.inl rfl) (pe_op op_mod (pe_callTy call_int1 (by rfl) T.z_int (by decide +kernel) (pa_cons (pe_op op_mul (pv 4) (pe_op op_add (pe_op op_fdiv (pv 4) pe_int) pe_int)) pa_nil)) pe_int))
    (pss_one (ps_ret (pe_op op_mod (pe_callTy call_int1 (by rfl) T.z_int (by decide +kernel) (pa_cons (pe_op op_fdiv (pv 4) pe_int) pa_nil)) (pv 1)))))))))), ?_⟩
  refine ⟨fun σ' H' => ∃ a i c x y, σ' = [some (.ref hd), some (.int m), a, none, none] ∧ HandIs H' hd ca cells i c x y ∧ Fr (CP K) (· = hd) H H', ?_, ?_⟩
  · have hat := hh.at_
    have hcs := hh.cs
    walk_at "gg"
    refine if2 (fun _ => ?_) (fun _ => ?_)
    · walk_at "gg"
      refine if2 (fun c2 => ?_) (fun _ => ?_)
      · have c2 : i < (((cells.map V.int).length : Nat) : Int) := of_decide_eq_true c2
        rw [List.length_map] at c2
        have h0 := hh.nn
        obtain ⟨z, hz⟩ : ∃ z, atI (cells.map V.int) i = some (V.int z) := by
          have hl : i.toNat < cells.length := by omega
          exact ⟨cells[i.toNat], at_of (j := i.toNat) (by omega) (by rw [List.getElem?_map, List.getElem?_eq_getElem hl]; rfl)⟩
        walk_at "gg"
        refine ⟨_, _, _, _, rfl, rfl, SqL.of hcs, hz, ?_⟩
        walk_at "gg"
        refine ⟨_, _, _, _, rfl, rfl, hat, rfl, ?_⟩
        obtain ⟨g1, f1⟩ := hh.put (C := CP K) (i' := i + 1) (c' := c) (x' := x) (y' := y) (by omega)
        have hat1 := g1.at_
        walk_at "gg"
        refine ⟨_, _, _, _, rfl, rfl, hat1, rfl, ?_⟩
        obtain ⟨g2, f2⟩ := g1.put (C := CP K) (i' := i + 1) (c' := c) (x' := (x * 69621 + z + 11) % 2147483629) (y' := y) (by omega)
        have hat2 := g2.at_
        walk_at "gg"
        refine if2 (fun _ => ?_) (fun _ => ?_)
        · walk_at "gg"
          refine ⟨_, _, _, _, rfl, rfl, hat2, rfl, ?_⟩
          obtain ⟨g3, f3⟩ := g2.put (C := CP K) (i' := i + 1) (c' := z) (x' := (x * 69621 + z + 11) % 2147483629) (y' := y) (by omega)
          exact ⟨_, _, _, _, _, rfl, g3, (f1.trans f2).trans f3⟩
        · exact ⟨_, _, _, _, _, rfl, g2, f1.trans f2⟩
      · exact ⟨_, _, _, _, _, rfl, hh, Fr.refl⟩
    · exact ⟨_, _, _, _, _, rfl, hh, Fr.refl⟩
  rintro σ' H' ⟨a, i, c, x, y, rfl, hh, f⟩
  have hat := hh.at_
  walk_at "gg"
  refine if2 (fun _ => ?_) (fun _ => ?_)
  · walk_at "gg"
    refine ⟨hm0, ?_⟩
    walk_at "gg"
    refine ⟨cdivP (by omega) ⟨by show -1000000000000000000 ≤ m; omega, by show m ≤ 1000000000000000000; omega⟩, ?_⟩
    walk_at "gg"
    refine ⟨_, _, _, _, rfl, rfl, hat, rfl, ?_⟩
    obtain ⟨g1, f1⟩ := hh.put (C := CP K) (i' := i) (c' := c.fdiv m) (x' := x) (y' := y) hh.nn
    walk_at "gg"
    exact k _ _ (Int.emod_nonneg _ (by omega)) (Int.emod_lt_of_pos _ hm0) ⟨f.trans f1, _, _, _, _, _, g1⟩
  · walk_at "gg"
    refine ⟨_, _, _, _, rfl, rfl, hat, rfl, ?_⟩
    obtain ⟨g1, f1⟩ := hh.put (C := CP K) (i' := i) (c' := c) (x' := x) (y' := y + 1) hh.nn
    have hat1 := g1.at_
    walk_at "gg"
    refine ⟨cmul_mod (by decide) (by decide), ?_⟩
    walk_at "gg"
    refine ⟨cmul_mod (by decide) (by decide), ?_⟩
    walk_at "gg"
    refine ⟨hm0, ?_⟩
    exact k _ _ (Int.emod_nonneg _ (by omega)) (Int.emod_lt_of_pos _ hm0) ⟨f.trans f1, _, _, _, _, _, g1⟩
def sp_any (C : Addr) : Sp := fun vs H Q _ => ∃ hd ca p ws, vs = [.ref hd, .ref p] ∧ HandAt H hd ca ∧ H p = some (.lst ws) ∧ p ≠ hd ∧ ws ≠ [] ∧ ws.length ≤ 1000 ∧ ∀ v H', v ∈ ws → Hn C hd ca H H' → Q v H'
theorem ok__law_any (T : Txt K mg) : FnOk P w K mg base CX0 2 (a__law_any K) (fdOf K (a__law_any K)) ["_law_hand_here", "_law_some"] (sp_any (CP K)) := by
  have G__law_draw := ok__law_draw (P := P) (w := w) (base := base) T
  refine T.F__law_any.ok sc__law_any (fun vs H Q E h => ?_) (fun cdv A outer s H vs Q E hr h => ?_)
  · obtain ⟨hd, ca, p, ws, rfl, _⟩ := h
    rfl
  obtain ⟨hd, ca, p, ws, rfl, hh, hp, hne, hn, hl, k⟩ := h
  refine ⟨_, PSs.nox (pss_one (ps_ret (pe_ix ix_list (pv 1) (pe_call G__law_draw (hr.mono (by decide)) rfl T.g__law_draw T.F__law_draw.kp T.b__law_draw .nil pass0 (pa_cons (pv 0) (pa_cons (pe_callB call_len_seq (by rfl) T.z_len boot_len (pa_cons (pv 1) pa_nil)) pa_nil))) (fun _ _ => rfl)))), ?_⟩
  walk_at "gg"
  have h0 : 0 < ws.length := List.length_pos_iff.mpr hn
  refine ⟨hd, ca, _, rfl, hh, by omega, by omega, fun r H1 h1 h2 n1 => ?_⟩
  have hlt : r.toNat < ws.length := by omega
  refine ⟨_, _, _, _, rfl, rfl, SqL.of (n1.fr.st _ _ hp hne), at_of (j := r.toNat) (by omega) (List.getElem?_eq_getElem hlt), ?_⟩
  exact k _ _ (List.getElem_mem hlt) n1
def sp_name (C : Addr) : Sp := fun vs H Q _ => ∃ hd ca, vs = [.ref hd] ∧ HandAt H hd ca ∧ ∀ (n : Nm) H', Hn C hd ca H H' → Q (.str n.str) H'
theorem ok__law_name (T : Txt K mg) : FnOk P w K mg base CX0 3 (a__law_name K) (fdOf K (a__law_name K)) ["_law_hand_here"] (sp_name (CP K)) := by
  have G__law_any := ok__law_any (P := P) (w := w) (base := base) T
  refine T.F__law_name.ok sc__law_name (fun vs H Q E h => ?_) (fun cdv A outer s H vs Q E hr h => ?_)
  · obtain ⟨hd, ca, rfl, _⟩ := h
    rfl
  obtain ⟨hd, ca, rfl, hh, k⟩ := h
  refine ⟨_, PSs.nox (pss_one (ps_ret (pe_call G__law_any (hr.mono (by decide)) rfl T.g__law_any T.F__law_any.kp T.b__law_any .nil pass0 (pa_cons (pv 0) (pa_cons (pe_lst (pa_cons pe_str (pa_cons pe_str (pa_cons pe_str (pa_cons pe_str pa_nil))))) pa_nil))))), ?_⟩
  walk_at "gg"
  refine ⟨szr, fun p hp => ?_⟩
  refine ⟨hd, ca, p, _, rfl, hh.same (same_new hp), upd_same, hh.ne hp, (fun z => nomatch z), by decide, fun v H1 hv n1 => ?_⟩
  have n2 : Hn (CP K) hd ca H H1 := ((Hn.refl hh).new hp).trans n1
  have e : ∃ n : Nm, v = .str n.str := by
    simp only [List.mem_cons, List.not_mem_nil, or_false] at hv
    rcases hv with rfl | rfl | rfl | rfl
    · exact ⟨.a, rfl⟩
    · exact ⟨.b, rfl⟩
    · exact ⟨.zz, rfl⟩
    · exact ⟨.h, rfl⟩
  obtain ⟨n, rfl⟩ := e
  exact k n H1 n2
def sp_lone (C : Addr) : Sp := fun vs H Q _ => ∃ hd ca, vs = [.ref hd] ∧ HandAt H hd ca ∧ ∀ v e H', Hn C hd ca H H' → ExAt H' v e → e.bd → e.depth = 1 → Q v H'
theorem ok__law_lone (T : Txt K mg) : FnOk P w K mg base CX0 4 (a__law_lone K) (fdOf K (a__law_lone K)) ["_law_hand_here"] (sp_lone (CP K)) := by
  have G__law_draw := ok__law_draw (P := P) (w := w) (base := base) T
  have G__law_any := ok__law_any (P := P) (w := w) (base := base) T
  have G__law_name := ok__law_name (P := P) (w := w) (base := base) T
  refine T.F__law_lone.ok sc__law_lone (fun vs H Q E h => ?_) (fun cdv A outer s H vs Q E hr h => ?_)
  · obtain ⟨hd, ca, rfl, _⟩ := h
    rfl
  obtain ⟨hd, ca, rfl, hh, k⟩ := h
  refine ⟨_, PSs.nox (pss_cons (ps_set (i := 1) sc__law_lone.nd rfl (Or.inl rfl) (pe_call G__law_draw (hr.mono (by decide)) rfl T.g__law_draw T.F__law_draw.kp T.b__law_draw .nil pass0 (pa_cons (pv 0) (pa_cons pe_int pa_nil))))
    (pss_cons (ps_if (pt_cmpR op_lt (pv 1) pe_int (nomark _))
    (pss_one (ps_ret (pe_tup (pa_cons pe_str (pa_cons (pe_call G__law_any (hr.mono (by decide)) rfl T.g__law_any T.F__law_any.kp T.b__law_any .nil pass0 (pa_cons (pv 0) (pa_cons (pe_lst (pa_cons pe_int (pa_cons pe_int (pa_cons pe_int (pa_cons pe_int (pa_cons (pe_un un_neg pe_int) (pa_cons pe_int (pa_cons pe_int (pa_cons (pe_op op_pow pe_int pe_int) (pa_cons (pe_un un_neg (pe_op op_pow pe_int pe_int)) (pa_cons (pe_call G__law_draw (hr.mono (by decide)) rfl T.g__law_draw T.F__law_draw.kp T.b__law_draw .nil pass0 (pa_cons (pv 0) (pa_cons pe_int pa_nil))) pa_nil))))))))))) pa_nil))) pa_nil)))))
    pss_nil)
    (pss_cons (ps_if (pt_cmpR op_lt (pv 1) pe_int (nomark _))
    (pss_one (ps_ret (pe_tup (pa_cons pe_str (pa_cons (pe_call G__law_any (hr.mono (by decide)) rfl T.g__law_any T.F__law_any.kp T.b__law_any .nil pass0 (pa_cons (pv 0) (pa_cons (pe_lst (pa_cons pe_str (pa_cons pe_str (pa_cons pe_str (pa_cons pe_str (pa_cons pe_str pa_nil)))))) pa_nil))) pa_nil)))))
    pss_nil)
    (pss_one (ps_ret (pe_tup (pa_cons (pe_ix ix_list (pe_lst (pa_cons pe_str (pa_cons pe_str (pa_cons pe_str pa_nil)))) (pe_op op_sub (pv 1) pe_int) (fun _ _ => rfl)) (pa_cons (pe_call G__law_name (hr.mono (by decide)) rfl T.g__law_name T.F__law_name.kp T.b__law_name .nil pass0 (pa_cons (pv 0) pa_nil)) pa_nil)))))))), ?_⟩
  walk_at "gg"
  refine ⟨hd, ca, _, rfl, hh, by decide, by decide, fun r H1 h1 h2 n1 => ?_⟩
  walk_at "gg"
  refine if2 (fun _ => ?_) (fun c1 => ?_)
  · walk_at "gg"
    refine ⟨hd, ca, _, rfl, n1.hand, by decide, by decide, fun r2 H2 h3 h4 n2 => ?_⟩
    refine ⟨szr, fun p hp => ?_⟩
    have n3 := n1.trans n2
    refine ⟨hd, ca, p, _, rfl, n3.hand.same (same_new hp), upd_same, n3.hand.ne hp, (fun z => nomatch z), (show 10 ≤ 1000 by decide), fun v H3 hv n4 => ?_⟩
    have n5 := (n3.new hp).trans n4
    obtain ⟨z, rfl, hz1, hz2⟩ : ∃ z, v = .int z ∧ -big ≤ z ∧ z ≤ big := by
      simp only [List.mem_cons, List.not_mem_nil, or_false] at hv
      rcases hv with h | h | h | h | h | h | h | h | h | h
      all_goals first
        | exact ⟨_, h, by decide, by decide⟩
        | exact ⟨_, h, by show -1000000000000000000 ≤ r2; omega, by show r2 ≤ 1000000000000000000; omega⟩
    refine ⟨szr, fun q hq => ?_⟩
    exact k _ (.num z) _ (n5.new hq) ⟨q, rfl, upd_same⟩ ⟨hz1, hz2⟩ rfl
  walk_at "gg"
  refine if2 (fun _ => ?_) (fun c2 => ?_)
  · walk_at "gg"
    refine ⟨szr, fun p hp => ?_⟩
    refine ⟨hd, ca, p, _, rfl, n1.hand.same (same_new hp), upd_same, n1.hand.ne hp, (fun z => nomatch z), by decide, fun v H3 hv n4 => ?_⟩
    have n5 := (n1.new hp).trans n4
    obtain ⟨f, rfl⟩ : ∃ f : Fct, v = .str f.str := by
      simp only [List.mem_cons, List.not_mem_nil, or_false] at hv
      rcases hv with rfl | rfl | rfl | rfl | rfl
      · exact ⟨.beat, rfl⟩
      · exact ⟨.person, rfl⟩
      · exact ⟨.need, rfl⟩
      · exact ⟨.things, rfl⟩
      · exact ⟨.people, rfl⟩
    refine ⟨szr, fun q hq => ?_⟩
    exact k _ (.fact f) _ (n5.new hq) ⟨q, rfl, upd_same⟩ trivial rfl
  have c2 : ¬ r < 4 := of_decide_eq_false c2
  walk_at "gg"
  refine ⟨szr, fun p hp => ?_⟩
  walk_at "gg"
  obtain ⟨h, hh2⟩ : ∃ h : Hd, atI [V.str "let", V.str "keep", V.str "own"] (r - 4) = some (.str h.str) := by
    rcases (show r = 4 ∨ r = 5 ∨ r = 6 by omega) with rfl | rfl | rfl
    · exact ⟨.lt, rfl⟩
    · exact ⟨.kp, rfl⟩
    · exact ⟨.ow, rfl⟩
  refine ⟨_, _, _, _, rfl, rfl, SqL.of upd_same, hh2, ?_⟩
  walk_at "gg"
  refine ⟨hd, ca, rfl, n1.hand.same (same_new hp), fun n H3 n4 => ?_⟩
  have n5 := (n1.new hp).trans n4
  refine ⟨szr, fun q hq => ?_⟩
  exact k _ (.hold h n) _ (n5.new hq) ⟨q, rfl, upd_same⟩ trivial rfl
/-- a drawn expression of at most n levels -/
def sp_expression (C : Addr) (n : Nat) : Sp := fun vs H Q _ => ∃ hd ca, ∃ d : Int, vs = [.ref hd, .int d] ∧ HandAt H hd ca ∧ 1 ≤ d ∧ d ≤ n ∧ ∀ v e H', Hn C hd ca H H' → ExAt H' v e → e.bd → (e.depth : Int) ≤ d → Q v H'
theorem ok__law_expression (T : Txt K mg) : ∀ n : Nat, FnOk P w K mg base CX0 (4 + n) (a__law_expression K) (fdOf K (a__law_expression K)) ["_law_hand_here", "_law_deep"] (sp_expression (CP K) n)
  | 0 => FnOk.vac fun vs H Q E h => by
    obtain ⟨hd, ca, d, _, _, h1, h2, _⟩ := h
    omega
  | n + 1 => by
    have G__law_draw := ok__law_draw (P := P) (w := w) (base := base) T
    have G__law_any := ok__law_any (P := P) (w := w) (base := base) T
    have G__law_lone := ok__law_lone (P := P) (w := w) (base := base) T
    have G__law_expression := ok__law_expression T n
    refine T.F__law_expression.ok sc__law_expression (fun vs H Q E h => ?_) (fun cdv A outer s H vs Q E hr h => ?_)
    · obtain ⟨hd, ca, d, rfl, _⟩ := h
      rfl
    obtain ⟨hd, ca, d, rfl, hh, hd1, hd2, k⟩ := h
    have hr : Room (n + 4) _ := hr.mono (by simp; omega)
    refine ⟨_, PSs.nox (pss_cons (ps_set (i := 2) sc__law_expression.nd rfl (Or.inl rfl) (pe_ifExp (pt_cmpR op_gt (pv 1) pe_int (nomark _)) (pe_call G__law_draw (hr.mono (by omega)) rfl T.g__law_draw T.F__law_draw.kp T.b__law_draw .nil pass0 (pa_cons (pv 0) (pa_cons pe_int pa_nil))) pe_int))
    (pss_cons (ps_if (pt_cmpR op_lt (pv 2) pe_int (nomark _))
    (pss_one (ps_ret (pe_call G__law_lone (hr.mono (by omega)) rfl T.g__law_lone T.F__law_lone.kp T.b__law_lone .nil pass0 (pa_cons (pv 0) pa_nil))))
    pss_nil)
    (pss_cons (ps_if (pt_cmpR op_eq (pv 2) pe_int (nomark _))
    (pss_one (ps_ret (pe_tup (pa_cons pe_str (pa_cons (pe_call G__law_expression (hr.mono (by omega)) rfl T.g__law_expression T.F__law_expression.kp T.b__law_expression .nil pass0 (pa_cons (pv 0) (pa_cons (pe_op op_sub (pv 1) pe_int) pa_nil))) pa_nil)))))
    pss_nil)
    (pss_cons (ps_set (i := 3) sc__law_expression.nd rfl (Or.inl rfl) (pe_call G__law_any (hr.mono (by omega)) rfl T.g__law_any T.F__law_any.kp T.b__law_any .nil pass0 (pa_cons (pv 0) (pa_cons (pe_lst (pa_cons pe_str (pa_cons pe_str (pa_cons pe_str (pa_cons pe_str (pa_cons pe_str (pa_cons pe_str (pa_cons pe_str (pa_cons pe_str (pa_cons pe_str (pa_cons pe_str (pa_cons pe_str pa_nil)))))))))))) pa_nil))))
    (pss_one (ps_ret (pe_tup (pa_cons (pv 3) (pa_cons (pe_call G__law_expression (hr.mono (by omega)) rfl T.g__law_expression T.F__law_expression.kp T.b__law_expression .nil pass0 (pa_cons (pv 0) (pa_cons (pe_op op_sub (pv 1) pe_int) pa_nil))) (pa_cons (pe_call G__law_expression (hr.mono (by omega)) rfl T.g__law_expression T.F__law_expression.kp T.b__law_expression .nil pass0 (pa_cons (pv 0) (pa_cons (pe_op op_sub (pv 1) pe_int) pa_nil))) pa_nil)))))))))), ?_⟩
    walk_at "gg"
    refine if2 (fun c1 => ?_) (fun c1 => ?_)
    · have c1 : 1 < d := of_decide_eq_true c1
      refine ⟨_, rfl, _, ca, _, rfl, hh, by decide, by decide, fun r H1 h1 h2 n1 => ?_⟩
      walk_at "gg"
      refine if2 (fun _ => ?_) (fun c2 => ?_)
      · refine ⟨_, rfl, hd, ca, rfl, n1.hand, fun v e H2 n2 he hb hdp => ?_⟩
        exact k v e _ (n1.trans n2) he hb (by omega)
      walk_at "gg"
      refine if2 (fun _ => ?_) (fun c3 => ?_)
      · walk_at "gg"
        refine ⟨hd, ca, _, rfl, n1.hand, by omega, by omega, fun v e H2 n2 he hb hdp => ?_⟩
        walk_at "gg"
        refine ⟨szr, fun q hq => ?_⟩
        exact k _ (.neg e) _ ((n1.trans n2).new hq) ⟨q, v, rfl, upd_same, he.mono (same_tp (same_new hq))⟩ hb (by show ((e.depth + 1 : Nat) : Int) ≤ d; omega)
      · walk_at "gg"
        refine ⟨szr, fun p hp => ?_⟩
        refine ⟨hd, ca, p, _, rfl, n1.hand.same (same_new hp), upd_same, n1.hand.ne hp, (fun z => nomatch z), by decide, fun v H3 hv n4 => ?_⟩
        have n5 := (n1.new hp).trans n4
        obtain ⟨sg, rfl⟩ : ∃ sg : Sg, v = .str sg.str := by
          simp only [List.mem_cons, List.not_mem_nil, or_false] at hv
          rcases hv with rfl | rfl | rfl | rfl | rfl | rfl | rfl | rfl | rfl | rfl | rfl
          · exact ⟨.add, rfl⟩
          · exact ⟨.sub, rfl⟩
          · exact ⟨.mul, rfl⟩
          · exact ⟨.div, rfl⟩
          · exact ⟨.mod, rfl⟩
          · exact ⟨.min, rfl⟩
          · exact ⟨.max, rfl⟩
          · exact ⟨.less, rfl⟩
          · exact ⟨.eq, rfl⟩
          · exact ⟨.and, rfl⟩
          · exact ⟨.or, rfl⟩
        walk_at "gg"
        refine ⟨hd, ca, _, rfl, n5.hand, by omega, by omega, fun v1 e1 H4 n6 he1 hb1 hdp1 => ?_⟩
        walk_at "gg"
        refine ⟨hd, ca, _, rfl, n6.hand, by omega, by omega, fun v2 e2 H5 n7 he2 hb2 hdp2 => ?_⟩
        walk_at "gg"
        refine ⟨szr, fun q hq => ?_⟩
        refine k _ (.bin sg e1 e2) _ (((n5.trans n6).trans n7).new hq) ⟨q, v1, v2, rfl, upd_same, he1.mono (n7.fr.tp.trans (same_tp (same_new hq))), he2.mono (same_tp (same_new hq))⟩ ⟨hb1, hb2⟩ ?_
        show ((Nat.max e1.depth e2.depth + 1 : Nat) : Int) ≤ d
        have : Nat.max e1.depth e2.depth ≤ (d - 1).toNat := Nat.max_le.mpr ⟨by omega, by omega⟩
        omega
    · walk_at "gg"
      refine ⟨hd, ca, rfl, hh, fun v e H2 n2 he hb hdp => ?_⟩
      exact k v e _ n2 he hb (by omega)
/-! ### how many parts an expression has, by the law -/
def sp__law_parts (n : Nat) : Sp := fun vs H Q _ => ∃ v e, vs = [v] ∧ ExAt H v e ∧ e.depth ≤ n ∧ ∀ H', Same H H' → Q (.int e.parts) H'
theorem psum_map (es : List Ex) : ((es.map fun e => (e.parts : Int))).sum = ((psum es : Nat) : Int) := by
  unfold psum
  induction es with
  | nil => rfl
  | cons a r ih =>
    simp only [List.map_cons, List.sum_cons, ih]
    omega
def getF {α : Type} (g : α → V) (es : List α) : Nat → V := fun i => match es[i]? with
  | some a => g a
  | none => .non
theorem getF_map {α : Type} (g : α → V) (es : List α) : (List.range es.length).map (getF g es) = es.map g := by
  apply List.ext_getElem?
  intro i
  rw [List.getElem?_map, List.getElem?_map]
  by_cases h : i < es.length
  · rw [List.getElem?_range h, List.getElem?_eq_getElem h]
    show some (getF g es i) = some (g es[i])
    unfold getF
    rw [List.getElem?_eq_getElem h]
  · rw [List.getElem?_eq_none (by rw [List.length_range]; omega), List.getElem?_eq_none (by omega)]
    rfl
theorem getF_at {α : Type} {g : α → V} {es : List α} {i : Nat} {a : α} (h : es[i]? = some a) : getF g es i = g a := by
  unfold getF
  rw [h]
theorem leaf_in (e : Ex) : inV (.str e.word) [.str "num", .str "fact", .str "let", .str "keep", .str "own"] = e.leaf := by
  cases e with
  | num z => rfl
  | fact z => rfl
  | hold h n => cases h <;> rfl
  | neg a => rfl
  | bin s a b => cases s <;> rfl
theorem ok__law_parts (T : Txt K mg) : ∀ n : Nat, FnOk P w K mg base CX0 n (a__law_parts K) (fdOf K (a__law_parts K)) ["_law_thing"] (sp__law_parts n)
  | 0 => FnOk.vac fun vs H Q E h => by
    obtain ⟨v, e, _, _, h0, _⟩ := h
    have := e.depth_pos
    omega
  | n + 1 => by
    have G__law_parts := ok__law_parts T n
    refine T.F__law_parts.ok sc__law_parts (fun vs H Q E h => ?_) (fun cdv A outer s H vs Q E hr h => ?_)
    · obtain ⟨v, e, rfl, _⟩ := h
      rfl
    obtain ⟨v, e, rfl, he, hd, k⟩ := h
    refine ⟨_, PSs.nox (pss_cons (ps_if (pt_cmpR op_in_seq (pe_ix ix_tup (pv 0) pe_int (fun _ _ => rfl)) (pe_tup (pa_cons pe_str (pa_cons pe_str (pa_cons pe_str (pa_cons pe_str (pa_cons pe_str pa_nil)))))) (by rfl))
    (pss_one (ps_ret pe_int))
    pss_nil)
    (pss_one (ps_ret (pe_op op_add pe_int (pe_callB (cr_sum rfl) (by rfl) T.z_sum (by decide +kernel) (pa_cons (pe_lc (own := [("_law_one", 1)]) rfl sc__law_parts.nd (pi_tup (pe_slice sl_tupA (pv 0) (po_some pe_int) po_none)) (blkOk_by (own := [("_law_one", 1)]) (N := ["_law_thing", "_law_one"]) (sc := defScope s__law_parts) (by decide +kernel)) (fun _ _ _ _ _ => (pg_name (i := 1) sc__law_parts.nd rfl (Or.inl rfl))) (fun _ _ _ _ _ => pts_nil) (fun _ _ _ _ _ => (pe_call G__law_parts (hr.mono (by omega)) rfl T.g__law_parts T.F__law_parts.kp T.b__law_parts .nil pass0 (pa_cons (pv 1) pa_nil)))) pa_nil)))))), ?_⟩
    obtain ⟨p, xs, rfl, hp, hx⟩ := he.tup
    walk_at "gg"
    refine ⟨szr, fun u hu => ?_⟩
    walk_at "gg"
    refine if2 (fun hl => ?_) (fun hl => ?_)
    · have hl : e.leaf = true := (leaf_in e).symm.trans hl
      have q := k _ (same_new (o := .tup [.str "num", .str "fact", .str "let", .str "keep", .str "own"]) hu)
      rw [Ex.parts_leaf hl] at q
      exact q
    have hl : e.leaf = false := (leaf_in e).symm.trans hl
    have s1 : Same H _ := same_new (o := .tup [.str "num", .str "fact", .str "let", .str "keep", .str "own"]) hu
    clear hx hp xs
    obtain ⟨p', xs, ep, hp, hx⟩ := (he.mono (same_tp s1)).node hl
    cases ep
    generalize upd H u (.tup [.str "num", .str "fact", .str "let", .str "keep", .str "own"]) = H1 at *
    walk_at "gg"
    refine ⟨_, _, rfl, SqT.of hp, (fun z => absurd z not_all1), fun _ q hq => ?_⟩
    rw [cut1]
    have s2 := s1.trans (same_new (o := .tup xs) hq)
    have hx2 : ExsAt (upd H1 q (.tup xs)) xs e.subs := hx.mono (same_tp (same_new hq))
    refine ⟨q, rfl, ⟨_, SqT.of upd_same⟩, fun D hD => lc_tup (xs := xs) (Lc _ D (getF (fun a : Ex => .int a.parts) e.subs)) (Lc.zero hD) (fun i H2 _ r => SqT.of (r.sm _ _ upd_same)) ?_ ?_⟩
    · intro i x H2 hi r
      obtain ⟨a, ha, hax⟩ := (hx2.mono (same_tp r.sm)).get hi
      walk_at "gg"
      refine ⟨_, a, rfl, hax, Ex.subs_depth ha hd, fun H3 s3 => ?_⟩
      have hi2 : i < 3 := by
        have := (List.getElem?_eq_some_iff.mp ha).1
        have h3 : e.subs.length ≤ 2 := by cases e <;> simp [Ex.subs]
        omega
      exact r.step s3 (getF_at (g := fun a : Ex => V.int a.parts) ha).symm (by omega)
    · intro H2 r
      walk_at "gg"
      refine ⟨D, e.subs.map fun a => (a.parts : Int), rfl, SqL.of (by rw [r.at_, hx.1, getF_map, List.map_map]; rfl), ?_⟩
      walk_at "gg"
      have q1 := k H2 (s2.trans r.sm)
      rw [Ex.parts_node hl] at q1
      have e3 : (1 : Int) + (e.subs.map fun a => (a.parts : Int)).sum = ((psum e.subs + 1 : Nat) : Int) := by
        rw [psum_map]
        omega
      show Q (.int ((1 : Int) + (e.subs.map fun a => (a.parts : Int)).sum)) H2
      rw [e3]
      exact q1
theorem pow_two_max {a b n : Nat} (h : Nat.max a b ≤ n) : 2 ^ a ≤ 2 ^ n ∧ 2 ^ b ≤ 2 ^ n :=
  ⟨Nat.pow_le_pow_right (by decide) (Nat.le_trans (Nat.le_max_left _ _) h), Nat.pow_le_pow_right (by decide) (Nat.le_trans (Nat.le_max_right _ _) h)⟩
theorem Ex.parts_le : ∀ e : Ex, e.parts + 1 ≤ 2 ^ e.depth
  | .num _ => (show 1 + 1 ≤ 2 ^ 1 by decide)
  | .fact _ => (show 1 + 1 ≤ 2 ^ 1 by decide)
  | .hold _ _ => (show 1 + 1 ≤ 2 ^ 1 by decide)
  | .neg a => by
    have h := a.parts_le
    have h2 := Nat.one_le_two_pow (n := a.depth)
    show a.parts + 1 + 1 ≤ 2 ^ (a.depth + 1)
    rw [Nat.pow_succ]
    omega
  | .bin _ a b => by
    have h1 := a.parts_le
    have h2 := b.parts_le
    obtain ⟨p1, p2⟩ := pow_two_max (Nat.le_refl (Nat.max a.depth b.depth))
    show a.parts + b.parts + 1 + 1 ≤ 2 ^ (Nat.max a.depth b.depth + 1)
    rw [Nat.pow_succ]
    omega
/-- in the loop that makes it small -/
def Smaller (i : Nat) (e : Ex) : Prop := e.bd ∧ e.depth ≤ 6 ∧ (e.parts ≤ 30 ∨ e.depth + i ≤ 6)
theorem Smaller.done {e : Ex} (h : Smaller 3 e) : e.ok := by
  obtain ⟨h1, h2, h3⟩ := h
  refine ⟨h2, ?_, h1⟩
  rcases h3 with h3 | h3
  · exact h3
  · have h4 := e.parts_le
    have h5 : 2 ^ e.depth ≤ 2 ^ 3 := Nat.pow_le_pow_right (by decide) (by omega)
    omega
def sp_small (C : Addr) : Sp := fun vs H Q _ => ∃ hd ca, vs = [.ref hd] ∧ HandAt H hd ca ∧ ∀ v e H', Hn C hd ca H H' → ExAt H' v e → e.ok → Q v H'
theorem ok__law_small (T : Txt K mg) : FnOk P w K mg base CX0 11 (a__law_small K) (fdOf K (a__law_small K)) ["_law_hand_here"] (sp_small (CP K)) := by
  have G__law_draw := ok__law_draw (P := P) (w := w) (base := base) T
  have G__law_expression := ok__law_expression (P := P) (w := w) (base := base) T 6
  have G__law_parts := ok__law_parts (P := P) (w := w) (base := base) T 6
  refine T.F__law_small.ok sc__law_small (fun vs H Q E h => ?_) (fun cdv A outer s H vs Q E hr h => ?_)
  · obtain ⟨hd, ca, rfl, _⟩ := h
    rfl
  obtain ⟨hd, ca, rfl, hh, k⟩ := h
  refine ⟨_, PSs.nox (pss_cons (ps_set (i := 1) sc__law_small.nd rfl (Or.inl rfl) (pe_call G__law_expression (hr.mono (by decide)) rfl T.g__law_expression T.F__law_expression.kp T.b__law_expression .nil pass0 (pa_cons (pv 0) (pa_cons (pe_op op_add pe_int (pe_call G__law_draw (hr.mono (by decide)) rfl T.g__law_draw T.F__law_draw.kp T.b__law_draw .nil pass0 (pa_cons (pv 0) (pa_cons pe_int pa_nil)))) pa_nil))))
    (pss_cons (ps_for PassesOwn.never rfl (pi_range1 (by rfl) T.z_range (pa_cons pe_int pa_nil)) (pg_name (i := 2) sc__law_small.nd rfl (Or.inl rfl))
    (pss_one (ps_set (i := 1) sc__law_small.nd rfl (Or.inl rfl) (pe_ifExp (pt_cmpR op_le (pe_call G__law_parts (hr.mono (by decide)) rfl T.g__law_parts T.F__law_parts.kp T.b__law_parts .nil pass0 (pa_cons (pv 1) pa_nil)) pe_int (nomark _)) (pv 1) (pe_ix ix_tup (pv 1) pe_int (fun _ _ => rfl))))))
    (pss_one (ps_ret (pv 1))))), ?_⟩
  walk_at "gg"
  refine ⟨hd, ca, _, rfl, hh, by decide, by decide, fun r H1 h1 h2 n1 => ?_⟩
  walk_at "gg"
  refine ⟨hd, ca, _, rfl, n1.hand, by omega, by omega, fun v e H2 n2 he hb hdp => ?_⟩
  walk_at "gg"
  refine ⟨by decide, by decide, for_range (lo := 0) (n := 3) (fun i σ H3 => ∃ v e a, σ = [some (.ref hd), some v, a] ∧ Hn (CP K) hd ca H H3 ∧ ExAt H3 v e ∧ Smaller i e) ⟨v, e, none, rfl, n1.trans n2, he, hb, by omega, .inr (by omega)⟩ ?_ ?_⟩
  · rintro i σ H3 hi ⟨v, e, a, rfl, n3, he, hs⟩
    walk_at "gg"
    refine ⟨_, e, rfl, he, hs.2.1, fun H4 s4 => ?_⟩
    walk_at "gg"
    have n4 := n3.same s4
    refine if2 (fun c => ?_) (fun c => ?_)
    · have c : ((e.parts : Nat) : Int) ≤ 30 := of_decide_eq_true c
      walk_at "gg"
      exact ⟨v, e, _, rfl, n4, he.mono (same_tp s4), hs.1, hs.2.1, .inl (by omega)⟩
    · have c : ¬ ((e.parts : Nat) : Int) ≤ 30 := of_decide_eq_false c
      have hl : e.leaf = false := by
        cases q : e.leaf with
        | false => rfl
        | true =>
          have := Ex.parts_leaf q
          omega
      obtain ⟨p, xs, rfl, hp, hx⟩ := (he.mono (same_tp s4)).node hl
      obtain ⟨a1, ha1⟩ : ∃ a1, e.subs[0]? = some a1 := by
        cases e <;> first | exact ⟨_, rfl⟩ | cases hl
      obtain ⟨x, r, rfl⟩ : ∃ x r, xs = x :: r := by
        cases xs with
        | nil =>
          have := hx.1
          have h9 := (List.getElem?_eq_some_iff.mp ha1).1
          simp at this
          omega
        | cons x r => exact ⟨x, r, rfl⟩
      have hax := hx.2 0 x a1 rfl ha1
      walk_at "gg"
      refine ⟨_, _, _, _, rfl, rfl, SqT.of hp, at1, ?_⟩
      have hd6 : e.depth ≤ 5 + 1 := hs.2.1
      refine ⟨x, a1, _, rfl, n4, hax, Ex.subs_bd ha1 hs.1, by have := Ex.subs_depth ha1 hd6; omega, .inr ?_⟩
      rcases hs.2.2 with q | q
      · omega
      · have h0 := e.depth_pos
        have := Ex.subs_depth (n := e.depth - 1) ha1 (by omega)
        omega
  · rintro σ H3 ⟨v, e, a, rfl, n3, he, hs⟩
    walk_at "gg"
    exact k v e _ n3 he hs.done
/-! ### statements and blocks -/
def Blk.one : Stm → Blk
  | .set h n e => .set h n e .nil
  | .give g e => .give g e .nil
  | .ite e a b => .ite e a b .nil
theorem Blk.one_at {H : Hp} {v : V} : ∀ {s : Stm}, StmAt H v s → StsAt H [v] (Blk.one s)
  | .set h n e, ⟨p, x, h1, h2, h3⟩ => ⟨p, x, [], by rw [h1], h2, h3, rfl⟩
  | .give g e, ⟨p, x, h1, h2, h3⟩ => ⟨p, x, [], by rw [h1], h2, h3, rfl⟩
  | .ite e a b, ⟨p, x, pa, pb, as, bs, h1, h2, h3, h4, h5, h6, h7⟩ => ⟨p, x, pa, pb, as, bs, [], by rw [h1], h2, h3, h4, h5, h6, h7, rfl⟩
theorem Blk.one_ok : ∀ {s : Stm}, s.ok → (Blk.one s).ok
  | .set _ _ _, h => ⟨h, trivial⟩
  | .give _ _, h => ⟨h, trivial⟩
  | .ite _ _ _, h => ⟨h.1, h.2.1, h.2.2, trivial⟩
/-- blocks within are at most n deep -/
def Stm.lev (n : Nat) : Stm → Prop
  | .ite _ a b => a.lev ≤ n ∧ b.lev ≤ n
  | _ => True
theorem Blk.one_lev {n : Nat} : ∀ {s : Stm}, s.lev n → (Blk.one s).lev ≤ n + 1
  | .set _ _ _, _ => Nat.succ_le_succ (Nat.zero_le _)
  | .give _ _, _ => Nat.succ_le_succ (Nat.zero_le _)
  | .ite _ a b, h => Nat.max_le.mpr ⟨Nat.succ_le_succ (Nat.max_le.mpr h), Nat.succ_le_succ (Nat.zero_le _)⟩
theorem Blk.one_len : ∀ s : Stm, (Blk.one s).len = 1
  | .set _ _ _ => rfl
  | .give _ _ => rfl
  | .ite _ _ _ => rfl
def sp_statement (C : Addr) (n : Nat) : Sp := fun vs H Q _ => ∃ hd ca, ∃ d : Nat, vs = [.ref hd, .int (d : Int)] ∧ HandAt H hd ca ∧ d < n ∧ ∀ v st H', Hn C hd ca H H' → StmAt H' v st → st.ok → st.lev d → Q v H'
def sp_block (C : Addr) (n : Nat) : Sp := fun vs H Q _ => ∃ hd ca, ∃ d : Nat, vs = [.ref hd, .int (d : Int)] ∧ HandAt H hd ca ∧ d < n ∧ ∀ v b H', Hn C hd ca H H' → BlkAt H' v b → b.ok → b.lev ≤ d + 1 → b.len ≤ 3 → Q v H'
theorem ok__law_statement (T : Txt K mg) (n : Nat) (G__law_block : FnOk P w K mg base CX0 (13 + 2 * n) (a__law_block K) (fdOf K (a__law_block K)) ["_law_hand_here", "_law_deep"] (sp_block (CP K) n)) :
    FnOk P w K mg base CX0 (12 + 2 * (n + 1)) (a__law_statement K) (fdOf K (a__law_statement K)) ["_law_hand_here", "_law_deep"] (sp_statement (CP K) (n + 1)) := by
  have G__law_draw := ok__law_draw (P := P) (w := w) (base := base) T
  have G__law_name := ok__law_name (P := P) (w := w) (base := base) T
  have G__law_small := ok__law_small (P := P) (w := w) (base := base) T
  refine T.F__law_statement.ok sc__law_statement (fun vs H Q E h => ?_) (fun cdv A outer s H vs Q E hr h => ?_)
  · obtain ⟨hd, ca, d, rfl, _⟩ := h
    rfl
  obtain ⟨hd, ca, d, rfl, hh, hdn, k⟩ := h
  have hr : Room (2 * n + 13) _ := hr.mono (by simp; omega)
  refine ⟨_, PSs.nox (pss_cons (ps_set (i := 2) sc__law_statement.nd rfl (Or.inl rfl) (pe_call G__law_draw (hr.mono (by omega)) rfl T.g__law_draw T.F__law_draw.kp T.b__law_draw .nil pass0 (pa_cons (pv 0) (pa_cons pe_int pa_nil))))
    (pss_cons (ps_if (pt_cmpR op_lt (pv 2) pe_int (nomark _))
    (pss_one (ps_ret (pe_tup (pa_cons (pe_ix ix_list (pe_lst (pa_cons pe_str (pa_cons pe_str (pa_cons pe_str pa_nil)))) (pv 2) (fun _ _ => rfl)) (pa_cons (pe_call G__law_name (hr.mono (by omega)) rfl T.g__law_name T.F__law_name.kp T.b__law_name .nil pass0 (pa_cons (pv 0) pa_nil)) (pa_cons (pe_call G__law_small (hr.mono (by omega)) rfl T.g__law_small T.F__law_small.kp T.b__law_small .nil pass0 (pa_cons (pv 0) pa_nil)) pa_nil))))))
    pss_nil)
    (pss_cons (ps_if (PW.pt (pw_or (pt_cmpR op_lt (pv 2) pe_int (nomark _)) (pw_or1 (pt_cmpR op_eq (pv 1) pe_int (nomark _)))))
    (pss_one (ps_ret (pe_tup (pa_cons (pe_ix ix_list (pe_lst (pa_cons pe_str (pa_cons pe_str (pa_cons pe_str pa_nil)))) (pe_call G__law_draw (hr.mono (by omega)) rfl T.g__law_draw T.F__law_draw.kp T.b__law_draw .nil pass0 (pa_cons (pv 0) (pa_cons pe_int pa_nil))) (fun _ _ => rfl)) (pa_cons (pe_call G__law_small (hr.mono (by omega)) rfl T.g__law_small T.F__law_small.kp T.b__law_small .nil pass0 (pa_cons (pv 0) pa_nil)) pa_nil)))))
    pss_nil)
    (pss_one (ps_ret (pe_tup (pa_cons pe_str (pa_cons (pe_call G__law_small (hr.mono (by omega)) rfl T.g__law_small T.F__law_small.kp T.b__law_small .nil pass0 (pa_cons (pv 0) pa_nil)) (pa_cons (pe_call G__law_block (hr.mono (by omega)) rfl T.g__law_block T.F__law_block.kp T.b__law_block .nil pass0 (pa_cons (pv 0) (pa_cons (pe_op op_sub (pv 1) pe_int) pa_nil))) (pa_cons (pe_call G__law_block (hr.mono (by omega)) rfl T.g__law_block T.F__law_block.kp T.b__law_block .nil pass0 (pa_cons (pv 0) (pa_cons (pe_op op_sub (pv 1) pe_int) pa_nil))) pa_nil)))))))))), ?_⟩
  walk_at "gg"
  refine ⟨hd, ca, _, rfl, hh, by decide, by decide, fun r H1 h1 h2 n1 => ?_⟩
  walk_at "gg"
  refine if2 (fun c => ?_) (fun c => ?_)
  · have c : r < 3 := of_decide_eq_true c
    walk_at "gg"
    refine ⟨szr, fun p hp => ?_⟩
    walk_at "gg"
    obtain ⟨h, hh2⟩ : ∃ h : Hd, atI [V.str "let", V.str "keep", V.str "own"] r = some (.str h.str) := by
      rcases (show r = 0 ∨ r = 1 ∨ r = 2 by omega) with rfl | rfl | rfl
      · exact ⟨.lt, rfl⟩
      · exact ⟨.kp, rfl⟩
      · exact ⟨.ow, rfl⟩
    refine ⟨_, _, _, _, rfl, rfl, SqL.of upd_same, hh2, ?_⟩
    walk_at "gg"
    refine ⟨hd, ca, rfl, n1.hand.same (same_new hp), fun m H3 n4 => ?_⟩
    have n5 := (n1.new hp).trans n4
    walk_at "gg"
    refine ⟨hd, ca, rfl, n5.hand, fun v e H4 n6 he ho => ?_⟩
    walk_at "gg"
    refine ⟨szr, fun q hq => ?_⟩
    exact k _ (.set h m e) _ ((n5.trans n6).new hq) ⟨q, v, rfl, upd_same, he.mono (same_tp (same_new hq))⟩ ho trivial
  walk_at "gg"
  refine if2 (fun _ => ?_) (fun _ => ?_)
  · walk_at "gg"
    refine ⟨szr, fun p hp => ?_⟩
    walk_at "gg"
    refine ⟨hd, ca, _, rfl, n1.hand.same (same_new hp), by decide, by decide, fun r2 H3 h3 h4 n4 => ?_⟩
    have n5 := (n1.new hp).trans n4
    have hp3 := n4.fr.st _ _ upd_same (n1.hand.ne hp)
    obtain ⟨g, hg⟩ : ∃ g : Gv, atI [V.str "weight", V.str "weight", V.str "cap"] r2 = some (.str g.str) := by
      rcases (show r2 = 0 ∨ r2 = 1 ∨ r2 = 2 by omega) with rfl | rfl | rfl
      · exact ⟨.weight, rfl⟩
      · exact ⟨.weight, rfl⟩
      · exact ⟨.cap, rfl⟩
    refine ⟨_, _, _, _, rfl, rfl, SqL.of hp3, hg, ?_⟩
    walk_at "gg"
    refine ⟨hd, ca, rfl, n5.hand, fun v e H4 n6 he ho => ?_⟩
    walk_at "gg"
    refine ⟨szr, fun q hq => ?_⟩
    exact k _ (.give g e) _ ((n5.trans n6).new hq) ⟨q, v, rfl, upd_same, he.mono (same_tp (same_new hq))⟩ ho trivial
  walk_at "gg"
  refine if2 (fun _ => ?_) (fun c3 => ?_)
  · walk_at "gg"
    refine ⟨szr, fun p hp => ?_⟩
    walk_at "gg"
    refine ⟨hd, ca, _, rfl, n1.hand.same (same_new hp), by decide, by decide, fun r2 H3 h3 h4 n4 => ?_⟩
    have n5 := (n1.new hp).trans n4
    have hp3 := n4.fr.st _ _ upd_same (n1.hand.ne hp)
    obtain ⟨g, hg⟩ : ∃ g : Gv, atI [V.str "weight", V.str "weight", V.str "cap"] r2 = some (.str g.str) := by
      rcases (show r2 = 0 ∨ r2 = 1 ∨ r2 = 2 by omega) with rfl | rfl | rfl
      · exact ⟨.weight, rfl⟩
      · exact ⟨.weight, rfl⟩
      · exact ⟨.cap, rfl⟩
    refine ⟨_, _, _, _, rfl, rfl, SqL.of hp3, hg, ?_⟩
    walk_at "gg"
    refine ⟨hd, ca, rfl, n5.hand, fun v e H4 n6 he ho => ?_⟩
    walk_at "gg"
    refine ⟨szr, fun q hq => ?_⟩
    exact k _ (.give g e) _ ((n5.trans n6).new hq) ⟨q, v, rfl, upd_same, he.mono (same_tp (same_new hq))⟩ ho trivial
  have c3 : ¬ V.int (d : Int) = V.int 0 := of_decide_eq_false c3
  have c3 : d ≠ 0 := fun z => c3 (by rw [z]; rfl)
  have ed : (d : Int) - 1 = ((d - 1 : Nat) : Int) := by omega
  walk_at "gg"
  refine ⟨hd, ca, rfl, n1.hand, fun v e H4 n6 he ho => ?_⟩
  walk_at "gg"
  refine ⟨hd, ca, d - 1, congrArg (fun z => [V.ref hd, V.int z]) ed, n6.hand, by omega, fun v1 b1 H5 n7 hb1 o1 l1 _ => ?_⟩
  walk_at "gg"
  refine ⟨hd, ca, d - 1, congrArg (fun z => [V.ref hd, V.int z]) ed, n7.hand, by omega, fun v2 b2 H6 n8 hb2 o2 l2 _ => ?_⟩
  walk_at "gg"
  refine ⟨szr, fun q hq => ?_⟩
  obtain ⟨p1, ws1, rfl, g1, g2⟩ := hb1
  obtain ⟨p2, ws2, rfl, g3, g4⟩ := hb2
  refine k _ (.ite e b1 b2) _ ((((n1.trans n6).trans n7).trans n8).new hq) ⟨q, v, p1, p2, ws1, ws2, rfl, upd_same, he.mono ((n7.fr.tp.trans n8.fr.tp).trans (same_tp (same_new hq))), (n8.fr.tp.trans (same_tp (same_new hq))) _ _ g1, g2.mono (n8.fr.tp.trans (same_tp (same_new hq))), (same_tp (same_new hq)) _ _ g3, g4.mono (same_tp (same_new hq))⟩ ⟨ho, o1, o2⟩ ⟨by omega, by omega⟩
theorem ok__law_block (T : Txt K mg) (n : Nat) (G__law_statement : FnOk P w K mg base CX0 (12 + 2 * n) (a__law_statement K) (fdOf K (a__law_statement K)) ["_law_hand_here", "_law_deep"] (sp_statement (CP K) n)) :
    FnOk P w K mg base CX0 (13 + 2 * n) (a__law_block K) (fdOf K (a__law_block K)) ["_law_hand_here", "_law_deep"] (sp_block (CP K) n) := by
  have G__law_draw := ok__law_draw (P := P) (w := w) (base := base) T
  refine FnOk.mono (j := 12 + 2 * n + 1) ?_ (by omega)
  refine T.F__law_block.ok sc__law_block (fun vs H Q E h => ?_) (fun cdv A outer s H vs Q E hr h => ?_)
  · obtain ⟨hd, ca, d, rfl, _⟩ := h
    rfl
  obtain ⟨hd, ca, d, rfl, hh, hdn, k⟩ := h
  refine ⟨_, PSs.nox (pss_one (ps_ret (pe_callTy call_tuple_of (by rfl) T.z_tuple (by decide +kernel) (pa_cons (pe_lc (own := [("_law_turn", 2)]) rfl sc__law_block.nd (pi_range1 (by rfl) T.z_range (pa_cons (pe_call G__law_draw (hr.mono (by omega)) rfl T.g__law_draw T.F__law_draw.kp T.b__law_draw .nil pass0 (pa_cons (pv 0) (pa_cons pe_int pa_nil))) pa_nil)) (blkOk_by (own := [("_law_turn", 2)]) (N := ["_law_hand_here", "_law_deep", "_law_turn"]) (sc := defScope s__law_block) (by decide +kernel)) (fun _ _ _ _ _ => (pg_name (i := 2) sc__law_block.nd rfl (Or.inl rfl))) (fun _ _ _ _ _ => pts_nil) (fun _ _ _ _ _ => (pe_call G__law_statement (hr.mono (by omega)) rfl T.g__law_statement T.F__law_statement.kp T.b__law_statement .nil pass0 (pa_cons (pv 0) (pa_cons (pv 1) pa_nil))))) pa_nil)))), ?_⟩
  walk_at "gg"
  refine ⟨hd, ca, _, rfl, hh, by decide, by decide, fun r H1 h1 h2 n1 => ?_⟩
  refine ⟨r, rfl, by omega, by omega, fun D hD => lc_range (lo := 0) (n := r.toNat) (fun i H2 => ∃ xs b, LcH (CP K) hd ca H1 D xs H2 ∧ StsAt H2 xs b ∧ b.ok ∧ b.lev ≤ d + 1 ∧ b.len = i) ⟨[], .nil, LcH.zero hD n1.hand, rfl, trivial, Nat.succ_le_succ (Nat.zero_le _), rfl⟩ ?_ ?_⟩
  · rintro i H2 hi ⟨xs, b, q, hs, ho, hl, hn⟩
    walk_at "gg"
    refine ⟨hd, ca, d, rfl, q.hand, hdn, fun v st H3 n3 hst hso hsl => ?_⟩
    have hlen : xs.length = i := by rw [hs.len, hn]
    obtain ⟨g1, g2, g3, t3⟩ := q.step (y := v) n3 (by omega)
    exact ⟨xs, g1, g2, xs ++ [v], b.app (Blk.one st), g3, (hs.mono (n3.fr.tp.trans t3)).app (Blk.one_at (hst.mono t3)), Blk.app_ok ho (Blk.one_ok hso), Blk.app_lev hl (Blk.one_lev hsl), by rw [Blk.app_len, Blk.one_len, hn]⟩
  · rintro H2 ⟨xs, b, q, hs, ho, hl, hn⟩
    walk_at "gg"
    refine ⟨D, xs, rfl, .inl ⟨SqL.of q.lc.at_, fun l hl2 => ?_⟩⟩
    exact k _ b _ ((n1.trans q.done).new hl2) ⟨l, xs, rfl, upd_same, hs.mono (same_tp (same_new hl2))⟩ ho hl (by omega)
theorem ok_both (T : Txt K mg) : ∀ n : Nat, FnOk P w K mg base CX0 (12 + 2 * n) (a__law_statement K) (fdOf K (a__law_statement K)) ["_law_hand_here", "_law_deep"] (sp_statement (CP K) n) ∧
    FnOk P w K mg base CX0 (13 + 2 * n) (a__law_block K) (fdOf K (a__law_block K)) ["_law_hand_here", "_law_deep"] (sp_block (CP K) n)
  | 0 => ⟨FnOk.vac fun vs H Q E h => by
    obtain ⟨hd, ca, d, _, _, h0, _⟩ := h
    omega, FnOk.vac fun vs H Q E h => by
    obtain ⟨hd, ca, d, _, _, h0, _⟩ := h
    omega⟩
  | n + 1 => by
    have h := ok_both T n
    have h1 := ok__law_statement T n h.2
    exact ⟨h1, ok__law_block T (n + 1) h1⟩
/-! ### how many statements, by the law -/
theorem ok__law_count (T : Txt K mg) : ∀ n : Nat, FnOk P w K mg base CX0 n (a__law_count K) (fdOf K (a__law_count K)) ["_law_block_here"] (sp_statements_in n)
  | 0 => FnOk.vac fun vs H Q E h => by
    obtain ⟨p, ws, b, _, _, _, h0, _⟩ := h
    have := b.lev_pos
    omega
  | n + 1 => by
    have G__law_count := ok__law_count T n
    refine T.F__law_count.ok sc__law_count (fun vs H Q E h => ?_) (fun cdv A outer s H vs Q E hr h => ?_)
    · obtain ⟨p, ws, b, rfl, _⟩ := h
      rfl
    obtain ⟨p, ws, b, rfl, hp, hs, hl, k⟩ := h
    refine ⟨_, PSs.nox (pss_cons (ps_set (i := 1) sc__law_count.nd rfl (Or.inl rfl) pe_int)
    (pss_cons (ps_for PassesOwn.never rfl (pi_tup (pv 0)) (pg_name (i := 2) sc__law_count.nd rfl (Or.inl rfl))
    (pss_cons (ps_set (i := 1) sc__law_count.nd rfl (Or.inl rfl) (pe_op op_add (pv 1) pe_int))
    (pss_one (ps_if (pt_cmpR op_eq (pe_ix ix_tup (pv 2) pe_int (fun _ _ => rfl)) pe_str (nomark _))
    (pss_one (ps_set (i := 1) sc__law_count.nd rfl (Or.inl rfl) (pe_op op_add (pe_op op_add (pv 1) (pe_call G__law_count (hr.mono (by omega)) rfl T.g__law_count T.F__law_count.kp T.b__law_count .nil pass0 (pa_cons (pe_ix ix_tup (pv 2) pe_int (fun _ _ => rfl)) pa_nil))) (pe_call G__law_count (hr.mono (by omega)) rfl T.g__law_count T.F__law_count.kp T.b__law_count .nil pass0 (pa_cons (pe_ix ix_tup (pv 2) pe_int (fun _ _ => rfl)) pa_nil)))))
    pss_nil))))
    (pss_one (ps_ret (pv 1))))), ?_⟩
    walk_at "gg"
    have hlen : ws.length = b.stms.length := by rw [hs.len, b.stms_len]
    refine ⟨⟨_, SqT.of hp⟩, for_tup (xs := ws) (fun i σ H2 => ∃ a, σ = [some (.ref p), some (.int ((i + extS (b.stms.take i) : Nat) : Int)), a] ∧ Same H H2) ⟨none, rfl, Same.refl _⟩ (fun i σ H2 _ ⟨_, _, s2⟩ => SqT.of (s2 _ _ hp)) ?_ ?_⟩
    · rintro i x σ H2 hi ⟨a, rfl, s2⟩
      obtain ⟨st, hst, hz⟩ := hs.get hi
      have hm := List.mem_of_getElem? hst
      rw [extS_one hst]
      replace hz := hz.mono (same_tp s2)
      have e0 : ∀ z : Nat, ((i + extS (b.stms.take i) : Nat) : Int) + 1 + (z : Int) = ((i + 1 + (extS (b.stms.take i) + z) : Nat) : Int) := fun z => by omega
      cases st with
      | set h m e =>
        obtain ⟨p2, x2, rfl, hp2, hx2⟩ := hz
        have f1 : decide (V.str h.str = V.str "if") = false := by cases h <;> decide +kernel
        walk_at "gg"
        refine ifF f1 ?_
        exact ⟨some (.ref p2), by rw [← e0 (Stm.ext (.set h m e))]; rfl, s2⟩
      | give g e =>
        obtain ⟨p2, x2, rfl, hp2, hx2⟩ := hz
        have f1 : decide (V.str g.str = V.str "if") = false := by cases g <;> decide +kernel
        walk_at "gg"
        refine ifF f1 ?_
        exact ⟨some (.ref p2), by rw [← e0 (Stm.ext (.give g e))]; rfl, s2⟩
      | ite e a2 b2 =>
        obtain ⟨p2, x2, pa, pb, as, bs, rfl, hp2, hx2, ha, ha2, hb, hb2⟩ := hz
        obtain ⟨l1, l2⟩ := Blk.stms_lev hm
        walk_at "gg"
        refine ⟨pa, as, a2, rfl, ha, ha2, by omega, fun H3 s3 => ?_⟩
        have hp2 := s3 _ _ hp2
        walk_at "gg"
        refine ⟨pb, bs, b2, rfl, s3 _ _ hb, hb2.mono (same_tp s3), by omega, fun H4 s4 => ?_⟩
        walk_at "gg"
        refine ⟨some (.ref p2), ?_, (s2.trans s3).trans s4⟩
        have e3 : ((i + extS (b.stms.take i) : Nat) : Int) + 1 + (a2.count : Int) + (b2.count : Int) = ((i + 1 + (extS (b.stms.take i) + (a2.count + b2.count)) : Nat) : Int) := by omega
        show _ = [some (V.ref p), some (V.int ((i + 1 + (extS (b.stms.take i) + (a2.count + b2.count)) : Nat) : Int)), some (V.ref p2)]
        rw [← e3]
        rfl
    · rintro σ H2 ⟨a, rfl, s2⟩
      have q1 := k H2 s2
      rw [b.count_ext, ← hlen, ← List.take_length (l := b.stms), ← hlen] at q1
      walk_at "gg"
      exact q1
end
end K6
set_option maxHeartbeats 4000000
/-! Drawn policies, people, numbers; the hand at first. -/
namespace K6
open PySem PySem.Spec PyProof.Rows L2 RZ
local macro_rules | `(tactic| walk_at "gg") => `(tactic| repeat first
  | refine ⟨_, rfl, ?_⟩ | refine ⟨_, _, rfl, rfl, ?_⟩ | refine ⟨rfl, ?_⟩ | refine iteT ?_ | refine iteF ?_
  | refine ⟨_, _, _, _, rfl, rfl, SqT.of (by assumption), rfl, ?_⟩
  | refine ⟨_, _, _, _, rfl, rfl, SqT.of (by assumption), at0, ?_⟩
  | refine ⟨_, _, _, _, rfl, rfl, SqL.of (by assumption), rfl, ?_⟩
  | refine ⟨_, _, rfl, .inr (SqT.of (by assumption)), ?_⟩
  | refine ⟨_, _, rfl, .inl (SqL.of (by assumption)), ?_⟩
  | refine ⟨_, _, rfl, .inr (SqT.of upd_same), rfl, rfl, ?_⟩
  | refine ⟨_, _, rfl, .inr (Txt.q_HOLDERS (by assumption) _), rfl, rfl, ?_⟩
  | refine ⟨_, _, rfl, .inr (Txt.q_GIVERS (by assumption) _), rfl, rfl, ?_⟩
  | refine ⟨_, _, rfl, .inr (Txt.q_FACTS (by assumption) _), rfl, rfl, ?_⟩
  | refine ⟨_, _, rfl, .inr (Txt.q_SIGNS (by assumption) _), rfl, rfl, ?_⟩
  | refine ⟨_, _, rfl, SqT.of upd_same, rfl, ?_⟩
  | refine ⟨_, _, rfl, SqT.of (by assumption), rfl, ?_⟩
  | refine ⟨_, _, rfl, ?_⟩
  | refine .inl ⟨_, rfl, ?_⟩
  | refine .inr ⟨_, rfl, ?_⟩
  | refine ⟨(by show (0 : Int) < _; decide), ?_⟩
  | refine ⟨.inr ⟨by decide, by decide⟩, ?_⟩
  | refine ⟨.inl ⟨by decide, by decide⟩, ?_⟩
  | refine ⟨⟨by decide, by decide⟩, ?_⟩
  | refine ⟨⟨by decide, by decide, by decide⟩, ?_⟩)
def PolAt (H : Hp) (v : V) (bot : Int) (b : Blk) : Prop := ∃ p q ws, v = .ref p ∧ H p = some (.tup [.int bot, .ref q]) ∧ H q = some (.tup ws) ∧ StsAt H ws b
structure PolOk (bot : Int) (b : Blk) : Prop where
  lo : 1 ≤ bot
  hi : bot ≤ 360
  ok : b.ok
  lev : b.lev ≤ 4
  cnt : b.count ≤ 60
theorem PolAt.mono {H H' : Hp} (t : Tp H H') {v : V} {bot : Int} {b : Blk} : PolAt H v bot b → PolAt H' v bot b := fun ⟨p, q, ws, h1, h2, h3, h4⟩ => ⟨p, q, ws, h1, t _ _ h2, t _ _ h3, h4.mono t⟩
def sp_policy (C : Addr) : Sp := fun vs H Q _ => ∃ hd ca, vs = [.ref hd] ∧ HandAt H hd ca ∧ ∀ v bot b H', Hn C hd ca H H' → PolAt H' v bot b → PolOk bot b → Q v H'
section
variable {P : Program} {w : World} {K : PySem.W.Frag} {mg : Str → Option Value} {base : Heap}
theorem ok__law_policy (T : Txt K mg) : FnOk P w K mg base CX0 22 (a__law_policy K) (fdOf K (a__law_policy K)) ["_law_hand_here"] (sp_policy (CP K)) := by
  have G__law_draw := ok__law_draw (P := P) (w := w) (base := base) T
  have G__law_any := ok__law_any (P := P) (w := w) (base := base) T
  have G__law_block := (ok_both (P := P) (w := w) (base := base) T 4).2
  have G__law_count := ok__law_count (P := P) (w := w) (base := base) T 4
  refine T.F__law_policy.ok sc__law_policy (fun vs H Q E h => ?_) (fun cdv A outer s H vs Q E hr h => ?_)
  · obtain ⟨hd, ca, rfl, _⟩ := h
    rfl
  obtain ⟨hd, ca, rfl, hh, k⟩ := h
  refine ⟨_, PSs.nox (pss_cons (ps_set (i := 1) sc__law_policy.nd rfl (Or.inl rfl) (pe_call G__law_block (hr.mono (by decide)) rfl T.g__law_block T.F__law_block.kp T.b__law_block .nil pass0 (pa_cons (pv 0) (pa_cons pe_int pa_nil))))
    (C8.pss_cut (ps_if (pt_cmpR op_eq (pe_call G__law_draw (hr.mono (by decide)) rfl T.g__law_draw T.F__law_draw.kp T.b__law_draw .nil pass0 (pa_cons (pv 0) (pa_cons pe_int pa_nil))) pe_int (nomark _))
    (pss_one (ps_set (i := 1) sc__law_policy.nd rfl (Or.inl rfl) (pe_op op_catA (pv 1) (pe_tup (pa_cons (pe_tup (pa_cons pe_str (pa_cons (pe_call G__law_any (hr.mono (by decide)) rfl T.g__law_any T.F__law_any.kp T.b__law_any .nil pass0 (pa_cons (pv 0) (pa_cons (pe_lst (pa_cons (pe_tup (pa_cons pe_str (pa_cons pe_str pa_nil))) (pa_cons (pe_tup (pa_cons pe_str (pa_cons (pe_op op_add pe_int (pe_call G__law_draw (hr.mono (by decide)) rfl T.g__law_draw T.F__law_draw.kp T.b__law_draw .nil pass0 (pa_cons (pv 0) (pa_cons pe_int pa_nil)))) pa_nil))) pa_nil))) pa_nil))) pa_nil))) pa_nil)))))
    pss_nil)
    (pss_cons (ps_set (i := 2) sc__law_policy.nd rfl (Or.inl rfl) (pe_call G__law_any (hr.mono (by decide)) rfl T.g__law_any T.F__law_any.kp T.b__law_any .nil pass0 (pa_cons (pv 0) (pa_cons (pe_lst (pa_cons pe_int (pa_cons pe_int (pa_cons pe_int (pa_cons pe_int (pa_cons pe_int (pa_cons pe_int (pa_cons pe_int pa_nil)))))))) pa_nil))))
    (pss_one (ps_ret (pe_tup (pa_cons (pv 2) (pa_cons (pe_ifExp (pt_cmpR op_le (pe_call G__law_count (hr.mono (by decide)) rfl T.g__law_count T.F__law_count.kp T.b__law_count .nil pass0 (pa_cons (pv 1) pa_nil)) pe_int (nomark _)) (pv 1) (pe_tup pa_nil)) pa_nil)))))))), ?_⟩
  walk_at "gg"
  refine ⟨hd, ca, 3, rfl, hh, by decide, fun v b H1 n1 hb ho hl hn => ?_⟩
  obtain ⟨p, ws, rfl, hp, hs⟩ := hb
  refine ⟨fun σ' H' => ∃ p ws b, σ' = [some (.ref hd), some (.ref p), none] ∧ Hn (CP K) hd ca H H' ∧ H' p = some (.tup ws) ∧ StsAt H' ws b ∧ b.ok ∧ b.lev ≤ 4, ?_, ?_⟩
  · walk_at "gg"
    refine ⟨hd, ca, _, rfl, n1.hand, by decide, by decide, fun r H2 h1 h2 n2 => ?_⟩
    have hp := n2.fr.tp _ _ hp
    have hs := hs.mono n2.fr.tp
    have n3 := n1.trans n2
    walk_at "gg"
    refine if2 (fun _ => ?_) (fun _ => ?_)
    · walk_at "gg"
      refine ⟨szr, fun u hu => ?_⟩
      walk_at "gg"
      have m1 := n3.new (o := .tup [.str "fact", .str "need"]) hu
      refine ⟨hd, ca, _, rfl, m1.hand, by decide, by decide, fun r2 H4 h3 h4 n4 => ?_⟩
      walk_at "gg"
      refine ⟨szr, fun u2 hu2 => ?_⟩
      refine ⟨szr, fun l hl2 => ?_⟩
      have m2 := ((m1.trans n4).new (o := .tup [.str "num", .int (1 + r2)]) hu2).new (o := .lst [.ref u, .ref u2]) hl2
      have a1 : upd (upd H4 u2 (.tup [.str "num", .int (1 + r2)])) l (.lst [.ref u, .ref u2]) u = some (.tup [.str "fact", .str "need"]) := ((same_tp (same_new hu2)).trans (same_tp (same_new hl2))) _ _ (n4.fr.tp _ _ upd_same)
      have a2 : upd (upd H4 u2 (.tup [.str "num", .int (1 + r2)])) l (.lst [.ref u, .ref u2]) u2 = some (.tup [.str "num", .int (1 + r2)]) := (same_tp (same_new hl2)) _ _ upd_same
      have t1 : Tp H2 (upd (upd H4 u2 (.tup [.str "num", .int (1 + r2)])) l (.lst [.ref u, .ref u2])) := (((same_tp (same_new hu)).trans n4.fr.tp).trans (same_tp (same_new hu2))).trans (same_tp (same_new hl2))
      refine ⟨hd, ca, l, _, rfl, m2.hand, upd_same, (((m1.trans n4).new hu2).hand).ne hl2, (fun z => nomatch z), (show 2 ≤ 1000 by decide), fun v H5 hv n5 => ?_⟩
      have m3 := m2.trans n5
      obtain ⟨e, he, hok⟩ : ∃ e, ExAt H5 v e ∧ e.ok := by
        simp only [List.mem_cons, List.not_mem_nil, or_false] at hv
        rcases hv with rfl | rfl
        · exact ⟨.fact .need, ⟨u, rfl, n5.fr.tp _ _ a1⟩, by decide, by decide, trivial⟩
        · exact ⟨.num (1 + r2), ⟨u2, rfl, n5.fr.tp _ _ a2⟩, (show 1 ≤ 6 by decide), (show 1 ≤ 30 by decide), by show -1000000000000000000 ≤ 1 + r2; omega, by show 1 + r2 ≤ 1000000000000000000; omega⟩
      walk_at "gg"
      refine ⟨szr, fun t ht => ?_⟩
      refine ⟨szr, fun t2 ht2 => ?_⟩
      have t2' : Tp H5 (upd (upd H5 t (.tup [.str "weight", v])) t2 (.tup [.ref t])) := (same_tp (same_new ht)).trans (same_tp (same_new ht2))
      have t3 := (t1.trans n5.fr.tp).trans t2'
      have m4 := (m3.new (o := .tup [.str "weight", v]) ht).new (o := .tup [.ref t]) ht2
      have hst : StsAt (upd (upd H5 t (.tup [.str "weight", v])) t2 (.tup [.ref t])) [.ref t] (.give .weight e .nil) := ⟨t, v, [], rfl, (same_tp (same_new ht2)) _ _ upd_same, he.mono t2', rfl⟩
      have hlw : ws.length ≤ 100 := by
        have := hs.len
        omega
      refine ⟨_, _, ws, [.ref t], rfl, rfl, SqT.of (t3 _ _ hp), SqT.of upd_same, szl (by simp; omega), fun e0 => ?_, (fun _ z => nomatch z), fun _ _ pn hpn => ?_⟩
      · exact ⟨t2, [.ref t], _, rfl, m4, upd_same, hst, ⟨hok, trivial⟩, (show 1 ≤ 4 by decide)⟩
      · exact ⟨pn, ws ++ [.ref t], b.app (.give .weight e .nil), rfl, m4.new hpn, upd_same, ((hs.mono t3).app hst).mono (same_tp (same_new hpn)), Blk.app_ok ho ⟨hok, trivial⟩, Blk.app_lev hl (show 1 ≤ 4 by decide)⟩
    · exact ⟨p, ws, b, rfl, n3, hp, hs, ho, hl⟩
  rintro σ' H' ⟨p, ws, b, rfl, n4, hp, hs, ho, hl⟩
  walk_at "gg"
  refine ⟨szr, fun l hl2 => ?_⟩
  refine ⟨hd, ca, l, _, rfl, n4.hand.same (same_new hl2), upd_same, n4.hand.ne hl2, (fun z => nomatch z), by decide, fun v H5 hv n5 => ?_⟩
  obtain ⟨bot, rfl, hb1, hb2⟩ : ∃ bot : Int, v = .int bot ∧ 1 ≤ bot ∧ bot ≤ 360 := by
    simp only [List.mem_cons, List.not_mem_nil, or_false] at hv
    rcases hv with h | h | h | h | h | h | h
    all_goals exact ⟨_, h, by decide, by decide⟩
  have t1 := (same_tp (same_new (o := .lst [.int 1, .int 2, .int 3, .int 7, .int 12, .int 60, .int 360]) hl2)).trans n5.fr.tp
  have n6 := (n4.new hl2).trans n5
  have hp := t1 _ _ hp
  have hs := hs.mono t1
  walk_at "gg"
  refine ⟨p, ws, b, rfl, hp, hs, hl, fun H6 s6 => ?_⟩
  walk_at "gg"
  have n7 := n6.same s6
  refine if2 (fun c => ?_) (fun c => ?_)
  · have c : ((b.count : Nat) : Int) ≤ 60 := of_decide_eq_true c
    walk_at "gg"
    refine ⟨szr, fun q hq => ?_⟩
    have t6 := (same_tp s6).trans (same_tp (same_new (o := .tup [.int bot, .ref p]) hq))
    exact k _ bot b _ (n7.new hq) ⟨q, p, ws, rfl, upd_same, t6 _ _ hp, hs.mono t6⟩ ⟨hb1, hb2, ho, hl, by omega⟩
  · walk_at "gg"
    refine ⟨szr, fun u hu => ?_⟩
    refine ⟨szr, fun q hq => ?_⟩
    exact k _ bot .nil _ ((n7.new hu).new hq) ⟨q, u, [], rfl, upd_same, (same_tp (same_new hq)) _ _ upd_same, rfl⟩ ⟨hb1, hb2, trivial, by decide, by decide⟩
/-- the hand at first -/
def sp_hand (K : PySem.W.Frag) : Sp := fun vs H Q _ => ∃ (a : Addr) (ns : List Int), vs = [.ref a] ∧ SqL K H a (ns.map V.int) ∧ ns.length ≤ 63 ∧ ∀ hd ca H', Same H H' → H hd = none → H ca = none → HandAt H' hd ca → Q (.ref hd) H'
theorem ok__law_hand (T : Txt K mg) : FnOk P w K mg base CX0 1 (a__law_hand K) (fdOf K (a__law_hand K)) ["_law_script"] (sp_hand K) := by
  refine T.F__law_hand.ok sc__law_hand (fun vs H Q E h => ?_) (fun cdv A outer s H vs Q E hr h => ?_)
  · obtain ⟨a, ns, rfl, _⟩ := h
    rfl
  obtain ⟨a, ns, rfl, hS, hl, k⟩ := h
  refine ⟨_, PSs.nox (pss_cons (ps_setLc (i := 2) (own := [("_law_cell", 1)]) rfl sc__law_hand.nd rfl rfl (sw_true rfl rfl rfl (by decide +kernel)) (pi_list (pe_slice sl_list (pv 0) po_none (po_some pe_int))) (blkOk_by (own := [("_law_cell", 1)]) (N := ["_law_script", "_law_cell", "_law_cells"]) (sc := defScope s__law_hand) (by decide +kernel)) (fun _ _ _ _ _ => (pg_name (i := 1) sc__law_hand.nd rfl (Or.inl rfl))) (fun _ _ _ _ _ => pts_nil) (fun _ _ _ _ _ => (pe_callB call_abs (by rfl) T.z_abs (by decide +kernel) (pa_cons (pe_callTy call_int1 (by rfl) T.z_int (by decide +kernel) (pa_cons (pv 1) pa_nil)) pa_nil))))
    (pss_one (ps_ret (pe_lst (pa_cons (pv 2) (pa_cons pe_int (pa_cons pe_int (pa_cons (pe_op op_add pe_int (pe_callB call_len_seq (by rfl) T.z_len boot_len (pa_cons (pv 2) pa_nil))) (pa_cons pe_int pa_nil))))))))), ?_⟩
  walk_at "gg"
  obtain ⟨ms, em⟩ : ∃ ms : List Int, cutV (ns.map V.int) none (some 63) = ms.map V.int := ⟨_, by unfold cutV; rw [← List.map_drop, ← List.map_take]⟩
  have hml : ms.length ≤ 63 := by
    have h1 := cutV_length (ns.map V.int) none (some 63)
    rw [em, List.length_map, List.length_map] at h1
    omega
  refine ⟨a, _, rfl, hS, fun p hp => ?_⟩
  rw [em]
  refine ⟨p, rfl, ⟨_, SqL.of upd_same⟩, fun D hD => lc_list (xs := ms.map V.int) (Lc _ D (getF (fun z : Int => V.int (if z < 0 then -z else z)) ms)) (Lc.zero hD) (fun i H1 _ q => SqL.of (q.sm _ _ upd_same)) ?_ ?_⟩
  · intro i x H1 hx q
    obtain ⟨z, hz, rfl⟩ := get_int hx
    have hi := (List.getElem?_eq_some_iff.mp hz).1
    walk_at "gg"
    exact q.step (Same.refl _) (getF_at (g := fun z : Int => V.int (if z < 0 then -z else z)) hz).symm (by omega)
  · intro H1 q
    walk_at "gg"
    have hat : H1 D = some (.lst ((ms.map fun z : Int => if z < 0 then -z else z).map V.int)) := by
      rw [q.at_, List.length_map, getF_map, List.map_map]
      rfl
    walk_at "gg"
    refine ⟨szr, fun hd hhd => ?_⟩
    have s1 := ((same_new (o := .lst (ms.map V.int)) hp).trans q.sm).trans (same_new (o := .lst [.ref D, .int 0, .int 0, .int (1 + ((((ms.map fun z : Int => if z < 0 then -z else z).map V.int).length : Nat) : Int)), .int 0]) hhd)
    have nD : D ≠ hd := ne_of_none hat hhd
    refine k hd D _ s1 (Same.free (q.sm) hhd |> Same.free (same_new hp)) (Same.free (same_new hp) hD) ⟨_, 0, 0, _, 0, upd_same, by rw [upd_ne nD]; exact hat, nD, Int.le_refl 0⟩
/-! ### a lot of people, numbers -/
theorem LcH.keep {C hd ca D : Addr} {H1 H H4 : Hp} {xs : List V} (p : LcH C hd ca H1 D xs H) (n : Hn C hd ca H H4) : LcH C hd ca H1 D xs H4 :=
  ⟨⟨p.lc.fr, p.lc.ns, p.lc.sm.trans n.fr, n.fr.st _ _ p.lc.at_ p.lc.ns⟩, n.hand, p.nc⟩
theorem asc_snoc {ns : List Nat} {i : Nat} (h1 : ∀ z ∈ ns, z < i) (h2 : ∀ (j a b : Nat), ns[j]? = some a → ns[j + 1]? = some b → a < b) : ∀ (j a b : Nat), (ns ++ [i])[j]? = some a → (ns ++ [i])[j + 1]? = some b → a < b := by
  intro j a b ha hb
  have hj : j + 1 < (ns ++ [i]).length := (List.getElem?_eq_some_iff.mp hb).1
  rw [List.length_append, List.length_singleton] at hj
  rw [List.getElem?_append_left (by omega)] at ha
  by_cases h : j + 1 < ns.length
  · rw [List.getElem?_append_left h] at hb
    exact h2 j a b ha hb
  · have e : j + 1 = ns.length := by omega
    rw [e, List.getElem?_append_right (Nat.le_refl _), Nat.sub_self] at hb
    cases hb
    exact h1 a (List.mem_of_getElem? ha)
def sp_here (C : Addr) : Sp := fun vs H Q _ => ∃ hd ca, ∃ n : Nat, vs = [.ref hd, .int (n : Int)] ∧ HandAt H hd ca ∧ 0 < n ∧ n ≤ 6 ∧ ∀ p ns H', Hn C hd ca H H' → LotAt H' p ns n → ns ≠ [] → ns.length ≤ 6 → Q (.ref p) H'
theorem ok__law_here (T : Txt K mg) : FnOk P w K mg base CX0 2 (a__law_here K) (fdOf K (a__law_here K)) ["_law_hand_here", "_law_n"] (sp_here (CP K)) := by
  have G__law_draw := ok__law_draw (P := P) (w := w) (base := base) T
  refine T.F__law_here.ok sc__law_here (fun vs H Q E h => ?_) (fun cdv A outer s H vs Q E hr h => ?_)
  · obtain ⟨hd, ca, n, rfl, _⟩ := h
    rfl
  obtain ⟨hd, ca, n, rfl, hh, hn0, hn6, k⟩ := h
  refine ⟨_, PSs.nox (pss_cons (ps_set (i := 3) sc__law_here.nd rfl (Or.inl rfl) (pe_callTy call_tuple_of (by rfl) T.z_tuple (by decide +kernel) (pa_cons (pe_lc (own := [("_law_person", 2)]) rfl sc__law_here.nd (pi_range1 (by rfl) T.z_range (pa_cons (pv 1) pa_nil)) (blkOk_by (own := [("_law_person", 2)]) (N := ["_law_hand_here", "_law_n", "_law_person", "_law_found"]) (sc := defScope s__law_here) (by decide +kernel)) (fun _ _ _ _ _ => (pg_name (i := 2) sc__law_here.nd rfl (Or.inl rfl))) (fun _ _ _ _ _ => (pts_one (pt_cmpR op_gt (pe_call G__law_draw (hr.mono (by decide)) rfl T.g__law_draw T.F__law_draw.kp T.b__law_draw .nil pass0 (pa_cons (pv 0) (pa_cons pe_int pa_nil))) pe_int (nomark _)))) (fun _ _ _ _ _ => (pv 2))) pa_nil)))
    (pss_one (ps_ret (pe_ifExp (pt_cmpR op_gt (pe_callB call_len_seq (by rfl) T.z_len boot_len (pa_cons (pv 3) pa_nil)) pe_int (nomark _)) (pv 3) (pe_tup (pa_cons (pe_call G__law_draw (hr.mono (by decide)) rfl T.g__law_draw T.F__law_draw.kp T.b__law_draw .nil pass0 (pa_cons (pv 0) (pa_cons (pv 1) pa_nil))) pa_nil)))))), ?_⟩
  walk_at "gg"
  refine ⟨by omega, by omega, fun D hD => lc_range (lo := 0) (n := ((n : Int)).toNat) (fun i H2 => ∃ ns : List Nat, LcH (CP K) hd ca H D (ns.map nV) H2 ∧ (∀ z ∈ ns, z < i) ∧ (∀ (j : Nat) (a b : Nat), ns[j]? = some a → ns[j + 1]? = some b → a < b) ∧ ns.length ≤ i) ⟨[], LcH.zero hD hh, (fun z h => nomatch h), (fun j a b h => nomatch h), Nat.le_refl _⟩ ?_ ?_⟩
  · rintro i H2 hi ⟨ns, q, h1, h2, h3⟩
    walk_at "gg"
    refine ⟨hd, ca, _, rfl, q.hand, by decide, by decide, fun r H3 h4 h5 n3 => ?_⟩
    walk_at "gg"
    refine if2 (fun _ => ?_) (fun _ => ?_)
    · walk_at "gg"
      obtain ⟨g1, g2, g3, t3⟩ := q.step (y := .int (0 + (i : Int))) n3 (by rw [List.length_map]; omega)
      have e : ns.map nV ++ [.int (0 + (i : Int))] = (ns ++ [i]).map nV := by
        rw [List.map_append, Int.zero_add]
        rfl
      rw [e] at g3
      refine ⟨_, g1, g2, ns ++ [i], ?_, fun z hz => ?_, asc_snoc h1 h2, by rw [List.length_append, List.length_singleton]; omega⟩
      · rw [e]
        exact g3
      · rcases List.mem_append.mp hz with hz | hz
        · have := h1 z hz
          omega
        · rw [List.mem_singleton.mp hz]
          omega
    · exact ⟨ns, q.keep n3, fun z hz => Nat.lt_succ_of_lt (h1 z hz), h2, by omega⟩
  · rintro H2 ⟨ns, q, h1, h2, h3⟩
    walk_at "gg"
    refine ⟨D, ns.map nV, rfl, .inl ⟨SqL.of q.lc.at_, fun l hl => ?_⟩⟩
    have n2 := q.done.new (o := .tup (ns.map nV)) hl
    have hat : upd H2 l (.tup (ns.map nV)) l = some (.tup (ns.map nV)) := upd_same
    walk_at "gg"
    refine if2 (fun c => ?_) (fun c => ?_)
    · have c : (0 : Int) < (((ns.map nV).length : Nat) : Int) := of_decide_eq_true c
      rw [List.length_map] at c
      walk_at "gg"
      exact k l ns _ n2 ⟨hat, fun z hz => by have := h1 z hz; omega, h2⟩ (fun z => by rw [z] at c; exact absurd c (by decide)) (by omega)
    · walk_at "gg"
      refine ⟨hd, ca, n, rfl, n2.hand, by omega, by omega, fun r H3 h4 h5 n3 => ?_⟩
      refine ⟨szr, fun u hu => ?_⟩
      have er : V.int r = nV r.toNat := by
        show V.int r = V.int ((r.toNat : Nat) : Int)
        rw [Int.toNat_of_nonneg h4]
      refine k u [r.toNat] _ ((n2.trans n3).new hu) ⟨?_, fun z hz => ?_, fun j a b ha hb => ?_⟩ (fun z => nomatch z) (show 1 ≤ 6 by decide)
      · rw [upd_same, er]
        rfl
      · rw [List.mem_singleton.mp hz]
        omega
      · cases hb
def sp_numbers (C : Addr) : Sp := fun vs H Q _ => ∃ hd ca, ∃ n : Nat, vs = [.ref hd, .int (n : Int)] ∧ HandAt H hd ca ∧ n ≤ 6 ∧ ∀ p ns H', Hn C hd ca H H' → NumsAt H' p ns → ns.length = n → Q (.ref p) H'
theorem ok__law_numbers (T : Txt K mg) : FnOk P w K mg base CX0 3 (a__law_numbers K) (fdOf K (a__law_numbers K)) ["_law_hand_here", "_law_n"] (sp_numbers (CP K)) := by
  have G__law_draw := ok__law_draw (P := P) (w := w) (base := base) T
  have G__law_any := ok__law_any (P := P) (w := w) (base := base) T
  refine T.F__law_numbers.ok sc__law_numbers (fun vs H Q E h => ?_) (fun cdv A outer s H vs Q E hr h => ?_)
  · obtain ⟨hd, ca, n, rfl, _⟩ := h
    rfl
  obtain ⟨hd, ca, n, rfl, hh, hn6, k⟩ := h
  refine ⟨_, PSs.nox (pss_one (ps_ret (pe_callTy call_tuple_of (by rfl) T.z_tuple (by decide +kernel) (pa_cons (pe_lc (own := [("_law_person", 2)]) rfl sc__law_numbers.nd (pi_range1 (by rfl) T.z_range (pa_cons (pv 1) pa_nil)) (blkOk_by (own := [("_law_person", 2)]) (N := ["_law_hand_here", "_law_n", "_law_person"]) (sc := defScope s__law_numbers) (by decide +kernel)) (fun _ _ _ _ _ => (pg_name (i := 2) sc__law_numbers.nd rfl (Or.inl rfl))) (fun _ _ _ _ _ => pts_nil) (fun _ _ _ _ _ => (pe_call G__law_any (hr.mono (by decide)) rfl T.g__law_any T.F__law_any.kp T.b__law_any .nil pass0 (pa_cons (pv 0) (pa_cons (pe_lst (pa_cons pe_int (pa_cons pe_int (pa_cons pe_int (pa_cons pe_int (pa_cons (pe_op op_pow pe_int pe_int) (pa_cons (pe_call G__law_draw (hr.mono (by decide)) rfl T.g__law_draw T.F__law_draw.kp T.b__law_draw .nil pass0 (pa_cons (pv 0) (pa_cons pe_int pa_nil))) pa_nil))))))) pa_nil))))) pa_nil)))), ?_⟩
  walk_at "gg"
  refine ⟨by omega, by omega, fun D hD => lc_range (lo := 0) (n := ((n : Int)).toNat) (fun i H2 => ∃ ns : List Int, LcH (CP K) hd ca H D (ns.map V.int) H2 ∧ (∀ z ∈ ns, 0 ≤ z ∧ z ≤ 1000000000) ∧ ns.length = i) ⟨[], LcH.zero hD hh, (fun z h => nomatch h), rfl⟩ ?_ ?_⟩
  · rintro i H2 hi ⟨ns, q, h1, h3⟩
    walk_at "gg"
    refine ⟨hd, ca, _, rfl, q.hand, by decide, by decide, fun r H3 h4 h5 n3 => ?_⟩
    refine ⟨szr, fun l hl => ?_⟩
    have n4 := n3.new (o := .lst [.int 0, .int 1, .int 2, .int 5, .int (10 ^ 9), .int r]) hl
    refine ⟨hd, ca, l, _, rfl, n4.hand, upd_same, n3.hand.ne hl, (fun z => nomatch z), (show 6 ≤ 1000 by decide), fun v H5 hv n5 => ?_⟩
    obtain ⟨z, rfl, hz1, hz2⟩ : ∃ z : Int, v = .int z ∧ 0 ≤ z ∧ z ≤ 1000000000 := by
      simp only [List.mem_cons, List.not_mem_nil, or_false] at hv
      rcases hv with h | h | h | h | h | h
      all_goals first
        | exact ⟨_, h, by decide, by decide⟩
        | exact ⟨_, h, by omega, by omega⟩
    obtain ⟨g1, g2, g3, t3⟩ := q.step (y := .int z) (n4.trans n5) (by rw [List.length_map]; omega)
    have e : ns.map V.int ++ [.int z] = (ns ++ [z]).map V.int := by
      rw [List.map_append]
      rfl
    refine ⟨_, g1, g2, ns ++ [z], by rw [e] at g3 ⊢; exact g3, fun y hy => ?_, by rw [List.length_append, h3]; rfl⟩
    rcases List.mem_append.mp hy with hy | hy
    · exact h1 y hy
    · rw [List.mem_singleton.mp hy]
      exact ⟨hz1, hz2⟩
  · rintro H2 ⟨ns, q, h1, h3⟩
    walk_at "gg"
    refine ⟨D, ns.map V.int, rfl, .inl ⟨SqL.of q.lc.at_, fun l hl => ?_⟩⟩
    exact k l ns _ (q.done.new hl) ⟨upd_same, h1⟩ (by omega)
end
end K6
set_option maxHeartbeats 4000000
/-! The program's runs: numbers put together, values, statements. -/
namespace K6
open PySem PySem.Spec PyProof.Rows L2 RZ
local macro_rules | `(tactic| walk_at "gg") => `(tactic| repeat first
  | refine ⟨_, rfl, ?_⟩ | refine ⟨_, _, rfl, rfl, ?_⟩ | refine ⟨rfl, ?_⟩ | refine iteT ?_ | refine iteF ?_
  | refine ⟨_, _, _, _, rfl, rfl, SqT.of (by assumption), rfl, ?_⟩
  | refine ⟨_, _, _, _, rfl, rfl, SqT.of (by assumption), at0, ?_⟩
  | refine ⟨_, _, _, _, rfl, rfl, SqL.of (by assumption), rfl, ?_⟩
  | refine ⟨_, _, rfl, .inr (SqT.of (by assumption)), ?_⟩
  | refine ⟨_, _, rfl, .inl (SqL.of (by assumption)), ?_⟩
  | refine ⟨_, _, rfl, .inr (SqT.of upd_same), rfl, rfl, ?_⟩
  | refine ⟨_, _, rfl, .inr (Txt.q_HOLDERS (by assumption) _), rfl, rfl, ?_⟩
  | refine ⟨_, _, rfl, .inr (Txt.q_GIVERS (by assumption) _), rfl, rfl, ?_⟩
  | refine ⟨_, _, rfl, .inr (Txt.q_FACTS (by assumption) _), rfl, rfl, ?_⟩
  | refine ⟨_, _, rfl, .inr (Txt.q_SIGNS (by assumption) _), rfl, rfl, ?_⟩
  | refine ⟨_, _, rfl, SqT.of upd_same, rfl, ?_⟩
  | refine ⟨_, _, rfl, SqT.of (by assumption), rfl, ?_⟩
  | refine ⟨_, _, rfl, ?_⟩
  | refine .inl ⟨_, rfl, ?_⟩
  | refine .inr ⟨_, rfl, ?_⟩
  | refine ⟨(by show (0 : Int) < _; decide), ?_⟩
  | refine ⟨.inr ⟨by decide, by decide⟩, ?_⟩
  | refine ⟨.inl ⟨by decide, by decide⟩, ?_⟩
  | refine ⟨⟨by decide, by decide⟩, ?_⟩
  | refine ⟨⟨by decide, by decide, by decide⟩, ?_⟩)
/-- (whether it is right, integer) -/
def ResAt (K : PySem.W.Frag) (H : Hp) (p : Addr) (o : Option Int) : Prop := match o with
  | some z => SqT K H p [.bl true, .int z]
  | none => ∃ z : Int, SqT K H p [.bl false, .int z]
def sp_whole (K : PySem.W.Frag) : Sp := fun vs H Q _ => ∃ z : Int, vs = [.int z] ∧ ∀ p H', Same H H' → ResAt K H' p (bnd z) → Q (.ref p) H'
def sp_reckoned (K : PySem.W.Frag) : Sp := fun vs H Q _ => ∃ s : Sg, ∃ a b : Int, vs = [.str s.str, .int a, .int b] ∧ within a ∧ within b ∧ ∀ p H', Same H H' → ResAt K H' p (s.ap a b) → Q (.ref p) H'
theorem cmul_within {a b : Int} (h : within a) : CMul a b := by
  have h1 : -1000000000000000000 ≤ a := h.1
  have h2 : a ≤ 1000000000000000000 := h.2
  exact .inl ⟨by omega, by omega⟩
theorem bnd_some {z : Int} (h1 : -big ≤ z) (h2 : z ≤ big) : bnd z = some z := if_pos ⟨h1, h2⟩
theorem bnd_none {z : Int} (h : ¬ (-big ≤ z ∧ z ≤ big)) : bnd z = none := if_neg h
theorem dec_int (a b : Int) : decide (V.int a = V.int b) = decide (a = b) := by
  by_cases h : a = b
  · rw [h]
    simp
  · rw [decide_eq_false h, decide_eq_false fun z => h (by injection z)]
theorem ap_eq (a b : Int) : Sg.ap .eq a b = some (b2 (decide (V.int a = V.int b))) := by
  rw [dec_int]
  rfl
theorem ap_and (a b : Int) : Sg.ap .and a b = some (b2 (!decide (V.int a = V.int 0) && !decide (V.int b = V.int 0))) := by
  rw [dec_int, dec_int]
  show some (b2 (decide (a ≠ 0) && decide (b ≠ 0))) = _
  rw [decide_not, decide_not]
theorem ap_or (a b : Int) : Sg.ap .or a b = some (b2 (!decide (V.int a = V.int 0) || !decide (V.int b = V.int 0))) := by
  rw [dec_int, dec_int]
  show some (b2 (decide (a ≠ 0) || decide (b ≠ 0))) = _
  rw [decide_not, decide_not]
section
variable {P : Program} {w : World} {K : PySem.W.Frag} {mg : Str → Option Value} {base : Heap}
theorem ok_whole (T : Txt K mg) : FnOk P w K mg base CX0 3 (a_whole K) (fdOf K (a_whole K)) ["number"] (sp_whole K) := by
  have G_is_within := ok_is_within (P := P) (w := w) (base := base) T
  refine T.F_whole.ok sc_whole (fun vs H Q E h => ?_) (fun cdv A outer s H vs Q E hr h => ?_)
  · obtain ⟨z, rfl, _⟩ := h
    rfl
  obtain ⟨z, rfl, k⟩ := h
  refine ⟨_, PSs.nox (pss_one (ps_ret (pe_ifExp (pt_val (pe_call G_is_within (hr.mono (by decide)) rfl T.g_is_within T.F_is_within.kp T.b_is_within .nil pass0 (pa_cons (pv 0) (pa_cons (pe_un un_neg (pe_gc rfl T.i_MOST_NUMBER)) (pa_cons (pe_gc rfl T.i_MOST_NUMBER) pa_nil))))) (pe_tup (pa_cons pe_bl (pa_cons (pv 0) pa_nil))) (pe_gc (v := .ref _) rfl ⟨_, T.g_WRONG, rfl⟩)))), ?_⟩
  walk_at "gg"
  refine ⟨z, _, _, rfl, ?_⟩
  walk_at "gg"
  refine if2 (fun c => ?_) (fun c => ?_)
  · have c : (decide (-big ≤ z) && decide (z ≤ big)) = true := c
    rw [Bool.and_eq_true, decide_eq_true_eq, decide_eq_true_eq] at c
    walk_at "gg"
    refine ⟨szr, fun p hp => ?_⟩
    refine k p _ (same_new hp) ?_
    rw [bnd_some c.1 c.2]
    exact SqT.of upd_same
  · have c : (decide (-big ≤ z) && decide (z ≤ big)) = false := c
    refine k _ _ (Same.refl _) ?_
    rw [bnd_none fun h => by rw [decide_eq_true h.1, decide_eq_true h.2] at c; cases c]
    exact ⟨0, T.q_WRONG _⟩
theorem ok_reckoned (T : Txt K mg) : FnOk P w K mg base CX0 4 (a_reckoned K) (fdOf K (a_reckoned K)) ["sign", "one", "other"] (sp_reckoned K) := by
  have G_whole := ok_whole (P := P) (w := w) (base := base) T
  refine T.F_reckoned.ok sc_reckoned (fun vs H Q E h => ?_) (fun cdv A outer s H vs Q E hr h => ?_)
  · obtain ⟨sg, a, b, rfl, _⟩ := h
    rfl
  obtain ⟨sg, a, b, rfl, ha, hb, k⟩ := h
  refine ⟨_, PSs.nox (pss_cons (ps_if (pt_cmpR op_eq (pv 0) pe_str (nomark _))
    (pss_one (ps_ret (pe_call G_whole (hr.mono (by decide)) rfl T.g_whole T.F_whole.kp T.b_whole .nil pass0 (pa_cons (pe_op op_add (pv 1) (pv 2)) pa_nil))))
    pss_nil)
    (pss_cons (ps_if (pt_cmpR op_eq (pv 0) pe_str (nomark _))
    (pss_one (ps_ret (pe_call G_whole (hr.mono (by decide)) rfl T.g_whole T.F_whole.kp T.b_whole .nil pass0 (pa_cons (pe_op op_sub (pv 1) (pv 2)) pa_nil))))
    pss_nil)
    (pss_cons (ps_if (pt_cmpR op_eq (pv 0) pe_str (nomark _))
    (pss_one (ps_ret (pe_call G_whole (hr.mono (by decide)) rfl T.g_whole T.F_whole.kp T.b_whole .nil pass0 (pa_cons (pe_op op_mul (pv 1) (pv 2)) pa_nil))))
    pss_nil)
    (pss_cons (ps_if (pt_cmpR op_eq (pv 0) pe_str (nomark _))
    (pss_one (ps_ret (pe_tup (pa_cons pe_bl (pa_cons (pe_callB (call_min2 rfl) (by rfl) T.z_min (by decide +kernel) (pa_cons (pv 1) (pa_cons (pv 2) pa_nil))) pa_nil)))))
    pss_nil)
    (pss_cons (ps_if (pt_cmpR op_eq (pv 0) pe_str (nomark _))
    (pss_one (ps_ret (pe_tup (pa_cons pe_bl (pa_cons (pe_callB (call_max2 rfl) (by rfl) T.z_max (by decide +kernel) (pa_cons (pv 1) (pa_cons (pv 2) pa_nil))) pa_nil)))))
    pss_nil)
    (pss_cons (ps_if (pt_cmpR op_eq (pv 0) pe_str (nomark _))
    (pss_one (ps_ret (pe_tup (pa_cons pe_bl (pa_cons (pe_callTy call_int1 (by rfl) T.z_int (by decide +kernel) (pa_cons (pe_cmpR op_lt (pv 1) (pv 2) (nomark _)) pa_nil)) pa_nil)))))
    pss_nil)
    (pss_cons (ps_if (pt_cmpR op_eq (pv 0) pe_str (nomark _))
    (pss_one (ps_ret (pe_tup (pa_cons pe_bl (pa_cons (pe_callTy call_int1 (by rfl) T.z_int (by decide +kernel) (pa_cons (pe_cmpR op_eq (pv 1) (pv 2) (nomark _)) pa_nil)) pa_nil)))))
    pss_nil)
    (pss_cons (ps_if (pt_cmpR op_eq (pv 0) pe_str (nomark _))
    (pss_one (ps_ret (pe_tup (pa_cons pe_bl (pa_cons (pe_callTy call_int1 (by rfl) T.z_int (by decide +kernel) (pa_cons (pe_and (pe_cmpR op_ne (pv 1) pe_int (nomark _)) (pe_one (pe_cmpR op_ne (pv 2) pe_int (nomark _)))) pa_nil)) pa_nil)))))
    pss_nil)
    (pss_cons (ps_if (pt_cmpR op_eq (pv 0) pe_str (nomark _))
    (pss_one (ps_ret (pe_tup (pa_cons pe_bl (pa_cons (pe_callTy call_int1 (by rfl) T.z_int (by decide +kernel) (pa_cons (pe_or (pe_cmpR op_ne (pv 1) pe_int (nomark _)) (pe_one (pe_cmpR op_ne (pv 2) pe_int (nomark _)))) pa_nil)) pa_nil)))))
    pss_nil)
    (pss_cons (ps_if (pt_cmpR op_eq (pv 2) pe_int (nomark _))
    (pss_one (ps_ret (pe_gc (v := .ref _) rfl ⟨_, T.g_WRONG, rfl⟩)))
    pss_nil)
    (pss_one (ps_ret (pe_call G_whole (hr.mono (by decide)) rfl T.g_whole T.F_whole.kp T.b_whole .nil pass0 (pa_cons (pe_ifExp (pt_cmpR op_eq (pv 0) pe_str (nomark _)) (pe_op op_fdivP (pv 1) (pv 2)) (pe_op op_modN (pv 1) (pv 2))) pa_nil)))))))))))))), ?_⟩
  cases sg with
  | add =>
    walk_at "gg"
    exact k
  | sub =>
    walk_at "gg"
    exact k
  | mul =>
    walk_at "gg"
    refine ⟨cmul_within ha, ?_⟩
    walk_at "gg"
    exact k
  | min =>
    walk_at "gg"
    refine ⟨szr, fun p hp => ?_⟩
    exact k p _ (same_new hp) (SqT.of upd_same)
  | max =>
    walk_at "gg"
    refine ⟨szr, fun p hp => ?_⟩
    exact k p _ (same_new hp) (SqT.of upd_same)
  | less =>
    walk_at "gg"
    refine ⟨szr, fun p hp => ?_⟩
    exact k p _ (same_new hp) (SqT.of upd_same)
  | eq =>
    rw [ap_eq] at k
    walk_at "gg"
    refine ⟨szr, fun p hp => ?_⟩
    exact k p _ (same_new hp) (SqT.of upd_same)
  | and =>
    rw [ap_and] at k
    walk_at "gg"
    refine if2 (fun c => ?_) (fun c => ?_)
    · rw [c] at k
      walk_at "gg"
      refine ⟨szr, fun p hp => ?_⟩
      exact k p _ (same_new hp) (SqT.of upd_same)
    · rw [c] at k
      walk_at "gg"
      refine ⟨szr, fun p hp => ?_⟩
      exact k p _ (same_new hp) (SqT.of upd_same)
  | or =>
    rw [ap_or] at k
    walk_at "gg"
    refine if2 (fun c => ?_) (fun c => ?_)
    · rw [c] at k
      walk_at "gg"
      refine ⟨szr, fun p hp => ?_⟩
      exact k p _ (same_new hp) (SqT.of upd_same)
    · rw [c] at k
      walk_at "gg"
      refine ⟨szr, fun p hp => ?_⟩
      exact k p _ (same_new hp) (SqT.of upd_same)
  | div =>
    walk_at "gg"
    refine if2 (fun c => ?_) (fun c => ?_)
    · rw [dec_int] at c
      have c : b = 0 := of_decide_eq_true c
      refine k _ _ (Same.refl _) ?_
      rw [show Sg.ap .div a b = none from if_pos c]
      exact ⟨0, T.q_WRONG _⟩
    · rw [dec_int] at c
      have c : ¬ b = 0 := of_decide_eq_false c
      rw [show Sg.ap .div a b = bnd (a.fdiv b) from if_neg c] at k
      walk_at "gg"
      refine ⟨cdivP c hb, ?_⟩
      walk_at "gg"
      exact k
  | mod =>
    walk_at "gg"
    refine if2 (fun c => ?_) (fun c => ?_)
    · rw [dec_int] at c
      have c : b = 0 := of_decide_eq_true c
      refine k _ _ (Same.refl _) ?_
      rw [show Sg.ap .mod a b = none from if_pos c]
      exact ⟨0, T.q_WRONG _⟩
    · rw [dec_int] at c
      have c : ¬ b = 0 := of_decide_eq_false c
      rw [show Sg.ap .mod a b = bnd (a.fmod b) from if_neg c] at k
      walk_at "gg"
      refine ⟨c, ?_⟩
      walk_at "gg"
      exact k
end
/-! ### a run -/
/-- a dict of names -/
structure NmOk (kvs : List (Key × V)) (f : Nm → Int) : Prop where
  nd : (kvs.map (·.1)).Nodup
  el : ∀ p ∈ kvs, ∃ (n : Nm) (z : Int), p = (Sum.inr n.str, V.int z)
  gt : ∀ n : Nm, (valV kvs (Sum.inr n.str : Key)).getD (.int 0) = .int (f n)
theorem NmOk.nil : NmOk [] fun _ => 0 := ⟨List.nodup_nil, (fun p h => nomatch h), fun n => rfl⟩
theorem nodup_sub {α : Type} [DecidableEq α] : ∀ {l m : List α}, l.Nodup → (∀ x ∈ l, x ∈ m) → l.length ≤ m.length
  | [], m, _, _ => Nat.zero_le _
  | a :: r, m, h, hs => by
    obtain ⟨h1, h2⟩ := List.nodup_cons.mp h
    have ha := hs a List.mem_cons_self
    have ih := nodup_sub (m := m.erase a) h2 fun x hx => (List.mem_erase_of_ne (fun z => h1 (by rw [← z]; exact hx))).mpr (hs x (List.mem_cons_of_mem _ hx))
    rw [List.length_erase_of_mem ha] at ih
    have := List.length_pos_of_mem ha
    rw [List.length_cons]
    omega
theorem NmOk.len {kvs : List (Key × V)} {f : Nm → Int} (h : NmOk kvs f) : kvs.length ≤ 4 := by
  have q := nodup_sub (m := [Sum.inr Nm.a.str, Sum.inr Nm.b.str, Sum.inr Nm.zz.str, Sum.inr Nm.h.str]) h.nd fun x hx => by
    obtain ⟨p, hp, rfl⟩ := List.mem_map.mp hx
    obtain ⟨n, z, rfl⟩ := h.el p hp
    cases n <;> simp
  rw [List.length_map] at q
  exact q
theorem keys_put_in {kvs : List (Key × V)} {k : Key} (v : V) (h : (kvs.any fun kv => decide (kv.1 = k)) = true) : (putK kvs k v).map (·.1) = kvs.map (·.1) := by
  unfold putK
  rw [if_pos h, List.map_map]
  refine List.map_congr_left fun p _ => ?_
  show (if p.1 = k then (p.1, v) else p).1 = p.1
  split <;> rfl
theorem nd_put {kvs : List (Key × V)} {k : Key} (v : V) (h : (kvs.map (·.1)).Nodup) : ((putK kvs k v).map (·.1)).Nodup := by
  by_cases q : (kvs.any fun kv => decide (kv.1 = k)) = true
  · rw [keys_put_in v q]
    exact h
  · have e : valV kvs k = none := by
      rw [valV_any] at q
      cases z : valV kvs k with
      | none => rfl
      | some x => rw [z] at q; exact absurd rfl q
    exact nd_putK v h e
theorem mem_put {kvs : List (Key × V)} {k : Key} {v : V} {p : Key × V} (h : p ∈ putK kvs k v) : p ∈ kvs ∨ p = (k, v) := by
  unfold putK at h
  split at h
  · obtain ⟨q, hq, e⟩ := List.mem_map.mp h
    split at e
    · right
      rw [← e]
      simp_all
    · left
      rw [← e]
      exact hq
  · rcases List.mem_append.mp h with h | h
    · exact .inl h
    · exact .inr (List.mem_singleton.mp h)
theorem NmOk.put {kvs : List (Key × V)} {f : Nm → Int} (h : NmOk kvs f) (n : Nm) (z : Int) : NmOk (putK kvs (Sum.inr n.str) (.int z)) fun m => if m = n then z else f m := by
  refine ⟨nd_put _ h.nd, fun p hp => ?_, fun m => ?_⟩
  · rcases mem_put hp with q | q
    · exact h.el p q
    · exact ⟨n, z, q⟩
  · rw [valV_put]
    by_cases e : m = n
    · rw [e, if_pos rfl, if_pos rfl]
      rfl
    · rw [if_neg fun q => e (Nm.inj (by injection q)), if_neg e]
      exact h.gt m
def factK (f : Fct → Int) : List (Key × V) := [(Sum.inr "beat", .int (f .beat)), (Sum.inr "person", .int (f .person)), (Sum.inr "need", .int (f .need)), (Sum.inr "things", .int (f .things)), (Sum.inr "people", .int (f .people))]
theorem factK_get (g : Fct → Int) (f : Fct) : valV (factK g) (Sum.inr f.str : Key) = some (.int (g f)) := by
  cases f <;> rfl
def numK (dd : Hd → Addr) : List (Key × V) := [(Sum.inr "let", .ref (dd .lt)), (Sum.inr "keep", .ref (dd .kp)), (Sum.inr "own", .ref (dd .ow))]
theorem numK_get (dd : Hd → Addr) (h : Hd) : valV (numK dd) (Sum.inr h.str : Key) = some (.ref (dd h)) := by
  cases h <;> rfl
def toldK (w c : Int) : List (Key × V) := [(Sum.inr "weight", .int w), (Sum.inr "cap", .int c)]
def runF (fa nu to : Addr) (b : Bool) : List (Str × V) := [("facts", .ref fa), ("numbers", .ref nu), ("told", .ref to), ("is_right", .bl b)]
/-- a run's objects: the run, its own dict, facts, numbers, told, and each holder's dict -/
structure RunAt (C : Addr) (H : Hp) (r dx fa nu to : Addr) (dd : Hd → Addr) (E : Env) (b : Bool) : Prop where
  ob : H r = some (.ins C dx (runF fa nu to b))
  hf : H fa = some (.dK (factK E.facts))
  hn : H nu = some (.dK (numK dd))
  ht : H to = some (.dK (toldK E.w E.c))
  dk : ∀ h, ∃ kvs, H (dd h) = some (.dK kvs) ∧ NmOk kvs (E.nums h)
  inj : ∀ h h', dd h = dd h' → h = h'
  nf : ∀ h, dd h ≠ fa
  nn : ∀ h, dd h ≠ nu
  nt : ∀ h, dd h ≠ to
  ft : fa ≠ to
  tn : to ≠ nu
theorem RunAt.same {C : Addr} {H H' : Hp} {r dx fa nu to : Addr} {dd : Hd → Addr} {E : Env} {b : Bool} (h : RunAt C H r dx fa nu to dd E b) (s : Same H H') : RunAt C H' r dx fa nu to dd E b :=
  { h with ob := s _ _ h.ob, hf := s _ _ h.hf, hn := s _ _ h.hn, ht := s _ _ h.ht, dk := fun d => let ⟨kvs, h1, h2⟩ := h.dk d; ⟨kvs, s _ _ h1, h2⟩ }
theorem dget {H : Hp} {a : Addr} {kvs : List (Key × V)} {k : Key} {v y : V} (e : H a = some (.dK kvs)) (hv : valV kvs k = some v) (hy : y = kV k := by rfl) : DGet H a y (some v) := by
  rw [hy, ← hv]
  exact DGet.k e
theorem isd {H : Hp} {a : Addr} {kvs : List (Key × V)} (e : H a = some (.dK kvs)) : IsD H a := .inl ⟨kvs, .inl e⟩
def sp_value (K : PySem.W.Frag) (n : Nat) : Sp := fun vs H Q _ => ∃ r dx fa nu to dd E b v e, vs = [.ref r, v] ∧ RunAt (He.ga K "Run") H r dx fa nu to dd E b ∧ ExAt H v e ∧ e.depth ≤ n ∧ e.bd ∧ E.bd ∧ ∀ p H', Same H H' → ResAt K H' p (e.ev E) → Q (.ref p) H'
section
variable {P : Program} {w : World} {K : PySem.W.Frag} {mg : Str → Option Value} {base : Heap}
theorem ok_Run_value (T : Txt K mg) : ∀ n : Nat, FnOk P w K mg base CX0 (4 + n) (a_Run_value K) (fdOf K (a_Run_value K)) ["self", "thing"] (sp_value K n)
  | 0 => FnOk.vac fun vs H Q E h => by
    obtain ⟨r, dx, fa, nu, to, dd, E, b, v, e, _, _, _, h0, _⟩ := h
    have := e.depth_pos
    omega
  | n + 1 => by
    have G_reckoned := ok_reckoned (P := P) (w := w) (base := base) T
    have G_Run_value := ok_Run_value T n
    refine T.F_Run_value.ok sc_Run_value (fun vs H Q E h => ?_) (fun cdv A outer s H vs Q E hr h => ?_)
    · obtain ⟨r, dx, fa, nu, to, dd, E, b, v, e, rfl, _⟩ := h
      rfl
    obtain ⟨r, dx, fa, nu, to, dd, E, b, v, e, rfl, R, he, hd, hb, hE, k⟩ := h
    have hr : Room (n + 4) _ := hr.mono (by simp; omega)
    have hu := hu_of hr
    refine ⟨_, PSs.nox (pss_cons (ps_set (i := 2) sc_Run_value.nd rfl (Or.inl rfl) (pe_ix ix_tup (pv 1) pe_int (fun _ _ => rfl)))
    (pss_cons (ps_if (pt_cmpR op_eq (pv 2) pe_str (nomark _))
    (pss_one (ps_ret (pe_tup (pa_cons pe_bl (pa_cons (pe_ix ix_tup (pv 1) pe_int (fun _ _ => rfl)) pa_nil)))))
    pss_nil)
    (pss_cons (ps_if (pt_cmpR op_eq (pv 2) pe_str (nomark _))
    (pss_one (ps_ret (pe_tup (pa_cons pe_bl (pa_cons (pe_dget hu (pe_fld (pv 0) rfl) (pe_ix ix_tup (pv 1) pe_int (fun _ _ => rfl)) (fun _ _ => rfl)) pa_nil)))))
    pss_nil)
    (pss_cons (ps_if (pt_cmpR op_in_seq (pv 2) (pe_gc (v := .ref _) rfl ⟨_, T.g_HOLDERS, rfl⟩) (by rfl))
    (pss_one (ps_ret (pe_tup (pa_cons pe_bl (pa_cons (pe_dget2 hu (pe_dget hu (pe_fld (pv 0) rfl) (pv 2) (fun _ _ => rfl)) (pe_ix ix_tup (pv 1) pe_int (fun _ _ => rfl)) pe_int ⟨rfl, rfl, rfl, rfl⟩) pa_nil)))))
    pss_nil)
    (pss_cons (ps_asg (pe_meth (pv 0) T.c_Run T.m_Run_value G_Run_value (hr.mono (by omega)) T.b_Run_value .nil pass0 (pa_cons (pe_ix ix_tup (pv 1) pe_int (fun _ _ => rfl)) pa_nil)) (pg_tup rfl (pgs_cons (pg_name (i := 3) sc_Run_value.nd rfl (Or.inl rfl)) (pgs_cons (pg_name (i := 4) sc_Run_value.nd rfl (Or.inl rfl)) pgs_nil))))
    (pss_cons (ps_if (PW.pt (pw_or (pt_not (pt_val (pv 3))) (pw_or1 (pt_cmpR op_eq (pv 2) pe_str (nomark _)))))
    (pss_one (ps_ret (pe_tup (pa_cons (pv 3) (pa_cons (pe_callTy call_int1 (by rfl) T.z_int (by decide +kernel) (pa_cons (pe_cmpR op_eq (pv 4) pe_int (nomark _)) pa_nil)) pa_nil)))))
    pss_nil)
    (pss_cons (ps_asg (pe_meth (pv 0) T.c_Run T.m_Run_value G_Run_value (hr.mono (by omega)) T.b_Run_value .nil pass0 (pa_cons (pe_ix ix_tup (pv 1) pe_int (fun _ _ => rfl)) pa_nil)) (pg_tup rfl (pgs_cons (pg_name (i := 3) sc_Run_value.nd rfl (Or.inl rfl)) (pgs_cons (pg_name (i := 5) sc_Run_value.nd rfl (Or.inl rfl)) pgs_nil))))
    (pss_one (ps_ret (pe_ifExp (pt_val (pv 3)) (pe_call G_reckoned (hr.mono (by omega)) rfl T.g_reckoned T.F_reckoned.kp T.b_reckoned .nil pass0 (pa_cons (pv 2) (pa_cons (pv 4) (pa_cons (pv 5) pa_nil)))) (pe_gc (v := .ref _) rfl ⟨_, T.g_WRONG, rfl⟩))))))))))), ?_⟩
    cases e with
    | num z =>
      obtain ⟨p, rfl, hp⟩ := he
      walk_at "gg"
      refine ⟨szr, fun p hp => ?_⟩
      exact k p _ (same_new hp) (SqT.of upd_same)
    | fact f =>
      obtain ⟨p, rfl, hp⟩ := he
      walk_at "gg"
      refine ⟨r, _, dx, _, _, rfl, R.ob, T.c_Run, T.n_Run_facts, rfl, ?_⟩
      walk_at "gg"
      refine ⟨_, _, rfl, dget R.hf (factK_get _ f), ?_⟩
      refine ⟨szr, fun p hp => ?_⟩
      exact k p _ (same_new hp) (SqT.of upd_same)
    | hold h m =>
      obtain ⟨p, rfl, hp⟩ := he
      have e1 : decide (V.str h.str = V.str "num") = false := by cases h <;> decide +kernel
      have e2 : decide (V.str h.str = V.str "fact") = false := by cases h <;> decide +kernel
      have e3 : inV (.str h.str) vHOLDERS = true := by cases h <;> decide +kernel
      obtain ⟨kvs, hk, hok⟩ := R.dk h
      walk_at "gg"
      refine ifF e1 ?_
      walk_at "gg"
      refine ifF e2 ?_
      walk_at "gg"
      refine ifT e3 ?_
      walk_at "gg"
      refine ⟨r, _, dx, _, _, rfl, R.ob, T.c_Run, T.n_Run_numbers, rfl, ?_⟩
      walk_at "gg"
      refine ⟨_, _, rfl, dget R.hn (numK_get _ h), ?_⟩
      refine ⟨_, rfl, isd hk, ?_⟩
      walk_at "gg"
      refine ⟨_, DGet.k (k := Sum.inr m.str) hk, ?_⟩
      rw [hok.gt m]
      walk_at "gg"
      refine ⟨szr, fun p hp => ?_⟩
      exact k p _ (same_new hp) (SqT.of upd_same)
    | neg a =>
      obtain ⟨p, x, rfl, hp, ha⟩ := he
      walk_at "gg"
      refine ⟨r, dx, _, rfl, R.ob, rfl, ?_⟩
      walk_at "gg"
      refine ⟨r, dx, fa, nu, to, dd, E, b, x, a, rfl, R, ha, by have hd : a.depth + 1 ≤ n + 1 := hd; omega, hb, hE, fun p1 H1 s1 res => ?_⟩
      have ke : (Ex.neg a).ev E = (a.ev E).map fun z => b2 (decide (z = 0)) := rfl
      rw [ke] at k
      cases ea : a.ev E with
      | none =>
        rw [ea] at res k
        obtain ⟨z, hz⟩ := res
        refine ⟨_, _, rfl, hz, rfl, ?_⟩
        walk_at "gg"
        refine ⟨szr, fun p hp => ?_⟩
        exact k p _ (s1.trans (same_new hp)) ⟨_, SqT.of upd_same⟩
      | some z =>
        rw [ea] at res k
        refine ⟨_, _, rfl, res, rfl, ?_⟩
        walk_at "gg"
        refine ⟨szr, fun p hp => ?_⟩
        refine k p _ (s1.trans (same_new hp)) ?_
        show SqT K _ p [.bl true, .int (b2 (decide (z = 0)))]
        rw [← dec_int]
        exact SqT.of upd_same
    | bin sg a c =>
      obtain ⟨p, x, y, rfl, hp, ha, hc⟩ := he
      have e1 : decide (V.str sg.str = V.str "num") = false := by cases sg <;> decide +kernel
      have e2 : decide (V.str sg.str = V.str "fact") = false := by cases sg <;> decide +kernel
      have e3 : inV (.str sg.str) vHOLDERS = false := by cases sg <;> decide +kernel
      have e4 : decide (V.str sg.str = V.str "not") = false := by cases sg <;> decide +kernel
      have hd : Nat.max a.depth c.depth + 1 ≤ n + 1 := hd
      have d1 : a.depth ≤ Nat.max a.depth c.depth := Nat.le_max_left _ _
      have d2 : c.depth ≤ Nat.max a.depth c.depth := Nat.le_max_right _ _
      walk_at "gg"
      refine ifF e1 ?_
      walk_at "gg"
      refine ifF e2 ?_
      walk_at "gg"
      refine ifF e3 ?_
      walk_at "gg"
      refine ⟨r, dx, _, rfl, R.ob, rfl, ?_⟩
      walk_at "gg"
      refine ⟨r, dx, fa, nu, to, dd, E, b, x, a, rfl, R, ha, by omega, hb.1, hE, fun p1 H1 s1 res => ?_⟩
      have ke : (Ex.bin sg a c).ev E = (match a.ev E, c.ev E with
        | some x, some y => sg.ap x y
        | _, _ => none) := rfl
      rw [ke] at k
      cases ea : a.ev E with
      | none =>
        rw [ea] at res k
        obtain ⟨z, hz⟩ := res
        refine ⟨_, _, rfl, hz, rfl, ?_⟩
        walk_at "gg"
        refine ⟨szr, fun p hp => ?_⟩
        exact k p _ (s1.trans (same_new hp)) ⟨_, SqT.of upd_same⟩
      | some z =>
        rw [ea] at res k
        have hz := Ex.ev_in hE hb.1 ea
        refine ⟨_, _, rfl, res, rfl, ?_⟩
        walk_at "gg"
        refine ifF e4 ?_
        have R1 := R.same s1
        have hp1 := s1 _ _ hp
        walk_at "gg"
        refine ⟨r, dx, _, rfl, R1.ob, rfl, ?_⟩
        walk_at "gg"
        refine ⟨r, dx, fa, nu, to, dd, E, b, y, c, rfl, R1, hc.mono (same_tp s1), by omega, hb.2, hE, fun p2 H2 s2 res2 => ?_⟩
        cases ec : c.ev E with
        | none =>
          rw [ec] at res2 k
          obtain ⟨z2, hz2⟩ := res2
          refine ⟨_, _, rfl, hz2, rfl, ?_⟩
          walk_at "gg"
          exact k _ _ (s1.trans s2) ⟨0, T.q_WRONG _⟩
        | some z2 =>
          rw [ec] at res2 k
          refine ⟨_, _, rfl, res2, rfl, ?_⟩
          walk_at "gg"
          exact ⟨sg, z, z2, rfl, hz, Ex.ev_in hE hb.2 ec, fun p3 H3 s3 r3 => k p3 H3 ((s1.trans s2).trans s3) r3⟩
end
end K6
set_option maxHeartbeats 4000000
/-! The program's runs: statements done, a run made, what is kept. -/
namespace K6
open PySem PySem.Spec PyProof.Rows L2 RZ
local macro_rules | `(tactic| walk_at "gg") => `(tactic| repeat first
  | refine ⟨_, rfl, ?_⟩ | refine ⟨_, _, rfl, rfl, ?_⟩ | refine ⟨rfl, ?_⟩ | refine iteT ?_ | refine iteF ?_
  | refine ⟨_, _, _, _, rfl, rfl, SqT.of (by assumption), rfl, ?_⟩
  | refine ⟨_, _, _, _, rfl, rfl, SqT.of (by assumption), at0, ?_⟩
  | refine ⟨_, _, _, _, rfl, rfl, SqL.of (by assumption), rfl, ?_⟩
  | refine ⟨_, _, rfl, .inr (SqT.of (by assumption)), ?_⟩
  | refine ⟨_, _, rfl, .inl (SqL.of (by assumption)), ?_⟩
  | refine ⟨_, _, rfl, .inr (SqT.of upd_same), rfl, rfl, ?_⟩
  | refine ⟨_, _, rfl, .inr (Txt.q_HOLDERS (by assumption) _), rfl, rfl, ?_⟩
  | refine ⟨_, _, rfl, .inr (Txt.q_GIVERS (by assumption) _), rfl, rfl, ?_⟩
  | refine ⟨_, _, rfl, .inr (Txt.q_FACTS (by assumption) _), rfl, rfl, ?_⟩
  | refine ⟨_, _, rfl, .inr (Txt.q_SIGNS (by assumption) _), rfl, rfl, ?_⟩
  | refine ⟨_, _, rfl, SqT.of upd_same, rfl, ?_⟩
  | refine ⟨_, _, rfl, SqT.of (by assumption), rfl, ?_⟩
  | refine ⟨_, _, rfl, ?_⟩
  | refine .inl ⟨_, rfl, ?_⟩
  | refine .inr ⟨_, rfl, ?_⟩
  | refine ⟨(by show (0 : Int) < _; decide), ?_⟩
  | refine ⟨.inr ⟨by decide, by decide⟩, ?_⟩
  | refine ⟨.inl ⟨by decide, by decide⟩, ?_⟩
  | refine ⟨⟨by decide, by decide⟩, ?_⟩
  | refine ⟨⟨by decide, by decide, by decide⟩, ?_⟩)
def Stm.run : Stm → Env → Option Env
  | .set h n e, E => match e.ev E with
    | some z => some (E.set h n z)
    | none => none
  | .give g e, E => match e.ev E with
    | some z => some (E.give g z)
    | none => none
  | .ite e a b, E => match e.ev E with
    | some z => if z ≠ 0 then a.run E else b.run E
    | none => none
def runs : List Stm → Env → Option Env
  | [], E => some E
  | s :: r, E => match s.run E with
    | some E' => runs r E'
    | none => none
theorem Blk.run_stms : ∀ (b : Blk) (E : Env), b.run E = runs b.stms E
  | .nil, E => rfl
  | .set h n e r, E => by
    show (match e.ev E with | some z => r.run (E.set h n z) | none => none) = (match (Stm.set h n e).run E with | some E' => runs r.stms E' | none => none)
    rw [show (Stm.set h n e).run E = (match e.ev E with | some z => some (E.set h n z) | none => none) from rfl]
    cases e.ev E with
    | none => rfl
    | some z => exact r.run_stms _
  | .give g e r, E => by
    show (match e.ev E with | some z => r.run (E.give g z) | none => none) = (match (Stm.give g e).run E with | some E' => runs r.stms E' | none => none)
    rw [show (Stm.give g e).run E = (match e.ev E with | some z => some (E.give g z) | none => none) from rfl]
    cases e.ev E with
    | none => rfl
    | some z => exact r.run_stms _
  | .ite e a b r, E => by
    show (match e.ev E with | some z => (match (if z ≠ 0 then a.run E else b.run E) with | some E' => r.run E' | none => none) | none => none) = (match (Stm.ite e a b).run E with | some E' => runs r.stms E' | none => none)
    rw [show (Stm.ite e a b).run E = (match e.ev E with | some z => if z ≠ 0 then a.run E else b.run E | none => none) from rfl]
    cases e.ev E with
    | none => rfl
    | some z =>
      show (match (if z ≠ 0 then a.run E else b.run E) with | some E' => r.run E' | none => none) = (match (if z ≠ 0 then a.run E else b.run E) with | some E' => runs r.stms E' | none => none)
      cases (if z ≠ 0 then a.run E else b.run E) with
      | none => rfl
      | some E' => exact r.run_stms _
theorem runs_drop {l : List Stm} {i : Nat} {s : Stm} {E : Env} (h : l[i]? = some s) : runs (l.drop i) E = match s.run E with
    | some E' => runs (l.drop (i + 1)) E'
    | none => none := by
  obtain ⟨hi, e⟩ := List.getElem?_eq_some_iff.mp h
  rw [List.drop_eq_getElem_cons hi, e]
  rfl
theorem Stm.run_bd {s : Stm} {E E' : Env} (ho : s.ok) (hE : E.bd) (h : s.run E = some E') : E'.bd := by
  cases s with
  | set hd n e =>
    simp only [Stm.run] at h
    cases q : e.ev E with
    | none => rw [q] at h; cases h
    | some z =>
      rw [q] at h
      cases h
      exact hE.set hd n (Ex.ev_in hE ho.2.2 q)
  | give g e =>
    simp only [Stm.run] at h
    cases q : e.ev E with
    | none => rw [q] at h; cases h
    | some z =>
      rw [q] at h
      cases h
      exact hE.give g z
  | ite e a b =>
    simp only [Stm.run] at h
    cases q : e.ev E with
    | none => rw [q] at h; cases h
    | some z =>
      rw [q] at h
      simp only at h
      by_cases hz : z ≠ 0
      · rw [if_pos hz] at h
        exact Blk.run_bd ho.2.1 hE h
      · rw [if_neg hz] at h
        exact Blk.run_bd ho.2.2 hE h
/-- what a run may change -/
def RunS (r to : Addr) (dd : Hd → Addr) : Addr → Prop := fun a => a = r ∨ a = to ∨ ∃ h, a = dd h
section
variable {C D : Addr} {H : Hp} {r dx fa nu to : Addr} {dd : Hd → Addr} {E : Env} {b : Bool}
theorem RunAt.set (R : RunAt C H r dx fa nu to dd E b) {h : Hd} {kvs : List (Key × V)} (hk : H (dd h) = some (.dK kvs)) (ok : NmOk kvs (E.nums h)) (m : Nm) (z : Int) :
    RunAt C (upd H (dd h) (.dK (putK kvs (Sum.inr m.str) (.int z)))) r dx fa nu to dd (E.set h m z) b ∧ Fr D (RunS r to dd) H (upd H (dd h) (.dK (putK kvs (Sum.inr m.str) (.int z)))) := by
  refine ⟨{ R with ob := ?_, hf := ?_, hn := ?_, ht := ?_, dk := fun h' => ?_ }, Fr.put (.inr (.inr ⟨h, rfl⟩)) hk (fun xs q => by cases q) fun dx fs q => by cases q⟩
  · rw [upd_ne (ne_of R.ob hk (by intro q; cases q))]
    exact R.ob
  · rw [upd_ne (R.nf h).symm]
    exact R.hf
  · rw [upd_ne (R.nn h).symm]
    exact R.hn
  · rw [upd_ne (R.nt h).symm]
    exact R.ht
  · by_cases e : h' = h
    · subst e
      refine ⟨_, upd_same, ?_⟩
      have q := ok.put m z
      have ef : (fun n => if n = m then z else E.nums h' n) = (E.set h' m z).nums h' := by
        funext n
        show (if n = m then z else E.nums h' n) = if h' = h' ∧ n = m then z else E.nums h' n
        simp
      rw [ef] at q
      exact q
    · obtain ⟨kv, q1, q2⟩ := R.dk h'
      refine ⟨kv, ?_, ?_⟩
      · rw [upd_ne fun q => e (R.inj _ _ q)]
        exact q1
      · have ef : E.nums h' = (E.set h m z).nums h' := by
          funext n
          show E.nums h' n = if h' = h ∧ n = m then z else E.nums h' n
          rw [if_neg fun q => e q.1]
        rw [← ef]
        exact q2
theorem RunAt.give (R : RunAt C H r dx fa nu to dd E b) (g : Gv) (z : Int) :
    RunAt C (upd H to (.dK (putK (toldK E.w E.c) (Sum.inr g.str) (.int z)))) r dx fa nu to dd (E.give g z) b ∧ Fr D (RunS r to dd) H (upd H to (.dK (putK (toldK E.w E.c) (Sum.inr g.str) (.int z)))) := by
  have ef : (E.give g z).facts = E.facts := by cases g <;> rfl
  have en : (E.give g z).nums = E.nums := by cases g <;> rfl
  refine ⟨{ R with ob := ?_, hf := ?_, hn := ?_, ht := ?_, dk := fun h' => ?_ }, Fr.put (.inr (.inl rfl)) R.ht (fun xs q => by cases q) fun dx fs q => by cases q⟩
  · rw [upd_ne (ne_of R.ob R.ht (by intro q; cases q))]
    exact R.ob
  · rw [upd_ne R.ft, ef]
    exact R.hf
  · rw [upd_ne R.tn.symm]
    exact R.hn
  · rw [upd_same]
    cases g <;> rfl
  · obtain ⟨kv, q1, q2⟩ := R.dk h'
    refine ⟨kv, ?_, by rw [en]; exact q2⟩
    rw [upd_ne (R.nt h')]
    exact q1
theorem RunAt.wrong (R : RunAt C H r dx fa nu to dd E b) (n : D ≠ C) (fs : List (Str × V)) : Fr D (RunS r to dd) H (upd H r (.ins C dx fs)) :=
  Fr.put (.inl rfl) R.ob (fun xs q => by cases q) fun dx fs q => n (by injection q with q; exact q.symm)
/-- behind a block -/
def RunEnd (C : Addr) (H : Hp) (r dx fa nu to : Addr) (dd : Hd → Addr) (o : Option Env) : Prop := match o with
  | some E => RunAt C H r dx fa nu to dd E true
  | none => H r = some (.ins C dx (runF fa nu to false))
end
def sp_do (K : PySem.W.Frag) (n : Nat) : Sp := fun vs H Q _ => ∃ r dx fa nu to dd E q ws b, vs = [.ref r, .ref q] ∧ RunAt (He.ga K "Run") H r dx fa nu to dd E true ∧ H q = some (.tup ws) ∧ StsAt H ws b ∧ b.lev ≤ n ∧ b.ok ∧ E.bd ∧
  ∀ H', Fr (CP K) (RunS r to dd) H H' → RunEnd (He.ga K "Run") H' r dx fa nu to dd (b.run E) → Q .non H'
section
variable {P : Program} {w : World} {K : PySem.W.Frag} {mg : Str → Option Value} {base : Heap}
theorem ok_Run_do (T : Txt K mg) : ∀ n : Nat, FnOk P w K mg base CX0 (10 + n) (a_Run_do K) (fdOf K (a_Run_do K)) ["self", "block"] (sp_do K n)
  | 0 => FnOk.vac fun vs H Q E h => by
    obtain ⟨r, dx, fa, nu, to, dd, E, q, ws, b, _, _, _, _, h0, _⟩ := h
    have := b.lev_pos
    omega
  | n + 1 => by
    have G_Run_value := ok_Run_value (P := P) (w := w) (base := base) T 6
    have G_Run_do := ok_Run_do T n
    refine T.F_Run_do.ok sc_Run_do (fun vs H Q E h => ?_) (fun cdv A outer s H vs Q E hr h => ?_)
    · obtain ⟨r, dx, fa, nu, to, dd, E, q, ws, b, rfl, _⟩ := h
      rfl
    obtain ⟨r, dx, fa, nu, to, dd, E, q, ws, b, rfl, R, hq, hs, hl, ho, hE, k⟩ := h
    have hr : Room (n + 10) _ := hr.mono (by simp; omega)
    have hu := hu_of hr
    have nPR : CP K ≠ He.ga K "Run" := of_decide_eq_true T.ne_PR
    refine ⟨_, PSs.nox (pss_one (ps_for PassesOwn.never rfl (pi_tup (pv 1)) (pg_name (i := 2) sc_Run_do.nd rfl (Or.inl rfl))
    (pss_cons (ps_set (i := 3) sc_Run_do.nd rfl (Or.inl rfl) (pe_ix ix_tup (pv 2) pe_int (fun _ _ => rfl)))
    (pss_cons (ps_asg (pe_meth (pv 0) T.c_Run T.m_Run_value G_Run_value (hr.mono (by omega)) T.b_Run_value .nil pass0 (pa_cons (pe_ifExp (pt_cmpR op_in_seq (pv 3) (pe_gc (v := .ref _) rfl ⟨_, T.g_HOLDERS, rfl⟩) (by rfl)) (pe_ix ix_tup (pv 2) pe_int (fun _ _ => rfl)) (pe_ix ix_tup (pv 2) pe_int (fun _ _ => rfl))) pa_nil)) (pg_tup rfl (pgs_cons (pg_name (i := 4) sc_Run_do.nd rfl (Or.inl rfl)) (pgs_cons (pg_name (i := 5) sc_Run_do.nd rfl (Or.inl rfl)) pgs_nil))))
    (pss_cons (ps_if (pt_not (pt_val (pv 4)))
    (pss_one (ps_fld (pv 0) pe_bl rfl))
    (pss_one (ps_if (pt_cmpR op_in_seq (pv 3) (pe_gc (v := .ref _) rfl ⟨_, T.g_HOLDERS, rfl⟩) (by rfl))
    (pss_one (ps_dput hu (pe_dget hu (pe_fld (pv 0) rfl) (pv 3) (fun _ _ => rfl)) (pe_ix ix_tup (pv 2) pe_int (fun _ _ => rfl)) (pv 5) rfl))
    (pss_one (ps_if (pt_cmpR op_in_seq (pv 3) (pe_gc (v := .ref _) rfl ⟨_, T.g_GIVERS, rfl⟩) (by rfl))
    (pss_one (ps_dput hu (pe_fld (pv 0) rfl) (pv 3) (pv 5) rfl))
    (pss_one (ps_expr (pe_meth (pv 0) T.c_Run T.m_Run_do G_Run_do (hr.mono (by omega)) T.b_Run_do .nil pass0 (pa_cons (pe_ifExp (pt_cmpR op_ne (pv 5) pe_int (nomark _)) (pe_ix ix_tup (pv 2) pe_int (fun _ _ => rfl)) (pe_ix ix_tup (pv 2) pe_int (fun _ _ => rfl))) pa_nil)))))))))
    (pss_one (ps_if (pt_not (pt_val (pe_fld (pv 0) rfl)))
    (pss_one ps_retN)
    pss_nil))))))), ?_⟩
    walk_at "gg"
    rw [b.run_stms] at k
    refine ⟨⟨_, SqT.of hq⟩, for_tup (xs := ws) (fun i σ H2 => ∃ a1 a2 a3 a4 E', σ = [some (.ref r), some (.ref q), a1, a2, a3, a4] ∧ Fr (CP K) (RunS r to dd) H H2 ∧ RunAt (He.ga K "Run") H2 r dx fa nu to dd E' true ∧ E'.bd ∧ runs b.stms E = runs (b.stms.drop i) E') ⟨none, none, none, none, E, rfl, Fr.refl, R, hE, rfl⟩ (fun i σ H2 _ ⟨_, _, _, _, _, _, f2, _⟩ => SqT.of (f2.tp _ _ hq)) ?_ ?_⟩
    · rintro i x σ H2 hi ⟨a1, a2, a3, a4, E', rfl, f2, R2, hE2, er⟩
      obtain ⟨st, hst, hz⟩ := hs.get hi
      have hm := List.mem_of_getElem? hst
      have hok := Blk.stms_ok ho hm
      rw [runs_drop hst] at er
      replace hz := hz.mono f2.tp
      cases st with
      | set h m e =>
        obtain ⟨p, x2, rfl, hp, hx⟩ := hz
        have f1 : inV (.str h.str) vHOLDERS = true := by cases h <;> decide +kernel
        walk_at "gg"
        refine ⟨r, dx, _, rfl, R2.ob, rfl, ?_⟩
        walk_at "gg"
        refine ifT f1 ?_
        walk_at "gg"
        refine ⟨r, dx, fa, nu, to, dd, E', true, x2, e, rfl, R2, hx, hok.1, hok.2.2, hE2, fun p1 H3 s3 res => ?_⟩
        have R3 := R2.same s3
        have f3 := f2.trans (Fr.of_same s3)
        have hp3 := s3 _ _ hp
        have es : (Stm.set h m e).run E' = (match e.ev E' with
          | some z => some (E'.set h m z)
          | none => none) := rfl
        rw [es] at er
        cases ee : e.ev E' with
        | none =>
          rw [ee] at res er
          obtain ⟨z, hz⟩ := res
          refine ⟨_, _, rfl, hz, rfl, ?_⟩
          walk_at "gg"
          refine ⟨r, _, dx, _, rfl, R3.ob, T.c_Run, T.n_Run_is_right, (show 4 < 1000 by decide), ?_⟩
          walk_at "gg"
          refine ⟨r, _, dx, _, _, rfl, upd_same, T.c_Run, T.n_Run_is_right, rfl, ?_⟩
          walk_at "gg"
          refine k _ (f3.trans (R3.wrong nPR _)) ?_
          rw [er]
          show upd H3 r _ r = some _
          rw [upd_same]
          rfl
        | some z =>
          rw [ee] at res er
          refine ⟨_, _, rfl, res, rfl, ?_⟩
          obtain ⟨kvs, hk, hnm⟩ := R3.dk h
          walk_at "gg"
          refine ifT f1 ?_
          walk_at "gg"
          refine ⟨r, _, dx, _, _, rfl, R3.ob, T.c_Run, T.n_Run_numbers, rfl, ?_⟩
          walk_at "gg"
          refine ⟨_, _, rfl, dget R3.hn (numK_get _ h), ?_⟩
          walk_at "gg"
          refine ⟨dd h, _, rfl, DPut.k (k := Sum.inr m.str) hk (szt (by have := hnm.len; omega)), ?_⟩
          obtain ⟨R4, f4⟩ := R3.set (D := CP K) hk hnm m z
          walk_at "gg"
          refine ⟨r, _, dx, _, _, rfl, R4.ob, T.c_Run, T.n_Run_is_right, rfl, ?_⟩
          walk_at "gg"
          exact ⟨_, _, _, _, _, rfl, f3.trans f4, R4, hE2.set h m (Ex.ev_in hE2 hok.2.2 ee), er⟩
      | give g e =>
        obtain ⟨p, x2, rfl, hp, hx⟩ := hz
        have f1 : inV (.str g.str) vHOLDERS = false := by cases g <;> decide +kernel
        have f5 : inV (.str g.str) vGIVERS = true := by cases g <;> decide +kernel
        walk_at "gg"
        refine ⟨r, dx, _, rfl, R2.ob, rfl, ?_⟩
        walk_at "gg"
        refine ifF f1 ?_
        walk_at "gg"
        refine ⟨r, dx, fa, nu, to, dd, E', true, x2, e, rfl, R2, hx, hok.1, hok.2.2, hE2, fun p1 H3 s3 res => ?_⟩
        have R3 := R2.same s3
        have f3 := f2.trans (Fr.of_same s3)
        have hp3 := s3 _ _ hp
        have es : (Stm.give g e).run E' = (match e.ev E' with
          | some z => some (E'.give g z)
          | none => none) := rfl
        rw [es] at er
        cases ee : e.ev E' with
        | none =>
          rw [ee] at res er
          obtain ⟨z, hz⟩ := res
          refine ⟨_, _, rfl, hz, rfl, ?_⟩
          walk_at "gg"
          refine ⟨r, _, dx, _, rfl, R3.ob, T.c_Run, T.n_Run_is_right, (show 4 < 1000 by decide), ?_⟩
          walk_at "gg"
          refine ⟨r, _, dx, _, _, rfl, upd_same, T.c_Run, T.n_Run_is_right, rfl, ?_⟩
          walk_at "gg"
          refine k _ (f3.trans (R3.wrong nPR _)) ?_
          rw [er]
          show upd H3 r _ r = some _
          rw [upd_same]
          rfl
        | some z =>
          rw [ee] at res er
          refine ⟨_, _, rfl, res, rfl, ?_⟩
          walk_at "gg"
          refine ifF f1 ?_
          walk_at "gg"
          refine ifT f5 ?_
          walk_at "gg"
          refine ⟨r, _, dx, _, _, rfl, R3.ob, T.c_Run, T.n_Run_told, rfl, ?_⟩
          walk_at "gg"
          refine ⟨to, _, rfl, DPut.k (k := Sum.inr g.str) R3.ht (szt (by show 2 < 100000; decide)), ?_⟩
          obtain ⟨R4, f4⟩ := R3.give (D := CP K) g z
          walk_at "gg"
          refine ⟨r, _, dx, _, _, rfl, R4.ob, T.c_Run, T.n_Run_is_right, rfl, ?_⟩
          walk_at "gg"
          exact ⟨_, _, _, _, _, rfl, f3.trans f4, R4, hE2.give g z, er⟩
      | ite e x y =>
        obtain ⟨p, x2, pa, pb, as, bs, rfl, hp, hx, ha, ha2, hb, hb2⟩ := hz
        obtain ⟨l1, l2⟩ := Blk.stms_lev hm
        walk_at "gg"
        refine ⟨r, dx, _, rfl, R2.ob, rfl, ?_⟩
        walk_at "gg"
        refine ⟨r, dx, fa, nu, to, dd, E', true, x2, e, rfl, R2, hx, hok.1.1, hok.1.2.2, hE2, fun p1 H3 s3 res => ?_⟩
        have R3 := R2.same s3
        have f3 := f2.trans (Fr.of_same s3)
        have hp3 := s3 _ _ hp
        have es : (Stm.ite e x y).run E' = (match e.ev E' with
          | some z => if z ≠ 0 then x.run E' else y.run E'
          | none => none) := rfl
        rw [es] at er
        cases ee : e.ev E' with
        | none =>
          rw [ee] at res er
          obtain ⟨z, hz⟩ := res
          refine ⟨_, _, rfl, hz, rfl, ?_⟩
          walk_at "gg"
          refine ⟨r, _, dx, _, rfl, R3.ob, T.c_Run, T.n_Run_is_right, (show 4 < 1000 by decide), ?_⟩
          walk_at "gg"
          refine ⟨r, _, dx, _, _, rfl, upd_same, T.c_Run, T.n_Run_is_right, rfl, ?_⟩
          walk_at "gg"
          refine k _ (f3.trans (R3.wrong nPR _)) ?_
          rw [er]
          show upd H3 r _ r = some _
          rw [upd_same]
          rfl
        | some z =>
          rw [ee] at res er
          refine ⟨_, _, rfl, res, rfl, ?_⟩
          walk_at "gg"
          refine ⟨r, dx, _, rfl, R3.ob, rfl, ?_⟩
          walk_at "gg"
          have er : runs b.stms E = (match (if z ≠ 0 then x.run E' else y.run E') with
            | some E2 => runs (b.stms.drop (i + 1)) E2
            | none => none) := er
          refine if2 (fun c => ?_) (fun c => ?_)
          · have c : z ≠ 0 := by
              rw [dec_int] at c
              simpa using c
            rw [if_pos c] at er
            walk_at "gg"
            refine ⟨r, dx, fa, nu, to, dd, E', pa, as, x, rfl, R3, s3 _ _ ha, ha2.mono (same_tp s3), by omega, hok.2.1, hE2, fun H4 f4 e4 => ?_⟩
            walk_at "gg"
            cases ex : x.run E' with
            | none =>
              rw [ex] at e4 er
              have e5 : H4 r = some (.ins (He.ga K "Run") dx (runF fa nu to false)) := e4
              refine ⟨r, _, dx, _, _, rfl, e5, T.c_Run, T.n_Run_is_right, rfl, ?_⟩
              walk_at "gg"
              refine k _ (f3.trans f4) ?_
              rw [er]
              exact e4
            | some E2 =>
              rw [ex] at e4 er
              have R4 : RunAt (He.ga K "Run") H4 r dx fa nu to dd E2 true := e4
              refine ⟨r, _, dx, _, _, rfl, R4.ob, T.c_Run, T.n_Run_is_right, rfl, ?_⟩
              walk_at "gg"
              exact ⟨_, _, _, _, _, rfl, f3.trans f4, R4, Blk.run_bd hok.2.1 hE2 ex, er⟩
          · have c : ¬ z ≠ 0 := by
              rw [dec_int] at c
              simpa using c
            rw [if_neg c] at er
            walk_at "gg"
            refine ⟨r, dx, fa, nu, to, dd, E', pb, bs, y, rfl, R3, s3 _ _ hb, hb2.mono (same_tp s3), by omega, hok.2.2, hE2, fun H4 f4 e4 => ?_⟩
            walk_at "gg"
            cases ex : y.run E' with
            | none =>
              rw [ex] at e4 er
              have e5 : H4 r = some (.ins (He.ga K "Run") dx (runF fa nu to false)) := e4
              refine ⟨r, _, dx, _, _, rfl, e5, T.c_Run, T.n_Run_is_right, rfl, ?_⟩
              walk_at "gg"
              refine k _ (f3.trans f4) ?_
              rw [er]
              exact e4
            | some E2 =>
              rw [ex] at e4 er
              have R4 : RunAt (He.ga K "Run") H4 r dx fa nu to dd E2 true := e4
              refine ⟨r, _, dx, _, _, rfl, R4.ob, T.c_Run, T.n_Run_is_right, rfl, ?_⟩
              walk_at "gg"
              exact ⟨_, _, _, _, _, rfl, f3.trans f4, R4, Blk.run_bd hok.2.2 hE2 ex, er⟩
    · rintro σ H2 ⟨a1, a2, a3, a4, E', rfl, f2, R2, hE2, er⟩
      rw [hs.len, ← b.stms_len, List.drop_length] at er
      refine k H2 f2 ?_
      rw [er]
      exact R2
end
end K6
set_option maxHeartbeats 4000000
/-! Rules of our own, the second part: a dict comprehension over a walk; the least of a list of pairs; the default == and != of instances. -/
namespace K6
open PySem PySem.Spec PyProof.Rows L2 RZ
theorem dc_it {J : It} {n : Nat} {G : Hp → Prop} {Y : Nat → Hp → V → Hp → Prop} (w : Walk J n G Y) {g : TG} {tt : TT} {tk tv : TE} {vs : List Nat} {σ : L2.St} {H1 : Hp} {D : Addr} {Qd : Hp → Prop} (Pv : Nat → Hp → Prop) (h0 : Pv 0 (upd H1 D (.dK []))) (hG : ∀ i H, i ≤ n → Pv i H → G H)
    (hs : ∀ i x H H', i < n → Pv i H → Y i H x H' → g x (wipe σ vs) H' fun σ2 H2 => wipe σ2 vs = wipe σ vs ∧ tt σ2 H2 fun b H3 =>
      if b = true then tk σ2 H3 fun y H4 => tv σ2 H4 fun z H5 => ∃ kvs k, y = kV k ∧ H5 D = some (.dK kvs) ∧ kvs.length < sizeLine ∧ Pv (i + 1) (upd H5 D (.dK (putK kvs k z))) else Pv (i + 1) H3) (hd : ∀ H, Pv n H → Qd H) :
    ∃ W : Nat → Nat → Hp → Prop, (∃ m, W 0 m (upd H1 D (.dK []))) ∧ ∀ i m H, W i m H →
      (J.stop i H ∧ Qd H) ∨ (J.go i H ∧ ∃ Nx : Hp → Prop, (∀ H', Nx H' → ∃ m', m' < m ∧ W (i + 1) m' H') ∧ ∀ x H', J.yld i H x H' → g x (wipe σ vs) H' fun σ2 H2 => wipe σ2 vs = wipe σ vs ∧ tt σ2 H2 fun b H3 =>
        if b = true then tk σ2 H3 fun y H4 => tv σ2 H4 fun z H5 => ∃ kvs k, y = kV k ∧ H5 D = some (.dK kvs) ∧ kvs.length < sizeLine ∧ Nx (upd H5 D (.dK (putK kvs k z))) else Nx H3) := by
  refine ⟨fun i m H => m = n - i ∧ i ≤ n ∧ Pv i H, ⟨n, by simp, Nat.zero_le _, h0⟩, ?_⟩
  rintro i m H ⟨rfl, hi, p⟩
  have q := hG i H hi p
  by_cases hlt : i < n
  · refine .inr ⟨w.goes i H hlt q, Pv (i + 1), fun H' p' => ⟨n - (i + 1), by omega, rfl, hlt, p'⟩, fun x H' y => hs i x H H' hlt p (w.yields i H x H' hlt q y)⟩
  · have e : i = n := by omega
    subst e
    exact .inl ⟨w.stops H q, hd H p⟩
/-! ### min of a list of pairs -/
def ltP (p q : Int × Int) : Bool := if p.1 = q.1 then decide (p.2 < q.2) else decide (p.1 < q.1)
def minP (x : Int × Int) (xs : List (Int × Int)) : Int × Int := xs.foldl (fun a y => if ltP y a = true then y else a) x
def rMinP (K : PySem.W.Frag) : List V → Hp → VK → Prop := fun vs H Q => ∃ (l : Addr) (ps : List Addr) (x : Int × Int) (xs : List (Int × Int)), vs = [.ref l] ∧ SqL K H l (ps.map V.ref) ∧ Paired (fun p z => SqT K H p [.int z.1, .int z.2]) ps (x :: xs) ∧
  ∀ p, SqT K H p [.int (minP x xs).1, .int (minP x xs).2] → Q (.ref p) H
theorem holdAll_of {X : Cx} {pins : List (Addr × Obj)} {σ : L2.St} {H : Hp} {s : Shared} (I : Inv X pins σ H s) : ∀ {ps : List Addr} {zs : List (Int × Int)}, Paired (fun p z => SqT X.K H p [.int z.1, .int z.2]) ps zs → PySem.W.HoldAll s.heap (ps.map Value.ref) zs
  | _, _, .nil => PySem.W.HoldAll.nil
  | _, _, .cons h r => by
    obtain ⟨its, rv, p, _⟩ := I.tuple h
    cases rv with
    | cons r1 rr =>
      cases rr with
      | cons r2 rr =>
        cases rr
        obtain ⟨t1, rfl⟩ := r1
        obtain ⟨t2, rfl⟩ := r2
        exact PySem.W.HoldAll.cons (PySem.W.holds_pair p (PySem.W.holds_int _ _) (PySem.W.holds_int _ _)) (holdAll_of I r)
theorem minP_eq (x : Int × Int) (xs : List (Int × Int)) : PySem.W.minOf x xs = minP x xs := rfl
theorem paired_get {α β : Type} {R : α → β → Prop} : ∀ {xs : List α} {ys : List β}, Paired R xs ys → ∀ {i : Nat} {a : α}, xs[i]? = some a → ∃ b, ys[i]? = some b ∧ R a b
  | _, _, .nil, i, a, h => by simp at h
  | _, _, .cons q r, 0, a, h => by
    cases h
    exact ⟨_, rfl, q⟩
  | _, _, .cons q r, i + 1, a, h => paired_get r (i := i) h
theorem cr_minP {X : Cx} (hc : X.calm = true) (hu : X.A.units + 64 < cLine) : CallR X (.builtin "min") (rMinP X.K) := by
  intro pins s σ H vs us Q I r h
  obtain ⟨l, ps, x, xs, rfl, hl, hp, q⟩ := h
  rw [Vals.ref1 r]
  obtain ⟨its, rv, pl, _⟩ := I.list hl
  have ei := refs_at rv
  subst ei
  have hd : PySem.W.Datum.depth (Int × Int) = 1 := rfl
  refine PySem.W.min_list_datum (x := x) (xs := xs) (I.ok.hd hc) pl.isList (by have q := holdAll_of I hp; simpa using q) (by rw [hd]; omega) fun i v h' tk hv hh k => ?_
  have hv : (ps.map Value.ref)[i]? = some v := by simpa using hv
  obtain ⟨p, hp1, rfl⟩ : ∃ p, ps[i]? = some p ∧ v = .ref p := by
    rw [List.getElem?_map] at hv
    cases e : ps[i]? with
    | none => rw [e] at hv; cases hv
    | some p => rw [e] at hv; exact ⟨p, rfl, (Option.some.inj hv).symm⟩
  obtain ⟨z, _, hz⟩ := paired_get hp hp1
  have I1 : Inv X pins σ H { s with heap := h', toks := tk } := I.kept k
  obtain ⟨l', a, b, e1, e2, e3, e4⟩ := PySem.W.pair_of_holds hh
  obtain ⟨t1, rfl⟩ := PySem.W.int_of_holds e3
  obtain ⟨t2, rfl⟩ := PySem.W.int_of_holds e4
  cases e1
  obtain ⟨its2, rv2, p2, _⟩ := I1.tuple hz
  have ee : its2.toArray = #[.int (PySem.W.minOf x xs).1 t1, .int (PySem.W.minOf x xs).2 t2] := by
    obtain ⟨o1, q1, q2, n1, q3⟩ := p2
    obtain ⟨o2, q4, q5, n2, q6⟩ := e2
    have q1 : h'.get? p = some o1 := q1
    rw [q4] at q1
    cases q1
    rw [q3] at q6
    cases q6
    rfl
  refine ⟨.ref p, H, I1, rfl, q p ?_⟩
  have el : its2 = [.int (PySem.W.minOf x xs).1 t1, .int (PySem.W.minOf x xs).2 t2] := by simpa using congrArg Array.toList ee
  subst el
  cases rv2 with
  | cons r1 rr =>
    cases rr with
    | cons r2 rr =>
      obtain ⟨t3, h3⟩ := r1
      obtain ⟨t4, h4⟩ := r2
      injection h3 with h3 _
      injection h4 with h4 _
      show SqT X.K H p [.int (PySem.W.minOf x xs).1, .int (PySem.W.minOf x xs).2]
      rw [h3, h4]
      exact hz
/-! ### the default == and != -/
section
variable {M : Model} {prog : Program} {w : World} {A : Around} {E : Value → Shared → Prop} {s : Shared} {K : PySem.W.Frag} {x y C : Addr} {ox oy : Obj} {od od' : Option Obj}
theorem call_eqSame {Q : Value → Shared → Prop} (X : K.In s.heap) (I : PySem.W.InstAt s.heap x ox C od) (hm : PySem.W.mroIn K C (.type "object") = some true) (hq : Q (.bool true) s) :
    wpAny (model prog w) A (call (.builtin "object.__eq__") [.ref x, .ref x]) Q E s :=
  wpAny_call (codeAny_call_builtin F.cmp_object.eq.plain F.cmpEntry_eq (PySem.W.check_slot F.cmpKind_eq F.cmpSplit_eq (I.type.andThen (PySem.W.looks_mroIn X hm)) (F.cmpArgs_eq _ _) (objEq_entry_same hq)))
theorem inst_nt (I : PySem.W.InstAt s.heap x ox C od) : ox.cls ≠ .type "tuple" := fun e => by
  rw [I.cls] at e
  cases e
theorem call_eqOther {Q : Value → Shared → Prop} (X : K.In s.heap) (I : PySem.W.InstAt s.heap x ox C od) (J : PySem.W.InstAt s.heap y oy C od') (n : x ≠ y) (hm : PySem.W.mroIn K C (.type "object") = some true) (hq : Q .notImplemented s) :
    wpAny (model prog w) A (call (.builtin "object.__eq__") [.ref x, .ref y]) Q E s :=
  wpAny_call (codeAny_call_builtin F.cmp_object.eq.plain F.cmpEntry_eq (PySem.W.check_slot F.cmpKind_eq F.cmpSplit_eq (I.type.andThen (PySem.W.looks_mroIn X hm)) (F.cmpArgs_eq _ _) (objEq_entry_other n I.at_ J.at_ (inst_nt I) hq)))
theorem ifBound_objNe {args : List Value} {Q : Option Value → Shared → Prop} (X : K.In s.heap) (I : PySem.W.InstAt s.heap x ox C od) (hs : PySem.W.findIn K (.ref C) "__ne__" = some (some (.builtin "object.__ne__")))
    (h : wpAny M A (call (.builtin "object.__ne__") (.ref x :: args)) (fun v => Q (some v)) E s) : wpAny M A (callSpecialIfBound? (.ref x) "__ne__" args) Q E s := by
  simp only [callSpecialIfBound?, bindSpecialIfBound?]
  refine wpAny_holding (wpAny_bind (wpAny_bind (wpAny_bind (I.type.here ((PySem.W.looks_findIn X hs).here ?_)))))
  refine wpAny_bind (wpAny_askSetting (wpAny_ite ?_))
  have fin : wpAny M A (call (.builtin "object.__ne__") ([.ref x] ++ args) >>= fun v => pure (some v)) Q E s := wpAny_bind (wpAny_mono h (fun v s' h' => wpAny_pure h') fun _ _ h' => h')
  split
  · exact wpAny_bind (wpAny_of_eq (F.cmp_object.ne.bind _) (wpAny_pure (by exact fin)))
  · exact wpAny_tryCatch (wpAny_bind (wpAny_of_eq (F.cmp_object.ne.bind _) (wpAny_pure (by exact fin))))
theorem try_eqOther {Q : Option Value → Shared → Prop} (X : K.In s.heap) (I : PySem.W.InstAt s.heap x ox C od) (J : PySem.W.InstAt s.heap y oy C od') (n : x ≠ y) (hm : PySem.W.mroIn K C (.type "object") = some true) (hs : PySem.W.findIn K (.ref C) "__eq__" = some (some (.builtin "object.__eq__")))
    (hq : Q none s) : wpAny (model prog w) A (tryCompare (.ref x) "__eq__" (.ref y)) Q E s := by
  unfold tryCompare
  exact wpAny_bind (HN.ifBound_objEq X I hs (call_eqOther X I J n hm (wpAny_pure hq)))
theorem objNe_same {Q : Fin → Shared → Prop} (X : K.In s.heap) (I : PySem.W.InstAt s.heap x ox C od) (hm : PySem.W.mroIn K C (.type "object") = some true) (hs : PySem.W.findIn K (.ref C) "__eq__" = some (some (.builtin "object.__eq__"))) (hu : A.units < cLine)
    (hq : Q (.done (.ret (.bool false))) s) : wpAny (model prog w) A (Builtin.«object.__ne__» ⟨[.ref x, .ref x], []⟩) Q E s := by
  have one : ∀ {R : Option Value → Shared → Prop} {E : Value → Shared → Prop}, R (some (.bool true)) s → wpAny (model prog w) A (callSpecialIfBound? (.ref x) "__eq__" [.ref x]) R E s := fun r => HN.ifBound_objEq X I hs (call_eqSame X I hm r)
  unfold Builtin.«object.__ne__»
  repeat (first | with_reducible refine wpAny_cRoomFor hu ?_ | with_reducible refine one ?_ | wp_step)
  exact hq
theorem try_neSame {Q : Option Value → Shared → Prop} (X : K.In s.heap) (I : PySem.W.InstAt s.heap x ox C od) (hm : PySem.W.mroIn K C (.type "object") = some true) (hs : PySem.W.findIn K (.ref C) "__eq__" = some (some (.builtin "object.__eq__")))
    (hn : PySem.W.findIn K (.ref C) "__ne__" = some (some (.builtin "object.__ne__"))) (hu : A.units + 1 < cLine) (hq : Q (some (.bool false)) s) : wpAny (model prog w) A (tryCompare (.ref x) "__ne__" (.ref x)) Q E s := by
  unfold tryCompare
  refine wpAny_bind (ifBound_objNe X I hn (wpAny_call (codeAny_call_builtin F.cmp_object.ne.plain F.cmpEntry_ne (PySem.W.check_slot F.cmpKind_ne F.cmpSplit_ne (I.type.andThen (PySem.W.looks_mroIn X hm)) (F.cmpArgs_ne _ _) (objNe_same (A := A.in1) X I hm hs hu ?_)))))
  exact wpAny_pure hq
theorem rc_eqOther {Q : Value → Shared → Prop} (hu : A.units < cLine) (X : K.In s.heap) (I : PySem.W.InstAt s.heap x ox C od) (J : PySem.W.InstAt s.heap y oy C od') (n : x ≠ y) (hm : PySem.W.mroIn K C (.type "object") = some true)
    (hs : PySem.W.findIn K (.ref C) "__eq__" = some (some (.builtin "object.__eq__"))) (hq : Q (.bool false) s) : wpAny (model prog w) A (compareOp .Eq (.ref x) (.ref y)) Q E s := by
  show wpAny (model prog w) A (richCompare .Eq (.ref x) (.ref y)) Q E s
  simp only [richCompare, cmpInfo_Eq, oneThing_ref]
  refine wpAny_holding (wpAny_bind (wpAny_cRoomFor hu ?_))
  refine wpAny_bind (I.type.here ?_)
  refine wpAny_bind (J.type.here ?_)
  have e : (Value.ref C != Value.ref C) = false := by simp
  simp only [e, Bool.false_eq_true, if_false, Bool.not_false, if_true]
  refine wpAny_bind (wpAny_pure ?_)
  simp only [Bool.false_eq_true, if_false, Bool.not_false, if_true]
  refine wpAny_bind (try_eqOther X I J n hm hs ?_)
  refine wpAny_bind (try_eqOther X J I n.symm hm hs ?_)
  exact wpAny_bind (wpAny_rule (wpAny_bind (wpAny_isSame_ref_other n I.at_ J.at_ (inst_nt I) (wpAny_pure hq))))
theorem rc_neSame {Q : Value → Shared → Prop} (hu : A.units + 1 < cLine) (X : K.In s.heap) (I : PySem.W.InstAt s.heap x ox C od) (hm : PySem.W.mroIn K C (.type "object") = some true)
    (hs : PySem.W.findIn K (.ref C) "__eq__" = some (some (.builtin "object.__eq__"))) (hn : PySem.W.findIn K (.ref C) "__ne__" = some (some (.builtin "object.__ne__"))) (hq : Q (.bool false) s) : wpAny (model prog w) A (compareOp .NotEq (.ref x) (.ref x)) Q E s := by
  show wpAny (model prog w) A (richCompare .NotEq (.ref x) (.ref x)) Q E s
  simp only [richCompare, cmpInfo_NotEq, oneThing_ref]
  refine wpAny_holding (wpAny_bind (wpAny_cRoomFor (Nat.lt_of_succ_lt hu) ?_))
  refine wpAny_bind (I.type.here ?_)
  refine wpAny_bind (I.type.here ?_)
  have e : (Value.ref C != Value.ref C) = false := by simp
  simp only [e, Bool.false_eq_true, if_false, Bool.not_false, if_true]
  refine wpAny_bind (wpAny_pure ?_)
  simp only [Bool.false_eq_true, if_false, Bool.not_false, if_true]
  refine wpAny_bind (try_neSame X I hm hs hn hu ?_)
  exact wpAny_pure hq
end
/-- what a class with the default == and != has -/
structure DefEq (K : PySem.W.Frag) (C : Addr) : Prop where
  mro : PySem.W.mroIn K C (.type "object") = some true
  eq : PySem.W.findIn K (.ref C) "__eq__" = some (some (.builtin "object.__eq__"))
  ne : PySem.W.findIn K (.ref C) "__ne__" = some (some (.builtin "object.__ne__"))
def rEqT (C : Addr) : R2 := fun x y H Q => ∃ a b dx dy fs gs, x = .ref a ∧ y = .ref b ∧ a ≠ b ∧ H a = some (.ins C dx fs) ∧ H b = some (.ins C dy gs) ∧ Q (.bl false) H
def rNeT (C : Addr) : R2 := fun x y H Q => ∃ a dx fs, x = .ref a ∧ y = .ref a ∧ H a = some (.ins C dx fs) ∧ Q (.bl false) H
section
variable {X : Cx} {C : Addr}
theorem op_eqT (D : DefEq X.K C) (hu : X.A.units + 64 < cLine) : OpR X (compareOp .Eq) (rEqT C) := by
  intro pins s σ H x y v u Q I rx ry h
  obtain ⟨a, b, dx, dy, fs, gs, rfl, rfl, n, ha, hb, q⟩ := h
  cases rx
  cases ry
  obtain ⟨mA, O, _⟩ := ins_get I.hok ha
  obtain ⟨od, J, _⟩ := O.look
  obtain ⟨mB, O2, _⟩ := ins_get I.hok hb
  obtain ⟨od2, J2, _⟩ := O2.look
  exact rc_eqOther (by omega) I.kIn J J2 n D.mro D.eq ⟨.bl false, H, I, rfl, q⟩
theorem op_neT (D : DefEq X.K C) (hu : X.A.units + 64 < cLine) : OpR X (compareOp .NotEq) (rNeT C) := by
  intro pins s σ H x y v u Q I rx ry h
  obtain ⟨a, dx, fs, rfl, rfl, ha, q⟩ := h
  cases rx
  cases ry
  obtain ⟨mA, O, _⟩ := ins_get I.hok ha
  obtain ⟨od, J, _⟩ := O.look
  exact rc_neSame (by omega) I.kIn J D.mro D.eq D.ne ⟨.bl false, H, I, rfl, q⟩
end
section
variable {K : PySem.W.Frag} {mg : Str → Option Value}
theorem Txt.defEq (T : Txt K mg) : DefEq K (He.ga K "Teller") := ⟨mro_obj T.k_Teller.makes, He.eqO_ok T.eq1, He.eqO_ok T.ne1⟩
end
end K6
set_option maxHeartbeats 4000000
/-! A run made; what is kept of its numbers; who takes the next part. -/
namespace K6
open PySem PySem.Spec PyProof.Rows L2 RZ
local macro_rules | `(tactic| walk_at "gg") => `(tactic| repeat first
  | refine ⟨_, rfl, ?_⟩ | refine ⟨_, _, rfl, rfl, ?_⟩ | refine ⟨rfl, ?_⟩ | refine iteT ?_ | refine iteF ?_
  | refine ⟨_, _, _, _, rfl, rfl, SqT.of (by assumption), rfl, ?_⟩
  | refine ⟨_, _, _, _, rfl, rfl, SqT.of (by assumption), at0, ?_⟩
  | refine ⟨_, _, _, _, rfl, rfl, SqL.of (by assumption), rfl, ?_⟩
  | refine ⟨_, _, rfl, .inr (SqT.of (by assumption)), ?_⟩
  | refine ⟨_, _, rfl, .inl (SqL.of (by assumption)), ?_⟩
  | refine ⟨_, _, rfl, .inr (SqT.of upd_same), rfl, rfl, ?_⟩
  | refine ⟨_, _, rfl, .inr (Txt.q_HOLDERS (by assumption) _), rfl, rfl, ?_⟩
  | refine ⟨_, _, rfl, .inr (Txt.q_GIVERS (by assumption) _), rfl, rfl, ?_⟩
  | refine ⟨_, _, rfl, .inr (Txt.q_FACTS (by assumption) _), rfl, rfl, ?_⟩
  | refine ⟨_, _, rfl, .inr (Txt.q_SIGNS (by assumption) _), rfl, rfl, ?_⟩
  | refine ⟨_, _, rfl, SqT.of upd_same, rfl, ?_⟩
  | refine ⟨_, _, rfl, SqT.of (by assumption), rfl, ?_⟩
  | refine ⟨_, _, rfl, ?_⟩
  | refine .inl ⟨_, rfl, ?_⟩
  | refine .inr ⟨_, rfl, ?_⟩
  | refine ⟨(by show (0 : Int) < _; decide), ?_⟩
  | refine ⟨.inr ⟨by decide, by decide⟩, ?_⟩
  | refine ⟨.inl ⟨by decide, by decide⟩, ?_⟩
  | refine ⟨⟨by decide, by decide⟩, ?_⟩
  | refine ⟨⟨by decide, by decide, by decide⟩, ?_⟩)
theorem valV_mem {kvs : List (Key × V)} {k : Key} {v : V} (h : valV kvs k = some v) : (k, v) ∈ kvs := by
  unfold valV at h
  rw [Option.map_eq_some_iff] at h
  obtain ⟨p, h1, h2⟩ := h
  have h3 := List.find?_some h1
  have h3 : p.1 = k := of_decide_eq_true h3
  rw [← h3, ← h2]
  exact List.mem_of_find?_eq_some h1
def NzOk (kvs : List (Key × V)) (f : Nm → Int) : Prop := NmOk kvs f ∧ ∀ p ∈ kvs, p.2 ≠ V.int 0
def nzP (p : Key × V) : Bool := !decide (p.2 = V.int 0)
def nzK (kvs : List (Key × V)) : List (Key × V) := kvs.filter nzP
theorem nzK_nd {kvs : List (Key × V)} (h : (kvs.map (·.1)).Nodup) : ((nzK kvs).map (·.1)).Nodup := h.sublist (List.filter_sublist.map _)
theorem NmOk.nz {kvs : List (Key × V)} {f : Nm → Int} (h : NmOk kvs f) : NzOk (nzK kvs) f := by
  refine ⟨⟨nzK_nd h.nd, fun p hp => h.el p (List.mem_filter.mp hp).1, fun n => ?_⟩, fun p hp e => ?_⟩
  · have q := h.gt n
    cases e : valV (nzK kvs) (Sum.inr n.str : Key) with
    | some v =>
      have m := List.mem_filter.mp (valV_mem e)
      rw [val_nodup h.nd _ m.1] at q
      exact q
    | none =>
      cases e2 : valV kvs (Sum.inr n.str : Key) with
      | none =>
        rw [e2] at q
        exact q
      | some v =>
        rw [e2] at q
        by_cases z : v = V.int 0
        · rw [z] at q
          exact q
        · have m : ((Sum.inr n.str : Key), v) ∈ nzK kvs := List.mem_filter.mpr ⟨valV_mem e2, by show (!decide (v = V.int 0)) = true; rw [decide_eq_false z]; rfl⟩
          have := val_nodup (nzK_nd h.nd) _ m
          rw [e] at this
          cases this
  · have := (List.mem_filter.mp hp).2
    unfold nzP at this
    rw [decide_eq_true e] at this
    cases this
theorem NzOk.get {kvs : List (Key × V)} {f : Nm → Int} (h : NzOk kvs f) (n : Nm) : valV kvs (Sum.inr n.str : Key) = if f n = 0 then none else some (.int (f n)) := by
  have q := h.1.gt n
  cases e : valV kvs (Sum.inr n.str : Key) with
  | none =>
    rw [e] at q
    injection q with q
    rw [if_pos q.symm]
  | some v =>
    rw [e] at q
    have q : v = .int (f n) := q
    have m := h.2 _ (valV_mem e)
    rw [if_neg fun z => m (by rw [q, z]), q]
theorem NzOk.eq {ks ls : List (Key × V)} {f : Nm → Int} (h : NzOk ks f) (h' : NzOk ls f) : ks.length = ls.length ∧ ∀ p ∈ ks, valV ls p.1 = some p.2 ∧ flatB p.2 = true := by
  have one : ∀ {ks ls : List (Key × V)}, NzOk ks f → NzOk ls f → ∀ p ∈ ks, valV ls p.1 = some p.2 := fun {ks ls} h h' p hp => by
    obtain ⟨n, z, rfl⟩ := h.1.el p hp
    have q := val_nodup h.1.nd _ hp
    show valV ls (Sum.inr n.str : Key) = _
    rw [h'.get n, ← h.get n]
    exact q
  have two : ∀ {ks ls : List (Key × V)}, NzOk ks f → NzOk ls f → ks.length ≤ ls.length := fun {ks ls} h h' => by
    have q := nodup_sub (l := ks.map (·.1)) (m := ls.map (·.1)) h.1.nd fun x hx => by
      obtain ⟨p, hp, rfl⟩ := List.mem_map.mp hx
      exact valV_in (one h h' p hp)
    rw [List.length_map, List.length_map] at q
    exact q
  refine ⟨Nat.le_antisymm (two h h') (two h' h), fun p hp => ⟨one h h' p hp, ?_⟩⟩
  obtain ⟨n, z, rfl⟩ := h.1.el p hp
  rfl
theorem nz_step {kvs : List (Key × V)} {i : Nat} {p : Key × V} (nd : (kvs.map (·.1)).Nodup) (h : kvs[i]? = some p) :
    nzK (kvs.take (i + 1)) = if nzP p = true then putK (nzK (kvs.take i)) p.1 p.2 else nzK (kvs.take i) := by
  have e : kvs.take (i + 1) = kvs.take i ++ [p] := by
    rw [List.take_add_one, h]
    rfl
  have n1 : ((kvs.take (i + 1)).map (·.1)).Nodup := nd.sublist ((List.take_sublist _ _).map _)
  rw [e]
  unfold nzK
  rw [List.filter_append]
  by_cases c : nzP p = true
  · rw [if_pos c]
    have q : valV ((kvs.take i).filter nzP) p.1 = none := by
      cases z : valV ((kvs.take i).filter nzP) p.1 with
      | none => rfl
      | some v =>
        have m := (List.mem_filter.mp (valV_mem z)).1
        rw [e, List.map_append] at n1
        have := List.nodup_append.mp n1
        exact absurd rfl (this.2.2 _ (List.mem_map_of_mem (f := (·.1)) m) p.1 (by simp))
    rw [putK_new _ q]
    simp [c]
  · rw [if_neg c]
    simp [c]
theorem same_unlock {H H' : Hp} {d : Addr} {od : Obj} {u : HO} (hd : H d = some u) (s : Same (upd H d (.frz od u)) H') : Same H (upd H' d u) := fun b o e => by
  by_cases h : b = d
  · rw [h, upd_same]
    rw [h, hd] at e
    exact e
  · rw [upd_ne h]
    exact s _ _ (by rw [upd_ne h]; exact e)
theorem free_unlock {H : Hp} {d D : Addr} {x : HO} (h : upd H d x D = none) : D ≠ d ∧ H D = none := by
  have n : D ≠ d := fun z => by rw [z, upd_same] at h; cases h
  rw [upd_ne n] at h
  exact ⟨n, h⟩
def sp_others : Sp := fun vs H Q _ => ∃ d kvs f, vs = [.ref d] ∧ H d = some (.dK kvs) ∧ NmOk kvs f ∧ ∀ p kvs' H', Same H H' → H p = none → H' p = some (.dK kvs') → NzOk kvs' f → Q (.ref p) H'
def envOf (f : Fct → Int) (fk fo : Nm → Int) (bot : Int) : Env := ⟨f, fun h n => match h with
  | .lt => 0
  | .kp => fk n
  | .ow => fo n, 0, bot⟩
def sp_Run_init (C : Addr) : Sp := fun vs H Q _ => ∃ r dx fa dk dw f kk fk kw fo, ∃ bot : Int, vs = [.ref r, .ref fa, .ref dk, .ref dw, .int bot] ∧ H r = some (.ins C dx []) ∧ H fa = some (.dK (factK f)) ∧ H dk = some (.dK kk) ∧ NmOk kk fk ∧ H dw = some (.dK kw) ∧ NmOk kw fo ∧
  ∀ nu to dd H', (∀ c o, H c = some o → c ≠ r → H' c = some o) → H nu = none → H to = none → (∀ h, H (dd h) = none) → RunAt C H' r dx fa nu to dd (envOf f fk fo bot) true → Q .non H'
section
variable {P : Program} {w : World} {K : PySem.W.Frag} {mg : Str → Option Value} {base : Heap}
theorem ok_others (T : Txt K mg) : FnOk P w K mg base CX0 1 (a_others K) (fdOf K (a_others K)) ["numbers"] sp_others := by
  refine T.F_others.ok sc_others (fun vs H Q E h => ?_) (fun cdv A outer s H vs Q E hr h => ?_)
  · obtain ⟨d, kvs, f, rfl, _⟩ := h
    rfl
  obtain ⟨d, kvs, f, rfl, hd, hf, k⟩ := h
  refine ⟨_, PSs.nox (pss_one (ps_ret (pe_lock (pe_dc (own := [("name", 1), ("number", 2)]) (g := (gTup K 2 (gCons (gName 1) (gCons (gName 2) gNil)))) rfl sc_others.nd (pi_items (pv 0)) (blkOk_by (own := [("name", 1), ("number", 2)]) (N := ["numbers", "name", "number"]) (sc := defScope s_others) (by decide +kernel)) (fun _ _ _ _ _ => by exact (pg_tup rfl (pgs_cons (pg_name (i := 1) sc_others.nd rfl (Or.inl rfl)) (pgs_cons (pg_name (i := 2) sc_others.nd rfl (Or.inl rfl)) pgs_nil)))) (fun _ _ _ _ _ => (pts_one (pt_cmpR op_ne (pv 2) pe_int (nomark _)))) (fun _ _ _ _ _ => (pv 1)) (fun _ _ _ _ _ => (pv 2)))))), ?_⟩
  refine ⟨d, _, hd, trivial, fun od => ?_⟩
  walk_at "gg"
  refine ⟨d, od, kvs, rfl, upd_same, fun D hD => ?_⟩
  obtain ⟨nD, hD0⟩ := free_unlock hD
  refine dc_it walk_items (fun i H2 => i ≤ kvs.length ∧ Same (upd H d (.frz od (.dK kvs))) H2 ∧ H2 D = some (.dK (nzK (kvs.take i)))) ⟨Nat.zero_le _, same_new hD, upd_same⟩ (fun i H2 _ q => q.2.1 _ _ upd_same) ?_ ?_
  · rintro i x H2 H3 hi ⟨_, s2, hat⟩ ⟨t, y, z, rfl, ht, rfl, ey, ez⟩
    have s3 := s2.trans (same_new (o := .tup [y, z]) ht)
    have hat3 : upd H2 t (.tup [y, z]) D = some (.dK (nzK (kvs.take i))) := (same_new ht) _ _ hat
    obtain ⟨p, hp⟩ : ∃ p, kvs[i]? = some p := ⟨kvs[i], List.getElem?_eq_getElem hi⟩
    have ey : (kvs[i]?.map fun kv => kV kv.1) = some y := ey
    have ez : kvs[i]?.map Prod.snd = some z := ez
    rw [hp] at ey ez
    cases ey
    cases ez
    have hst := nz_step hf.nd hp
    obtain ⟨n, z, rfl⟩ := hf.el p (List.mem_of_getElem? hp)
    walk_at "gg"
    refine if2 (fun c => ?_) (fun c => ?_)
    · have c : nzP (Sum.inr n.str, V.int z) = true := c
      rw [if_pos c] at hst
      walk_at "gg"
      refine ⟨_, Sum.inr n.str, rfl, hat3, szt ?_, hi, ?_, ?_⟩
      · have := hf.len
        have q1 : (nzK (kvs.take i)).length ≤ (kvs.take i).length := List.length_filter_le _ _
        have q2 : (kvs.take i).length ≤ i := List.length_take_le _ _
        omega
      · intro b o e
        rw [upd_ne (fun z => by rw [z, hD] at e; cases e)]
        exact s3 _ _ e
      · rw [upd_same, hst]
    · have c : nzP (Sum.inr n.str, V.int z) = false := c
      rw [c, if_neg Bool.false_ne_true] at hst
      exact ⟨hi, s3, by rw [hst]; exact hat3⟩
  · rintro H2 ⟨_, s2, hat⟩
    rw [List.take_length] at hat
    refine ⟨s2 _ _ upd_same, k D _ _ (same_unlock hd s2) hD0 ?_ hf.nz⟩
    rw [upd_ne nD]
    exact hat
theorem ok_Run_init (T : Txt K mg) : FnOk P w K mg base CX0 1 (a_Run_init K) (fdOf K (a_Run_init K)) ["self", "facts", "keep", "own", "bottom"] (sp_Run_init (He.ga K "Run")) := by
  refine T.F_Run_init.ok sc_Run_init (fun vs H Q E h => ?_) (fun cdv A outer s H vs Q E hr h => ?_)
  · obtain ⟨r, dx, fa, dk, dw, f, kk, fk, kw, fo, bot, rfl, _⟩ := h
    rfl
  obtain ⟨r, dx, fa, dk, dw, f, kk, fk, kw, fo, bot, rfl, h0, h1, h2, h3, h4, h5, k⟩ := h
  refine ⟨_, PSs.nox (pss_cons (ps_fld (pv 0) (pv 1) rfl)
    (pss_cons (ps_fld (pv 0) (pe_disp (pps_cons pe_str pe_dnewK (pps_cons pe_str (pe_callTy call_dictD (by rfl) T.z_dict (by decide +kernel) (pa_cons (pv 2) pa_nil)) (pps_cons pe_str (pe_callTy call_dictD (by rfl) T.z_dict (by decide +kernel) (pa_cons (pv 3) pa_nil)) pps_nil))) (by rfl) (by rfl) (fun z => by cases z) (by decide)) rfl)
    (pss_cons (ps_fld (pv 0) (pe_disp (pps_cons pe_str pe_int (pps_cons pe_str (pv 4) pps_nil)) (by rfl) (by rfl) (fun z => by cases z) (by decide)) rfl)
    (pss_one (ps_fld (pv 0) pe_bl rfl))))), ?_⟩
  walk_at "gg"
  refine ⟨r, _, dx, _, rfl, h0, T.c_Run, T.n_Run_facts, (show 0 < 1000 by decide), ?_⟩
  walk_at "gg"
  intro nu hnu
  obtain ⟨n1, f1⟩ := free_unlock hnu
  intro lt hlt
  obtain ⟨n2, f2⟩ := free_unlock hlt
  obtain ⟨n3, f3⟩ := free_unlock f2
  have nfr : ∀ {c o}, H c = some o → (∀ dx fs, o ≠ .ins (He.ga K "Run") dx fs) → c ≠ r := fun {c o} e hno z => by
    rw [z, h0] at e
    cases e
    exact hno _ _ rfl
  have r1 : fa ≠ r := nfr h1 fun _ _ z => nomatch z
  have r2 : dk ≠ r := nfr h2 fun _ _ z => nomatch z
  have r4 : dw ≠ r := nfr h4 fun _ _ z => nomatch z
  have a1 : fa ≠ nu := ne_of_none h1 f1
  have a2 : dk ≠ nu := ne_of_none h2 f1
  have a3 : dw ≠ nu := ne_of_none h4 f1
  have b1 : fa ≠ lt := ne_of_none h1 f3
  have b2 : dk ≠ lt := ne_of_none h2 f3
  have b3 : dw ≠ lt := ne_of_none h4 f3
  walk_at "gg"
  refine ⟨dk, kk, rfl, .inl (by rw [upd_ne b2, upd_ne a2, upd_ne r2]; exact h2), fun kp hkp => ?_⟩
  obtain ⟨n4, f4⟩ := free_unlock hkp
  obtain ⟨n5, f5⟩ := free_unlock f4
  obtain ⟨n6, f6⟩ := free_unlock f5
  have c1 : fa ≠ kp := ne_of_none h1 f6
  have c3 : dw ≠ kp := ne_of_none h4 f6
  walk_at "gg"
  refine ⟨dw, kw, rfl, .inl (by rw [upd_ne c3, upd_ne b3, upd_ne a3, upd_ne r4]; exact h4), fun ow how => ?_⟩
  obtain ⟨n7, f7⟩ := free_unlock how
  obtain ⟨n8, f8⟩ := free_unlock f7
  obtain ⟨n9, f9⟩ := free_unlock f8
  obtain ⟨n10, f10⟩ := free_unlock f9
  have d1 : fa ≠ ow := ne_of_none h1 f10
  refine ⟨by rw [upd_ne n9.symm, upd_ne n5.symm, upd_ne n2.symm, upd_same], [(Sum.inr "let", .ref lt), (Sum.inr "keep", .ref kp), (Sum.inr "own", .ref ow)], rfl, (show 3 ≤ 15 by decide), ?_⟩
  walk_at "gg"
  refine ⟨r, _, dx, [("facts", .ref fa)], rfl, (by rw [upd_ne n1.symm, upd_ne n10.symm, upd_ne n6.symm, upd_ne n3.symm, upd_ne n1.symm, upd_same] <;> rfl), T.c_Run, T.n_Run_numbers, (show 1 < 1000 by decide), ?_⟩
  walk_at "gg"
  intro to hto
  obtain ⟨m1, g1⟩ := free_unlock hto
  obtain ⟨m2, g2⟩ := free_unlock g1
  obtain ⟨m3, g3⟩ := free_unlock g2
  obtain ⟨m4, g4⟩ := free_unlock g3
  obtain ⟨m5, g5⟩ := free_unlock g4
  obtain ⟨_, g6⟩ := free_unlock g5
  obtain ⟨_, g7⟩ := free_unlock g6
  have e1 : fa ≠ to := ne_of_none h1 g7
  walk_at "gg"
  refine ⟨upd_same, [(Sum.inr "weight", .int 0), (Sum.inr "cap", .int bot)], rfl, (show 2 ≤ 15 by decide), ?_⟩
  walk_at "gg"
  refine ⟨r, _, dx, [("facts", .ref fa), ("numbers", .ref nu)], rfl, (by rw [upd_ne m1.symm, upd_ne m1.symm, upd_same] <;> rfl), T.c_Run, T.n_Run_told, (show 2 < 1000 by decide), ?_⟩
  walk_at "gg"
  refine ⟨r, _, dx, _, rfl, upd_same, T.c_Run, T.n_Run_is_right, (show 3 < 1000 by decide), ?_⟩
  walk_at "gg"
  refine k nu to (fun h => match h with
    | .lt => lt
    | .kp => kp
    | .ow => ow) _ (fun c o e n => ?_) f1 g7 (fun h => ?_) { ob := upd_same, hf := ?_, hn := ?_, ht := ?_, dk := fun h => ?_, inj := fun h h' => ?_, nf := fun h => ?_, nn := fun h => ?_, nt := fun h => ?_, ft := e1, tn := m2 }
  · rw [upd_ne n, upd_ne n, upd_ne (ne_of_none e g7), upd_ne (ne_of_none e g7), upd_ne n, upd_ne (ne_of_none e f1), upd_ne (ne_of_none e f10), upd_ne (ne_of_none e f6), upd_ne (ne_of_none e f3), upd_ne (ne_of_none e f1), upd_ne n]
    exact e
  · cases h
    · exact f3
    · exact f6
    · exact f10
  · rw [upd_ne r1, upd_ne r1, upd_ne e1, upd_ne e1, upd_ne r1, upd_ne a1, upd_ne d1, upd_ne c1, upd_ne b1, upd_ne a1, upd_ne r1]
    exact h1
  · rw [upd_ne n1, upd_ne n1, upd_ne m2.symm, upd_ne m2.symm, upd_ne n1, upd_same]
    rfl
  · rw [upd_ne m1, upd_ne m1, upd_same]
    rfl
  · cases h
    · refine ⟨[], ?_, NmOk.nil⟩
      show upd _ _ _ lt = _
      rw [upd_ne n3, upd_ne n3, upd_ne m5.symm, upd_ne m5.symm, upd_ne n3, upd_ne n2, upd_ne n8.symm, upd_ne n4.symm, upd_same]
    · refine ⟨kk, ?_, h3⟩
      show upd _ _ _ kp = _
      rw [upd_ne n6, upd_ne n6, upd_ne m4.symm, upd_ne m4.symm, upd_ne n6, upd_ne n5, upd_ne n7.symm, upd_same]
    · refine ⟨kw, ?_, h5⟩
      show upd _ _ _ ow = _
      rw [upd_ne n10, upd_ne n10, upd_ne m3.symm, upd_ne m3.symm, upd_ne n10, upd_ne n9, upd_same]
  · cases h <;> cases h' <;> intro z <;> first | rfl | (exfalso; first | exact n4 z | exact n4 z.symm | exact n7 z | exact n7 z.symm | exact n8 z | exact n8 z.symm)
  · cases h
    · exact b1.symm
    · exact c1.symm
    · exact d1.symm
  · cases h
    · exact n2
    · exact n5
    · exact n9
  · cases h
    · exact m5.symm
    · exact m4.symm
    · exact m3.symm
end
end K6
set_option maxHeartbeats 4000000
/-! The parts given one by one. -/
namespace K6
open PySem PySem.Spec PyProof.Rows L2 RZ
local macro_rules | `(tactic| walk_at "gg") => `(tactic| repeat first
  | refine ⟨_, rfl, ?_⟩ | refine ⟨_, _, rfl, rfl, ?_⟩ | refine ⟨rfl, ?_⟩ | refine iteT ?_ | refine iteF ?_
  | refine ⟨_, _, _, _, rfl, rfl, SqT.of (by assumption), rfl, ?_⟩
  | refine ⟨_, _, _, _, rfl, rfl, SqT.of (by assumption), at0, ?_⟩
  | refine ⟨_, _, _, _, rfl, rfl, SqL.of (by assumption), rfl, ?_⟩
  | refine ⟨_, _, rfl, .inr (SqT.of (by assumption)), ?_⟩
  | refine ⟨_, _, rfl, .inl (SqL.of (by assumption)), ?_⟩
  | refine ⟨_, _, rfl, .inr (SqT.of upd_same), rfl, rfl, ?_⟩
  | refine ⟨_, _, rfl, .inr (Txt.q_HOLDERS (by assumption) _), rfl, rfl, ?_⟩
  | refine ⟨_, _, rfl, .inr (Txt.q_GIVERS (by assumption) _), rfl, rfl, ?_⟩
  | refine ⟨_, _, rfl, .inr (Txt.q_FACTS (by assumption) _), rfl, rfl, ?_⟩
  | refine ⟨_, _, rfl, .inr (Txt.q_SIGNS (by assumption) _), rfl, rfl, ?_⟩
  | refine ⟨_, _, rfl, SqT.of upd_same, rfl, ?_⟩
  | refine ⟨_, _, rfl, SqT.of (by assumption), rfl, ?_⟩
  | refine ⟨_, _, rfl, ?_⟩
  | refine .inl ⟨_, rfl, ?_⟩
  | refine .inr ⟨_, rfl, ?_⟩
  | refine ⟨(by show (0 : Int) < _; decide), ?_⟩
  | refine ⟨.inr ⟨by decide, by decide⟩, ?_⟩
  | refine ⟨.inl ⟨by decide, by decide⟩, ?_⟩
  | refine ⟨⟨by decide, by decide⟩, ?_⟩
  | refine ⟨⟨by decide, by decide, by decide⟩, ?_⟩)
theorem ix_listK {X : Cx} {K : PySem.W.Frag} (e : X.K = K) : IxR X (rIxL K) := by
  subst e
  exact ix_list
theorem ix_tupK {X : Cx} {K : PySem.W.Frag} (e : X.K = K) : IxR X (rIxT K) := by
  subst e
  exact ix_tup
def gi (l : List Int) (i : Nat) : Int := l.getD i 0
theorem at_gi {l : List Int} {i : Nat} (h : i < l.length) : atI (l.map V.int) (i : Int) = some (.int (gi l i)) := atI_cell h
theorem gi_set {l : List Int} {i j : Nat} {z : Int} (h : i < l.length) : gi (l.set i z) j = if j = i then z else gi l j := by
  unfold gi
  rw [List.getD_eq_getElem?_getD, List.getD_eq_getElem?_getD, List.getElem?_set]
  by_cases e : i = j
  · subst e
    rw [if_pos rfl, if_pos rfl, if_pos h]
    rfl
  · rw [if_neg e, if_neg fun z => e z.symm]
theorem gi_rep {n i : Nat} : gi (List.replicate n 0) i = 0 := by
  unfold gi
  rw [List.getD_eq_getElem?_getD, List.getElem?_replicate]
  split <;> rfl
def bestS (w c p : List Int) (f : Option Nat) (x : Nat) : Option Nat :=
  if 0 < gi w x ∧ gi p x < gi c x then (match f with
    | none => some x
    | some y => if (gi p x + 1) * gi w y < (gi p y + 1) * gi w x then some x else some y) else f
def best (w c p : List Int) (ns : List Nat) : Option Nat := ns.foldl (bestS w c p) none
theorem foldl_take {α β : Type} {g : α → β → α} {a : α} {l : List β} {i : Nat} {x : β} (h : l[i]? = some x) : (l.take (i + 1)).foldl g a = g ((l.take i).foldl g a) x := by
  rw [List.take_add_one, h, List.foldl_append]
  rfl
theorem best_in {w c p : List Int} {ns : List Nat} : ∀ {i : Nat} {y : Nat}, best w c p (ns.take i) = some y → y ∈ ns
  | 0, y, h => by cases h
  | i + 1, y, h => by
    cases e : ns[i]? with
    | none =>
      have hl := List.getElem?_eq_none_iff.mp e
      rw [List.take_of_length_le (by omega)] at h
      rw [← List.take_of_length_le hl] at h
      exact best_in h
    | some x =>
      unfold best at h
      rw [foldl_take e] at h
      have hx := List.mem_of_getElem? e
      unfold bestS at h
      split at h
      · split at h
        · cases h
          exact hx
        · rename_i z q
          split at h
          · cases h
            exact hx
          · cases h
            exact best_in (i := i) q
      · exact best_in (i := i) h
/-- the first of those who have the fewest parts -/
def IsFew (p : List Int) (ns : List Nat) (x : Nat) : Prop := x ∈ ns ∧ (∀ y ∈ ns, gi p x ≤ gi p y) ∧ ∀ y ∈ ns, gi p y = gi p x → x ≤ y
open Classical in
noncomputable def few (p : List Int) (ns : List Nat) : Nat := if h : ∃ x, IsFew p ns x then Classical.choose h else 0
theorem few_eq {p : List Int} {ns : List Nat} {x : Nat} (h : IsFew p ns x) : few p ns = x := by
  have e : ∃ x, IsFew p ns x := ⟨x, h⟩
  have q : IsFew p ns (few p ns) := by
    unfold few
    rw [dif_pos e]
    exact Classical.choose_spec e
  have a := q.2.1 x h.1
  have b := h.2.1 _ q.1
  have c : gi p x = gi p (few p ns) := by omega
  have d := q.2.2 x h.1 c
  have f := h.2.2 _ q.1 c.symm
  omega
noncomputable def next (w c p : List Int) (ns : List Nat) : Nat := match best w c p ns with
  | some y => y
  | none => few p ns
noncomputable def turn (w c : List Int) (ns : List Nat) (p : List Int) : List Int := p.set (next w c p ns) (gi p (next w c p ns) + 1)
noncomputable def tps (w c : List Int) (ns : List Nat) (n : Nat) : Nat → List Int
  | 0 => List.replicate n 0
  | k + 1 => turn w c ns (tps w c ns n k)
theorem turn_len {w c : List Int} {ns : List Nat} {p : List Int} : (turn w c ns p).length = p.length := List.length_set ..
theorem tps_len {w c : List Int} {ns : List Nat} {n : Nat} : ∀ k, (tps w c ns n k).length = n
  | 0 => List.length_replicate
  | k + 1 => by
    show (turn w c ns (tps w c ns n k)).length = n
    rw [turn_len, tps_len k]
def PartsIn (p : List Int) (k : Nat) : Prop := ∀ i, 0 ≤ gi p i ∧ gi p i ≤ k
theorem turn_in {w c : List Int} {ns : List Nat} {p : List Int} {k : Nat} (h : PartsIn p k) (hn : next w c p ns < p.length) : PartsIn (turn w c ns p) (k + 1) := fun i => by
  unfold turn
  rw [gi_set hn]
  have h1 := h i
  have h2 := h (next w c p ns)
  split <;> constructor <;> omega
theorem PartsIn.rep {n : Nat} : PartsIn (List.replicate n 0) 0 := fun i => by rw [gi_rep]; exact ⟨Int.le_refl _, Int.le_refl _⟩
def optV : Option Nat → V
  | none => .non
  | some y => .int (y : Int)
def sp_next_taker : Sp := fun vs H Q _ => ∃ h a b c ns m ws cs ps k, vs = [.ref h, .ref a, .ref b, .ref c] ∧ LotAt H h ns m ∧ ns ≠ [] ∧ ns.length ≤ 100 ∧ H a = some (.lst (ws.map V.int)) ∧ H b = some (.lst (cs.map V.int)) ∧ H c = some (.lst (ps.map V.int)) ∧
  ws.length = m ∧ cs.length = m ∧ ps.length = m ∧ PartsIn ps k ∧ k ≤ 1000 ∧ ∀ H', Same H H' → next ws cs ps ns < m → Q (.int (next ws cs ps ns : Int)) H'
theorem few_first {p : List Int} {ns : List Nat} {least : Int} {x : Nat} {r : List Nat} (asc : ∀ (i a b : Nat), ns[i]? = some a → ns[i + 1]? = some b → a < b) (h1 : ∀ y ∈ ns, least ≤ gi p y) (h : ns.filter (fun x => decide (gi p x = least)) = x :: r) : IsFew p ns x := by
  have hx : x ∈ ns.filter (fun x => decide (gi p x = least)) := by rw [h]; exact List.mem_cons_self
  have hx1 := (List.mem_filter.mp hx).1
  have hx2 : gi p x = least := of_decide_eq_true (List.mem_filter.mp hx).2
  have srt : ns.Pairwise (· < ·) := by
    have all : ∀ (ns : List Nat), (∀ (i a b : Nat), ns[i]? = some a → ns[i + 1]? = some b → a < b) → ns.Pairwise (· < ·) := by
      intro ns
      induction ns with
      | nil => exact fun _ => List.Pairwise.nil
      | cons a r ih =>
        intro q
        have t := ih fun i u v hu hv => q (i + 1) u v hu hv
        refine List.pairwise_cons.mpr ⟨fun y hy => ?_, t⟩
        cases r with
        | nil => cases hy
        | cons b s =>
          have ab : a < b := q 0 a b rfl rfl
          rcases List.mem_cons.mp hy with z | z
          · rw [z]; exact ab
          · exact Nat.lt_trans ab ((List.pairwise_cons.mp t).1 y z)
    exact all ns asc
  have s2 : (x :: r).Pairwise (· < ·) := by
    rw [← h]
    exact srt.sublist List.filter_sublist
  refine ⟨hx1, fun y hy => by rw [hx2]; exact h1 y hy, fun y hy e => ?_⟩
  have m : y ∈ ns.filter (fun x => decide (gi p x = least)) := List.mem_filter.mpr ⟨hy, decide_eq_true (by rw [e, hx2])⟩
  rw [h] at m
  rcases List.mem_cons.mp m with z | z
  · rw [z]; exact Nat.le_refl _
  · exact Nat.le_of_lt ((List.pairwise_cons.mp s2).1 y z)
section
variable {P : Program} {w : World} {K : PySem.W.Frag} {mg : Str → Option Value} {base : Heap}
theorem ok_next_taker (T : Txt K mg) : FnOk P w K mg base CX0 1 (a_next_taker K) (fdOf K (a_next_taker K)) ["here", "weights", "caps", "parts"] sp_next_taker := by
  refine T.F_next_taker.ok sc_next_taker (fun vs H Q E h => ?_) (fun cdv A outer s H vs Q E hr h => ?_)
  · obtain ⟨h, a, b, c, ns, m, ws, cs, ps, k0, rfl, _⟩ := h
    rfl
  obtain ⟨h, a, b, c, ns, m, ws, cs, ps, k0, rfl, hL, hne, hl, ha, hb, hc, lw, lc, lp, hP, hk, k⟩ := h
  refine ⟨_, PSs.nox (pss_cons (ps_set (i := 4) sc_next_taker.nd rfl (Or.inl rfl) pe_non)
    (pss_cons (ps_for PassesOwn.never rfl (pi_tup (pv 0)) (pg_name (i := 5) sc_next_taker.nd rfl (Or.inl rfl))
    (pss_one (ps_if (PW.pt (pw_and (pt_cmpR op_gt (pe_ix ix_list (pv 1) (pv 5) (fun _ _ => rfl)) pe_int (nomark _)) (pw_and1 (pt_cmpR op_lt (pe_ix ix_list (pv 3) (pv 5) (fun _ _ => rfl)) (pe_ix ix_list (pv 2) (pv 5) (fun _ _ => rfl)) (nomark _)))))
    (pss_one (ps_if (PW.pt (pw_or (pt_cmpR op_isN (pv 4) pe_non (nomark _)) (pw_or1 (pt_cmpR op_lt (pe_op op_mul (pe_op op_add (pe_ix ix_list (pv 3) (pv 5) (fun _ _ => rfl)) pe_int) (pe_ix ix_list (pv 1) (pv 4) (fun _ _ => rfl))) (pe_op op_mul (pe_op op_add (pe_ix ix_list (pv 3) (pv 4) (fun _ _ => rfl)) pe_int) (pe_ix ix_list (pv 1) (pv 5) (fun _ _ => rfl))) (nomark _)))))
    (pss_one (ps_set (i := 4) sc_next_taker.nd rfl (Or.inl rfl) (pv 5)))
    pss_nil))
    pss_nil)))
    (pss_cons (ps_if (pt_cmpR op_isN (pv 4) pe_non (nomark _))
    (pss_cons (ps_set (i := 6) sc_next_taker.nd rfl (Or.inr rfl) (pe_callB (cr_min rfl) (by rfl) T.z_min (by decide +kernel) (pa_cons (pe_lc (own := [("person", 5)]) rfl sc_next_taker.nd (pi_tup (pv 0)) (blkOk_by (own := [("person", 5)]) (N := ["here", "weights", "caps", "parts", "found", "person", "least"]) (sc := defScope s_next_taker) (by decide +kernel)) (fun _ _ _ _ _ => (pg_name (i := 5) sc_next_taker.nd rfl (Or.inl rfl))) (fun _ _ _ _ _ => pts_nil) (fun _ _ _ _ _ => (pe_ix (ix_listK (K := K) rfl) (pv 3) (pv 5) (fun _ _ => rfl)))) pa_nil)))
    (pss_one (ps_set (i := 4) sc_next_taker.nd rfl (Or.inl rfl) (pe_ix ix_list (pe_lc (own := [("person", 5)]) rfl sc_next_taker.nd (pi_tup (pv 0)) (blkOk_by (own := [("person", 5)]) (N := ["here", "weights", "caps", "parts", "found", "person", "least"]) (sc := defScope s_next_taker) (by decide +kernel)) (fun _ _ _ _ _ => (pg_name (i := 5) sc_next_taker.nd rfl (Or.inl rfl))) (fun _ _ _ _ _ => (pts_one (pt_cmpR op_eq (pe_ix (ix_listK (K := K) rfl) (pv 3) (pv 5) (fun _ _ => rfl)) (pv 6) (nomark _)))) (fun _ _ _ _ _ => (pv 5))) pe_int (fun _ _ => rfl)))))
    pss_nil)
    (pss_one (ps_ret (pv 4)))))), ?_⟩
  have hp := hL.1
  walk_at "gg"
  refine ⟨⟨_, SqT.of hp⟩, for_tup (xs := ns.map nV) (fun i σ H2 => ∃ a5, σ = [some (.ref h), some (.ref a), some (.ref b), some (.ref c), some (optV (best ws cs ps (ns.take i))), a5, none] ∧ H2 = H) ⟨none, rfl, rfl⟩ (fun i σ H2 _ ⟨_, _, e2⟩ => by rw [e2]; exact SqT.of hp) ?_ ?_⟩
  · rintro i x σ H2 hx ⟨a5, rfl, rfl⟩
    obtain ⟨z, hz, rfl⟩ := get_nat hx
    have hzm := hL.2.1 z (List.mem_of_getElem? hz)
    have hst : best ws cs ps (ns.take (i + 1)) = bestS ws cs ps (best ws cs ps (ns.take i)) z := foldl_take hz
    have hin : ∀ y, best ws cs ps (ns.take i) = some y → y < m := fun y e => hL.2.1 y (best_in e)
    generalize hf : best ws cs ps (ns.take i) = f at hst hin
    have gw := at_gi (l := ws) (i := z) (by omega)
    have gp := at_gi (l := ps) (i := z) (by omega)
    have gc := at_gi (l := cs) (i := z) (by omega)
    walk_at "gg"
    refine ⟨_, _, _, _, rfl, rfl, SqL.of ha, gw, ?_⟩
    walk_at "gg"
    refine if2 (fun c1 => ?_) (fun c1 => ?_)
    · have c1 : (0 : Int) < gi ws z := of_decide_eq_true c1
      walk_at "gg"
      refine ⟨_, _, _, _, rfl, rfl, SqL.of hc, gp, ?_⟩
      walk_at "gg"
      refine ⟨_, _, _, _, rfl, rfl, SqL.of hb, gc, ?_⟩
      walk_at "gg"
      refine if2 (fun c2 => ?_) (fun c2 => ?_)
      · have c2 : gi ps z < gi cs z := of_decide_eq_true c2
        cases f with
        | none =>
          walk_at "gg"
          have e1 : best ws cs ps (ns.take (i + 1)) = some z := hst.trans (by unfold bestS; rw [if_pos ⟨c1, c2⟩])
          exact ⟨some (.int (z : Int)), by rw [e1]; rfl, rfl⟩
        | some y =>
          have hy := hin y rfl
          have hPz := hP z
          have hPy := hP y
          have gwy := at_gi (l := ws) (i := y) (by omega)
          have gpy := at_gi (l := ps) (i := y) (by omega)
          have hb2 : bestS ws cs ps (some y) z = if (gi ps z + 1) * gi ws y < (gi ps y + 1) * gi ws z then some z else some y := by
            unfold bestS
            rw [if_pos ⟨c1, c2⟩]
          walk_at "gg"
          refine ⟨_, _, _, _, rfl, rfl, SqL.of hc, gp, ?_⟩
          walk_at "gg"
          refine ⟨_, _, _, _, rfl, rfl, SqL.of ha, gwy, ?_⟩
          walk_at "gg"
          refine ⟨cmul_within ⟨by show -1000000000000000000 ≤ gi ps z + 1; omega, by show gi ps z + 1 ≤ 1000000000000000000; omega⟩, ?_⟩
          walk_at "gg"
          refine ⟨_, _, _, _, rfl, rfl, SqL.of hc, gpy, ?_⟩
          walk_at "gg"
          refine ⟨_, _, _, _, rfl, rfl, SqL.of ha, gw, ?_⟩
          walk_at "gg"
          refine ⟨cmul_within ⟨by show -1000000000000000000 ≤ gi ps y + 1; omega, by show gi ps y + 1 ≤ 1000000000000000000; omega⟩, ?_⟩
          walk_at "gg"
          refine if2 (fun c3 => ?_) (fun c3 => ?_)
          · have c3 : (gi ps z + 1) * gi ws y < (gi ps y + 1) * gi ws z := of_decide_eq_true c3
            rw [if_pos c3] at hb2
            walk_at "gg"
            exact ⟨some (.int (z : Int)), by rw [hst, hb2]; rfl, rfl⟩
          · have c3 : ¬ (gi ps z + 1) * gi ws y < (gi ps y + 1) * gi ws z := of_decide_eq_false c3
            rw [if_neg c3] at hb2
            exact ⟨some (.int (z : Int)), by rw [hst, hb2]; rfl, rfl⟩
      · have c2 : ¬ gi ps z < gi cs z := of_decide_eq_false c2
        exact ⟨some (.int (z : Int)), by rw [hst, show bestS ws cs ps f z = f from if_neg fun q => c2 q.2]; rfl, rfl⟩
    · have c1 : ¬ (0 : Int) < gi ws z := of_decide_eq_false c1
      exact ⟨some (.int (z : Int)), by rw [hst, show bestS ws cs ps f z = f from if_neg fun q => c1 q.1]; rfl, rfl⟩
  · rintro σ H2 ⟨a5, rfl, rfl⟩
    rw [List.length_map, List.take_length]
    cases hf : best ws cs ps ns with
    | some y =>
      have hy : next ws cs ps ns = y := by unfold next; rw [hf]
      walk_at "gg"
      rw [hy] at k
      refine k _ (Same.refl _) (hL.2.1 y (best_in (i := ns.length) (by rw [List.take_length]; exact hf)))
    | none =>
      have hy : next ws cs ps ns = few ps ns := by unfold next; rw [hf]
      rw [hy] at k
      walk_at "gg"
      refine ⟨⟨_, SqT.of hp⟩, fun D hD => lc_tup (xs := ns.map nV) (Lc _ D (getF (fun x : Nat => V.int (gi ps x)) ns)) (Lc.zero hD) (fun i H1 _ q => SqT.of (q.sm _ _ hp)) ?_ ?_⟩
      · intro i x H1 hx q
        obtain ⟨z, hz, rfl⟩ := get_nat hx
        have hzm := hL.2.1 z (List.mem_of_getElem? hz)
        have hi := (List.getElem?_eq_some_iff.mp hz).1
        walk_at "gg"
        refine ⟨_, _, _, _, rfl, rfl, SqL.of (q.sm _ _ hc), at_gi (by omega), ?_⟩
        walk_at "gg"
        exact q.step (Same.refl _) (getF_at (g := fun x : Nat => V.int (gi ps x)) hz).symm (by omega)
      · intro H1 q
        have hat : H1 D = some (.lst ((ns.map (gi ps)).map V.int)) := by
          rw [q.at_, List.length_map, getF_map, List.map_map]
          rfl
        have sm := q.sm
        clear q
        walk_at "gg"
        refine ⟨D, ns.map (gi ps), rfl, SqL.of hat, by rw [List.length_map]; exact List.length_pos_iff.mpr hne, fun least m1 m2 => ?_⟩
        walk_at "gg"
        refine ⟨⟨_, SqT.of (sm _ _ hp)⟩, fun D2 hD2 => lc_tup (xs := ns.map nV) (fun i H3 => Same H1 H3 ∧ i ≤ ns.length ∧ H3 D2 = some (.lst (((ns.take i).filter fun x => decide (gi ps x = least)).map nV))) ⟨same_new hD2, Nat.zero_le _, upd_same⟩ (fun i H3 _ q => SqT.of (q.1 _ _ (sm _ _ hp))) ?_ ?_⟩
        · rintro i x H3 hx ⟨s3, _, hat3⟩
          obtain ⟨z, hz, rfl⟩ := get_nat hx
          have hzm := hL.2.1 z (List.mem_of_getElem? hz)
          have hi := (List.getElem?_eq_some_iff.mp hz).1
          have tk : ns.take (i + 1) = ns.take i ++ [z] := by
            rw [List.take_add_one, hz]
            rfl
          walk_at "gg"
          refine ⟨_, _, _, _, rfl, rfl, SqL.of (s3 _ _ (sm _ _ hc)), at_gi (l := ps) (i := z) (by omega), ?_⟩
          walk_at "gg"
          refine if2 (fun c => ?_) (fun c => ?_)
          · rw [dec_int] at c
            walk_at "gg"
            refine ⟨_, hat3, szt ?_, ?_, hi, ?_⟩
            · have q1 := List.length_filter_le (fun x => decide (gi ps x = least)) (ns.take i)
              have q2 := List.length_take_le i ns
              rw [List.length_map]
              omega
            · intro b o e
              rw [upd_ne (ne_of_none e hD2)]
              exact s3 _ _ e
            · rw [upd_same, tk, List.filter_append, List.filter_cons, if_pos c, List.map_append]
              rfl
          · rw [dec_int] at c
            refine ⟨s3, hi, ?_⟩
            rw [hat3, tk, List.filter_append, List.filter_cons, if_neg (by rw [c]; exact Bool.false_ne_true), List.filter_nil, List.append_nil]
        · rintro H3 ⟨s3, _, hat3⟩
          rw [List.length_map, List.take_length] at hat3
          obtain ⟨x, hx, ex⟩ := List.mem_map.mp m1
          have hall : ∀ y ∈ ns, least ≤ gi ps y := fun y hy => m2 _ (List.mem_map_of_mem hy)
          cases hfl : ns.filter (fun x => decide (gi ps x = least)) with
          | nil =>
            have m : x ∈ ns.filter (fun x => decide (gi ps x = least)) := List.mem_filter.mpr ⟨hx, decide_eq_true ex⟩
            rw [hfl] at m
            cases m
          | cons x2 r =>
            have hfw := few_first hL.2.2 hall hfl
            rw [hfl] at hat3
            walk_at "gg"
            refine ⟨_, _, _, _, rfl, rfl, SqL.of hat3, at0, ?_⟩
            walk_at "gg"
            rw [few_eq hfw] at k
            exact k _ (sm.trans s3) (hL.2.1 _ hfw.1)
end
end K6
set_option maxHeartbeats 4000000
/-! All parts given. -/
namespace K6
open PySem PySem.Spec PyProof.Rows L2 RZ
local macro_rules | `(tactic| walk_at "gg") => `(tactic| repeat first
  | refine ⟨_, rfl, ?_⟩ | refine ⟨_, _, rfl, rfl, ?_⟩ | refine ⟨rfl, ?_⟩ | refine iteT ?_ | refine iteF ?_
  | refine ⟨_, _, _, _, rfl, rfl, SqT.of (by assumption), rfl, ?_⟩
  | refine ⟨_, _, _, _, rfl, rfl, SqT.of (by assumption), at0, ?_⟩
  | refine ⟨_, _, _, _, rfl, rfl, SqL.of (by assumption), rfl, ?_⟩
  | refine ⟨_, _, rfl, .inr (SqT.of (by assumption)), ?_⟩
  | refine ⟨_, _, rfl, .inl (SqL.of (by assumption)), ?_⟩
  | refine ⟨_, _, rfl, .inr (SqT.of upd_same), rfl, rfl, ?_⟩
  | refine ⟨_, _, rfl, .inr (Txt.q_HOLDERS (by assumption) _), rfl, rfl, ?_⟩
  | refine ⟨_, _, rfl, .inr (Txt.q_GIVERS (by assumption) _), rfl, rfl, ?_⟩
  | refine ⟨_, _, rfl, .inr (Txt.q_FACTS (by assumption) _), rfl, rfl, ?_⟩
  | refine ⟨_, _, rfl, .inr (Txt.q_SIGNS (by assumption) _), rfl, rfl, ?_⟩
  | refine ⟨_, _, rfl, SqT.of upd_same, rfl, ?_⟩
  | refine ⟨_, _, rfl, SqT.of (by assumption), rfl, ?_⟩
  | refine ⟨_, _, rfl, ?_⟩
  | refine .inl ⟨_, rfl, ?_⟩
  | refine .inr ⟨_, rfl, ?_⟩
  | refine ⟨(by show (0 : Int) < _; decide), ?_⟩
  | refine ⟨.inr ⟨by decide, by decide⟩, ?_⟩
  | refine ⟨.inl ⟨by decide, by decide⟩, ?_⟩
  | refine ⟨⟨by decide, by decide⟩, ?_⟩
  | refine ⟨⟨by decide, by decide, by decide⟩, ?_⟩)
theorem ix_nat {n i : Nat} (h : i < n) : ixN n (i : Int) = some i := by
  unfold ixN
  rw [if_pos (by omega), if_pos (by omega)]
  rfl
theorem get_gi {l : List Int} {i : Nat} (h : i < l.length) : (l.map V.int)[i]? = some (.int (gi l i)) := by
  unfold gi
  rw [List.getElem?_map, List.getD_eq_getElem?_getD, List.getElem?_eq_getElem h]
  rfl
theorem rep_flat : ∀ n : Nat, (List.replicate n [V.int 0]).flatten = (List.replicate n (0 : Int)).map V.int
  | 0 => rfl
  | n + 1 => by
    rw [List.replicate_succ, List.replicate_succ, List.flatten_cons, rep_flat n]
    rfl
theorem same_put {H H' : Hp} {p : Addr} {o : HO} (s : Same H H') (h : H p = none) : Same H (upd H' p o) := fun b u e => by
  rw [upd_ne (ne_of_none e h)]
  exact s b u e
def sp_parted : Sp := fun vs H Q _ => ∃ n bot : Nat, ∃ h a b ns ws cs, vs = [.int (n : Int), .int (bot : Int), .ref h, .ref a, .ref b] ∧ n ≤ 100 ∧ bot ≤ 360 ∧ LotAt H h ns n ∧ ns ≠ [] ∧ ns.length ≤ 100 ∧ H a = some (.lst (ws.map V.int)) ∧ H b = some (.lst (cs.map V.int)) ∧
  ws.length = n ∧ cs.length = n ∧ ∀ p H', Same H H' → H' p = some (.tup ((tps ws cs ns n bot).map V.int)) → Q (.ref p) H'
section
variable {P : Program} {w : World} {K : PySem.W.Frag} {mg : Str → Option Value} {base : Heap}
theorem ok_parted (T : Txt K mg) : FnOk P w K mg base CX0 2 (a_parted K) (fdOf K (a_parted K)) ["n", "bottom", "here", "weights", "caps"] sp_parted := by
  have G_next_taker := ok_next_taker (P := P) (w := w) (base := base) T
  refine T.F_parted.ok sc_parted (fun vs H Q E h => ?_) (fun cdv A outer s H vs Q E hr h => ?_)
  · obtain ⟨n, bot, h, a, b, ns, ws, cs, rfl, _⟩ := h
    rfl
  obtain ⟨n, bot, h, a, b, ns, ws, cs, rfl, hn, hbot, hL, hne, hl, ha, hb, lw, lc, k⟩ := h
  refine ⟨_, PSs.nox (pss_cons (ps_set (i := 5) sc_parted.nd rfl (Or.inl rfl) (pe_op op_rep (pe_lst (pa_cons pe_int pa_nil)) (pv 0)))
    (pss_cons (ps_for PassesOwn.never rfl (pi_range1 (by rfl) T.z_range (pa_cons (pv 1) pa_nil)) (pg_name (i := 6) sc_parted.nd rfl (Or.inl rfl))
    (pss_one (ps_augS (pv 5) (pe_call G_next_taker (hr.mono (by decide)) rfl T.g_next_taker T.F_next_taker.kp T.b_next_taker .nil pass0 (pa_cons (pv 2) (pa_cons (pv 3) (pa_cons (pv 4) (pa_cons (pv 5) pa_nil))))) get_list pe_int ip_add set_list)))
    (pss_one (ps_ret (pe_callTy call_tuple_of (by rfl) T.z_tuple (by decide +kernel) (pa_cons (pv 5) pa_nil)))))), ?_⟩
  have hp := hL.1
  walk_at "gg"
  refine ⟨szr, fun l hl0 => ?_⟩
  walk_at "gg"
  refine ⟨l, (n : Int), _, rfl, rfl, upd_same, by omega, by omega, by rw [Int.toNat_natCast]; exact szl (by simp; omega), fun D hD => ?_⟩
  rw [Int.toNat_natCast, rep_flat]
  obtain ⟨nD, fD⟩ := free_unlock hD
  walk_at "gg"
  refine ⟨by omega, by omega, for_range (lo := 0) (n := ((bot : Int)).toNat) (fun i σ H2 => ∃ a6, i ≤ bot ∧ σ = [some (.int (n : Int)), some (.int (bot : Int)), some (.ref h), some (.ref a), some (.ref b), some (.ref D), a6] ∧ Same H H2 ∧ H2 D = some (.lst ((tps ws cs ns n i).map V.int)) ∧ PartsIn (tps ws cs ns n i) i) ⟨none, Nat.zero_le _, rfl, (same_new hl0).trans (same_new hD), upd_same, PartsIn.rep⟩ ?_ ?_⟩
  · rintro i σ H2 hi ⟨a6, _, rfl, s2, hat, hP⟩
    have tl := tps_len (w := ws) (c := cs) (ns := ns) (n := n) i
    walk_at "gg"
    refine ⟨h, a, b, D, ns, n, ws, cs, tps ws cs ns n i, i, rfl, ⟨s2 _ _ hp, hL.2⟩, hne, hl, s2 _ _ ha, s2 _ _ hb, hat, lw, lc, tl, hP, by omega, fun H3 s3 hnx => ?_⟩
    have g := get_gi (l := tps ws cs ns n i) (i := next ws cs (tps ws cs ns n i) ns) (by omega)
    refine ⟨D, _, _, next ws cs (tps ws cs ns n i) ns, rfl, rfl, SqL.of (s3 _ _ hat), g, ?_⟩
    walk_at "gg"
    refine ⟨D, _, _, next ws cs (tps ws cs ns n i) ns, rfl, rfl, s3 _ _ hat, ix_nat (by rw [List.length_map]; omega), ?_⟩
    refine ⟨some (.int (0 + (i : Int))), by omega, rfl, same_put (s2.trans s3) fD, ?_, turn_in hP (by omega)⟩
    rw [upd_same]
    show some (HO.lst (((tps ws cs ns n i).map V.int).set (next ws cs (tps ws cs ns n i) ns) (.int (gi (tps ws cs ns n i) (next ws cs (tps ws cs ns n i) ns) + 1)))) = some (HO.lst ((turn ws cs ns (tps ws cs ns n i)).map V.int))
    unfold turn
    rw [List.map_set]
  · rintro σ H2 ⟨a6, _, rfl, s2, hat, hP⟩
    rw [Int.toNat_natCast] at hat
    walk_at "gg"
    refine ⟨D, _, rfl, .inl ⟨SqL.of hat, fun q hq => ?_⟩⟩
    exact k q _ (s2.trans (same_new hq)) upd_same
end
end K6
set_option maxHeartbeats 4000000
/-! Tellers: made, run for one person. -/
namespace K6
open PySem PySem.Spec PyProof.Rows L2 RZ
local macro_rules | `(tactic| walk_at "gg") => `(tactic| repeat first
  | refine ⟨_, rfl, ?_⟩ | refine ⟨_, _, rfl, rfl, ?_⟩ | refine ⟨rfl, ?_⟩ | refine iteT ?_ | refine iteF ?_
  | refine ⟨_, _, _, _, rfl, rfl, SqT.of (by assumption), rfl, ?_⟩
  | refine ⟨_, _, _, _, rfl, rfl, SqT.of (by assumption), at0, ?_⟩
  | refine ⟨_, _, _, _, rfl, rfl, SqL.of (by assumption), rfl, ?_⟩
  | refine ⟨_, _, rfl, .inr (SqT.of (by assumption)), ?_⟩
  | refine ⟨_, _, rfl, .inl (SqL.of (by assumption)), ?_⟩
  | refine ⟨_, _, rfl, .inr (SqT.of upd_same), rfl, rfl, ?_⟩
  | refine ⟨_, _, rfl, .inr (Txt.q_HOLDERS (by assumption) _), rfl, rfl, ?_⟩
  | refine ⟨_, _, rfl, .inr (Txt.q_GIVERS (by assumption) _), rfl, rfl, ?_⟩
  | refine ⟨_, _, rfl, .inr (Txt.q_FACTS (by assumption) _), rfl, rfl, ?_⟩
  | refine ⟨_, _, rfl, .inr (Txt.q_SIGNS (by assumption) _), rfl, rfl, ?_⟩
  | refine ⟨_, _, rfl, SqT.of upd_same, rfl, ?_⟩
  | refine ⟨_, _, rfl, SqT.of (by assumption), rfl, ?_⟩
  | refine ⟨_, _, rfl, ?_⟩
  | refine .inl ⟨_, rfl, ?_⟩
  | refine .inr ⟨_, rfl, ?_⟩
  | refine ⟨(by show (0 : Int) < _; decide), ?_⟩
  | refine ⟨.inr ⟨by decide, by decide⟩, ?_⟩
  | refine ⟨.inl ⟨by decide, by decide⟩, ?_⟩
  | refine ⟨⟨by decide, by decide⟩, ?_⟩
  | refine ⟨⟨by decide, by decide, by decide⟩, ?_⟩)
/-- what a teller (or a state) holds -/
structure TSt where
  beat : Int
  kp : Nm → Int
  ow : Nat → Nm → Int
structure TSt.bd (S : TSt) (n : Nat) : Prop where
  b0 : 0 ≤ S.beat
  b1 : S.beat ≤ 1000000
  k : ∀ m, within (S.kp m)
  o : ∀ i, i < n → ∀ m, within (S.ow i m)
def maxI (a b : Int) : Int := if b > a then b else a
def minI (a b : Int) : Int := if b < a then b else a
def runOne (bot : Int) (b : Blk) (S : TSt) (p : Nat) (f : Fct → Int) : TSt × Int × Int :=
  match b.run (envOf f S.kp (S.ow p) bot) with
  | none => (S, 0, bot)
  | some E => ({ S with kp := E.nums .kp, ow := fun i => if i = p then E.nums .ow else S.ow i }, maxI 0 E.w, minI bot (maxI 0 E.c))
theorem runOne_beat {bot : Int} {b : Blk} {S : TSt} {p : Nat} {f : Fct → Int} : (runOne bot b S p f).1.beat = S.beat := by
  unfold runOne
  split <;> rfl
theorem zero_in : within 0 := ⟨by decide, by decide⟩
theorem envOf_bd {bot : Int} {S : TSt} {n p : Nat} {f : Fct → Int} (hS : S.bd n) (hp : p < n) (hf : ∀ x, within (f x)) : (envOf f S.kp (S.ow p) bot).bd := ⟨hf, fun h m => by
  cases h
  · exact zero_in
  · exact hS.k m
  · exact hS.o p hp m⟩
theorem runOne_bd {bot : Int} {b : Blk} {S : TSt} {n p : Nat} {f : Fct → Int} (ho : b.ok) (hS : S.bd n) (hp : p < n) (hf : ∀ x, within (f x)) : (runOne bot b S p f).1.bd n := by
  unfold runOne
  split
  · exact hS
  · rename_i E e
    have q := Blk.run_bd ho (envOf_bd hS hp hf) e
    refine ⟨hS.b0, hS.b1, fun m => q.n .kp m, fun i hi m => ?_⟩
    show within ((if i = p then E.nums .ow else S.ow i) m)
    split
    · exact q.n .ow m
    · exact hS.o i hi m
def tellF (n : Nat) (pol : Addr) (bt : Int) (kd od : Addr) : List (Str × V) := [("kept_n", .int n), ("kept_policy", .ref pol), ("kept_beat", .int bt), ("kept_keep", .ref kd), ("kept_own", .ref od)]
def OwnAt (H : Hp) (od : Addr) (n : Nat) (ow : Nat → Nm → Int) (R : Addr → Prop) : Prop := ∃ oo, H od = some (.dK oo) ∧ R od ∧ (oo.map (·.1)).Nodup ∧
  (∀ p ∈ oo, ∃ (i : Nat) (x : Addr) (kx : List (Key × V)), p = (Sum.inl (i : Int), V.ref x) ∧ i < n ∧ x ≠ od ∧ R x ∧ H x = some (.dK kx) ∧ NzOk kx (ow i)) ∧ ∀ i, i < n → valV oo (Sum.inl (i : Int) : Key) = none → ∀ m, ow i m = 0
def PolIn (C : Addr) (H : Hp) (pol : Addr) (bot : Int) (b : Blk) : Prop := ∃ dp q ws, H pol = some (.ins C dp (polF bot q)) ∧ H q = some (.tup ws) ∧ StsAt H ws b
structure TellAt (K : PySem.W.Frag) (H : Hp) (t od : Addr) (n : Nat) (pol : Addr) (bot : Int) (b : Blk) (S : TSt) (R : Addr → Prop) : Prop where
  ob : ∃ dx kd kk, H t = some (.ins (He.ga K "Teller") dx (tellF n pol S.beat kd od)) ∧ H kd = some (.dK kk) ∧ NzOk kk S.kp ∧ R kd ∧ kd ≠ od
  ow : OwnAt H od n S.ow R
  po : PolIn (CP K) H pol bot b
  rt : R t
def Wt (t od : Addr) : Addr → Prop := fun a => a = t ∨ a = od
def grow (R : Addr → Prop) (H H' : Hp) : Addr → Prop := fun a => R a ∨ (H a = none ∧ ∃ o, H' a = some o)
theorem grow_mono {C : Addr} {R W : Addr → Prop} {H H4 H' : Hp} (hW : ∀ a, W a → ∃ o, H a = some o) (f : Fr C W H4 H') : ∀ a, grow R H H4 a → grow R H H' a := fun a h => h.imp id fun ⟨h1, o, h2⟩ => ⟨h1, o, f.st _ _ h2 fun z => by
  obtain ⟨o', q⟩ := hW a z
  rw [q] at h1
  cases h1⟩
theorem own_len {oo : List (Key × V)} {n : Nat} (nd : (oo.map (·.1)).Nodup) (h : ∀ p ∈ oo, ∃ i : Nat, p.1 = (Sum.inl (i : Int) : Key) ∧ i < n) : oo.length ≤ n := by
  have q := nodup_sub (l := oo.map (·.1)) (m := (List.range n).map fun i : Nat => (Sum.inl (i : Int) : Key)) nd fun x hx => by
    obtain ⟨p, hp, rfl⟩ := List.mem_map.mp hx
    obtain ⟨i, e, hi⟩ := h p hp
    rw [e]
    exact List.mem_map.mpr ⟨i, List.mem_range.mpr hi, rfl⟩
  rw [List.length_map, List.length_map, List.length_range] at q
  exact q
theorem PolIn.frame {C : Addr} {S : Addr → Prop} {H H' : Hp} {pol : Addr} {bot : Int} {b : Blk} (h : PolIn C H pol bot b) (f : Fr C S H H') : PolIn C H' pol bot b := by
  obtain ⟨dp, q, ws, h1, h2, h3⟩ := h
  exact ⟨dp, q, ws, f.pl _ _ _ h1, f.tp _ _ h2, h3.mono f.tp⟩
theorem OwnAt.frame {C : Addr} {W : Addr → Prop} {H H' : Hp} {od : Addr} {n : Nat} {ow : Nat → Nm → Int} {R : Addr → Prop} (h : OwnAt H od n ow R) (f : Fr C W H H') (s : ∀ a, W a → ¬ R a) : OwnAt H' od n ow R := by
  obtain ⟨oo, h1, h2, h3, h4, h5⟩ := h
  refine ⟨oo, f.st _ _ h1 fun z => s _ z h2, h2, h3, fun p hp => ?_, h5⟩
  obtain ⟨i, x, kx, e, e1, e2, e3, e4, e5⟩ := h4 p hp
  exact ⟨i, x, kx, e, e1, e2, e3, f.st _ _ e4 fun z => s _ z e3, e5⟩
theorem OwnAt.mono {H : Hp} {od : Addr} {n : Nat} {ow : Nat → Nm → Int} {R R' : Addr → Prop} (h : OwnAt H od n ow R) (r : ∀ a, R a → R' a) : OwnAt H od n ow R' := by
  obtain ⟨oo, h1, h2, h3, h4, h5⟩ := h
  refine ⟨oo, h1, r _ h2, h3, fun p hp => ?_, h5⟩
  obtain ⟨i, x, kx, e, e1, e2, e3, e4, e5⟩ := h4 p hp
  exact ⟨i, x, kx, e, e1, e2, r _ e3, e4, e5⟩
section
variable {K : PySem.W.Frag} {H H' : Hp} {t od pol : Addr} {n : Nat} {bot : Int} {b : Blk} {S : TSt} {R R' W : Addr → Prop}
theorem TellAt.frame (h : TellAt K H t od n pol bot b S R) (f : Fr (CP K) W H H') (s : ∀ a, W a → ¬ R a) : TellAt K H' t od n pol bot b S R := by
  obtain ⟨dx, kd, kk, h1, h2, h3, h4, h5⟩ := h.ob
  exact ⟨⟨dx, kd, kk, f.st _ _ h1 fun z => s _ z h.rt, f.st _ _ h2 fun z => s _ z h4, h3, h4, h5⟩, h.ow.frame f s, h.po.frame f, h.rt⟩
theorem TellAt.mono (h : TellAt K H t od n pol bot b S R) (r : ∀ a, R a → R' a) : TellAt K H t od n pol bot b S R' := by
  obtain ⟨dx, kd, kk, h1, h2, h3, h4, h5⟩ := h.ob
  exact ⟨⟨dx, kd, kk, h1, h2, h3, r _ h4, h5⟩, h.ow.mono r, h.po, r _ h.rt⟩
theorem TellAt.same (h : TellAt K H t od n pol bot b S R) (s : Same H H') : TellAt K H' t od n pol bot b S R := h.frame (W := fun _ => False) (Fr.of_same s) fun _ z => z.elim
theorem put_keep {n : Nat} {pol : Addr} {bt : Int} {kd od k : Addr} : putF "kept_keep" (.ref k) (tellF n pol bt kd od) = tellF n pol bt k od := rfl
theorem put_beat {n : Nat} {pol : Addr} {bt z : Int} {kd od : Addr} : putF "kept_beat" (.int z) (tellF n pol bt kd od) = tellF n pol z kd od := rfl
theorem put_own {n : Nat} {pol : Addr} {bt : Int} {kd od o : Addr} : putF "kept_own" (.ref o) (tellF n pol bt kd od) = tellF n pol bt kd o := rfl
/-- a store at the teller itself -/
theorem TellAt.put (h : TellAt K H t od n pol bot b S R) (nc : CP K ≠ He.ga K "Teller") {dx k : Addr} {bt : Int} {kk : List (Key × V)} {f : Nm → Int} (hdx : ∃ fs, H t = some (.ins (He.ga K "Teller") dx fs)) (hk : H k = some (.dK kk)) (hf : NzOk kk f) (rk : R k) (ko : k ≠ od) :
    TellAt K (upd H t (.ins (He.ga K "Teller") dx (tellF n pol bt k od))) t od n pol bot b { S with beat := bt, kp := f } R ∧ Fr (CP K) (Wt t od) H (upd H t (.ins (He.ga K "Teller") dx (tellF n pol bt k od))) := by
  obtain ⟨fs, hdx⟩ := hdx
  have nd : ∀ {a kvs}, H a = some (.dK kvs) → a ≠ t := fun {a kvs} e z => by
    rw [z, hdx] at e
    cases e
  have fr : Fr (CP K) (Wt t od) H (upd H t (.ins (He.ga K "Teller") dx (tellF n pol bt k od))) := Fr.put (.inl rfl) hdx (fun xs z => by cases z) fun dx fs z => by injection z with z; exact nc z.symm
  refine ⟨⟨⟨dx, k, kk, upd_same, by rw [upd_ne (nd hk)]; exact hk, hf, rk, ko⟩, ?_, h.po.frame fr, h.rt⟩, fr⟩
  obtain ⟨oo, h1, h2, h3, h4, h5⟩ := h.ow
  refine ⟨oo, by rw [upd_ne (nd h1)]; exact h1, h2, h3, fun p hp => ?_, h5⟩
  obtain ⟨i, x, kx, e, e1, e2, e3, e4, e5⟩ := h4 p hp
  exact ⟨i, x, kx, e, e1, e2, e3, by rw [upd_ne (nd e4)]; exact e4, e5⟩
/-- one person's dict anew -/
theorem TellAt.putOwn (h : TellAt K H t od n pol bot b S R) {oo : List (Key × V)} (ho : H od = some (.dK oo)) {p : Nat} (hp : p < n) {x : Addr} {kx : List (Key × V)} {g : Nm → Int} (hx : H x = some (.dK kx)) (hg : NzOk kx g) (rx : R x) (xo : x ≠ od) :
    TellAt K (upd H od (.dK (putK oo (Sum.inl (p : Int)) (.ref x)))) t od n pol bot b { S with ow := fun i => if i = p then g else S.ow i } R ∧ Fr (CP K) (Wt t od) H (upd H od (.dK (putK oo (Sum.inl (p : Int)) (.ref x)))) := by
  have fr : Fr (CP K) (Wt t od) H (upd H od (.dK (putK oo (Sum.inl (p : Int)) (.ref x)))) := Fr.put (.inr rfl) ho (fun xs z => by cases z) fun dx fs z => by cases z
  obtain ⟨dx, kd, kk, h1, h2, h3, h4, h5⟩ := h.ob
  refine ⟨⟨⟨dx, kd, kk, by rw [upd_ne (ne_of h1 ho (by intro q; cases q))]; exact h1, by rw [upd_ne h5]; exact h2, h3, h4, h5⟩, ?_, h.po.frame fr, h.rt⟩, fr⟩
  obtain ⟨oo', g1, g2, g3, g4, g5⟩ := h.ow
  obtain rfl : oo' = oo := by
    rw [ho] at g1
    injection g1 with g1
    injection g1 with g1
    exact g1.symm
  refine ⟨_, upd_same, g2, nd_put _ g3, fun q hq => ?_, fun i hi e m => ?_⟩
  · by_cases c : q.1 = (Sum.inl (p : Int) : Key)
    · have hv := val_nodup (nd_put (.ref x) g3) q hq
      rw [c, valV_put, if_pos rfl] at hv
      have hv := Option.some.inj hv
      refine ⟨p, x, kx, ?_, hp, xo, rx, by rw [upd_ne xo]; exact hx, ?_⟩
      · rw [← c, hv]
      · show NzOk kx (if p = p then g else S.ow p)
        rw [if_pos rfl]
        exact hg
    · rcases mem_put hq with m | m
      · obtain ⟨i, y, ky, e, e1, e2, e3, e4, e5⟩ := g4 q m
        refine ⟨i, y, ky, e, e1, e2, e3, by rw [upd_ne e2]; exact e4, ?_⟩
        show NzOk ky (if i = p then g else S.ow i)
        rw [if_neg fun z => c (by rw [e, z])]
        exact e5
      · exact absurd (by rw [m]) c
  · rw [valV_put] at e
    by_cases c : i = p
    · rw [c, if_pos rfl] at e
      cases e
    · rw [if_neg fun z => c (by injection z with z; omega)] at e
      show (if i = p then g else S.ow i) m = 0
      rw [if_neg c]
      exact g5 i hi e m
end
def sp_Teller_init (K : PySem.W.Frag) : Sp := fun vs H Q _ => ∃ t dx, ∃ n : Nat, ∃ pol dp fs, vs = [.ref t, .int (n : Int), .ref pol] ∧ H t = some (.ins (He.ga K "Teller") dx []) ∧ 1 ≤ n ∧ n ≤ 12 ∧ H pol = some (.ins (CP K) dp fs) ∧
  ∀ kd od H', (∀ c o, H c = some o → c ≠ t → H' c = some o) → H kd = none → H od = none → kd ≠ od → H' t = some (.ins (He.ga K "Teller") dx (tellF n pol 0 kd od)) → H' kd = some (.dK []) → H' od = some (.dK []) → Q .non H'
section
variable {P : Program} {w : World} {K : PySem.W.Frag} {mg : Str → Option Value} {base : Heap}
theorem ok_Teller_init (T : Txt K mg) : FnOk P w K mg base CX0 4 (a_Teller_init K) (fdOf K (a_Teller_init K)) ["self", "n", "policy"] (sp_Teller_init K) := by
  have G_check_people := ok_check_people (P := P) (w := w) (base := base) T
  have G_check_policy := ok_check_policy (P := P) (w := w) (base := base) T
  refine T.F_Teller_init.ok sc_Teller_init (fun vs H Q E h => ?_) (fun cdv A outer s H vs Q E hr h => ?_)
  · obtain ⟨t, dx, n, pol, dp, fs, rfl, _⟩ := h
    rfl
  obtain ⟨t, dx, n, pol, dp, fs, rfl, h0, hn1, hn2, hp, k⟩ := h
  refine ⟨_, PSs.nox (pss_cons (ps_expr (pe_call G_check_people (hr.mono (by decide)) rfl T.g_check_people T.F_check_people.kp T.b_check_people .nil pass0 (pa_cons (pv 1) pa_nil)))
    (pss_cons (ps_expr (pe_call G_check_policy (hr.mono (by decide)) rfl T.g_check_policy T.F_check_policy.kp T.b_check_policy .nil pass0 (pa_cons (pv 2) pa_nil)))
    (pss_cons (ps_fld (pv 0) (pv 1) rfl)
    (pss_cons (ps_fld (pv 0) (pv 2) rfl)
    (pss_cons (ps_fld (pv 0) pe_int rfl)
    (pss_cons (ps_fld (pv 0) pe_dnewK rfl)
    (pss_one (ps_fld (pv 0) pe_dnewK rfl)))))))), ?_⟩
  walk_at "gg"
  refine ⟨by omega, by omega, ?_⟩
  walk_at "gg"
  refine ⟨pol, dp, fs, rfl, hp, ?_⟩
  have nc : CP K ≠ He.ga K "Teller" := of_decide_eq_true T.ne_PT
  have f0 : (show Nat from 0) < 1000 := by decide
  walk_at "gg"
  refine ⟨t, _, dx, _, rfl, h0, T.c_Teller, T.n_Teller_kept_n, (show 0 < 1000 by decide), ?_⟩
  walk_at "gg"
  refine ⟨t, _, dx, _, rfl, upd_same, T.c_Teller, T.n_Teller_kept_policy, (show 1 < 1000 by decide), ?_⟩
  walk_at "gg"
  refine ⟨t, _, dx, _, rfl, upd_same, T.c_Teller, T.n_Teller_kept_beat, (show 2 < 1000 by decide), ?_⟩
  walk_at "gg"
  intro kd hkd
  obtain ⟨a1, e1⟩ := free_unlock hkd
  obtain ⟨_, e2⟩ := free_unlock e1
  obtain ⟨_, e3⟩ := free_unlock e2
  walk_at "gg"
  refine ⟨t, _, dx, [("kept_n", .int (n : Int)), ("kept_policy", .ref pol), ("kept_beat", .int 0)], rfl, (by rw [upd_ne a1.symm, upd_same] <;> rfl), T.c_Teller, T.n_Teller_kept_keep, (show 3 < 1000 by decide), ?_⟩
  walk_at "gg"
  intro od hod
  obtain ⟨b1, g1⟩ := free_unlock hod
  obtain ⟨b2, g2⟩ := free_unlock g1
  obtain ⟨_, g3⟩ := free_unlock g2
  obtain ⟨_, g4⟩ := free_unlock g3
  obtain ⟨_, g5⟩ := free_unlock g4
  walk_at "gg"
  refine ⟨t, _, dx, [("kept_n", .int (n : Int)), ("kept_policy", .ref pol), ("kept_beat", .int 0), ("kept_keep", .ref kd)], rfl, (by rw [upd_ne b1.symm, upd_same] <;> rfl), T.c_Teller, T.n_Teller_kept_own, (show 4 < 1000 by decide), ?_⟩
  refine k kd od _ (fun c o e n => ?_) e3 g5 b2.symm ?_ ?_ ?_
  · rw [upd_ne n, upd_ne (ne_of_none e g5), upd_ne n, upd_ne (ne_of_none e e3), upd_ne n, upd_ne n, upd_ne n]
    exact e
  · rw [upd_same]
    rfl
  · rw [upd_ne a1, upd_ne b2.symm, upd_ne a1, upd_same]
  · rw [upd_ne b1, upd_same]
end
def sp_run_for (K : PySem.W.Frag) : Sp := fun vs H Q _ => ∃ t od, ∃ n p : Nat, ∃ fa pol bot b S R f, vs = [.ref t, .int (p : Int), .ref fa] ∧ TellAt K H t od n pol bot b S R ∧ p < n ∧ b.ok ∧ b.lev ≤ 4 ∧ S.bd n ∧ n ≤ 100 ∧ (∀ x, within (f x)) ∧ H fa = some (.dK (factK f)) ∧
  ∀ u H', Fr (CP K) (Wt t od) H H' → TellAt K H' t od n pol bot b (runOne bot b S p f).1 (grow R H H') → H' u = some (.tup [.int (runOne bot b S p f).2.1, .int (runOne bot b S p f).2.2]) → Q (.ref u) H'
section
variable {P : Program} {w : World} {K : PySem.W.Frag} {mg : Str → Option Value} {base : Heap}
theorem ok_Teller_run_for (T : Txt K mg) : FnOk P w K mg base CX0 15 (a_Teller_run_for K) (fdOf K (a_Teller_run_for K)) ["self", "person", "facts"] (sp_run_for K) := by
  have G_Run_init := ok_Run_init (P := P) (w := w) (base := base) T
  have G_Run_do := ok_Run_do (P := P) (w := w) (base := base) T 4
  have G_others := ok_others (P := P) (w := w) (base := base) T
  refine T.F_Teller_run_for.ok sc_Teller_run_for (fun vs H Q E h => ?_) (fun cdv A outer s H vs Q E hr h => ?_)
  · obtain ⟨t, od, n, p, fa, pol, bot, b, S, R, f, rfl, _⟩ := h
    rfl
  obtain ⟨t, od, n, p, fa, pol, bot, b, S, R, f, rfl, TA, hp, hok, hlev, hS, hn, hf, hfa, k⟩ := h
  have hu := hu_of hr
  have nPT : CP K ≠ He.ga K "Teller" := of_decide_eq_true T.ne_PT
  refine ⟨_, PSs.nox (pss_cons (ps_set (i := 3) sc_Teller_run_for.nd rfl (Or.inl rfl) (pe_make T.k_Run G_Run_init (hr.mono (by decide)) rfl T.g_Run T.b_Run_init .nil pass0 (pa_cons (pv 2) (pa_cons (pe_fld (pv 0) rfl) (pa_cons (pe_dget2 hu (pe_fld (pv 0) rfl) (pv 1) pe_dnewK ⟨rfl, rfl, rfl, rfl⟩) (pa_cons (pe_fld (pe_fld (pv 0) rfl) rfl) pa_nil))))))
    (pss_cons (ps_expr (pe_meth (pv 3) T.c_Run T.m_Run_do G_Run_do (hr.mono (by decide)) T.b_Run_do .nil pass0 (pa_cons (pe_fld (pe_fld (pv 0) rfl) rfl) pa_nil)))
    (pss_cons (ps_if (pt_not (pt_val (pe_fld (pv 3) rfl)))
    (pss_one (ps_ret (pe_tup (pa_cons pe_int (pa_cons (pe_fld (pe_fld (pv 0) rfl) rfl) pa_nil)))))
    pss_nil)
    (pss_cons (ps_fld (pv 0) (pe_call G_others (hr.mono (by decide)) rfl T.g_others T.F_others.kp T.b_others .nil pass0 (pa_cons (pe_dget hu (pe_fld (pv 3) rfl) pe_str (fun _ _ => rfl)) pa_nil)) rfl)
    (pss_cons (ps_dput hu (pe_fld (pv 0) rfl) (pv 1) (pe_call G_others (hr.mono (by decide)) rfl T.g_others T.F_others.kp T.b_others .nil pass0 (pa_cons (pe_dget hu (pe_fld (pv 3) rfl) pe_str (fun _ _ => rfl)) pa_nil)) rfl)
    (pss_one (ps_ret (pe_tup (pa_cons (pe_callB (call_max2 rfl) (by rfl) T.z_max (by decide +kernel) (pa_cons pe_int (pa_cons (pe_dget hu (pe_fld (pv 3) rfl) pe_str (fun _ _ => rfl)) pa_nil))) (pa_cons (pe_callB (call_min2 rfl) (by rfl) T.z_min (by decide +kernel) (pa_cons (pe_fld (pe_fld (pv 0) rfl) rfl) (pa_cons (pe_callB (call_max2 rfl) (by rfl) T.z_max (by decide +kernel) (pa_cons pe_int (pa_cons (pe_dget hu (pe_fld (pv 3) rfl) pe_str (fun _ _ => rfl)) pa_nil))) pa_nil))) pa_nil)))))))))), ?_⟩
  obtain ⟨dx, kd, kk, h1, h2, h3, h4, h5⟩ := TA.ob
  obtain ⟨oo, o1, o2, o3, o4, o5⟩ := TA.ow
  obtain ⟨dp, q, ws, p1, p2, p3⟩ := TA.po
  walk_at "gg"
  refine ⟨t, _, dx, _, _, rfl, h1, T.c_Teller, T.n_Teller_kept_keep, rfl, ?_⟩
  walk_at "gg"
  refine ⟨t, _, dx, _, _, rfl, h1, T.c_Teller, T.n_Teller_kept_own, rfl, ?_⟩
  refine ⟨_, rfl, isd o1, ?_⟩
  walk_at "gg"
  intro e he
  have se : Same H (upd H e (.dK [])) := same_new he
  refine ⟨_, DGet.k (k := Sum.inl (p : Int)) (se _ _ o1), ?_⟩
  walk_at "gg"
  refine ⟨t, _, dx, _, _, rfl, se _ _ h1, T.c_Teller, T.n_Teller_kept_policy, rfl, ?_⟩
  refine ⟨pol, _, dp, _, _, rfl, se _ _ p1, T.c_Policy, T.n_Policy_bottom, rfl, ?_⟩
  walk_at "gg"
  intro r dr hr0 hd0 nr
  obtain ⟨x, kx, ex, hx, hxn⟩ : ∃ x kx, (valV oo (Sum.inl (p : Int) : Key)).getD (.ref e) = .ref x ∧ upd H e (.dK []) x = some (.dK kx) ∧ NmOk kx (S.ow p) := by
    cases ev : valV oo (Sum.inl (p : Int) : Key) with
    | none =>
      have z : S.ow p = fun _ => 0 := funext fun m => o5 p hp ev m
      exact ⟨e, [], rfl, upd_same, by rw [z]; exact NmOk.nil⟩
    | some v =>
      obtain ⟨i, x, kx, e1, _, _, _, e4, e5⟩ := o4 _ (valV_mem ev)
      injection e1 with e1 e2
      injection e1 with e1
      obtain rfl : p = i := by omega
      exact ⟨x, kx, e2, se _ _ e4, e5.1⟩
  rw [ex]
  have nrH := Same.free se hr0
  have sb : Same H (upd (upd (upd H e (.dK [])) dr (.own r)) r (.ins (He.ga K "Run") dr [])) := (se.trans (same_new hd0)).trans (same_new (by rw [upd_ne nr.symm]; exact hr0))
  have sb' : Same (upd H e (.dK [])) (upd (upd (upd H e (.dK [])) dr (.own r)) r (.ins (He.ga K "Run") dr [])) := (same_new hd0).trans (same_new (by rw [upd_ne nr.symm]; exact hr0))
  refine ⟨r, dr, fa, kd, x, f, kk, S.kp, kx, S.ow p, bot, rfl, upd_same, sb _ _ hfa, sb _ _ h2, h3.1, sb' _ _ hx, hxn, fun nu to dd H1 k1 n1 n2 n3 RA => ⟨rfl, ?_⟩⟩
  have s1 : Same H H1 := fun c o q => k1 c o (sb _ _ q) (ne_of_none q nrH)
  have f1 := Same.free sb n1
  have f2 := Same.free sb n2
  have f3 := fun h => Same.free sb (n3 h)
  walk_at "gg"
  refine ⟨r, dr, _, rfl, RA.ob, rfl, ?_⟩
  walk_at "gg"
  refine ⟨t, _, dx, _, _, rfl, s1 _ _ h1, T.c_Teller, T.n_Teller_kept_policy, rfl, ?_⟩
  refine ⟨pol, _, dp, _, _, rfl, s1 _ _ p1, T.c_Policy, T.n_Policy_block, rfl, ?_⟩
  walk_at "gg"
  refine ⟨r, dr, fa, nu, to, dd, _, q, ws, b, rfl, RA, s1 _ _ p2, p3.mono (same_tp s1), hlev, hok, envOf_bd hS hp hf, fun H2 fr2 e2 => ?_⟩
  have g2 : Fr (CP K) (fun _ => False) H H2 := (Fr.of_same s1).trans' fr2 fun a ha => .inr (by
    rcases ha with rfl | rfl | ⟨h, rfl⟩
    · exact nrH
    · exact f2
    · exact f3 h)
  have st2 : Same H H2 := fun a o q => g2.st a o q fun z => z
  have T2 := TA.same st2
  walk_at "gg"
  cases eb : b.run (envOf f S.kp (S.ow p) bot) with
  | none =>
    have er : runOne bot b S p f = (S, 0, bot) := by unfold runOne; rw [eb]
    rw [eb] at e2
    have e2 : H2 r = some (.ins (He.ga K "Run") dr (runF fa nu to false)) := e2
    rw [er] at k
    refine ⟨r, _, dr, _, _, rfl, e2, T.c_Run, T.n_Run_is_right, rfl, ?_⟩
    walk_at "gg"
    refine ⟨t, _, dx, _, _, rfl, st2 _ _ h1, T.c_Teller, T.n_Teller_kept_policy, rfl, ?_⟩
    refine ⟨pol, _, dp, _, _, rfl, st2 _ _ p1, T.c_Policy, T.n_Policy_bottom, rfl, ?_⟩
    walk_at "gg"
    refine ⟨szr, fun u hu => ?_⟩
    exact k u _ ((g2.new hu).mono fun _ z => z.elim) ((T2.same (same_new hu)).mono fun a h => .inl h) upd_same
  | some E2 =>
    have er : runOne bot b S p f = ({ S with kp := E2.nums .kp, ow := fun i => if i = p then E2.nums .ow else S.ow i }, maxI 0 E2.w, minI bot (maxI 0 E2.c)) := by unfold runOne; rw [eb]
    rw [eb] at e2
    have R2 : RunAt (He.ga K "Run") H2 r dr fa nu to dd E2 true := e2
    rw [er] at k
    refine ⟨r, _, dr, _, _, rfl, R2.ob, T.c_Run, T.n_Run_is_right, rfl, ?_⟩
    walk_at "gg"
    refine ⟨r, _, dr, _, _, rfl, R2.ob, T.c_Run, T.n_Run_numbers, rfl, ?_⟩
    walk_at "gg"
    refine ⟨_, _, rfl, dget R2.hn (numK_get _ .kp), ?_⟩
    obtain ⟨kv, q1, q2⟩ := R2.dk .kp
    refine ⟨dd .kp, kv, _, rfl, q1, q2, fun k' kk' H3 s3 n3' hk3 nz3 => ?_⟩
    have R3 := R2.same s3
    have st3 := st2.trans s3
    have T3 := (T2.same s3).mono (R' := grow R H (upd H3 t (.ins (He.ga K "Teller") dx (tellF n pol S.beat k' od)))) fun a h => .inl h
    have nko : k' ≠ od := fun z => by rw [z, st2 _ _ o1] at n3'; cases n3'
    have nkt : k' ≠ t := fun z => by rw [z, st2 _ _ h1] at n3'; cases n3'
    walk_at "gg"
    refine ⟨t, _, dx, _, rfl, st3 _ _ h1, T.c_Teller, T.n_Teller_kept_keep, (show 5 < 1000 by decide), ?_⟩
    obtain ⟨T4, F4⟩ := T3.put nPT (bt := S.beat) ⟨_, st3 _ _ h1⟩ hk3 nz3 (.inr ⟨Same.free st2 n3', by rw [upd_ne nkt, hk3]; exact ⟨_, rfl⟩⟩) nko
    have rt : r ≠ t := fun z => by rw [z, h1] at nrH; cases nrH
    have nut : nu ≠ t := fun z => by rw [z, h1] at f1; cases f1
    have tot : to ≠ t := fun z => by rw [z, h1] at f2; cases f2
    have ddt : ∀ h, dd h ≠ t := fun h z => by have := f3 h; rw [z, h1] at this; cases this
    have hW : ∀ a, Wt t od a → ∃ o, H a = some o := fun a z => by
      rcases z with rfl | rfl
      · exact ⟨_, h1⟩
      · exact ⟨_, o1⟩
    obtain ⟨kv2, q3, q4⟩ := R3.dk .ow
    walk_at "gg"
    refine ⟨r, _, dr, _, _, rfl, (by rw [upd_ne rt]; exact R3.ob), T.c_Run, T.n_Run_numbers, rfl, ?_⟩
    walk_at "gg"
    refine ⟨_, _, rfl, dget (by rw [upd_ne nut]; exact R3.hn) (numK_get _ .ow), ?_⟩
    refine ⟨dd .ow, kv2, _, rfl, (by rw [upd_ne (ddt .ow)]; exact q3), q4, fun o' ko' H5 s5 n5 ho5 nz5 => ?_⟩
    have F5 := F4.trans (Fr.of_same s5)
    have T5 := (T4.same s5).mono (grow_mono hW (Fr.of_same (C := CP K) s5))
    have ot : od ≠ t := ne_of o1 h1 (by intro z; cases z)
    have od5 : H5 od = some (.dK oo) := s5 _ _ (by rw [upd_ne ot]; exact st3 _ _ o1)
    have ool : oo.length ≤ n := own_len o3 fun p hp => by
      obtain ⟨i, x, kx, e, hi, _⟩ := o4 p hp
      exact ⟨i, by rw [e], hi⟩
    obtain ⟨not, n6⟩ := free_unlock n5
    have n7 := Same.free st3 n6
    have noo : o' ≠ od := fun z => by rw [z, o1] at n7; cases n7
    have rod : r ≠ od := fun z => by rw [z, o1] at nrH; cases nrH
    have tod : to ≠ od := fun z => by rw [z, o1] at f2; cases f2
    obtain ⟨T6, F6⟩ := T5.putOwn od5 hp ho5 nz5 (.inr ⟨n7, _, ho5⟩) noo
    have T7 := T6.mono (grow_mono hW F6)
    have F7 := F5.trans F6
    have hr6 : upd H5 od (.dK (putK oo (Sum.inl (p : Int)) (.ref o'))) r = some (.ins (He.ga K "Run") dr (runF fa nu to true)) := by
      rw [upd_ne rod]
      exact s5 _ _ (by rw [upd_ne rt]; exact R3.ob)
    have ht6 : upd H5 od (.dK (putK oo (Sum.inl (p : Int)) (.ref o'))) to = some (.dK (toldK E2.w E2.c)) := by
      rw [upd_ne tod]
      exact s5 _ _ (by rw [upd_ne tot]; exact R3.ht)
    have hp6 : upd H5 od (.dK (putK oo (Sum.inl (p : Int)) (.ref o'))) pol = some (.ins (CP K) dp (polF bot q)) := F7.pl _ _ _ (st3 _ _ p1)
    have hT6 : upd H5 od (.dK (putK oo (Sum.inl (p : Int)) (.ref o'))) t = some (.ins (He.ga K "Teller") dx (tellF n pol S.beat k' od)) := by
      rw [upd_ne ot.symm]
      exact s5 _ _ upd_same
    walk_at "gg"
    refine ⟨t, _, dx, _, _, rfl, s5 _ _ upd_same, T.c_Teller, T.n_Teller_kept_own, rfl, ?_⟩
    walk_at "gg"
    refine ⟨od, _, rfl, DPut.k (k := Sum.inl (p : Int)) od5 (szt (by omega)), ?_⟩
    walk_at "gg"
    refine ⟨r, _, dr, _, _, rfl, hr6, T.c_Run, T.n_Run_told, rfl, ?_⟩
    walk_at "gg"
    refine ⟨_, _, rfl, dget ht6 (k := Sum.inr "weight") rfl, ?_⟩
    walk_at "gg"
    refine ⟨t, _, dx, _, _, rfl, hT6, T.c_Teller, T.n_Teller_kept_policy, rfl, ?_⟩
    refine ⟨pol, _, dp, _, _, rfl, hp6, T.c_Policy, T.n_Policy_bottom, rfl, ?_⟩
    walk_at "gg"
    refine ⟨r, _, dr, _, _, rfl, hr6, T.c_Run, T.n_Run_told, rfl, ?_⟩
    walk_at "gg"
    refine ⟨_, _, rfl, dget ht6 (k := Sum.inr "cap") rfl, ?_⟩
    walk_at "gg"
    refine ⟨szr, fun u hu => ?_⟩
    refine k u _ (((Fr.of_same st3).trans F7).new hu) ?_ upd_same
    exact (T7.same (same_new hu)).mono (grow_mono hW (Fr.of_same (C := CP K) (same_new hu)))
end
end K6
set_option maxHeartbeats 4000000
/-! A beat told. -/
namespace K6
open PySem PySem.Spec PyProof.Rows L2 RZ
local macro_rules | `(tactic| walk_at "gg") => `(tactic| repeat first
  | refine ⟨_, rfl, ?_⟩ | refine ⟨_, _, rfl, rfl, ?_⟩ | refine ⟨rfl, ?_⟩ | refine iteT ?_ | refine iteF ?_
  | refine ⟨_, _, _, _, rfl, rfl, SqT.of (by assumption), rfl, ?_⟩
  | refine ⟨_, _, _, _, rfl, rfl, SqT.of (by assumption), at0, ?_⟩
  | refine ⟨_, _, _, _, rfl, rfl, SqL.of (by assumption), rfl, ?_⟩
  | refine ⟨_, _, rfl, .inr (SqT.of (by assumption)), ?_⟩
  | refine ⟨_, _, rfl, .inl (SqL.of (by assumption)), ?_⟩
  | refine ⟨_, _, rfl, .inr (SqT.of upd_same), rfl, rfl, ?_⟩
  | refine ⟨_, _, rfl, .inr (Txt.q_HOLDERS (by assumption) _), rfl, rfl, ?_⟩
  | refine ⟨_, _, rfl, .inr (Txt.q_GIVERS (by assumption) _), rfl, rfl, ?_⟩
  | refine ⟨_, _, rfl, .inr (Txt.q_FACTS (by assumption) _), rfl, rfl, ?_⟩
  | refine ⟨_, _, rfl, .inr (Txt.q_SIGNS (by assumption) _), rfl, rfl, ?_⟩
  | refine ⟨_, _, rfl, SqT.of upd_same, rfl, ?_⟩
  | refine ⟨_, _, rfl, SqT.of (by assumption), rfl, ?_⟩
  | refine ⟨_, _, rfl, ?_⟩
  | refine .inl ⟨_, rfl, ?_⟩
  | refine .inr ⟨_, rfl, ?_⟩
  | refine ⟨(by show (0 : Int) < _; decide), ?_⟩
  | refine ⟨.inr ⟨by decide, by decide⟩, ?_⟩
  | refine ⟨.inl ⟨by decide, by decide⟩, ?_⟩
  | refine ⟨⟨by decide, by decide⟩, ?_⟩
  | refine ⟨⟨by decide, by decide, by decide⟩, ?_⟩)
section
variable {C : Addr} {R W W' : Addr → Prop} {H H0 H2 H3 H4 H' : Hp}
theorem grow_le (f : Fr C W H4 H') : ∀ a, grow R H H4 a → grow R H H' a := fun a h => h.imp id fun ⟨h1, o, h2⟩ => ⟨h1, f.al _ _ h2⟩
theorem grow_grow (f : Fr C W H0 H2) (g : Fr C W' H2 H3) : ∀ a, grow (grow R H0 H2) H2 H3 a → grow R H0 H3 a := fun a h => by
  rcases h with (h | ⟨h, o, e⟩) | ⟨h, e⟩
  · exact .inl h
  · exact .inr ⟨h, g.al _ _ e⟩
  · exact .inr ⟨f.free h, e⟩
theorem grow_base (f : Fr C W H H0) : ∀ a, grow R H0 H3 a → grow R H H3 a := fun a h => h.imp id fun ⟨h1, e⟩ => ⟨f.free h1, e⟩
theorem grow_same (s : Same H4 H') : ∀ a, grow R H H4 a → grow R H H' a := fun a h => h.imp id fun ⟨h1, o, h2⟩ => ⟨h1, o, s _ _ h2⟩
def Al (R : Addr → Prop) (H : Hp) : Prop := ∀ a, R a → ∃ o, H a = some o
theorem Al.mono (h : Al R H) (f : Fr C W H H') : Al R H' := fun a r => (h a r).elim fun o e => f.al a o e
theorem Al.grow (h : Al R H) (f : Fr C W H H') : Al (grow R H H') H' := fun a r => r.elim (h.mono f a) fun z => z.2
end
def fctOf (bt : Int) (p : Nat) (needs things : List Int) (cnt : Nat) : Fct → Int
  | .beat => bt
  | .person => p
  | .need => gi needs p
  | .things => gi things p
  | .people => cnt
def stepP (bot : Int) (b : Blk) (needs things : List Int) (cnt : Nat) (X : TSt × List Int × List Int) (p : Nat) : TSt × List Int × List Int :=
  ((runOne bot b X.1 p (fctOf X.1.beat p needs things cnt)).1, X.2.1.set p (runOne bot b X.1 p (fctOf X.1.beat p needs things cnt)).2.1, X.2.2.set p (runOne bot b X.1 p (fctOf X.1.beat p needs things cnt)).2.2)
def ledTo (bot : Int) (b : Blk) (needs things : List Int) (ns : List Nat) (n : Nat) (S : TSt) (i : Nat) : TSt × List Int × List Int := (ns.take i).foldl (stepP bot b needs things ns.length) (S, List.replicate n 0, List.replicate n 0)
def aft (bot : Int) (b : Blk) (needs things : List Int) (ns : List Nat) (n : Nat) (S : TSt) : TSt := { (ledTo bot b needs things ns n S ns.length).1 with beat := S.beat + 1 }
noncomputable def toldP (bot : Nat) (b : Blk) (needs things : List Int) (ns : List Nat) (n : Nat) (S : TSt) : List Int :=
  tps (ledTo bot b needs things ns n S ns.length).2.1 (ledTo bot b needs things ns n S ns.length).2.2 ns n bot
structure StepOk (n : Nat) (S : TSt) (X : TSt × List Int × List Int) : Prop where
  bd : X.1.bd n
  bt : X.1.beat = S.beat
  l1 : X.2.1.length = n
  l2 : X.2.2.length = n
theorem gi_in {l : List Int} {p : Nat} (h : ∀ z ∈ l, 0 ≤ z ∧ z ≤ 1000000000) : within (gi l p) := by
  unfold gi
  rw [List.getD_eq_getElem?_getD]
  cases e : l[p]? with
  | none => exact zero_in
  | some z =>
    have := h z (List.mem_of_getElem? e)
    refine ⟨?_, ?_⟩
    · show -1000000000000000000 ≤ z
      omega
    · show z ≤ 1000000000000000000
      omega
theorem fct_in {bt : Int} {p cnt : Nat} {needs things : List Int} (h0 : 0 ≤ bt) (h1 : bt ≤ 1000000) (hp : p ≤ 100) (hc : cnt ≤ 100) (hn : ∀ z ∈ needs, 0 ≤ z ∧ z ≤ 1000000000) (ht : ∀ z ∈ things, 0 ≤ z ∧ z ≤ 1000000000) (x : Fct) : within (fctOf bt p needs things cnt x) := by
  cases x with
  | beat => exact ⟨by show -1000000000000000000 ≤ bt; omega, by show bt ≤ 1000000000000000000; omega⟩
  | person => exact ⟨by show -1000000000000000000 ≤ (p : Int); omega, by show (p : Int) ≤ 1000000000000000000; omega⟩
  | need => exact gi_in hn
  | things => exact gi_in ht
  | people => exact ⟨by show -1000000000000000000 ≤ (cnt : Int); omega, by show (cnt : Int) ≤ 1000000000000000000; omega⟩
theorem StepOk.zero {n : Nat} {S : TSt} (h : S.bd n) : StepOk n S (S, List.replicate n 0, List.replicate n 0) := ⟨h, rfl, List.length_replicate, List.length_replicate⟩
theorem StepOk.step {n : Nat} {S : TSt} {X : TSt × List Int × List Int} {bot : Int} {b : Blk} {needs things : List Int} {cnt p : Nat} (h : StepOk n S X) (ho : b.ok) (hp : p < n) (hn : n ≤ 100) (hc : cnt ≤ 100) (h1 : ∀ z ∈ needs, 0 ≤ z ∧ z ≤ 1000000000) (h2 : ∀ z ∈ things, 0 ≤ z ∧ z ≤ 1000000000) :
    StepOk n S (stepP bot b needs things cnt X p) :=
  ⟨runOne_bd ho h.bd hp (fct_in h.bd.b0 h.bd.b1 (by omega) hc h1 h2), runOne_beat.trans h.bt, by show (List.set _ _ _).length = n; rw [List.length_set, h.l1], by show (List.set _ _ _).length = n; rw [List.length_set, h.l2]⟩
theorem ledTo_step {bot : Int} {b : Blk} {needs things : List Int} {ns : List Nat} {n : Nat} {S : TSt} {i p : Nat} (h : ns[i]? = some p) : ledTo bot b needs things ns n S (i + 1) = stepP bot b needs things ns.length (ledTo bot b needs things ns n S i) p := foldl_take h
def sp_shares (K : PySem.W.Frag) : Sp := fun vs H Q _ => ∃ t od pn ph pt, ∃ n bot : Nat, ∃ pol b S R needs things ns, vs = [.ref t, .ref pn, .ref ph, .ref pt] ∧ TellAt K H t od n pol (bot : Int) b S R ∧ Al R H ∧ n ≤ 100 ∧ bot ≤ 360 ∧ b.ok ∧ b.lev ≤ 4 ∧ S.bd n ∧
  NumsAt H pn needs ∧ needs.length = n ∧ LotAt H ph ns n ∧ ns ≠ [] ∧ ns.length ≤ 100 ∧ NumsAt H pt things ∧ things.length = n ∧
  ∀ u v H', Fr (CP K) (Wt t od) H H' → TellAt K H' t od n pol (bot : Int) b (aft bot b needs things ns n S) (grow R H H') → H' u = some (.tup [.int (bot : Int), .ref v]) → H' v = some (.tup ((toldP bot b needs things ns n S).map V.int)) → Q (.ref u) H'
section
variable {P : Program} {w : World} {K : PySem.W.Frag} {mg : Str → Option Value} {base : Heap}
theorem ok_Teller_shares (T : Txt K mg) : FnOk P w K mg base CX0 16 (a_Teller_shares K) (fdOf K (a_Teller_shares K)) ["self", "needs", "here", "things"] (sp_shares K) := by
  have G_are_numbers := ok_are_numbers (P := P) (w := w) (base := base) T
  have G_is_lot := ok_is_lot (P := P) (w := w) (base := base) T
  have G_Teller_run_for := ok_Teller_run_for (P := P) (w := w) (base := base) T
  have G_parted := ok_parted (P := P) (w := w) (base := base) T
  refine T.F_Teller_shares.ok sc_Teller_shares (fun vs H Q E h => ?_) (fun cdv A outer s H vs Q E hr h => ?_)
  · obtain ⟨t, od, pn, ph, pt, n, bot, pol, b, S, R, needs, things, ns, rfl, _⟩ := h
    rfl
  obtain ⟨t, od, pn, ph, pt, n, bot, pol, b, S, R, needs, things, ns, rfl, TA, hal, hn, hbot, hok, hlev, hS, hN, hN2, hL, hne, hl, hT, hT2, k⟩ := h
  have hu := hu_of hr
  have nPT : CP K ≠ He.ga K "Teller" := of_decide_eq_true T.ne_PT
  refine ⟨_, PSs.nox (pss_cons (ps_if (pt_not (pt_val (pe_call G_are_numbers (hr.mono (by decide)) rfl T.g_are_numbers T.F_are_numbers.kp T.b_are_numbers .nil pass0 (pa_cons (pe_fld (pv 0) rfl) (pa_cons (pv 1) pa_nil)))))
    (pss_one ps_never)
    pss_nil)
    (pss_cons (ps_if (PW.pt (pw_or (pt_not (pt_val (pe_call G_is_lot (hr.mono (by decide)) rfl T.g_is_lot T.F_is_lot.kp T.b_is_lot .nil pass0 (pa_cons (pv 2) (pa_cons (pe_fld (pv 0) rfl) pa_nil))))) (pw_or1 (pt_cmpR op_eq (pe_callB call_len_seq (by rfl) T.z_len boot_len (pa_cons (pv 2) pa_nil)) pe_int (nomark _)))))
    (pss_one ps_never)
    pss_nil)
    (pss_cons (ps_if (pt_not (pt_val (pe_call G_are_numbers (hr.mono (by decide)) rfl T.g_are_numbers T.F_are_numbers.kp T.b_are_numbers .nil pass0 (pa_cons (pe_fld (pv 0) rfl) (pa_cons (pv 3) pa_nil)))))
    (pss_one ps_never)
    pss_nil)
    (pss_cons (ps_par (i := 4) (j := 5) (by rfl) sc_Teller_shares.nd rfl rfl (by decide) rfl rfl (pa_cons (pe_op op_rep (pe_lst (pa_cons pe_int pa_nil)) (pe_fld (pv 0) rfl)) (pa_cons (pe_op op_rep (pe_lst (pa_cons pe_int pa_nil)) (pe_fld (pv 0) rfl)) pa_nil)) (by rfl))
    (pss_cons (ps_for PassesOwn.never rfl (pi_tup (pv 2)) (pg_name (i := 6) sc_Teller_shares.nd rfl (Or.inl rfl))
    (pss_cons (ps_set (i := 7) sc_Teller_shares.nd rfl (Or.inl rfl) (pe_disp (pps_cons pe_str (pe_fld (pv 0) rfl) (pps_cons pe_str (pv 6) (pps_cons pe_str (pe_ix ix_tup (pv 1) (pv 6) (fun _ _ => rfl)) (pps_cons pe_str (pe_ix ix_tup (pv 3) (pv 6) (fun _ _ => rfl)) pps_nil)))) (by rfl) (by rfl) (fun z => by cases z) (by decide)))
    (pss_cons (ps_dput hu (pv 7) pe_str (pe_callB call_len_seq (by rfl) T.z_len boot_len (pa_cons (pv 2) pa_nil)) rfl)
    (pss_one (ps_asg (pe_meth (pv 0) T.c_Teller T.m_Teller_run_for G_Teller_run_for (hr.mono (by decide)) T.b_Teller_run_for .nil pass0 (pa_cons (pv 6) (pa_cons (pv 7) pa_nil))) (pg_tup rfl (pgs_cons (pg_sub (pv 4) (pv 6) set_list) (pgs_cons (pg_sub (pv 5) (pv 6) set_list) pgs_nil))))))))
    (pss_cons (ps_fldaug (pv 0) pe_int in_add)
    (pss_cons (ps_set (i := 8) sc_Teller_shares.nd rfl (Or.inl rfl) (pe_fld (pe_fld (pv 0) rfl) rfl))
    (pss_one (ps_ret (pe_tup (pa_cons (pv 8) (pa_cons (pe_call G_parted (hr.mono (by decide)) rfl T.g_parted T.F_parted.kp T.b_parted .nil pass0 (pa_cons (pe_fld (pv 0) rfl) (pa_cons (pv 8) (pa_cons (pv 2) (pa_cons (pv 4) (pa_cons (pv 5) pa_nil)))))) pa_nil)))))))))))), ?_⟩
  obtain ⟨dx, kd, kk, h1, h2, h3, h4, h5⟩ := TA.ob
  walk_at "gg"
  refine ⟨t, _, dx, _, _, rfl, h1, T.c_Teller, T.n_Teller_kept_n, rfl, ?_⟩
  walk_at "gg"
  refine ⟨pn, needs, by rw [hN2]; rfl, hN, by omega, fun H1 s1 => ?_⟩
  walk_at "gg"
  refine ⟨t, _, dx, _, _, rfl, s1 _ _ h1, T.c_Teller, T.n_Teller_kept_n, rfl, ?_⟩
  walk_at "gg"
  refine ⟨ph, ns, n, rfl, ⟨s1 _ _ hL.1, hL.2⟩, hne, hl, fun H2 s2 => ?_⟩
  have s12 := s1.trans s2
  have hp2 := s12 _ _ hL.1
  walk_at "gg"
  refine ifF (by rw [dec_int, List.length_map]; exact decide_eq_false (by have := List.length_pos_iff.mpr hne; omega)) ?_
  walk_at "gg"
  refine ⟨t, _, dx, _, _, rfl, s12 _ _ h1, T.c_Teller, T.n_Teller_kept_n, rfl, ?_⟩
  walk_at "gg"
  refine ⟨pt, things, by rw [hT2]; rfl, ⟨s12 _ _ hT.1, hT.2⟩, by omega, fun H3 s3 => ?_⟩
  have s13 := s12.trans s3
  walk_at "gg"
  refine ⟨szr, fun l1 hl1 => ?_⟩
  have s14 := s13.trans (same_new (o := .lst [.int 0]) hl1)
  walk_at "gg"
  refine ⟨t, _, dx, _, _, rfl, s14 _ _ h1, T.c_Teller, T.n_Teller_kept_n, rfl, ?_⟩
  refine ⟨l1, (n : Int), _, rfl, rfl, upd_same, by omega, by omega, by rw [Int.toNat_natCast]; exact szl (by simp; omega), fun D1 hD1 => ?_⟩
  rw [Int.toNat_natCast, rep_flat]
  have s15 := s14.trans (same_new (o := .lst ((List.replicate n 0).map V.int)) hD1)
  refine ⟨szr, fun l2 hl2 => ?_⟩
  have s16 := s15.trans (same_new (o := .lst [.int 0]) hl2)
  walk_at "gg"
  refine ⟨t, _, dx, _, _, rfl, s16 _ _ h1, T.c_Teller, T.n_Teller_kept_n, rfl, ?_⟩
  refine ⟨l2, (n : Int), _, rfl, rfl, upd_same, by omega, by omega, by rw [Int.toNat_natCast]; exact szl (by simp; omega), fun D2 hD2 => ?_⟩
  rw [Int.toNat_natCast, rep_flat]
  have S0 := s16.trans (same_new (o := .lst ((List.replicate n 0).map V.int)) hD2)
  have d1 := (same_new (o := .lst ((List.replicate n 0).map V.int)) hD2) _ _ ((same_new (o := .lst [.int 0]) hl2) _ _ (upd_same (H := upd H3 l1 (.lst [.int 0])) (a := D1) (o := .lst ((List.replicate n 0).map V.int))))
  have f1 : H D1 = none := Same.free s14 hD1
  have f2 : H D2 = none := Same.free s16 hD2
  have nD : D1 ≠ D2 := ne_of_none ((same_new (o := .lst [.int 0]) hl2) _ _ (upd_same (H := upd H3 l1 (.lst [.int 0])) (a := D1) (o := .lst ((List.replicate n 0).map V.int)))) hD2
  generalize he0 : upd (upd (upd (upd H3 l1 (.lst [.int 0])) D1 (.lst ((List.replicate n 0).map V.int))) l2 (.lst [.int 0])) D2 (.lst ((List.replicate n 0).map V.int)) = H0 at S0 d1 ⊢
  have d2 : H0 D2 = some (.lst ((List.replicate n 0).map V.int)) := by rw [← he0, upd_same]
  have r1 : ∀ {H2 : Hp} (a : Addr), (a = D1 ∨ a = D2) → ¬ grow R H0 H2 a := fun {H2} a e z => by
    rcases z with z | ⟨z, _⟩
    · obtain ⟨o, q⟩ := hal a z
      rcases e with rfl | rfl
      · rw [f1] at q; cases q
      · rw [f2] at q; cases q
    · rcases e with rfl | rfl
      · rw [d1] at z; cases z
      · rw [d2] at z; cases z
  walk_at "gg"
  refine ⟨⟨_, SqT.of (S0 _ _ hL.1)⟩, for_tup (xs := ns.map nV) (fun i σ H2 => ∃ a6 a7, σ = [some (.ref t), some (.ref pn), some (.ref ph), some (.ref pt), some (.ref D1), some (.ref D2), a6, a7, none] ∧ Fr (CP K) (fun a => Wt t od a ∨ a = D1 ∨ a = D2) H0 H2 ∧
    TellAt K H2 t od n pol (bot : Int) b (ledTo bot b needs things ns n S i).1 (grow R H0 H2) ∧ StepOk n S (ledTo bot b needs things ns n S i) ∧ H2 D1 = some (.lst ((ledTo bot b needs things ns n S i).2.1.map V.int)) ∧ H2 D2 = some (.lst ((ledTo bot b needs things ns n S i).2.2.map V.int)))
    ⟨none, none, rfl, Fr.refl, (TA.same S0).mono fun a h => .inl h, StepOk.zero hS, d1, d2⟩ (fun i σ H2 _ ⟨_, _, _, f2, _⟩ => SqT.of (f2.tp _ _ (S0 _ _ hL.1))) ?_ ?_⟩
  · rintro i x σ H2 hx ⟨a6, a7, rfl, F2, TA2, SO, g1, g2⟩
    obtain ⟨z, hz, rfl⟩ := get_nat hx
    have hzn := hL.2.1 z (List.mem_of_getElem? hz)
    have est := ledTo_step (bot := bot) (b := b) (needs := needs) (things := things) (n := n) (S := S) hz
    generalize hX : ledTo bot b needs things ns n S i = X at *
    obtain ⟨dx2, kd2, kk2, i1, i2, i3, i4, i5⟩ := TA2.ob
    have hpn := F2.tp _ _ (S0 _ _ hN.1)
    have hpt := F2.tp _ _ (S0 _ _ hT.1)
    have hph := F2.tp _ _ (S0 _ _ hL.1)
    walk_at "gg"
    intro fd hfd
    have sf := same_new (o := .dK []) hfd
    walk_at "gg"
    refine ⟨t, _, dx2, _, _, rfl, sf _ _ i1, T.c_Teller, T.n_Teller_kept_beat, rfl, ?_⟩
    walk_at "gg"
    refine ⟨_, _, _, _, rfl, rfl, SqT.of (sf _ _ hpn), at_gi (l := needs) (i := z) (by omega), ?_⟩
    walk_at "gg"
    refine ⟨_, _, _, _, rfl, rfl, SqT.of (sf _ _ hpt), at_gi (l := things) (i := z) (by omega), ?_⟩
    refine ⟨upd_same, [(Sum.inr "beat", .int X.1.beat), (Sum.inr "person", .int (z : Int)), (Sum.inr "need", .int (gi needs z)), (Sum.inr "things", .int (gi things z))], rfl, (show 4 ≤ 15 by decide), ?_⟩
    have npf : ph ≠ fd := ne_of_none hph hfd
    walk_at "gg"
    refine ⟨_, _, rfl, .inr (SqT.of (by rw [upd_ne npf, upd_ne npf]; exact hph)), ?_⟩
    walk_at "gg"
    refine ⟨fd, _, rfl, DPut.k (k := Sum.inr "people") upd_same (szt (by show 4 < 100000; decide)), ?_⟩
    obtain ⟨fc, efc⟩ : ∃ fc, fc = fctOf X.1.beat z needs things ns.length := ⟨_, rfl⟩
    obtain ⟨Hf, eHf⟩ : ∃ Hf, Hf = upd (upd (upd H2 fd (.dK [])) fd (.dK (mergeK [] [(Sum.inr "beat", .int X.1.beat), (Sum.inr "person", .int (z : Int)), (Sum.inr "need", .int (gi needs z)), (Sum.inr "things", .int (gi things z))]))) fd (.dK (putK (mergeK [] [(Sum.inr "beat", .int X.1.beat), (Sum.inr "person", .int (z : Int)), (Sum.inr "need", .int (gi needs z)), (Sum.inr "things", .int (gi things z))]) (Sum.inr "people") (.int (((ns.map nV).length : Nat) : Int)))) := ⟨_, rfl⟩
    rw [← eHf]
    have sff : Same H2 Hf := fun c o e => by
      have cn := ne_of_none e hfd
      rw [eHf, upd_ne cn, upd_ne cn, upd_ne cn]
      exact e
    have hff : Hf fd = some (.dK (factK fc)) := by
      rw [eHf, upd_same, List.length_map, efc]
      rfl
    have Ff := F2.trans (Fr.of_same sff)
    walk_at "gg"
    refine ⟨t, dx2, _, rfl, sff _ _ i1, rfl, ?_⟩
    walk_at "gg"
    refine ⟨t, od, n, z, fd, pol, (bot : Int), b, X.1, grow R H0 Hf, fc, rfl, (TA2.same sff).mono (grow_same sff), hzn, hok, hlev, SO.bd, hn, by rw [efc]; exact fct_in SO.bd.b0 SO.bd.b1 (by omega) hl hN.2 hT.2, hff, fun u H5 F5 TA5 hu5 => ?_⟩
    rw [efc] at TA5 hu5
    have TA5 := TA5.mono (grow_grow Ff F5)
    obtain ⟨oo2, j1, _⟩ := TA2.ow
    have n1t : D1 ≠ t := ne_of g1 i1 (by intro q; cases q)
    have n2t : D2 ≠ t := ne_of g2 i1 (by intro q; cases q)
    have n1o : D1 ≠ od := ne_of g1 j1 (by intro q; cases q)
    have n2o : D2 ≠ od := ne_of g2 j1 (by intro q; cases q)
    have g15 := F5.st _ _ (sff _ _ g1) (by rintro (q | q); exact n1t q; exact n1o q)
    have g25 := F5.st _ _ (sff _ _ g2) (by rintro (q | q); exact n2t q; exact n2o q)
    walk_at "gg"
    refine ⟨D1, _, _, z, rfl, rfl, g15, ix_nat (by rw [List.length_map, SO.l1]; exact hzn), ?_⟩
    have P1 : ∀ o, Fr (CP K) (fun a => a = D1) H5 (upd H5 D1 o) := fun o => Fr.put rfl g15 (fun xs q => by cases q) fun dx fs q => by cases q
    walk_at "gg"
    refine ⟨D2, _, _, z, rfl, rfl, (by rw [upd_ne nD.symm]; exact g25), ix_nat (by rw [List.length_map, SO.l2]; exact hzn), ?_⟩
    have P2 : ∀ o o', Fr (CP K) (fun a => a = D2) (upd H5 D1 o') (upd (upd H5 D1 o') D2 o) := fun o o' => Fr.put rfl (by rw [upd_ne nD.symm]; exact g25) (fun xs q => by cases q) fun dx fs q => by cases q
    refine ⟨rfl, ?_⟩
    refine ⟨_, _, rfl, (((Ff.trans (F5.mono fun a h => .inl h)).trans ((P1 _).mono fun a h => .inr (.inl h))).trans ((P2 _ _).mono fun a h => .inr (.inr h))), ?_, ?_, ?_, ?_⟩
    · rw [est]
      have q1 := P1 (.lst ((X.2.1.map V.int).set z (.int (runOne bot b X.1 z (fctOf X.1.beat z needs things ns.length)).2.1)))
      have q2 := P2 (.lst ((X.2.2.map V.int).set z (.int (runOne bot b X.1 z (fctOf X.1.beat z needs things ns.length)).2.2))) (.lst ((X.2.1.map V.int).set z (.int (runOne bot b X.1 z (fctOf X.1.beat z needs things ns.length)).2.1)))
      have T6 := (TA5.frame q1 fun a e => r1 a (.inl e)).mono (grow_le q1)
      exact (T6.frame q2 fun a e => r1 a (.inr e)).mono (grow_le q2)
    · rw [est]
      exact SO.step hok hzn hn hl hN.2 hT.2
    · rw [est, upd_ne nD, upd_same]
      show _ = some (HO.lst ((X.2.1.set z _).map V.int))
      rw [List.map_set]
    · rw [est, upd_same]
      show _ = some (HO.lst ((X.2.2.set z _).map V.int))
      rw [List.map_set]
  · rintro σ H2 ⟨a6, a7, rfl, F2, TA2, SO, g1, g2⟩
    rw [List.length_map] at TA2 SO g1 g2
    generalize hX : ledTo bot b needs things ns n S ns.length = X at *
    obtain ⟨dx2, kd2, kk2, i1, i2, i3, i4, i5⟩ := TA2.ob
    walk_at "gg"
    refine ⟨t, _, dx2, _, _, rfl, i1, T.c_Teller, T.n_Teller_kept_beat, rfl, ?_⟩
    refine ⟨_, _, rfl, rfl, dx2, _, i1, (show 5 < 1000 by decide), ?_⟩
    obtain ⟨oo2, j1, _⟩ := TA2.ow
    have n1t : D1 ≠ t := ne_of g1 i1 (by intro q; cases q)
    have n2t : D2 ≠ t := ne_of g2 i1 (by intro q; cases q)
    obtain ⟨T4, F4⟩ := TA2.put nPT (bt := X.1.beat + 1) ⟨_, i1⟩ i2 i3 i4 i5
    obtain ⟨dp, q, ws, p1, p2, p3⟩ := T4.po
    have F0 : Fr (CP K) (Wt t od) H (upd H2 t (.ins (He.ga K "Teller") dx2 (tellF n pol (X.1.beat + 1) kd2 od))) := ((Fr.of_same S0).trans' F2 fun a e => by
      rcases e with e | rfl | rfl
      · exact .inl e
      · exact .inr f1
      · exact .inr f2).trans F4
    walk_at "gg"
    refine ⟨t, _, dx2, _, _, rfl, upd_same, T.c_Teller, T.n_Teller_kept_policy, rfl, ?_⟩
    refine ⟨pol, _, dp, _, _, rfl, p1, T.c_Policy, T.n_Policy_bottom, rfl, ?_⟩
    walk_at "gg"
    refine ⟨t, _, dx2, _, _, rfl, upd_same, T.c_Teller, T.n_Teller_kept_n, rfl, ?_⟩
    walk_at "gg"
    refine ⟨n, bot, ph, D1, D2, ns, X.2.1, X.2.2, rfl, hn, hbot, ⟨F0.tp _ _ hL.1, hL.2⟩, hne, hl, (by rw [upd_ne n1t]; exact g1), (by rw [upd_ne n2t]; exact g2), SO.l1, SO.l2, fun v H5 s5 hv5 => ?_⟩
    refine ⟨szr, fun u hu5 => ?_⟩
    have s6 := s5.trans (same_new (o := .tup [.int (bot : Int), .ref v]) hu5)
    refine k u v _ (F0.trans (Fr.of_same s6)) ?_ upd_same ((same_new hu5) _ _ ?_)
    · have ea : aft bot b needs things ns n S = { X.1 with beat := X.1.beat + 1, kp := X.1.kp } := by
        unfold aft
        rw [hX, SO.bt]
      rw [ea]
      exact (T4.same s6).mono fun a h => grow_base (Fr.of_same (C := CP K) (S := fun _ => False) S0) a (grow_same s6 a (grow_le F4 a h))
    · unfold toldP
      rw [hX]
      exact hv5
end
end K6
set_option maxHeartbeats 4000000
/-! Tellers turned, copied, asked. -/
namespace K6
open PySem PySem.Spec PyProof.Rows L2 RZ
local macro_rules | `(tactic| walk_at "gg") => `(tactic| repeat first
  | refine ⟨_, rfl, ?_⟩ | refine ⟨_, _, rfl, rfl, ?_⟩ | refine ⟨rfl, ?_⟩ | refine iteT ?_ | refine iteF ?_
  | refine ⟨_, _, _, _, rfl, rfl, SqT.of (by assumption), rfl, ?_⟩
  | refine ⟨_, _, _, _, rfl, rfl, SqT.of (by assumption), at0, ?_⟩
  | refine ⟨_, _, _, _, rfl, rfl, SqL.of (by assumption), rfl, ?_⟩
  | refine ⟨_, _, rfl, .inr (SqT.of (by assumption)), ?_⟩
  | refine ⟨_, _, rfl, .inl (SqL.of (by assumption)), ?_⟩
  | refine ⟨_, _, rfl, .inr (SqT.of upd_same), rfl, rfl, ?_⟩
  | refine ⟨_, _, rfl, .inr (Txt.q_HOLDERS (by assumption) _), rfl, rfl, ?_⟩
  | refine ⟨_, _, rfl, .inr (Txt.q_GIVERS (by assumption) _), rfl, rfl, ?_⟩
  | refine ⟨_, _, rfl, .inr (Txt.q_FACTS (by assumption) _), rfl, rfl, ?_⟩
  | refine ⟨_, _, rfl, .inr (Txt.q_SIGNS (by assumption) _), rfl, rfl, ?_⟩
  | refine ⟨_, _, rfl, SqT.of upd_same, rfl, ?_⟩
  | refine ⟨_, _, rfl, SqT.of (by assumption), rfl, ?_⟩
  | refine ⟨_, _, rfl, ?_⟩
  | refine .inl ⟨_, rfl, ?_⟩
  | refine .inr ⟨_, rfl, ?_⟩
  | refine ⟨(by show (0 : Int) < _; decide), ?_⟩
  | refine ⟨.inr ⟨by decide, by decide⟩, ?_⟩
  | refine ⟨.inl ⟨by decide, by decide⟩, ?_⟩
  | refine ⟨⟨by decide, by decide⟩, ?_⟩
  | refine ⟨⟨by decide, by decide, by decide⟩, ?_⟩)
def sp_kept (K : PySem.W.Frag) : Sp := fun vs H Q _ => ∃ t od n pol bot b S R, vs = [.ref t] ∧ TellAt K H t od n pol bot b S R ∧ ∀ p kk H', Same H H' → H p = none → H' p = some (.dK kk) → NzOk kk S.kp → Q (.ref p) H'
def sp_owned (K : PySem.W.Frag) : Sp := fun vs H Q _ => ∃ t od, ∃ n i : Nat, ∃ pol bot b S R, vs = [.ref t, .int (i : Int)] ∧ TellAt K H t od n pol bot b S R ∧ i < n ∧ ∀ p kk H', Same H H' → H p = none → H' p = some (.dK kk) → NzOk kk (S.ow i) → Q (.ref p) H'
def sp_turned (K : PySem.W.Frag) : Sp := fun vs H Q _ => ∃ t od, ∃ n : Nat, ∃ pol bot b S R pol2 bot2 b2, vs = [.ref t, .ref pol2] ∧ TellAt K H t od n pol bot b S R ∧ 1 ≤ n ∧ n ≤ 12 ∧ PolIn (CP K) H pol2 bot2 b2 ∧
  ∀ t2 od2 H', Same H H' → H t2 = none → H od2 = none → TellAt K H' t2 od2 n pol2 bot2 b2 S (grow (fun _ => False) H H') → Q (.ref t2) H'
def sp_copy (K : PySem.W.Frag) : Sp := fun vs H Q _ => ∃ t od, ∃ n : Nat, ∃ pol bot b S R, vs = [.ref t] ∧ TellAt K H t od n pol bot b S R ∧ 1 ≤ n ∧ n ≤ 12 ∧
  ∀ t2 od2 H', Same H H' → H t2 = none → H od2 = none → TellAt K H' t2 od2 n pol bot b S (grow (fun _ => False) H H') → Q (.ref t2) H'
section
variable {P : Program} {w : World} {K : PySem.W.Frag} {mg : Str → Option Value} {base : Heap}
theorem ok_Teller_kept (T : Txt K mg) : FnOk P w K mg base CX0 1 (a_Teller_kept K) (fdOf K (a_Teller_kept K)) ["self"] (sp_kept K) := by
  refine T.F_Teller_kept.ok sc_Teller_kept (fun vs H Q E h => ?_) (fun cdv A outer s H vs Q E hr h => ?_)
  · obtain ⟨t, od, n, pol, bot, b, S, R, rfl, _⟩ := h
    rfl
  obtain ⟨t, od, n, pol, bot, b, S, R, rfl, TA, k⟩ := h
  refine ⟨_, PSs.nox (pss_one (ps_ret (pe_callTy call_dictD (by rfl) T.z_dict (by decide +kernel) (pa_cons (pe_fld (pv 0) rfl) pa_nil)))), ?_⟩
  obtain ⟨dx, kd, kk, h1, h2, h3, h4, h5⟩ := TA.ob
  walk_at "gg"
  refine ⟨t, _, dx, _, _, rfl, h1, T.c_Teller, T.n_Teller_kept_keep, rfl, ?_⟩
  walk_at "gg"
  exact ⟨kd, kk, rfl, .inl h2, fun p hp => k p kk _ (same_new hp) hp upd_same h3⟩
theorem OwnAt.get {H : Hp} {od : Addr} {n i : Nat} {ow : Nat → Nm → Int} {R : Addr → Prop} {oo : List (Key × V)} (h4 : ∀ p ∈ oo, ∃ (i : Nat) (x : Addr) (kx : List (Key × V)), p = (Sum.inl (i : Int), V.ref x) ∧ i < n ∧ x ≠ od ∧ R x ∧ H x = some (.dK kx) ∧ NzOk kx (ow i))
    (h5 : ∀ i, i < n → valV oo (Sum.inl (i : Int) : Key) = none → ∀ m, ow i m = 0) (hi : i < n) {e : Addr} (he : H e = none) :
    ∃ x kx, (valV oo (Sum.inl (i : Int) : Key)).getD (.ref e) = .ref x ∧ upd H e (.dK []) x = some (.dK kx) ∧ NzOk kx (ow i) := by
  cases ev : valV oo (Sum.inl (i : Int) : Key) with
  | none =>
    have z : ow i = fun _ => 0 := funext fun m => h5 i hi ev m
    exact ⟨e, [], rfl, upd_same, by rw [z]; exact ⟨NmOk.nil, fun p h => nomatch h⟩⟩
  | some v =>
    obtain ⟨j, x, kx, e1, _, _, _, e4, e5⟩ := h4 _ (valV_mem ev)
    injection e1 with e1 e2
    injection e1 with e1
    obtain rfl : i = j := by omega
    exact ⟨x, kx, e2, (same_new he) _ _ e4, e5⟩
theorem ok_Teller_owned (T : Txt K mg) : FnOk P w K mg base CX0 3 (a_Teller_owned K) (fdOf K (a_Teller_owned K)) ["self", "person"] (sp_owned K) := by
  have G_is_within := ok_is_within (P := P) (w := w) (base := base) T
  refine T.F_Teller_owned.ok sc_Teller_owned (fun vs H Q E h => ?_) (fun cdv A outer s H vs Q E hr h => ?_)
  · obtain ⟨t, od, n, i, pol, bot, b, S, R, rfl, _⟩ := h
    rfl
  obtain ⟨t, od, n, i, pol, bot, b, S, R, rfl, TA, hi, k⟩ := h
  have hu := hu_of hr
  refine ⟨_, PSs.nox (pss_cons (ps_if (pt_not (pt_val (pe_call G_is_within (hr.mono (by decide)) rfl T.g_is_within T.F_is_within.kp T.b_is_within .nil pass0 (pa_cons (pv 1) (pa_cons pe_int (pa_cons (pe_op op_sub (pe_fld (pv 0) rfl) pe_int) pa_nil))))))
    (pss_one ps_never)
    pss_nil)
    (pss_one (ps_ret (pe_callTy call_dictD (by rfl) T.z_dict (by decide +kernel) (pa_cons (pe_dget2 hu (pe_fld (pv 0) rfl) (pv 1) pe_dnewK ⟨rfl, rfl, rfl, rfl⟩) pa_nil))))), ?_⟩
  obtain ⟨dx, kd, kk, h1, h2, h3, h4, h5⟩ := TA.ob
  obtain ⟨oo, o1, o2, o3, o4, o5⟩ := TA.ow
  walk_at "gg"
  refine ⟨t, _, dx, _, _, rfl, h1, T.c_Teller, T.n_Teller_kept_n, rfl, ?_⟩
  walk_at "gg"
  refine ⟨(i : Int), 0, (n : Int) - 1, rfl, ?_⟩
  walk_at "gg"
  refine ifF (by rw [decide_eq_true (show (0 : Int) ≤ (i : Int) by omega), decide_eq_true (show (i : Int) ≤ (n : Int) - 1 by omega)]; rfl) ?_
  walk_at "gg"
  refine ⟨t, _, dx, _, _, rfl, h1, T.c_Teller, T.n_Teller_kept_own, rfl, ?_⟩
  refine ⟨_, rfl, isd o1, ?_⟩
  walk_at "gg"
  intro e he
  refine ⟨_, DGet.k (k := Sum.inl (i : Int)) ((same_new he) _ _ o1), ?_⟩
  obtain ⟨x, kx, ex, hx, hxn⟩ := OwnAt.get o4 o5 hi he
  rw [ex]
  walk_at "gg"
  exact ⟨x, kx, rfl, .inl hx, fun p hp => k p kx _ ((same_new he).trans (same_new hp)) (Same.free (same_new he) hp) upd_same hxn⟩
theorem ok_Teller_turned (T : Txt K mg) : FnOk P w K mg base CX0 6 (a_Teller_turned K) (fdOf K (a_Teller_turned K)) ["self", "policy"] (sp_turned K) := by
  have G_check_policy := ok_check_policy (P := P) (w := w) (base := base) T
  have G_Teller_init := ok_Teller_init (P := P) (w := w) (base := base) T
  refine T.F_Teller_turned.ok sc_Teller_turned (fun vs H Q E h => ?_) (fun cdv A outer s H vs Q E hr h => ?_)
  · obtain ⟨t, od, n, pol, bot, b, S, R, pol2, bot2, b2, rfl, _⟩ := h
    rfl
  obtain ⟨t, od, n, pol, bot, b, S, R, pol2, bot2, b2, rfl, TA, hn1, hn2, PI, k⟩ := h
  have hu := hu_of hr
  have nPT : CP K ≠ He.ga K "Teller" := of_decide_eq_true T.ne_PT
  refine ⟨_, PSs.nox (pss_cons (ps_expr (pe_call G_check_policy (hr.mono (by decide)) rfl T.g_check_policy T.F_check_policy.kp T.b_check_policy .nil pass0 (pa_cons (pv 1) pa_nil)))
    (pss_cons (ps_set (i := 2) sc_Teller_turned.nd rfl (Or.inl rfl) (pe_make T.k_Teller G_Teller_init (hr.mono (by decide)) rfl T.g_Teller T.b_Teller_init .nil pass0 (pa_cons (pe_fld (pv 0) rfl) (pa_cons (pv 1) pa_nil))))
    (pss_cons (ps_fld (pv 2) (pe_fld (pv 0) rfl) rfl)
    (pss_cons (ps_fld (pv 2) (pe_callTy call_dictD (by rfl) T.z_dict (by decide +kernel) (pa_cons (pe_fld (pv 0) rfl) pa_nil)) rfl)
    (pss_cons (ps_fld (pv 2) (pe_lock (pe_dc (own := [("person", 3), ("numbers", 4)]) (g := (gTup K 2 (gCons (gName 3) (gCons (gName 4) gNil)))) rfl sc_Teller_turned.nd (pi_items (pe_fld (pv 0) rfl)) (blkOk_by (own := [("person", 3), ("numbers", 4)]) (N := ["self", "policy", "found", "person", "numbers"]) (sc := defScope s_Teller_turned) (by decide +kernel)) (fun _ _ _ _ _ => by exact (pg_tup rfl (pgs_cons (pg_name (i := 3) sc_Teller_turned.nd rfl (Or.inl rfl)) (pgs_cons (pg_name (i := 4) sc_Teller_turned.nd rfl (Or.inl rfl)) pgs_nil)))) (fun _ _ _ _ _ => pts_nil) (fun _ _ _ _ _ => (pv 3)) (fun _ _ _ _ _ => (pe_callTy call_dictD (by rfl) T.z_dict (by decide +kernel) (pa_cons (pv 4) pa_nil))))) rfl)
    (pss_one (ps_ret (pv 2)))))))), ?_⟩
  obtain ⟨dx, kd, kk, h1, h2, h3, h4, h5⟩ := TA.ob
  obtain ⟨oo, o1, o2, o3, o4, o5⟩ := TA.ow
  obtain ⟨dp, q, ws, p1, p2, p3⟩ := PI
  walk_at "gg"
  refine ⟨pol2, dp, _, rfl, p1, ?_⟩
  walk_at "gg"
  refine ⟨t, _, dx, _, _, rfl, h1, T.c_Teller, T.n_Teller_kept_n, rfl, ?_⟩
  walk_at "gg"
  intro t2 d2 ht2 hd2 nt2
  have sb : Same H (upd (upd H d2 (.own t2)) t2 (.ins (He.ga K "Teller") d2 [])) := (same_new hd2).trans (same_new (by rw [upd_ne nt2.symm]; exact ht2))
  refine ⟨t2, d2, n, pol2, dp, _, rfl, upd_same, hn1, hn2, sb _ _ p1, fun kd2 od2 H1 k1 n1 n2 n3 e1 e2 e3 => ⟨rfl, ?_⟩⟩
  have s1 : Same H H1 := fun c o z => k1 c o (sb _ _ z) (ne_of_none z ht2)
  walk_at "gg"
  refine ⟨t, _, dx, _, _, rfl, s1 _ _ h1, T.c_Teller, T.n_Teller_kept_beat, rfl, ?_⟩
  walk_at "gg"
  refine ⟨t2, _, d2, _, rfl, e1, T.c_Teller, T.n_Teller_kept_beat, (show 5 < 1000 by decide), ?_⟩
  have s2 : Same H (upd H1 t2 (.ins (He.ga K "Teller") d2 (tellF n pol2 S.beat kd2 od2))) := same_put s1 ht2
  walk_at "gg"
  refine ⟨t, _, dx, _, _, rfl, s2 _ _ h1, T.c_Teller, T.n_Teller_kept_keep, rfl, ?_⟩
  walk_at "gg"
  refine ⟨kd, kk, rfl, .inl (s2 _ _ h2), fun k2 hk2 => ?_⟩
  have nk2 := Same.free s2 hk2
  obtain ⟨kt, hk3⟩ := free_unlock hk2
  walk_at "gg"
  refine ⟨t2, _, d2, tellF n pol2 S.beat kd2 od2, rfl, (by rw [upd_ne kt.symm]; exact upd_same), T.c_Teller, T.n_Teller_kept_keep, (show 5 < 1000 by decide), ?_⟩
  have s3 : Same H (upd (upd (upd H1 t2 (.ins (He.ga K "Teller") d2 (tellF n pol2 S.beat kd2 od2))) k2 (.dK kk)) t2 (.ins (He.ga K "Teller") d2 (tellF n pol2 S.beat k2 od2))) := same_put (s2.trans (same_new hk2)) ht2
  have g1 : upd (upd (upd H1 t2 (.ins (He.ga K "Teller") d2 (tellF n pol2 S.beat kd2 od2))) k2 (.dK kk)) t2 (.ins (He.ga K "Teller") d2 (tellF n pol2 S.beat k2 od2)) t2 = some (.ins (He.ga K "Teller") d2 (tellF n pol2 S.beat k2 od2)) := upd_same
  have g2 : upd (upd (upd H1 t2 (.ins (He.ga K "Teller") d2 (tellF n pol2 S.beat kd2 od2))) k2 (.dK kk)) t2 (.ins (He.ga K "Teller") d2 (tellF n pol2 S.beat k2 od2)) k2 = some (.dK kk) := by rw [upd_ne kt, upd_same]
  walk_at "gg"
  refine ⟨od, _, s3 _ _ o1, trivial, fun ox => ?_⟩
  walk_at "gg"
  rw [put_beat, put_keep]
  generalize hH3 : upd (upd (upd H1 t2 (.ins (He.ga K "Teller") d2 (tellF n pol2 S.beat kd2 od2))) k2 (.dK kk)) t2 (.ins (He.ga K "Teller") d2 (tellF n pol2 S.beat k2 od2)) = H3 at s3 g1 g2 ⊢
  have ot : od ≠ t := ne_of o1 h1 (by intro z; cases z)
  refine ⟨t, _, dx, _, _, rfl, (by rw [upd_ne ot.symm]; exact s3 _ _ h1), T.c_Teller, T.n_Teller_kept_own, rfl, ?_⟩
  refine ⟨od, ox, oo, rfl, upd_same, fun D hD => ?_⟩
  obtain ⟨nD, fD⟩ := free_unlock hD
  have fDH := Same.free s3 fD
  have ool : oo.length ≤ n := own_len o3 fun p hp => by
    obtain ⟨i, x, kx, e, hi, _⟩ := o4 p hp
    exact ⟨i, by rw [e], hi⟩
  refine dc_it walk_items (fun i H4 => i ≤ oo.length ∧ Same (upd H3 od (.frz ox (.dK oo))) H4 ∧ ∃ oz : List (Key × V), H4 D = some (.dK oz) ∧ oz.map (·.1) = (oo.take i).map (·.1) ∧
    ∀ p ∈ oz, ∃ (i : Nat) (x : Addr) (kx : List (Key × V)), p = (Sum.inl (i : Int), V.ref x) ∧ i < n ∧ x ≠ D ∧ H3 x = none ∧ H4 x = some (.dK kx) ∧ NzOk kx (S.ow i)) ⟨Nat.zero_le _, same_new hD, [], upd_same, rfl, fun p hp => nomatch hp⟩ (fun i H4 _ q => q.2.1 _ _ upd_same) ?_ ?_
  · rintro i x H4 H5 hi ⟨_, s4, oz, hat, ek, hel⟩ ⟨u, y, z, rfl, hu4, rfl, ey, ez⟩
    have s5 := s4.trans (same_new (o := .tup [y, z]) hu4)
    obtain ⟨pr, hpr⟩ : ∃ p, oo[i]? = some p := ⟨oo[i], List.getElem?_eq_getElem hi⟩
    have ey : (oo[i]?.map fun kv => kV kv.1) = some y := ey
    have ez : oo[i]?.map Prod.snd = some z := ez
    rw [hpr] at ey ez
    cases ey
    cases ez
    obtain ⟨j, x, kx, rfl, hj, xo, rx, hx, hkx⟩ := o4 pr (List.mem_of_getElem? hpr)
    have tk : oo.take (i + 1) = oo.take i ++ [(Sum.inl (j : Int), V.ref x)] := by
      rw [List.take_add_one, hpr]
      rfl
    have hx5 : upd H4 u (.tup [kV (Sum.inl (j : Int)), V.ref x]) x = some (.dK kx) := s5 _ _ (by rw [upd_ne xo]; exact s3 _ _ hx)
    have hat5 : upd H4 u (.tup [kV (Sum.inl (j : Int)), V.ref x]) D = some (.dK oz) := (same_new hu4) _ _ hat
    walk_at "gg"
    refine ⟨x, kx, rfl, .inl hx5, fun y hy => ?_⟩
    have sy := same_new (o := .dK kx) hy
    have yD : y ≠ D := (ne_of_none hat5 hy).symm
    have nov : valV oz (Sum.inl (j : Int) : Key) = none := by
      cases e : valV oz (Sum.inl (j : Int) : Key) with
      | none => rfl
      | some v =>
        have m := valV_in e
        have n1 : ((oo.take (i + 1)).map (·.1)).Nodup := o3.sublist ((List.take_sublist _ _).map _)
        rw [tk, List.map_append] at n1
        rw [ek] at m
        exact absurd rfl ((List.nodup_append.mp n1).2.2 _ m _ (by simp))
    have eput := putK_new (V.ref y) nov
    have ozl : oz.length ≤ i := by
      have := congrArg List.length ek
      rw [List.length_map, List.length_map] at this
      have q2 := List.length_take_le i oo
      omega
    refine ⟨oz, Sum.inl (j : Int), rfl, sy _ _ hat5, szt (by omega), hi, ?_, putK oz (Sum.inl (j : Int)) (.ref y), upd_same, ?_, fun p hp => ?_⟩
    · intro b o e
      rw [upd_ne (fun z => by rw [z, hD] at e; cases e)]
      exact sy _ _ (s5 _ _ e)
    · rw [eput, tk, List.map_append, List.map_append, ek]
      rfl
    · rw [eput] at hp
      rcases List.mem_append.mp hp with hp | hp
      · obtain ⟨j', x', kx', e1', e2', e3', e4', e5', e6'⟩ := hel p hp
        exact ⟨j', x', kx', e1', e2', e3', e4', by rw [upd_ne e3']; exact sy _ _ ((same_new hu4) _ _ e5'), e6'⟩
      · have y3 : H3 y = none := by
          have q := Same.free s5 hy
          exact (free_unlock q).2
        exact ⟨j, y, kx, List.mem_singleton.mp hp, hj, yD, y3, by rw [upd_ne yD]; exact upd_same, hkx⟩
  · rintro H4 ⟨_, s4, oz, hat, ek, hel⟩
    rw [List.take_length] at ek
    have s5 := same_unlock (s3 _ _ o1) s4
    have S5 := s3.trans s5
    refine ⟨s4 _ _ upd_same, ?_⟩
    walk_at "gg"
    refine ⟨t2, _, d2, _, rfl, s5 _ _ g1, T.c_Teller, T.n_Teller_kept_own, (show 5 < 1000 by decide), ?_⟩
    have hatD : upd H4 od (.dK oo) D = some (.dK oz) := by rw [upd_ne nD]; exact hat
    have Dt : D ≠ t2 := fun z => by rw [z, g1] at fD; cases fD
    have kD : k2 ≠ D := ne_of_none g2 fD
    walk_at "gg"
    have gr : ∀ a o, H a = none → a ≠ t2 → upd H4 od (.dK oo) a = some o → grow (fun _ => False) H (upd (upd H4 od (.dK oo)) t2 (.ins (He.ga K "Teller") d2 (tellF n pol2 S.beat k2 D))) a := fun a o e1 e2 e3 => .inr ⟨e1, o, by rw [upd_ne e2]; exact e3⟩
    refine k t2 D _ (same_put S5 ht2) ht2 fDH ⟨⟨d2, k2, kk, upd_same, by rw [upd_ne kt]; exact s5 _ _ g2, h3, gr _ _ nk2 kt (s5 _ _ g2), kD⟩, ⟨oz, by rw [upd_ne Dt]; exact hatD, gr _ _ fDH Dt hatD, by rw [ek]; exact o3, fun p hp => ?_, fun i hi e m => o5 i hi ?_ m⟩, ⟨dp, q, ws, (same_put S5 ht2) _ _ p1, (same_put S5 ht2) _ _ p2, p3.mono (same_tp (same_put S5 ht2))⟩, .inr ⟨ht2, _, upd_same⟩⟩
    · obtain ⟨j, x, kx, e1', hj, xD, x3, hx, hkx⟩ := hel p hp
      have xt : x ≠ t2 := fun z => by rw [z, g1] at x3; cases x3
      have xo : x ≠ od := fun z => by rw [z, s3 _ _ o1] at x3; cases x3
      have hx5 : upd H4 od (.dK oo) x = some (.dK kx) := by rw [upd_ne xo]; exact hx
      exact ⟨j, x, kx, e1', hj, xD, gr _ _ (Same.free s3 x3) xt hx5, by rw [upd_ne xt]; exact hx5, hkx⟩
    · cases e2 : valV oo (Sum.inl (i : Int) : Key) with
      | none => rfl
      | some v =>
        have m := valV_in e2
        rw [← ek] at m
        exact absurd m (valV_not e)
theorem ok_Teller_copy (T : Txt K mg) : FnOk P w K mg base CX0 7 (a_Teller_copy K) (fdOf K (a_Teller_copy K)) ["self"] (sp_copy K) := by
  have G_Teller_turned := ok_Teller_turned (P := P) (w := w) (base := base) T
  refine T.F_Teller_copy.ok sc_Teller_copy (fun vs H Q E h => ?_) (fun cdv A outer s H vs Q E hr h => ?_)
  · obtain ⟨t, od, n, pol, bot, b, S, R, rfl, _⟩ := h
    rfl
  obtain ⟨t, od, n, pol, bot, b, S, R, rfl, TA, hn1, hn2, k⟩ := h
  refine ⟨_, PSs.nox (pss_one (ps_ret (pe_meth (pv 0) T.c_Teller T.m_Teller_turned G_Teller_turned (hr.mono (by decide)) T.b_Teller_turned .nil pass0 (pa_cons (pe_fld (pv 0) rfl) pa_nil)))), ?_⟩
  obtain ⟨dx, kd, kk, h1, h2, h3, h4, h5⟩ := TA.ob
  walk_at "gg"
  refine ⟨t, dx, _, rfl, h1, rfl, ?_⟩
  walk_at "gg"
  refine ⟨t, _, dx, _, _, rfl, h1, T.c_Teller, T.n_Teller_kept_policy, rfl, ?_⟩
  exact ⟨t, od, n, pol, bot, b, S, R, pol, bot, b, rfl, TA, hn1, hn2, TA.po, k⟩
end
end K6
set_option maxHeartbeats 4000000
/-! The law's own running: values. -/
namespace K6
open PySem PySem.Spec PyProof.Rows L2 RZ
local macro_rules | `(tactic| walk_at "gg") => `(tactic| repeat first
  | refine ⟨_, rfl, ?_⟩ | refine ⟨_, _, rfl, rfl, ?_⟩ | refine ⟨rfl, ?_⟩ | refine iteT ?_ | refine iteF ?_
  | refine ⟨_, _, _, _, rfl, rfl, SqT.of (by assumption), rfl, ?_⟩
  | refine ⟨_, _, _, _, rfl, rfl, SqT.of (by assumption), at0, ?_⟩
  | refine ⟨_, _, _, _, rfl, rfl, SqL.of (by assumption), rfl, ?_⟩
  | refine ⟨_, _, rfl, .inr (SqT.of (by assumption)), ?_⟩
  | refine ⟨_, _, rfl, .inl (SqL.of (by assumption)), ?_⟩
  | refine ⟨_, _, rfl, .inr (SqT.of upd_same), rfl, rfl, ?_⟩
  | refine ⟨_, _, rfl, .inr (Txt.q_HOLDERS (by assumption) _), rfl, rfl, ?_⟩
  | refine ⟨_, _, rfl, .inr (Txt.q_GIVERS (by assumption) _), rfl, rfl, ?_⟩
  | refine ⟨_, _, rfl, .inr (Txt.q_FACTS (by assumption) _), rfl, rfl, ?_⟩
  | refine ⟨_, _, rfl, .inr (Txt.q_SIGNS (by assumption) _), rfl, rfl, ?_⟩
  | refine ⟨_, _, rfl, SqT.of upd_same, rfl, ?_⟩
  | refine ⟨_, _, rfl, SqT.of (by assumption), rfl, ?_⟩
  | refine ⟨_, _, rfl, ?_⟩
  | refine .inl ⟨_, rfl, ?_⟩
  | refine .inr ⟨_, rfl, ?_⟩
  | refine ⟨(by show (0 : Int) < _; decide), ?_⟩
  | refine ⟨.inr ⟨by decide, by decide⟩, ?_⟩
  | refine ⟨.inl ⟨by decide, by decide⟩, ?_⟩
  | refine ⟨⟨by decide, by decide⟩, ?_⟩
  | refine ⟨⟨by decide, by decide, by decide⟩, ?_⟩)
local macro_rules | `(tactic| walk_at "nt") => `(tactic| refine ⟨szr, fun _ _ => ?_⟩)
local macro_rules | `(tactic| walk_at "sm") => `(tactic| repeat (first | exact Same.refl _ | assumption | refine Same.trans ?_ (same_new (by assumption))))
def optI : Option Int → V
  | none => .non
  | some z => .int z
def bookK (fa : Addr) (dd : Hd → Addr) (w c : Int) : List (Key × V) := [(Sum.inr "facts", .ref fa), (Sum.inr "let", .ref (dd .lt)), (Sum.inr "keep", .ref (dd .kp)), (Sum.inr "own", .ref (dd .ow)), (Sum.inr "weight", .int w), (Sum.inr "cap", .int c)]
structure BookAt (H : Hp) (bk fa : Addr) (dd : Hd → Addr) (E : Env) : Prop where
  ob : H bk = some (.dK (bookK fa dd E.w E.c))
  hf : H fa = some (.dK (factK E.facts))
  dk : ∀ h, ∃ kvs, H (dd h) = some (.dK kvs) ∧ NmOk kvs (E.nums h)
  inj : ∀ h h', dd h = dd h' → h = h'
  nf : ∀ h, dd h ≠ fa
  nb : ∀ h, dd h ≠ bk
  fb : fa ≠ bk
theorem BookAt.same {H H' : Hp} {bk fa : Addr} {dd : Hd → Addr} {E : Env} (h : BookAt H bk fa dd E) (s : Same H H') : BookAt H' bk fa dd E :=
  { h with ob := s _ _ h.ob, hf := s _ _ h.hf, dk := fun d => let ⟨kvs, h1, h2⟩ := h.dk d; ⟨kvs, s _ _ h1, h2⟩ }
theorem bookK_get (fa : Addr) (dd : Hd → Addr) (w c : Int) (h : Hd) : valV (bookK fa dd w c) (Sum.inr h.str : Key) = some (.ref (dd h)) := by
  cases h <;> rfl
theorem bnd_le {z : Int} (h : decide ((if z < 0 then -z else z) ≤ 10 ^ 18) = true) : bnd z = some z := by
  have h := of_decide_eq_true h
  have e : (10 : Int) ^ 18 = 1000000000000000000 := by decide
  rw [e] at h
  refine if_pos ⟨?_, ?_⟩
  · show -1000000000000000000 ≤ z
    split at h <;> omega
  · show z ≤ 1000000000000000000
    split at h <;> omega
theorem bnd_gt {z : Int} (h : decide ((if z < 0 then -z else z) ≤ 10 ^ 18) = false) : bnd z = none := by
  have h := of_decide_eq_false h
  have e : (10 : Int) ^ 18 = 1000000000000000000 := by decide
  rw [e] at h
  refine if_neg fun ⟨h1, h2⟩ => ?_
  have h1 : -1000000000000000000 ≤ z := h1
  have h2 : z ≤ 1000000000000000000 := h2
  split at h <;> omega
def sp_law_value (n : Nat) : Sp := fun vs H Q _ => ∃ bk fa dd E v e, vs = [.ref bk, v] ∧ BookAt H bk fa dd E ∧ ExAt H v e ∧ e.depth ≤ n ∧ e.bd ∧ E.bd ∧ ∀ H', Same H H' → Q (optI (e.ev E)) H'
section
variable {P : Program} {w : World} {K : PySem.W.Frag} {mg : Str → Option Value} {base : Heap}
theorem ok__law_value (T : Txt K mg) : ∀ n : Nat, FnOk P w K mg base CX0 n (a__law_value K) (fdOf K (a__law_value K)) ["_law_book", "_law_thing"] (sp_law_value n)
  | 0 => FnOk.vac fun vs H Q E h => by
    obtain ⟨bk, fa, dd, E, v, e, _, _, _, h0, _⟩ := h
    have := e.depth_pos
    omega
  | n + 1 => by
    have G__law_value := ok__law_value T n
    refine T.F__law_value.ok sc__law_value (fun vs H Q E h => ?_) (fun cdv A outer s H vs Q E hr h => ?_)
    · obtain ⟨bk, fa, dd, E, v, e, rfl, _⟩ := h
      rfl
    obtain ⟨bk, fa, dd, E, v, e, rfl, B, he, hd, hb, hE, k⟩ := h
    have hu := hu_of hr
    refine ⟨_, PSs.nox (pss_cons (ps_set (i := 2) sc__law_value.nd rfl (Or.inl rfl) (pe_ix ix_tup (pv 1) pe_int (fun _ _ => rfl)))
    (pss_cons (ps_if (pt_cmpR op_eq (pv 2) pe_str (nomark _))
    (pss_one (ps_ret (pe_ix ix_tup (pv 1) pe_int (fun _ _ => rfl))))
    pss_nil)
    (pss_cons (ps_if (pt_cmpR op_eq (pv 2) pe_str (nomark _))
    (pss_one (ps_ret (pe_dget hu (pe_dget hu (pv 0) pe_str (fun _ _ => rfl)) (pe_ix ix_tup (pv 1) pe_int (fun _ _ => rfl)) (fun _ _ => rfl))))
    pss_nil)
    (pss_cons (ps_if (pt_cmpR op_in_seq (pv 2) (pe_tup (pa_cons pe_str (pa_cons pe_str (pa_cons pe_str pa_nil)))) (by rfl))
    (pss_one (ps_ret (pe_dget2 hu (pe_dget hu (pv 0) (pv 2) (fun _ _ => rfl)) (pe_ix ix_tup (pv 1) pe_int (fun _ _ => rfl)) pe_int ⟨rfl, rfl, rfl, rfl⟩)))
    pss_nil)
    (pss_cons (ps_setLc (i := 4) (own := [("_law_one", 3)]) rfl sc__law_value.nd rfl rfl (sw_true rfl rfl rfl (by decide +kernel)) (pi_tup (pe_slice sl_tupA (pv 1) (po_some pe_int) po_none)) (blkOk_by (own := [("_law_one", 3)]) (N := ["_law_book", "_law_thing", "_law_word", "_law_one", "_law_values", "_law_other", "_law_found"]) (sc := defScope s__law_value) (by decide +kernel)) (fun _ _ _ _ _ => (pg_name (i := 3) sc__law_value.nd rfl (Or.inl rfl))) (fun _ _ _ _ _ => pts_nil) (fun _ _ _ _ _ => (pe_call G__law_value (hr.mono (by omega)) rfl T.g__law_value T.F__law_value.kp T.b__law_value .nil pass0 (pa_cons (pv 0) (pa_cons (pv 3) pa_nil)))))
    (pss_cons (ps_if (pt_cmpR op_in_seq pe_non (pv 4) (by rfl))
    (pss_one (ps_ret pe_non))
    pss_nil)
    (pss_cons (ps_if (pt_cmpR op_eq (pv 2) pe_str (nomark _))
    (pss_one (ps_ret (pe_callTy call_int1 (by rfl) T.z_int (by decide +kernel) (pa_cons (pe_cmpR op_eq (pe_ix ix_list (pv 4) pe_int (fun _ _ => rfl)) pe_int (nomark _)) pa_nil))))
    pss_nil)
    (pss_cons (ps_asg (pv 4) (pg_unl rfl (pgs_cons (pg_name (i := 3) sc__law_value.nd rfl (Or.inl rfl)) (pgs_cons (pg_name (i := 5) sc__law_value.nd rfl (Or.inl rfl)) pgs_nil))))
    (C8.pss_cut (ps_if (PW.pt (pw_and (pt_cmpR op_in_seq (pv 2) (pe_tup (pa_cons pe_str (pa_cons pe_str pa_nil))) (by rfl)) (pw_and1 (pt_cmpR op_eq (pv 5) pe_int (nomark _)))))
    (pss_one (ps_ret pe_non))
    pss_nil)
    (C8.pss_cut (ps_if (pt_cmpR op_eq (pv 2) pe_str (nomark _))
    (pss_one (ps_set (i := 6) sc__law_value.nd rfl (Or.inl rfl) (pe_op op_fdivP (pv 3) (pv 5))))
    (pss_one (ps_if (pt_cmpR op_eq (pv 2) pe_str (nomark _))
    (pss_one (ps_set (i := 6) sc__law_value.nd rfl (Or.inl rfl) (pe_op op_modN (pe_callTy call_int1 (by rfl) T.z_int (by decide +kernel) (pa_cons (pv 3) pa_nil)) (pe_callTy call_int1 (by rfl) T.z_int (by decide +kernel) (pa_cons (pv 5) pa_nil)))))
    (pss_one (ps_if (pt_cmpR op_in_seq (pv 2) (pe_tup (pa_cons pe_str (pa_cons pe_str (pa_cons pe_str pa_nil)))) (by rfl))
    (pss_one (ps_set (i := 6) sc__law_value.nd rfl (Or.inl rfl) (pe_ix ix_list (pe_lst (pa_cons (pe_op op_add (pv 3) (pv 5)) (pa_cons (pe_op op_sub (pv 3) (pv 5)) (pa_cons (pe_op op_mul (pv 3) (pv 5)) pa_nil)))) (pe_bm PySem.F.plainAttrs_list PySem.F.slot_list_index PySem.F.type_list_index mt_index (pe_lst (pa_cons pe_str (pa_cons pe_str (pa_cons pe_str pa_nil)))) (pa_cons (pv 2) pa_nil)) (fun _ _ => rfl))))
    (pss_one (ps_if (pt_cmpR op_in_seq (pv 2) (pe_tup (pa_cons pe_str (pa_cons pe_str pa_nil))) (by rfl))
    (pss_one (ps_set (i := 6) sc__law_value.nd rfl (Or.inl rfl) (pe_ifExp (pt_cmpR op_eq (pv 2) pe_str (nomark _)) (pe_callB (call_min2 rfl) (by rfl) T.z_min (by decide +kernel) (pa_cons (pv 3) (pa_cons (pv 5) pa_nil))) (pe_callB (call_max2 rfl) (by rfl) T.z_max (by decide +kernel) (pa_cons (pv 3) (pa_cons (pv 5) pa_nil))))))
    (pss_one (ps_if (pt_cmpR op_in_seq (pv 2) (pe_tup (pa_cons pe_str (pa_cons pe_str pa_nil))) (by rfl))
    (pss_one (ps_set (i := 6) sc__law_value.nd rfl (Or.inl rfl) (pe_ifExp (pt_cmpR op_eq (pv 2) pe_str (nomark _)) (pe_callTy call_int1 (by rfl) T.z_int (by decide +kernel) (pa_cons (pe_cmpR op_lt (pv 3) (pv 5) (nomark _)) pa_nil)) (pe_callTy call_int1 (by rfl) T.z_int (by decide +kernel) (pa_cons (pe_cmpR op_eq (pv 3) (pv 5) (nomark _)) pa_nil)))))
    (pss_one (ps_set (i := 6) sc__law_value.nd rfl (Or.inl rfl) (pe_ifExp (pt_cmpR op_eq (pv 2) pe_str (nomark _)) (pe_callTy call_int1 (by rfl) T.z_int (by decide +kernel) (pa_cons (pe_and (pe_cmpR op_ne (pv 3) pe_int (nomark _)) (pe_one (pe_cmpR op_ne (pv 5) pe_int (nomark _)))) pa_nil)) (pe_callTy call_int1 (by rfl) T.z_int (by decide +kernel) (pa_cons (pe_or (pe_cmpR op_ne (pv 3) pe_int (nomark _)) (pe_one (pe_cmpR op_ne (pv 5) pe_int (nomark _)))) pa_nil))))))))))))))
    (pss_one (ps_ret (pe_ifExp (pt_cmpR op_le (pe_callB call_abs (by rfl) T.z_abs (by decide +kernel) (pa_cons (pv 6) pa_nil)) (pe_op op_pow pe_int pe_int) (nomark _)) (pv 6) pe_non))))))))))))), ?_⟩
    cases e with
    | num z =>
      obtain ⟨p, rfl, hp⟩ := he
      walk_at "gg"
      exact k _ (Same.refl _)
    | fact f =>
      obtain ⟨p, rfl, hp⟩ := he
      walk_at "gg"
      refine ⟨_, _, rfl, dget B.ob (k := Sum.inr "facts") rfl, ?_⟩
      walk_at "gg"
      refine ⟨_, _, rfl, dget B.hf (factK_get _ f), ?_⟩
      exact k _ (Same.refl _)
    | hold h m =>
      obtain ⟨p, rfl, hp⟩ := he
      have e1 : decide (V.str h.str = V.str "num") = false := by cases h <;> decide +kernel
      have e2 : decide (V.str h.str = V.str "fact") = false := by cases h <;> decide +kernel
      have e3 : inV (.str h.str) [.str "let", .str "keep", .str "own"] = true := by cases h <;> decide +kernel
      obtain ⟨kvs, hk, hok⟩ := B.dk h
      walk_at "gg"
      refine ifF e1 ?_
      walk_at "gg"
      refine ifF e2 ?_
      walk_at "gg"
      refine ⟨szr, fun u hu2 => ?_⟩
      walk_at "gg"
      refine ifT e3 ?_
      have s1 : Same H (upd H u (.tup [.str "let", .str "keep", .str "own"])) := same_new hu2
      have hp := s1 _ _ hp
      walk_at "gg"
      refine ⟨_, _, rfl, dget (s1 _ _ B.ob) (bookK_get _ _ _ _ h), ?_⟩
      refine ⟨_, rfl, isd (s1 _ _ hk), ?_⟩
      walk_at "gg"
      refine ⟨_, DGet.k (k := Sum.inr m.str) (s1 _ _ hk), ?_⟩
      rw [hok.gt m]
      exact k _ s1
    | neg a =>
      obtain ⟨p, x, rfl, hp, ha⟩ := he
      walk_at "gg"
      refine ⟨szr, fun u hu2 => ?_⟩
      have s1 : Same H (upd H u (.tup [.str "let", .str "keep", .str "own"])) := same_new hu2
      have hp := s1 _ _ hp
      walk_at "gg"
      refine ⟨_, _, rfl, SqT.of hp, (fun z => absurd z not_all1), fun _ q hq => ?_⟩
      rw [show cutV [V.str "not", x] (some 1) none = [x] from rfl]
      have s2 := s1.trans (same_new (o := .tup [x]) hq)
      refine ⟨q, rfl, ⟨_, SqT.of upd_same⟩, fun D hD => lc_tup (xs := [x]) (Lc _ D (getF (fun a : Ex => optI (a.ev E)) [a])) (Lc.zero hD) (fun i H2 _ r => SqT.of (r.sm _ _ upd_same)) ?_ ?_⟩
      · intro i y H2 hi r
        obtain ⟨rfl, rfl⟩ : i = 0 ∧ y = x := by
          match i, hi with
          | 0, hi => exact ⟨rfl, (Option.some.inj hi).symm⟩
        walk_at "gg"
        refine ⟨bk, fa, dd, E, y, a, rfl, (B.same s2).same r.sm, (ha.mono (same_tp s2)).mono (same_tp r.sm), by have hd : a.depth + 1 ≤ n + 1 := hd; omega, hb, hE, fun H3 s3 => ?_⟩
        exact r.step s3 rfl (by decide)
      · intro H2 r
        have hat : H2 D = some (.lst [optI (a.ev E)]) := r.at_
        have s3 := s2.trans r.sm
        clear r
        have ke : (Ex.neg a).ev E = (a.ev E).map fun z => b2 (decide (z = 0)) := rfl
        rw [ke] at k
        cases ea : a.ev E with
        | none =>
          rw [ea] at k hat
          walk_at "gg"
          exact k _ s3
        | some z =>
          rw [ea] at k hat
          walk_at "gg"
          show Q (.int (if decide (V.int z = V.int 0) = true then 1 else 0)) H2
          rw [dec_int]
          exact k _ s3
    | bin sg a c =>
      obtain ⟨p, x, y, rfl, hp, ha, hc⟩ := he
      have e1 : decide (V.str sg.str = V.str "num") = false := by cases sg <;> decide +kernel
      have e2 : decide (V.str sg.str = V.str "fact") = false := by cases sg <;> decide +kernel
      have e3 : inV (.str sg.str) [.str "let", .str "keep", .str "own"] = false := by cases sg <;> decide +kernel
      have e4 : decide (V.str sg.str = V.str "not") = false := by cases sg <;> decide +kernel
      have hd : Nat.max a.depth c.depth + 1 ≤ n + 1 := hd
      have d1 : a.depth ≤ Nat.max a.depth c.depth := Nat.le_max_left _ _
      have d2 : c.depth ≤ Nat.max a.depth c.depth := Nat.le_max_right _ _
      walk_at "gg"
      refine ifF e1 ?_
      walk_at "gg"
      refine ifF e2 ?_
      walk_at "gg"
      refine ⟨szr, fun u hu2 => ?_⟩
      walk_at "gg"
      refine ifF e3 ?_
      have s1 : Same H (upd H u (.tup [.str "let", .str "keep", .str "own"])) := same_new hu2
      have hp := s1 _ _ hp
      walk_at "gg"
      refine ⟨_, _, rfl, SqT.of hp, (fun z => absurd z not_all1), fun _ q hq => ?_⟩
      rw [show cutV [V.str sg.str, x, y] (some 1) none = [x, y] from rfl]
      have s2 := s1.trans (same_new (o := .tup [x, y]) hq)
      refine ⟨q, rfl, ⟨_, SqT.of upd_same⟩, fun D hD => lc_tup (xs := [x, y]) (Lc _ D (getF (fun a : Ex => optI (a.ev E)) [a, c])) (Lc.zero hD) (fun i H2 _ r => SqT.of (r.sm _ _ upd_same)) ?_ ?_⟩
      · intro i v H2 hi r
        match i, hi with
        | 0, hi =>
          cases hi
          walk_at "gg"
          refine ⟨bk, fa, dd, E, x, a, rfl, (B.same s2).same r.sm, (ha.mono (same_tp s2)).mono (same_tp r.sm), by omega, hb.1, hE, fun H3 s3 => ?_⟩
          exact r.step s3 rfl (by decide)
        | 1, hi =>
          cases hi
          walk_at "gg"
          refine ⟨bk, fa, dd, E, y, c, rfl, (B.same s2).same r.sm, (hc.mono (same_tp s2)).mono (same_tp r.sm), by omega, hb.2, hE, fun H3 s3 => ?_⟩
          exact r.step s3 rfl (by decide)
      · intro H2 r
        have hat : H2 D = some (.lst [optI (a.ev E), optI (c.ev E)]) := r.at_
        have s3 := s2.trans r.sm
        clear r
        have ke : (Ex.bin sg a c).ev E = (match a.ev E, c.ev E with
          | some x, some y => sg.ap x y
          | _, _ => none) := rfl
        rw [ke] at k
        cases ea : a.ev E with
        | none =>
          rw [ea] at k hat
          cases ec : c.ev E with
          | none =>
            rw [ec] at hat
            walk_at "gg"
            exact k _ s3
          | some z2 =>
            rw [ec] at hat
            walk_at "gg"
            exact k _ s3
        | some z1 =>
          cases ec : c.ev E with
          | none =>
            rw [ea, ec] at k hat
            walk_at "gg"
            exact k _ s3
          | some z2 =>
            have hz1 := Ex.ev_in hE hb.1 ea
            have hz2 := Ex.ev_in hE hb.2 ec
            rw [ea, ec] at k hat
            have k : ∀ H', Same H H' → Q (optI (sg.ap z1 z2)) H' := k
            have hat : H2 D = some (.lst [.int z1, .int z2]) := hat
            clear hu2 hq
            walk_at "gg"
            refine ifF e4 ?_
            walk_at "gg"
            refine ⟨D, _, rfl, SqL.of hat, rfl, ?_⟩
            walk_at "gg"
            refine ⟨fun σ' H' => σ' = [some (.ref bk), some (.ref p), some (.str sg.str), some (.int z1), some (.ref D), some (.int z2), none] ∧ Same H H' ∧ ((sg = .div ∨ sg = .mod) → z2 ≠ 0), ?_, ?_⟩
            · walk_at "gg"
              refine ⟨szr, fun u hu3 => ?_⟩
              have s4 := s3.trans (same_new (o := .tup [.str "/", .str "mod"]) hu3)
              walk_at "gg"
              refine if2 (fun c1 => ?_) (fun c1 => ?_)
              · walk_at "gg"
                refine if2 (fun c2 => ?_) (fun c2 => ?_)
                · rw [dec_int] at c2
                  have c2 : z2 = 0 := of_decide_eq_true c2
                  walk_at "gg"
                  have en : sg.ap z1 z2 = none := by
                    cases sg <;> first | exact if_pos c2 | exact absurd c1 (by decide +kernel)
                  rw [en] at k
                  exact k _ s4
                · rw [dec_int] at c2
                  exact ⟨rfl, s4, fun _ => of_decide_eq_false c2⟩
              · exact ⟨rfl, s4, fun z => by rcases z with rfl | rfl <;> exact absurd c1 (by decide +kernel)⟩
            rintro σ' H3 ⟨rfl, s4, hn0⟩
            clear hat s3 s2
            refine ⟨fun σ' H' => ∃ z0, σ' = [some (.ref bk), some (.ref p), some (.str sg.str), some (.int z1), some (.ref D), some (.int z2), some (.int z0)] ∧ Same H H' ∧ sg.ap z1 z2 = bnd z0, ?_, ?_⟩
            · have inb : ∀ z0, within z0 → bnd z0 = some z0 := fun z0 h => if_pos h
              cases sg with
              | add =>
                walk_at "gg"
                walk_at "nt"
                walk_at "gg"
                refine ⟨cmul_within hz1, ?_⟩
                refine ⟨szr, fun l1 hl1 => ?_⟩
                walk_at "gg"
                refine ⟨szr, fun l2 hl2 => ?_⟩
                refine ⟨.inl ⟨rfl, _, SqL.of upd_same⟩, ?_⟩
                walk_at "gg"
                refine ⟨l2, _, .str Sg.add.str, 0, _, rfl, rfl, SqL.of upd_same, rfl, rfl, rfl, (by decide +kernel), (fun m _ h => absurd h (Nat.not_lt_zero m)), ?_⟩
                refine ⟨l1, [.int (z1 + z2), .int (z1 - z2), .int (z1 * z2)], _, _, rfl, rfl, SqL.of ((same_new hl2) _ _ upd_same), rfl, ?_⟩
                refine ⟨z1 + z2, rfl, ?_, rfl⟩
                walk_at "sm"
              | sub =>
                walk_at "gg"
                walk_at "nt"
                walk_at "gg"
                refine ⟨cmul_within hz1, ?_⟩
                refine ⟨szr, fun l1 hl1 => ?_⟩
                walk_at "gg"
                refine ⟨szr, fun l2 hl2 => ?_⟩
                refine ⟨.inl ⟨rfl, _, SqL.of upd_same⟩, ?_⟩
                walk_at "gg"
                refine ⟨l2, _, .str Sg.sub.str, 1, _, rfl, rfl, SqL.of upd_same, rfl, rfl, rfl, (by decide +kernel), (fun m _ h e => by
                  match m, h, e with
                  | 0, _, e => cases e; decide +kernel), ?_⟩
                refine ⟨l1, [.int (z1 + z2), .int (z1 - z2), .int (z1 * z2)], _, _, rfl, rfl, SqL.of ((same_new hl2) _ _ upd_same), rfl, ?_⟩
                refine ⟨z1 - z2, rfl, ?_, rfl⟩
                walk_at "sm"
              | mul =>
                walk_at "gg"
                walk_at "nt"
                walk_at "gg"
                refine ⟨cmul_within hz1, ?_⟩
                refine ⟨szr, fun l1 hl1 => ?_⟩
                walk_at "gg"
                refine ⟨szr, fun l2 hl2 => ?_⟩
                refine ⟨.inl ⟨rfl, _, SqL.of upd_same⟩, ?_⟩
                walk_at "gg"
                refine ⟨l2, _, .str Sg.mul.str, 2, _, rfl, rfl, SqL.of upd_same, rfl, rfl, rfl, (by decide +kernel), (fun m _ h e => by
                  match m, h, e with
                  | 0, _, e => cases e; decide +kernel
                  | 1, _, e => cases e; decide +kernel), ?_⟩
                refine ⟨l1, [.int (z1 + z2), .int (z1 - z2), .int (z1 * z2)], _, _, rfl, rfl, SqL.of ((same_new hl2) _ _ upd_same), rfl, ?_⟩
                refine ⟨z1 * z2, rfl, ?_, rfl⟩
                walk_at "sm"
              | div =>
                walk_at "gg"
                refine ⟨cdivP (hn0 (.inl rfl)) hz2, ?_⟩
                refine ⟨z1.fdiv z2, rfl, s4, if_neg (hn0 (.inl rfl))⟩
              | mod =>
                walk_at "gg"
                refine ⟨hn0 (.inr rfl), ?_⟩
                refine ⟨z1.fmod z2, rfl, s4, if_neg (hn0 (.inr rfl))⟩
              | min =>
                walk_at "gg"
                walk_at "nt"
                walk_at "gg"
                walk_at "nt"
                walk_at "gg"
                refine ⟨?_, (inb _ (Sg.ap_in (s := .min) hz1 hz2 rfl)).symm⟩
                walk_at "sm"
              | max =>
                walk_at "gg"
                walk_at "nt"
                walk_at "gg"
                walk_at "nt"
                walk_at "gg"
                refine ⟨?_, (inb _ (Sg.ap_in (s := .max) hz1 hz2 rfl)).symm⟩
                walk_at "sm"
              | less =>
                walk_at "gg"
                walk_at "nt"
                walk_at "gg"
                walk_at "nt"
                walk_at "gg"
                walk_at "nt"
                walk_at "gg"
                refine ⟨?_, (inb _ (Sg.ap_in (s := .less) hz1 hz2 rfl)).symm⟩
                walk_at "sm"
              | eq =>
                walk_at "gg"
                walk_at "nt"
                walk_at "gg"
                walk_at "nt"
                walk_at "gg"
                walk_at "nt"
                walk_at "gg"
                refine ⟨?_, (ap_eq _ _).trans (inb _ (b2_in _)).symm⟩
                walk_at "sm"
              | and =>
                walk_at "gg"
                walk_at "nt"
                walk_at "gg"
                walk_at "nt"
                walk_at "gg"
                walk_at "nt"
                walk_at "gg"
                refine if2 (fun c => ?_) (fun c => ?_)
                · walk_at "gg"
                  refine ⟨?_, ?_⟩
                  · walk_at "sm"
                  · rw [ap_and, c]
                    exact (inb _ (b2_in _)).symm
                · walk_at "gg"
                  refine ⟨?_, ?_⟩
                  · walk_at "sm"
                  · rw [ap_and, c]
                    exact (inb _ (b2_in _)).symm
              | or =>
                walk_at "gg"
                walk_at "nt"
                walk_at "gg"
                walk_at "nt"
                walk_at "gg"
                walk_at "nt"
                walk_at "gg"
                refine if2 (fun c => ?_) (fun c => ?_)
                · walk_at "gg"
                  refine ⟨?_, ?_⟩
                  · walk_at "sm"
                  · rw [ap_or, c]
                    exact (inb _ (b2_in _)).symm
                · walk_at "gg"
                  refine ⟨?_, ?_⟩
                  · walk_at "sm"
                  · rw [ap_or, c]
                    exact (inb _ (b2_in _)).symm
            · rintro σ' H4 ⟨z0, rfl, s5, e0⟩
              rw [e0] at k
              walk_at "gg"
              refine if2 (fun c1 => ?_) (fun c1 => ?_)
              · walk_at "gg"
                rw [bnd_le c1] at k
                exact k _ s5
              · walk_at "gg"
                rw [bnd_gt c1] at k
                exact k _ s5
end
end K6
set_option maxHeartbeats 4000000
/-! The law's own running: blocks. -/
namespace K6
open PySem PySem.Spec PyProof.Rows L2 RZ
local macro_rules | `(tactic| walk_at "gg") => `(tactic| repeat first
  | refine ⟨_, rfl, ?_⟩ | refine ⟨_, _, rfl, rfl, ?_⟩ | refine ⟨rfl, ?_⟩ | refine iteT ?_ | refine iteF ?_
  | refine ⟨_, _, _, _, rfl, rfl, SqT.of (by assumption), rfl, ?_⟩
  | refine ⟨_, _, _, _, rfl, rfl, SqT.of (by assumption), at0, ?_⟩
  | refine ⟨_, _, _, _, rfl, rfl, SqL.of (by assumption), rfl, ?_⟩
  | refine ⟨_, _, rfl, .inr (SqT.of (by assumption)), ?_⟩
  | refine ⟨_, _, rfl, .inl (SqL.of (by assumption)), ?_⟩
  | refine ⟨_, _, rfl, .inr (SqT.of upd_same), rfl, rfl, ?_⟩
  | refine ⟨_, _, rfl, .inr (Txt.q_HOLDERS (by assumption) _), rfl, rfl, ?_⟩
  | refine ⟨_, _, rfl, .inr (Txt.q_GIVERS (by assumption) _), rfl, rfl, ?_⟩
  | refine ⟨_, _, rfl, .inr (Txt.q_FACTS (by assumption) _), rfl, rfl, ?_⟩
  | refine ⟨_, _, rfl, .inr (Txt.q_SIGNS (by assumption) _), rfl, rfl, ?_⟩
  | refine ⟨_, _, rfl, SqT.of upd_same, rfl, ?_⟩
  | refine ⟨_, _, rfl, SqT.of (by assumption), rfl, ?_⟩
  | refine ⟨_, _, rfl, ?_⟩
  | refine .inl ⟨_, rfl, ?_⟩
  | refine .inr ⟨_, rfl, ?_⟩
  | refine ⟨(by show (0 : Int) < _; decide), ?_⟩
  | refine ⟨.inr ⟨by decide, by decide⟩, ?_⟩
  | refine ⟨.inl ⟨by decide, by decide⟩, ?_⟩
  | refine ⟨⟨by decide, by decide⟩, ?_⟩
  | refine ⟨⟨by decide, by decide, by decide⟩, ?_⟩)
def BookS (bk : Addr) (dd : Hd → Addr) : Addr → Prop := fun a => a = bk ∨ ∃ h, a = dd h
section
variable {D : Addr} {H : Hp} {bk fa : Addr} {dd : Hd → Addr} {E : Env}
theorem BookAt.set (R : BookAt H bk fa dd E) {h : Hd} {kvs : List (Key × V)} (hk : H (dd h) = some (.dK kvs)) (ok : NmOk kvs (E.nums h)) (m : Nm) (z : Int) :
    BookAt (upd H (dd h) (.dK (putK kvs (Sum.inr m.str) (.int z)))) bk fa dd (E.set h m z) ∧ Fr D (BookS bk dd) H (upd H (dd h) (.dK (putK kvs (Sum.inr m.str) (.int z)))) := by
  refine ⟨{ R with ob := ?_, hf := ?_, dk := fun h' => ?_ }, Fr.put (.inr ⟨h, rfl⟩) hk (fun xs q => by cases q) fun dx fs q => by cases q⟩
  · rw [upd_ne (R.nb h).symm]
    exact R.ob
  · rw [upd_ne (R.nf h).symm]
    exact R.hf
  · by_cases e : h' = h
    · subst e
      refine ⟨_, upd_same, ?_⟩
      have q := ok.put m z
      have ef : (fun n => if n = m then z else E.nums h' n) = (E.set h' m z).nums h' := by
        funext n
        show (if n = m then z else E.nums h' n) = if h' = h' ∧ n = m then z else E.nums h' n
        simp
      rw [ef] at q
      exact q
    · obtain ⟨kv, q1, q2⟩ := R.dk h'
      refine ⟨kv, ?_, ?_⟩
      · rw [upd_ne fun q => e (R.inj _ _ q)]
        exact q1
      · have ef : E.nums h' = (E.set h m z).nums h' := by
          funext n
          show E.nums h' n = if h' = h ∧ n = m then z else E.nums h' n
          rw [if_neg fun q => e q.1]
        rw [← ef]
        exact q2
theorem BookAt.give (R : BookAt H bk fa dd E) (g : Gv) (z : Int) :
    BookAt (upd H bk (.dK (putK (bookK fa dd E.w E.c) (Sum.inr g.str) (.int z)))) bk fa dd (E.give g z) ∧ Fr D (BookS bk dd) H (upd H bk (.dK (putK (bookK fa dd E.w E.c) (Sum.inr g.str) (.int z)))) := by
  have ef : (E.give g z).facts = E.facts := by cases g <;> rfl
  have en : (E.give g z).nums = E.nums := by cases g <;> rfl
  refine ⟨{ R with ob := ?_, hf := ?_, dk := fun h' => ?_ }, Fr.put (.inl rfl) R.ob (fun xs q => by cases q) fun dx fs q => by cases q⟩
  · rw [upd_same]
    cases g <;> rfl
  · rw [upd_ne R.fb, ef]
    exact R.hf
  · obtain ⟨kv, q1, q2⟩ := R.dk h'
    refine ⟨kv, ?_, by rw [en]; exact q2⟩
    rw [upd_ne (R.nb h')]
    exact q1
end
def sp_law_led (C : Addr) (n : Nat) : Sp := fun vs H Q _ => ∃ bk fa dd E q ws b, vs = [.ref bk, .ref q] ∧ BookAt H bk fa dd E ∧ H q = some (.tup ws) ∧ StsAt H ws b ∧ b.lev ≤ n ∧ b.ok ∧ E.bd ∧
  ∀ H', Fr C (BookS bk dd) H H' → (∀ E', b.run E = some E' → BookAt H' bk fa dd E') → Q (.bl (b.run E).isSome) H'
section
variable {P : Program} {w : World} {K : PySem.W.Frag} {mg : Str → Option Value} {base : Heap}
theorem ok__law_led (T : Txt K mg) : ∀ n : Nat, FnOk P w K mg base CX0 (6 + n) (a__law_led K) (fdOf K (a__law_led K)) ["_law_book", "_law_block_here"] (sp_law_led (CP K) n)
  | 0 => FnOk.vac fun vs H Q E h => by
    obtain ⟨bk, fa, dd, E, q, ws, b, _, _, _, _, h0, _⟩ := h
    have := b.lev_pos
    omega
  | n + 1 => by
    have G__law_value := ok__law_value (P := P) (w := w) (base := base) T 6
    have G__law_led := ok__law_led T n
    refine T.F__law_led.ok sc__law_led (fun vs H Q E h => ?_) (fun cdv A outer s H vs Q E hr h => ?_)
    · obtain ⟨bk, fa, dd, E, q, ws, b, rfl, _⟩ := h
      rfl
    obtain ⟨bk, fa, dd, E, q, ws, b, rfl, B, hq, hs, hl, ho, hE, k⟩ := h
    have hr : Room (n + 6) _ := hr.mono (by simp; omega)
    have hu := hu_of hr
    refine ⟨_, PSs.nox (pss_cons (ps_for PassesOwn.never rfl (pi_tup (pv 1)) (pg_name (i := 2) sc__law_led.nd rfl (Or.inl rfl))
    (pss_cons (ps_set (i := 3) sc__law_led.nd rfl (Or.inl rfl) (pe_call G__law_value (hr.mono (by omega)) rfl T.g__law_value T.F__law_value.kp T.b__law_value .nil pass0 (pa_cons (pv 0) (pa_cons (pe_ifExp (pt_cmpR op_ne (pe_ix ix_tup (pv 2) pe_int (fun _ _ => rfl)) pe_str (nomark _)) (pe_ix ix_tup (pv 2) (pe_un un_neg pe_int) (fun _ _ => rfl)) (pe_ix ix_tup (pv 2) pe_int (fun _ _ => rfl))) pa_nil))))
    (pss_cons (ps_if (pt_cmpR op_isN (pv 3) pe_non (nomark _))
    (pss_one (ps_ret pe_bl))
    pss_nil)
    (pss_one (ps_if (pt_cmpR op_eq (pe_ix ix_tup (pv 2) pe_int (fun _ _ => rfl)) pe_str (nomark _))
    (pss_one (ps_if (pt_not (pt_val (pe_call G__law_led (hr.mono (by omega)) rfl T.g__law_led T.F__law_led.kp T.b__law_led .nil pass0 (pa_cons (pv 0) (pa_cons (pe_ifExp (pt_cmpR op_ne (pv 3) pe_int (nomark _)) (pe_ix ix_tup (pv 2) pe_int (fun _ _ => rfl)) (pe_ix ix_tup (pv 2) pe_int (fun _ _ => rfl))) pa_nil)))))
    (pss_one (ps_ret pe_bl))
    pss_nil))
    (pss_one (ps_if (pt_cmpR op_in_seq (pe_ix ix_tup (pv 2) pe_int (fun _ _ => rfl)) (pe_tup (pa_cons pe_str (pa_cons pe_str pa_nil))) (by rfl))
    (pss_one (ps_dput hu (pv 0) (pe_ix ix_tup (pv 2) pe_int (fun _ _ => rfl)) (pv 3) rfl))
    (pss_one (ps_dput hu (pe_dget hu (pv 0) (pe_ix ix_tup (pv 2) pe_int (fun _ _ => rfl)) (fun _ _ => rfl)) (pe_ix ix_tup (pv 2) pe_int (fun _ _ => rfl)) (pv 3) rfl)))))))))
    (pss_one (ps_ret pe_bl))), ?_⟩
    walk_at "gg"
    rw [b.run_stms] at k
    refine ⟨⟨_, SqT.of hq⟩, for_tup (xs := ws) (fun i σ H2 => ∃ a1 a2 E', σ = [some (.ref bk), some (.ref q), a1, a2] ∧ Fr (CP K) (BookS bk dd) H H2 ∧ BookAt H2 bk fa dd E' ∧ E'.bd ∧ runs b.stms E = runs (b.stms.drop i) E') ⟨none, none, E, rfl, Fr.refl, B, hE, rfl⟩ (fun i σ H2 _ ⟨_, _, _, _, f2, _⟩ => SqT.of (f2.tp _ _ hq)) ?_ ?_⟩
    · rintro i x σ H2 hi ⟨a1, a2, E', rfl, f2, R2, hE2, er⟩
      obtain ⟨st, hst, hz⟩ := hs.get hi
      have hm := List.mem_of_getElem? hst
      have hok := Blk.stms_ok ho hm
      rw [runs_drop hst] at er
      replace hz := hz.mono f2.tp
      cases st with
      | set h m e =>
        obtain ⟨p, x2, rfl, hp, hx⟩ := hz
        have f1 : decide (V.str h.str = V.str "if") = false := by cases h <;> decide +kernel
        have f3 : inV (.str h.str) [.str "weight", .str "cap"] = false := by cases h <;> decide +kernel
        walk_at "gg"
        refine ifT (by rw [f1]; rfl) ?_
        walk_at "gg"
        refine ⟨bk, fa, dd, E', x2, e, rfl, R2, hx, hok.1, hok.2.2, hE2, fun H3 s3 => ?_⟩
        have R3 := R2.same s3
        have f4 := f2.trans (Fr.of_same s3)
        have hp3 := s3 _ _ hp
        have es : (Stm.set h m e).run E' = (match e.ev E' with
          | some z => some (E'.set h m z)
          | none => none) := rfl
        rw [es] at er
        cases ee : e.ev E' with
        | none =>
          rw [ee] at er
          rw [er] at k
          walk_at "gg"
          exact k _ f4 fun E' z => by cases z
        | some z =>
          rw [ee] at er
          obtain ⟨kvs, hk, hnm⟩ := R3.dk h
          walk_at "gg"
          refine ifF f1 ?_
          walk_at "gg"
          refine ⟨szr, fun u hu3 => ?_⟩
          have s5 := same_new (o := .tup [.str "weight", .str "cap"]) hu3
          have R5 := R3.same s5
          have hp5 := s5 _ _ hp3
          walk_at "gg"
          refine ifF f3 ?_
          walk_at "gg"
          refine ⟨_, _, rfl, dget R5.ob (bookK_get _ _ _ _ h), ?_⟩
          walk_at "gg"
          refine ⟨dd h, _, rfl, DPut.k (k := Sum.inr m.str) (s5 _ _ hk) (szt (by have := hnm.len; omega)), ?_⟩
          obtain ⟨R6, f6⟩ := R5.set (D := CP K) (s5 _ _ hk) hnm m z
          exact ⟨_, _, _, rfl, (f4.trans (Fr.of_same s5)).trans f6, R6, hE2.set h m (Ex.ev_in hE2 hok.2.2 ee), er⟩
      | give g e =>
        obtain ⟨p, x2, rfl, hp, hx⟩ := hz
        have f1 : decide (V.str g.str = V.str "if") = false := by cases g <;> decide +kernel
        have f3 : inV (.str g.str) [.str "weight", .str "cap"] = true := by cases g <;> decide +kernel
        walk_at "gg"
        refine ifT (by rw [f1]; rfl) ?_
        walk_at "gg"
        refine ⟨bk, fa, dd, E', x2, e, rfl, R2, hx, hok.1, hok.2.2, hE2, fun H3 s3 => ?_⟩
        have R3 := R2.same s3
        have f4 := f2.trans (Fr.of_same s3)
        have hp3 := s3 _ _ hp
        have es : (Stm.give g e).run E' = (match e.ev E' with
          | some z => some (E'.give g z)
          | none => none) := rfl
        rw [es] at er
        cases ee : e.ev E' with
        | none =>
          rw [ee] at er
          rw [er] at k
          walk_at "gg"
          exact k _ f4 fun E' z => by cases z
        | some z =>
          rw [ee] at er
          walk_at "gg"
          refine ifF f1 ?_
          walk_at "gg"
          refine ⟨szr, fun u hu3 => ?_⟩
          have s5 := same_new (o := .tup [.str "weight", .str "cap"]) hu3
          have R5 := R3.same s5
          have hp5 := s5 _ _ hp3
          walk_at "gg"
          refine ifT f3 ?_
          walk_at "gg"
          refine ⟨bk, _, rfl, DPut.k (k := Sum.inr g.str) R5.ob (szt (by show 6 < 100000; decide)), ?_⟩
          obtain ⟨R6, f6⟩ := R5.give (D := CP K) g z
          exact ⟨_, _, _, rfl, (f4.trans (Fr.of_same s5)).trans f6, R6, hE2.give g z, er⟩
      | ite e x y =>
        obtain ⟨p, x2, pa, pb, as, bs, rfl, hp, hx, ha, ha2, hb, hb2⟩ := hz
        obtain ⟨l1, l2⟩ := Blk.stms_lev hm
        walk_at "gg"
        refine ⟨bk, fa, dd, E', x2, e, rfl, R2, hx, hok.1.1, hok.1.2.2, hE2, fun H3 s3 => ?_⟩
        have R3 := R2.same s3
        have f3 := f2.trans (Fr.of_same s3)
        have hp3 := s3 _ _ hp
        have es : (Stm.ite e x y).run E' = (match e.ev E' with
          | some z => if z ≠ 0 then x.run E' else y.run E'
          | none => none) := rfl
        rw [es] at er
        cases ee : e.ev E' with
        | none =>
          rw [ee] at er
          rw [er] at k
          walk_at "gg"
          exact k _ f3 fun E' z => by cases z
        | some z =>
          rw [ee] at er
          have er : runs b.stms E = (match (if z ≠ 0 then x.run E' else y.run E') with
            | some E2 => runs (b.stms.drop (i + 1)) E2
            | none => none) := er
          walk_at "gg"
          refine if2 (fun c => ?_) (fun c => ?_)
          · have c : (!decide (V.int z = V.int 0)) = true := c
            have c : z ≠ 0 := by
              rw [dec_int] at c
              simpa using c
            rw [if_pos c] at er
            walk_at "gg"
            refine ⟨bk, fa, dd, E', pa, as, x, rfl, R3, s3 _ _ ha, ha2.mono (same_tp s3), by omega, hok.2.1, hE2, fun H4 f4 e4 => ?_⟩
            cases ex : x.run E' with
            | none =>
              rw [ex] at er
              rw [er] at k
              walk_at "gg"
              exact k _ (f3.trans f4) fun E' z => by cases z
            | some E2 =>
              rw [ex] at er
              walk_at "gg"
              exact ⟨_, _, _, rfl, f3.trans f4, e4 _ ex, Blk.run_bd hok.2.1 hE2 ex, er⟩
          · have c : (!decide (V.int z = V.int 0)) = false := c
            have c : ¬ z ≠ 0 := by
              rw [dec_int] at c
              simpa using c
            rw [if_neg c] at er
            walk_at "gg"
            refine ⟨bk, fa, dd, E', pb, bs, y, rfl, R3, s3 _ _ hb, hb2.mono (same_tp s3), by omega, hok.2.2, hE2, fun H4 f4 e4 => ?_⟩
            cases ex : y.run E' with
            | none =>
              rw [ex] at er
              rw [er] at k
              walk_at "gg"
              exact k _ (f3.trans f4) fun E' z => by cases z
            | some E2 =>
              rw [ex] at er
              walk_at "gg"
              exact ⟨_, _, _, rfl, f3.trans f4, e4 _ ex, Blk.run_bd hok.2.2 hE2 ex, er⟩
    · rintro σ H2 ⟨a1, a2, E', rfl, f2, R2, hE2, er⟩
      rw [hs.len, ← b.stms_len, List.drop_length] at er
      rw [er] at k
      walk_at "gg"
      exact k _ f2 fun E2 z => by cases z; exact R2
end
end K6
set_option maxHeartbeats 4000000
/-! The law's own states: run for one person. -/
namespace K6
open PySem PySem.Spec PyProof.Rows L2 RZ
local macro_rules | `(tactic| walk_at "gg") => `(tactic| repeat first
  | refine ⟨_, rfl, ?_⟩ | refine ⟨_, _, rfl, rfl, ?_⟩ | refine ⟨rfl, ?_⟩ | refine iteT ?_ | refine iteF ?_
  | refine ⟨_, _, _, _, rfl, rfl, SqT.of (by assumption), rfl, ?_⟩
  | refine ⟨_, _, _, _, rfl, rfl, SqT.of (by assumption), at0, ?_⟩
  | refine ⟨_, _, _, _, rfl, rfl, SqL.of (by assumption), rfl, ?_⟩
  | refine ⟨_, _, rfl, .inr (SqT.of (by assumption)), ?_⟩
  | refine ⟨_, _, rfl, .inl (SqL.of (by assumption)), ?_⟩
  | refine ⟨_, _, rfl, .inr (SqT.of upd_same), rfl, rfl, ?_⟩
  | refine ⟨_, _, rfl, .inr (Txt.q_HOLDERS (by assumption) _), rfl, rfl, ?_⟩
  | refine ⟨_, _, rfl, .inr (Txt.q_GIVERS (by assumption) _), rfl, rfl, ?_⟩
  | refine ⟨_, _, rfl, .inr (Txt.q_FACTS (by assumption) _), rfl, rfl, ?_⟩
  | refine ⟨_, _, rfl, .inr (Txt.q_SIGNS (by assumption) _), rfl, rfl, ?_⟩
  | refine ⟨_, _, rfl, SqT.of upd_same, rfl, ?_⟩
  | refine ⟨_, _, rfl, SqT.of (by assumption), rfl, ?_⟩
  | refine ⟨_, _, rfl, ?_⟩
  | refine .inl ⟨_, rfl, ?_⟩
  | refine .inr ⟨_, rfl, ?_⟩
  | refine ⟨(by show (0 : Int) < _; decide), ?_⟩
  | refine ⟨.inr ⟨by decide, by decide⟩, ?_⟩
  | refine ⟨.inl ⟨by decide, by decide⟩, ?_⟩
  | refine ⟨⟨by decide, by decide⟩, ?_⟩
  | refine ⟨⟨by decide, by decide, by decide⟩, ?_⟩)
def ddOf (lt kp ow : Addr) : Hd → Addr
  | .lt => lt
  | .kp => kp
  | .ow => ow
def stK (kd ol : Addr) (bt : Int) : List (Key × V) := [(Sum.inr "keep", .ref kd), (Sum.inr "own", .ref ol), (Sum.inr "beat", .int bt)]
structure StateAt (H : Hp) (sd ol : Addr) (n : Nat) (S : TSt) (R : Addr → Prop) : Prop where
  ob : ∃ kd kk, H sd = some (.dK (stK kd ol S.beat)) ∧ H kd = some (.dK kk) ∧ NmOk kk S.kp ∧ R kd ∧ kd ≠ sd
  ow : ∃ os : List Addr, H ol = some (.lst (os.map V.ref)) ∧ os.length = n ∧ ∀ (i : Nat) (x : Addr), os[i]? = some x → x ≠ sd ∧ R x ∧ ∃ kx, H x = some (.dK kx) ∧ NmOk kx (S.ow i)
  rs : R sd
  ro : R ol
section
variable {C : Addr} {H H' : Hp} {sd ol : Addr} {n : Nat} {S : TSt} {R R' W : Addr → Prop}
theorem StateAt.frame (h : StateAt H sd ol n S R) (f : Fr C W H H') (s : ∀ a, W a → ¬ R a) : StateAt H' sd ol n S R := by
  obtain ⟨kd, kk, h1, h2, h3, h4, h5⟩ := h.ob
  obtain ⟨os, g1, g2, g3⟩ := h.ow
  refine ⟨⟨kd, kk, f.st _ _ h1 fun z => s _ z h.rs, f.st _ _ h2 fun z => s _ z h4, h3, h4, h5⟩, ⟨os, f.st _ _ g1 fun z => s _ z h.ro, g2, fun i x hx => ?_⟩, h.rs, h.ro⟩
  obtain ⟨q1, q2, kx, q3, q4⟩ := g3 i x hx
  exact ⟨q1, q2, kx, f.st _ _ q3 fun z => s _ z q2, q4⟩
theorem StateAt.mono (h : StateAt H sd ol n S R) (r : ∀ a, R a → R' a) : StateAt H sd ol n S R' := by
  obtain ⟨kd, kk, h1, h2, h3, h4, h5⟩ := h.ob
  obtain ⟨os, g1, g2, g3⟩ := h.ow
  refine ⟨⟨kd, kk, h1, h2, h3, r _ h4, h5⟩, ⟨os, g1, g2, fun i x hx => ?_⟩, r _ h.rs, r _ h.ro⟩
  obtain ⟨q1, q2, kx, q3, q4⟩ := g3 i x hx
  exact ⟨q1, r _ q2, kx, q3, q4⟩
theorem StateAt.same (h : StateAt H sd ol n S R) (s : Same H H') : StateAt H' sd ol n S R := h.frame (C := sd) (W := fun _ => False) (Fr.of_same s) fun _ z => z.elim
theorem StateAt.so (h : StateAt H sd ol n S R) : sd ≠ ol := by
  obtain ⟨kd, kk, h1, _⟩ := h.ob
  obtain ⟨os, g1, _⟩ := h.ow
  exact ne_of h1 g1 (by intro z; cases z)
/-- the keep dict (or the beat) anew -/
theorem StateAt.put (h : StateAt H sd ol n S R) {k : Addr} {bt : Int} {kk : List (Key × V)} {f : Nm → Int} (hk : H k = some (.dK kk)) (hf : NmOk kk f) (rk : R k) (ks : k ≠ sd) :
    StateAt (upd H sd (.dK (stK k ol bt))) sd ol n { S with beat := bt, kp := f } R ∧ Fr C (Wt sd ol) H (upd H sd (.dK (stK k ol bt))) := by
  obtain ⟨kd, kk', h1, h2, h3, h4, h5⟩ := h.ob
  obtain ⟨os, g1, g2, g3⟩ := h.ow
  refine ⟨⟨⟨k, kk, upd_same, by rw [upd_ne ks]; exact hk, hf, rk, ks⟩, ⟨os, by rw [upd_ne h.so.symm]; exact g1, g2, fun i x hx => ?_⟩, h.rs, h.ro⟩, Fr.put (.inl rfl) h1 (fun xs z => by cases z) fun dx fs z => by cases z⟩
  obtain ⟨q1, q2, kx, q3, q4⟩ := g3 i x hx
  exact ⟨q1, q2, kx, by rw [upd_ne q1]; exact q3, q4⟩
theorem StateAt.putOwn (h : StateAt H sd ol n S R) {os : List Addr} (ho : H ol = some (.lst (os.map V.ref))) {p : Nat} (hp : p < n) {x : Addr} {kx : List (Key × V)} {g : Nm → Int} (hx : H x = some (.dK kx)) (hg : NmOk kx g) (rx : R x) (xs : x ≠ sd) :
    StateAt (upd H ol (.lst ((os.map V.ref).set p (.ref x)))) sd ol n { S with ow := fun i => if i = p then g else S.ow i } R ∧ Fr C (Wt sd ol) H (upd H ol (.lst ((os.map V.ref).set p (.ref x)))) := by
  obtain ⟨kd, kk', h1, h2, h3, h4, h5⟩ := h.ob
  obtain ⟨os', g1, g2, g3⟩ := h.ow
  have eo : os' = os := by
    rw [ho] at g1
    injection g1 with g1
    injection g1 with g1
    have inj : ∀ {a b : List Addr}, a.map V.ref = b.map V.ref → a = b := fun {a b} e => by
      have := congrArg (List.map fun v => match v with
        | V.ref q => q
        | _ => 0) e
      simpa [List.map_map, Function.comp_def] using this
    exact (inj g1).symm
  subst eo
  have nl : ∀ {a kvs}, H a = some (.dK kvs) → a ≠ ol := fun e => ne_of e ho (by intro z; cases z)
  refine ⟨⟨⟨kd, kk', by rw [upd_ne h.so]; exact h1, by rw [upd_ne (nl h2)]; exact h2, h3, h4, h5⟩, ⟨os'.set p x, by rw [upd_same, List.map_set], by rw [List.length_set]; exact g2, fun i y hy => ?_⟩, h.rs, h.ro⟩, Fr.put (.inr rfl) ho (fun xs z => by cases z) fun dx fs z => by cases z⟩
  rw [List.getElem?_set] at hy
  by_cases c : p = i
  · subst c
    rw [if_pos rfl, if_pos (by omega)] at hy
    cases hy
    refine ⟨xs, rx, kx, by rw [upd_ne (nl hx)]; exact hx, ?_⟩
    show NmOk kx (if p = p then g else S.ow p)
    rw [if_pos rfl]
    exact hg
  · rw [if_neg c] at hy
    obtain ⟨q1, q2, ky, q3, q4⟩ := g3 i y hy
    refine ⟨q1, q2, ky, by rw [upd_ne (nl q3)]; exact q3, ?_⟩
    show NmOk ky (if i = p then g else S.ow i)
    rw [if_neg fun z => c z.symm]
    exact q4
end
def sp_law_run (C : Addr) : Sp := fun vs H Q _ => ∃ sd ol, ∃ n p : Nat, ∃ fa q ws, ∃ bot : Int, ∃ b S R f, vs = [.ref sd, .int bot, .ref q, .ref fa] ∧ StateAt H sd ol n S R ∧ p < n ∧ H q = some (.tup ws) ∧ StsAt H ws b ∧ b.ok ∧ b.lev ≤ 4 ∧ S.bd n ∧ (∀ x, within (f x)) ∧ H fa = some (.dK (factK f)) ∧ f .person = (p : Int) ∧
  ∀ u H', Fr C (Wt sd ol) H H' → StateAt H' sd ol n (runOne bot b S p f).1 (grow R H H') → H' u = some (.tup [.int (runOne bot b S p f).2.1, .int (runOne bot b S p f).2.2]) → Q (.ref u) H'
section
variable {P : Program} {w : World} {K : PySem.W.Frag} {mg : Str → Option Value} {base : Heap}
theorem ok__law_run (T : Txt K mg) : FnOk P w K mg base CX0 11 (a__law_run K) (fdOf K (a__law_run K)) ["_law_state_here", "_law_bottom", "_law_block_here", "_law_facts"] (sp_law_run (CP K)) := by
  have G__law_led := ok__law_led (P := P) (w := w) (base := base) T 4
  refine T.F__law_run.ok sc__law_run (fun vs H Q E h => ?_) (fun cdv A outer s H vs Q E hr h => ?_)
  · obtain ⟨sd, ol, n, p, fa, q, ws, bot, b, S, R, f, rfl, _⟩ := h
    rfl
  obtain ⟨sd, ol, n, p, fa, q, ws, bot, b, S, R, f, rfl, SA, hp, hq, hs, hok, hlev, hS, hf, hfa, hfp, k⟩ := h
  have hu := hu_of hr
  refine ⟨_, PSs.nox (pss_cons (ps_set (i := 4) sc__law_run.nd rfl (Or.inl rfl) (pe_dget hu (pv 3) pe_str (fun _ _ => rfl)))
    (pss_cons (ps_set (i := 5) sc__law_run.nd rfl (Or.inl rfl) (pe_disp (pps_cons pe_str (pv 3) (pps_cons pe_str pe_dnewK (pps_cons pe_str (pe_callTy call_dictD (by rfl) T.z_dict (by decide +kernel) (pa_cons (pe_dget hu (pv 0) pe_str (fun _ _ => rfl)) pa_nil)) (pps_cons pe_str (pe_callTy call_dictD (by rfl) T.z_dict (by decide +kernel) (pa_cons (pe_ix ix_list (pe_dget hu (pv 0) pe_str (fun _ _ => rfl)) (pv 4) (fun _ _ => rfl)) pa_nil)) pps_nil)))) (by rfl) (by rfl) (fun z => by cases z) (by decide)))
    (pss_cons (ps_asg (pe_tup (pa_cons pe_int (pa_cons (pv 1) pa_nil))) (pg_tup rfl (pgs_cons (pg_sub (pv 5) pe_str (set_dict hu)) (pgs_cons (pg_sub (pv 5) pe_str (set_dict hu)) pgs_nil))))
    (pss_cons (ps_if (pt_not (pt_val (pe_call G__law_led (hr.mono (by decide)) rfl T.g__law_led T.F__law_led.kp T.b__law_led .nil pass0 (pa_cons (pv 5) (pa_cons (pv 2) pa_nil)))))
    (pss_one (ps_ret (pe_tup (pa_cons pe_int (pa_cons (pv 1) pa_nil)))))
    pss_nil)
    (pss_cons (ps_asg (pe_tup (pa_cons (pe_dget hu (pv 5) pe_str (fun _ _ => rfl)) (pa_cons (pe_dget hu (pv 5) pe_str (fun _ _ => rfl)) pa_nil))) (pg_tup rfl (pgs_cons (pg_sub (pv 0) pe_str (set_dict hu)) (pgs_cons (pg_sub (pe_dget hu (pv 0) pe_str (fun _ _ => rfl)) (pv 4) set_list) pgs_nil))))
    (pss_one (ps_ret (pe_tup (pa_cons (pe_callB (call_max2 rfl) (by rfl) T.z_max (by decide +kernel) (pa_cons pe_int (pa_cons (pe_dget hu (pv 5) pe_str (fun _ _ => rfl)) pa_nil))) (pa_cons (pe_callB (call_min2 rfl) (by rfl) T.z_min (by decide +kernel) (pa_cons (pv 1) (pa_cons (pe_callB (call_max2 rfl) (by rfl) T.z_max (by decide +kernel) (pa_cons pe_int (pa_cons (pe_dget hu (pv 5) pe_str (fun _ _ => rfl)) pa_nil))) pa_nil))) pa_nil)))))))))), ?_⟩
  obtain ⟨kd, kk, h1, h2, h3, h4, h5⟩ := SA.ob
  obtain ⟨os, g1, g2, g3⟩ := SA.ow
  obtain ⟨x, hx⟩ : ∃ x, os[p]? = some x := ⟨os[p]'(by omega), List.getElem?_eq_getElem _⟩
  obtain ⟨xs1, xr, kx, hkx, hkn⟩ := g3 p x hx
  have hgx : (os.map V.ref)[p]? = some (.ref x) := by rw [List.getElem?_map, hx]; rfl
  walk_at "gg"
  refine ⟨_, _, rfl, dget hfa (factK_get _ .person), ?_⟩
  rw [hfp]
  walk_at "gg"
  intro bk hbk
  have s1 := same_new (o := .dK []) hbk
  walk_at "gg"
  intro lt hlt
  have s2 := s1.trans (same_new (o := .dK []) hlt)
  walk_at "gg"
  refine ⟨_, _, rfl, dget (s2 _ _ h1) (k := Sum.inr "keep") rfl, ?_⟩
  refine ⟨kd, kk, rfl, .inl (s2 _ _ h2), fun kp hkp => ?_⟩
  have s3 := s2.trans (same_new (o := .dK kk) hkp)
  walk_at "gg"
  refine ⟨_, _, rfl, dget (s3 _ _ h1) (k := Sum.inr "own") rfl, ?_⟩
  walk_at "gg"
  refine ⟨ol, _, _, _, rfl, rfl, SqL.of (s3 _ _ g1), at_of (j := p) (by rfl) hgx, ?_⟩
  walk_at "gg"
  refine ⟨x, kx, rfl, .inl (s3 _ _ hkx), fun ow how => ?_⟩
  have s4 := s3.trans (same_new (o := .dK kx) how)
  have q1 := (free_unlock hlt).1
  obtain ⟨q2, q3⟩ := free_unlock hkp
  have q3 := (free_unlock q3).1
  obtain ⟨q4, q5⟩ := free_unlock how
  obtain ⟨q5, q6⟩ := free_unlock q5
  have q6 := (free_unlock q6).1
  have m1 := Same.free s1 hlt
  have m2 := Same.free s2 hkp
  have m3 := Same.free s3 how
  refine ⟨by rw [upd_ne q6.symm, upd_ne q3.symm, upd_ne q1.symm, upd_same], [(Sum.inr "facts", .ref fa), (Sum.inr "let", .ref lt), (Sum.inr "keep", .ref kp), (Sum.inr "own", .ref ow)], rfl, (show 4 ≤ 15 by decide), ?_⟩
  obtain ⟨M, eM⟩ : ∃ M, M = mergeK [] [((Sum.inr "facts" : Key), V.ref fa), (Sum.inr "let", .ref lt), (Sum.inr "keep", .ref kp), (Sum.inr "own", .ref ow)] := ⟨_, rfl⟩
  rw [← eM]
  have S5 : Same H (upd (upd (upd (upd (upd H bk (.dK [])) lt (.dK [])) kp (.dK kk)) ow (.dK kx)) bk (.dK M)) := same_put s4 hbk
  have b1 : upd (upd (upd (upd (upd H bk (.dK [])) lt (.dK [])) kp (.dK kk)) ow (.dK kx)) bk (.dK M) bk = some (.dK M) := upd_same
  have b2 : upd (upd (upd (upd (upd H bk (.dK [])) lt (.dK [])) kp (.dK kk)) ow (.dK kx)) bk (.dK M) lt = some (.dK []) := by rw [upd_ne q1, upd_ne q5.symm, upd_ne q2.symm, upd_same]
  have b3 : upd (upd (upd (upd (upd H bk (.dK [])) lt (.dK [])) kp (.dK kk)) ow (.dK kx)) bk (.dK M) kp = some (.dK kk) := by rw [upd_ne q3, upd_ne q4.symm, upd_same]
  have b4 : upd (upd (upd (upd (upd H bk (.dK [])) lt (.dK [])) kp (.dK kk)) ow (.dK kx)) bk (.dK M) ow = some (.dK kx) := by rw [upd_ne q6, upd_same]
  generalize upd (upd (upd (upd (upd H bk (.dK [])) lt (.dK [])) kp (.dK kk)) ow (.dK kx)) bk (.dK M) = H1 at S5 b1 b2 b3 b4 ⊢
  clear s1 s2 s3 s4 hlt hkp how
  have hMl : M.length < 100000 := by rw [eM]; show 4 < 100000; decide
  walk_at "gg"
  refine ⟨szr, fun tu htu => ?_⟩
  have st := same_new (o := .tup [.int 0, .int bot]) htu
  walk_at "gg"
  refine ⟨bk, _, rfl, DPut.k (k := Sum.inr "weight") (st _ _ b1) (szt hMl), ?_⟩
  walk_at "gg"
  refine ⟨bk, _, rfl, DPut.k (k := Sum.inr "cap") upd_same (szt (by rw [eM]; show 5 < 100000; decide)), ?_⟩
  have S6 : Same H (upd (upd (upd H1 tu (.tup [.int 0, .int bot])) bk (.dK (putK M (Sum.inr "weight") (.int 0)))) bk (.dK (putK (putK M (Sum.inr "weight") (.int 0)) (Sum.inr "cap") (.int bot)))) := same_put (same_put (S5.trans st) hbk) hbk
  have B : BookAt (upd (upd (upd H1 tu (.tup [.int 0, .int bot])) bk (.dK (putK M (Sum.inr "weight") (.int 0)))) bk (.dK (putK (putK M (Sum.inr "weight") (.int 0)) (Sum.inr "cap") (.int bot)))) bk fa (ddOf lt kp ow) (envOf f S.kp (S.ow p) bot) := by
    have fb : fa ≠ bk := ne_of_none hfa hbk
    refine { ob := by rw [upd_same, eM]; rfl, hf := S6 _ _ hfa, dk := fun h => ?_, inj := fun h h' => ?_, nf := fun h => ?_, nb := fun h => ?_, fb := fb }
    · cases h
      · refine ⟨[], ?_, NmOk.nil⟩
        show upd _ _ _ lt = _
        rw [upd_ne q1, upd_ne q1]
        exact st _ _ b2
      · refine ⟨kk, ?_, h3⟩
        show upd _ _ _ kp = _
        rw [upd_ne q3, upd_ne q3]
        exact st _ _ b3
      · refine ⟨kx, ?_, hkn⟩
        show upd _ _ _ ow = _
        rw [upd_ne q6, upd_ne q6]
        exact st _ _ b4
    · cases h <;> cases h' <;> intro z <;> first | rfl | (exfalso; first | exact q2 z | exact q2 z.symm | exact q4 z | exact q4 z.symm | exact q5 z | exact q5 z.symm)
    · cases h
      · exact (ne_of_none hfa m1).symm
      · exact (ne_of_none hfa m2).symm
      · exact (ne_of_none hfa m3).symm
    · cases h
      · exact q1
      · exact q3
      · exact q6
  generalize upd (upd (upd H1 tu (.tup [.int 0, .int bot])) bk (.dK (putK M (Sum.inr "weight") (.int 0)))) bk (.dK (putK (putK M (Sum.inr "weight") (.int 0)) (Sum.inr "cap") (.int bot))) = H2 at S6 B ⊢
  walk_at "gg"
  refine ⟨bk, fa, _, envOf f S.kp (S.ow p) bot, q, ws, b, rfl, B, S6 _ _ hq, hs.mono (same_tp S6), hlev, hok, envOf_bd hS hp hf, fun H3 f3 e3 => ?_⟩
  have g3' : Fr (CP K) (fun _ => False) H H3 := (Fr.of_same S6).trans' f3 fun a ha => .inr (by
    rcases ha with rfl | ⟨h, rfl⟩
    · exact hbk
    · cases h
      · exact m1
      · exact m2
      · exact m3)
  have st3 : Same H H3 := fun a o q => g3'.st a o q fun z => z
  have SA3 := SA.same st3
  cases eb : b.run (envOf f S.kp (S.ow p) bot) with
  | none =>
    have er : runOne bot b S p f = (S, 0, bot) := by unfold runOne; rw [eb]
    rw [er] at k
    walk_at "gg"
    refine ⟨szr, fun u hu => ?_⟩
    exact k u _ ((g3'.new hu).mono fun _ z => z.elim) ((SA3.same (same_new hu)).mono fun a h => .inl h) upd_same
  | some E2 =>
    have er : runOne bot b S p f = ({ S with kp := E2.nums .kp, ow := fun i => if i = p then E2.nums .ow else S.ow i }, maxI 0 E2.w, minI bot (maxI 0 E2.c)) := by unfold runOne; rw [eb]
    rw [er] at k
    have B3 := e3 _ eb
    obtain ⟨kv, r1, r2⟩ := B3.dk .kp
    obtain ⟨kv2, r3, r4⟩ := B3.dk .ow
    have r1 : H3 kp = some (.dK kv) := r1
    have r3 : H3 ow = some (.dK kv2) := r3
    walk_at "gg"
    refine ⟨_, _, rfl, dget B3.ob (k := Sum.inr "keep") rfl, ?_⟩
    walk_at "gg"
    refine ⟨_, _, rfl, dget B3.ob (k := Sum.inr "own") rfl, ?_⟩
    refine ⟨szr, fun tv htv => ?_⟩
    have sv := same_new (o := .tup [.ref kp, .ref ow]) htv
    have st4 := st3.trans sv
    have kps : kp ≠ sd := fun z => by rw [z, h1] at m2; cases m2
    have ows : ow ≠ sd := fun z => by rw [z, h1] at m3; cases m3
    have kpo : kp ≠ ol := fun z => by rw [z, g1] at m2; cases m2
    have owo : ow ≠ ol := fun z => by rw [z, g1] at m3; cases m3
    have SA4 := (SA3.same sv).mono (R' := grow R H (upd H3 tv (.tup [.ref kp, .ref ow]))) fun a h => .inl h
    obtain ⟨SA5, F5⟩ := SA4.put (C := CP K) (bt := S.beat) (sv _ _ r1) r2 (.inr ⟨m2, _, sv _ _ r1⟩) kps
    have SA5 := SA5.mono (grow_le F5)
    have ho5 : upd (upd H3 tv (.tup [.ref kp, .ref ow])) sd (.dK (stK kp ol S.beat)) ow = some (.dK kv2) := by
      rw [upd_ne ows]
      exact sv _ _ r3
    have hl5 : upd (upd H3 tv (.tup [.ref kp, .ref ow])) sd (.dK (stK kp ol S.beat)) ol = some (.lst (os.map V.ref)) := by
      rw [upd_ne SA.so.symm]
      exact st4 _ _ g1
    obtain ⟨SA6, F6⟩ := SA5.putOwn (C := CP K) hl5 hp ho5 r4 (.inr ⟨m3, _, ho5⟩) ows
    have SA6 := SA6.mono (grow_le F6)
    have F7 : Fr (CP K) (Wt sd ol) H (upd (upd (upd H3 tv (.tup [.ref kp, .ref ow])) sd (.dK (stK kp ol S.beat))) ol (.lst ((os.map V.ref).set p (.ref ow)))) := ((Fr.of_same st4).trans F5).trans F6
    have bks : bk ≠ sd := fun z => by rw [z, h1] at hbk; cases hbk
    have bko : bk ≠ ol := fun z => by rw [z, g1] at hbk; cases hbk
    have hb7 : upd (upd (upd H3 tv (.tup [.ref kp, .ref ow])) sd (.dK (stK kp ol S.beat))) ol (.lst ((os.map V.ref).set p (.ref ow))) bk = some (.dK (bookK fa (ddOf lt kp ow) E2.w E2.c)) := by
      rw [upd_ne bko, upd_ne bks]
      exact sv _ _ B3.ob
    walk_at "gg"
    refine ⟨sd, _, rfl, DPut.k (k := Sum.inr "keep") (st4 _ _ h1) (szt (by show 3 < 100000; decide)), ?_⟩
    walk_at "gg"
    refine ⟨_, _, rfl, dget upd_same (k := Sum.inr "own") rfl, ?_⟩
    walk_at "gg"
    refine ⟨ol, _, _, p, rfl, rfl, hl5, ix_nat (by rw [List.length_map, g2]; exact hp), ?_⟩
    walk_at "gg"
    refine ⟨_, _, rfl, dget hb7 (k := Sum.inr "weight") rfl, ?_⟩
    walk_at "gg"
    refine ⟨_, _, rfl, dget hb7 (k := Sum.inr "cap") rfl, ?_⟩
    walk_at "gg"
    refine ⟨szr, fun u hu => ?_⟩
    exact k u _ (F7.new hu) ((SA6.same (same_new hu)).mono (grow_same (same_new hu))) upd_same
end
end K6
set_option maxHeartbeats 4000000
/-! The law's own beat. -/
namespace K6
open PySem PySem.Spec PyProof.Rows L2 RZ
local macro_rules | `(tactic| walk_at "gg") => `(tactic| repeat first
  | refine ⟨_, rfl, ?_⟩ | refine ⟨_, _, rfl, rfl, ?_⟩ | refine ⟨rfl, ?_⟩ | refine iteT ?_ | refine iteF ?_
  | refine ⟨_, _, _, _, rfl, rfl, SqT.of (by assumption), rfl, ?_⟩
  | refine ⟨_, _, _, _, rfl, rfl, SqT.of (by assumption), at0, ?_⟩
  | refine ⟨_, _, _, _, rfl, rfl, SqL.of (by assumption), rfl, ?_⟩
  | refine ⟨_, _, rfl, .inr (SqT.of (by assumption)), ?_⟩
  | refine ⟨_, _, rfl, .inl (SqL.of (by assumption)), ?_⟩
  | refine ⟨_, _, rfl, .inr (SqT.of upd_same), rfl, rfl, ?_⟩
  | refine ⟨_, _, rfl, .inr (Txt.q_HOLDERS (by assumption) _), rfl, rfl, ?_⟩
  | refine ⟨_, _, rfl, .inr (Txt.q_GIVERS (by assumption) _), rfl, rfl, ?_⟩
  | refine ⟨_, _, rfl, .inr (Txt.q_FACTS (by assumption) _), rfl, rfl, ?_⟩
  | refine ⟨_, _, rfl, .inr (Txt.q_SIGNS (by assumption) _), rfl, rfl, ?_⟩
  | refine ⟨_, _, rfl, SqT.of upd_same, rfl, ?_⟩
  | refine ⟨_, _, rfl, SqT.of (by assumption), rfl, ?_⟩
  | refine ⟨_, _, rfl, ?_⟩
  | refine .inl ⟨_, rfl, ?_⟩
  | refine .inr ⟨_, rfl, ?_⟩
  | refine ⟨(by show (0 : Int) < _; decide), ?_⟩
  | refine ⟨.inr ⟨by decide, by decide⟩, ?_⟩
  | refine ⟨.inl ⟨by decide, by decide⟩, ?_⟩
  | refine ⟨⟨by decide, by decide⟩, ?_⟩
  | refine ⟨⟨by decide, by decide, by decide⟩, ?_⟩)
theorem asc_pw : ∀ {ns : List Nat}, (∀ (i a b : Nat), ns[i]? = some a → ns[i + 1]? = some b → a < b) → ns.Pairwise (· < ·)
  | [], _ => List.Pairwise.nil
  | a :: r, q => by
    have t := asc_pw (ns := r) fun i u v hu hv => q (i + 1) u v hu hv
    refine List.pairwise_cons.mpr ⟨fun y hy => ?_, t⟩
    cases r with
    | nil => cases hy
    | cons b s =>
      have ab : a < b := q 0 a b rfl rfl
      rcases List.mem_cons.mp hy with z | z
      · rw [z]; exact ab
      · exact Nat.lt_trans ab ((List.pairwise_cons.mp t).1 y z)
theorem asc_ix {ns : List Nat} (q : ∀ (i a b : Nat), ns[i]? = some a → ns[i + 1]? = some b → a < b) {i j z : Nat} (hi : ns[i]? = some z) (hj : ns[j]? = some z) : i = j :=
  nd_ix ((asc_pw q).imp fun h => Nat.ne_of_lt h) hi hj
theorem ltP_iff {p q : Int × Int} : ltP p q = true ↔ p.1 < q.1 ∨ (p.1 = q.1 ∧ p.2 < q.2) := by
  unfold ltP
  by_cases h : p.1 = q.1
  · rw [if_pos h, decide_eq_true_eq]
    omega
  · rw [if_neg h, decide_eq_true_eq]
    omega
theorem minP_spec (f : Nat → Int × Int) : ∀ (l : List Nat) (a : Nat), ∃ x, x ∈ a :: l ∧ minP (f a) (l.map f) = f x ∧ ∀ y ∈ a :: l, ¬ ltP (f y) (f x) = true
  | [], a => ⟨a, List.mem_cons_self, rfl, fun y hy => by
    rw [List.mem_singleton.mp hy, ltP_iff]
    omega⟩
  | b :: l, a => by
    by_cases h : ltP (f b) (f a) = true
    · obtain ⟨x, h1, h2, h3⟩ := minP_spec f l b
      refine ⟨x, List.mem_cons_of_mem _ h1, ?_, fun y hy => ?_⟩
      · rw [← h2]
        show ((b :: l).map f).foldl _ _ = _
        rw [List.map_cons, List.foldl_cons, if_pos h]
        rfl
      · rcases List.mem_cons.mp hy with e | e
        · rw [e]
          have q := h3 b List.mem_cons_self
          rw [ltP_iff] at q h ⊢
          omega
        · exact h3 y e
    · obtain ⟨x, h1, h2, h3⟩ := minP_spec f l a
      refine ⟨x, ?_, ?_, fun y hy => ?_⟩
      · rcases List.mem_cons.mp h1 with e | e
        · rw [e]; exact List.mem_cons_self
        · exact List.mem_cons_of_mem _ (List.mem_cons_of_mem _ e)
      · rw [← h2]
        show ((b :: l).map f).foldl _ _ = _
        rw [List.map_cons, List.foldl_cons, if_neg h]
        rfl
      · rcases List.mem_cons.mp hy with e | e
        · rw [e]
          exact h3 a List.mem_cons_self
        · rcases List.mem_cons.mp e with e | e
          · rw [e]
            have q := h3 a List.mem_cons_self
            rw [ltP_iff] at q h ⊢
            omega
          · exact h3 y (List.mem_cons_of_mem _ e)
theorem min_few {p : List Int} {a : Nat} {l : List Nat} : (minP (gi p a, (a : Int)) (l.map fun z => (gi p z, (z : Int)))).2 = ((few p (a :: l) : Nat) : Int) ∧ few p (a :: l) ∈ a :: l := by
  obtain ⟨x, h1, h2, h3⟩ := minP_spec (fun z => (gi p z, (z : Int))) l a
  have hf : IsFew p (a :: l) x := by
    refine ⟨h1, fun y hy => ?_, fun y hy e => ?_⟩
    · have q := h3 y hy
      rw [ltP_iff] at q
      have q : ¬ (gi p y < gi p x ∨ gi p y = gi p x ∧ (y : Int) < (x : Int)) := q
      omega
    · have q := h3 y hy
      rw [ltP_iff] at q
      have q : ¬ (gi p y < gi p x ∨ gi p y = gi p x ∧ (y : Int) < (x : Int)) := q
      omega
  rw [few_eq hf]
  exact ⟨by rw [h2], h1⟩
theorem paired_map {α β γ : Type} {R : α → β → Prop} {f : γ → α} {g : γ → β} : ∀ {l : List γ}, (∀ x ∈ l, R (f x) (g x)) → Paired R (l.map f) (l.map g)
  | [], _ => .nil
  | a :: l, h => .cons (h a List.mem_cons_self) (paired_map fun x hx => h x (List.mem_cons_of_mem _ hx))
theorem paired_imp {α β : Type} {R S : α → β → Prop} (h : ∀ a b, R a b → S a b) : ∀ {xs : List α} {ys : List β}, Paired R xs ys → Paired S xs ys
  | _, _, .nil => .nil
  | _, _, .cons q r => .cons (h _ _ q) (paired_imp h r)
theorem paired_snoc {α β : Type} {R : α → β → Prop} {a : α} {b : β} (h : R a b) : ∀ {xs : List α} {ys : List β}, Paired R xs ys → Paired R (xs ++ [a]) (ys ++ [b])
  | _, _, .nil => .cons h .nil
  | _, _, .cons q r => .cons q (paired_snoc h r)
theorem paired_len {α β : Type} {R : α → β → Prop} : ∀ {xs : List α} {ys : List β}, Paired R xs ys → xs.length = ys.length
  | _, _, .nil => rfl
  | _, _, .cons _ r => congrArg Nat.succ (paired_len r)
/-- the ranks of the first i people -/
def RankAt (H : Hp) (rd : Addr) (ns : List Nat) (i : Nat) (ws cs : List Int) : Prop := ∃ rk, H rd = some (.dK rk) ∧ rk.length ≤ i ∧ ∀ (j z : Nat), j < i → ns[j]? = some z → ∃ u, valV rk (Sum.inl (z : Int) : Key) = some (.ref u) ∧ H u = some (.tup [.int (gi ws z), .int (gi cs z)])
def sp_law_tops (C : Addr) : Sp := fun vs H Q _ => ∃ sd ol q pn ph pt, ∃ n bot : Nat, ∃ bw b S R needs things ns, vs = [.ref sd, .int (bot : Int), .ref q, .ref pn, .ref ph, .ref pt] ∧ StateAt H sd ol n S R ∧ Al R H ∧ n ≤ 100 ∧ bot ≤ 360 ∧ H q = some (.tup bw) ∧ StsAt H bw b ∧ b.ok ∧ b.lev ≤ 4 ∧ S.bd n ∧
  NumsAt H pn needs ∧ needs.length = n ∧ LotAt H ph ns n ∧ ns ≠ [] ∧ ns.length ≤ 100 ∧ NumsAt H pt things ∧ things.length = n ∧
  ∀ v H', Fr C (Wt sd ol) H H' → StateAt H' sd ol n (aft bot b needs things ns n S) (grow R H H') → H' v = some (.tup ((toldP bot b needs things ns n S).map V.int)) → Q (.ref v) H'
section
variable {P : Program} {w : World} {K : PySem.W.Frag} {mg : Str → Option Value} {base : Heap}
theorem ok__law_tops (T : Txt K mg) : FnOk P w K mg base CX0 12 (a__law_tops K) (fdOf K (a__law_tops K)) ["_law_state_here", "_law_bottom", "_law_block_here", "_law_needs", "_law_here_here", "_law_things"] (sp_law_tops (CP K)) := by
  have G__law_run := ok__law_run (P := P) (w := w) (base := base) T
  refine T.F__law_tops.ok sc__law_tops (fun vs H Q E h => ?_) (fun cdv A outer s H vs Q E hr h => ?_)
  · obtain ⟨sd, ol, q, pn, ph, pt, n, bot, bw, b, S, R, needs, things, ns, rfl, _⟩ := h
    rfl
  obtain ⟨sd, ol, q, pn, ph, pt, n, bot, bw, b, S, R, needs, things, ns, rfl, SA, hal, hn, hbot, hq, hs, hok, hlev, hS, hN, hN2, hL, hne, hl, hT, hT2, k⟩ := h
  have hu := hu_of hr
  refine ⟨_, PSs.nox (pss_cons (ps_asg (pe_tup (pa_cons pe_dnewK (pa_cons (pe_op op_rep (pe_lst (pa_cons pe_int pa_nil)) (pe_callB call_len_seq (by rfl) T.z_len boot_len (pa_cons (pv 3) pa_nil))) pa_nil))) (pg_tup rfl (pgs_cons (pg_name (i := 6) sc__law_tops.nd rfl (Or.inl rfl)) (pgs_cons (pg_name (i := 7) sc__law_tops.nd rfl (Or.inr rfl)) pgs_nil))))
    (pss_cons (ps_for PassesOwn.never rfl (pi_tup (pv 4)) (pg_name (i := 8) sc__law_tops.nd rfl (Or.inl rfl))
    (pss_cons (ps_set (i := 9) sc__law_tops.nd rfl (Or.inl rfl) (pe_disp (pps_cons pe_str (pe_dget hu (pv 0) pe_str (fun _ _ => rfl)) (pps_cons pe_str (pv 8) (pps_cons pe_str (pe_ix ix_tup (pv 3) (pv 8) (fun _ _ => rfl)) (pps_cons pe_str (pe_ix ix_tup (pv 5) (pv 8) (fun _ _ => rfl)) pps_nil)))) (by rfl) (by rfl) (fun z => by cases z) (by decide)))
    (pss_cons (ps_dput hu (pv 9) pe_str (pe_callB call_len_seq (by rfl) T.z_len boot_len (pa_cons (pv 4) pa_nil)) rfl)
    (pss_one (ps_dput hu (pv 6) (pv 8) (pe_call G__law_run (hr.mono (by decide)) rfl T.g__law_run T.F__law_run.kp T.b__law_run .nil pass0 (pa_cons (pv 0) (pa_cons (pv 1) (pa_cons (pv 2) (pa_cons (pv 9) pa_nil))))) rfl)))))
    (pss_cons (ps_dput hu (pv 0) pe_str (pe_op op_add (pe_dget hu (pv 0) pe_str (fun _ _ => rfl)) pe_int) rfl)
    (pss_cons (ps_for PassesOwn.never rfl (pi_range1 (by rfl) T.z_range (pa_cons (pv 1) pa_nil)) (pg_name (i := 10) sc__law_tops.nd rfl (Or.inl rfl))
    (pss_cons (ps_set (i := 11) sc__law_tops.nd rfl (Or.inl rfl) pe_non)
    (pss_cons (ps_for PassesOwn.never rfl (pi_tup (pv 4)) (pg_name (i := 8) sc__law_tops.nd rfl (Or.inl rfl))
    (pss_cons (ps_asg (pe_dget hu (pv 6) (pv 8) (fun _ _ => rfl)) (pg_tup rfl (pgs_cons (pg_name (i := 12) sc__law_tops.nd rfl (Or.inl rfl)) (pgs_cons (pg_name (i := 13) sc__law_tops.nd rfl (Or.inl rfl)) pgs_nil))))
    (pss_one (ps_if (PW.pt (pw_and (pt_cmpR op_gt (pv 12) pe_int (nomark _)) (pw_and1 (pt_cmpR op_lt (pe_ix ix_list (pv 7) (pv 8) (fun _ _ => rfl)) (pv 13) (nomark _)))))
    (pss_one (ps_if (PW.pt (pw_or (pt_cmpR op_isN (pv 11) pe_non (nomark _)) (pw_or1 (pt_cmpR op_lt (pe_op op_mul (pe_op op_add (pe_ix ix_list (pv 7) (pv 8) (fun _ _ => rfl)) pe_int) (pe_ix ix_tup (pe_dget hu (pv 6) (pv 11) (fun _ _ => rfl)) pe_int (fun _ _ => rfl))) (pe_op op_mul (pe_op op_add (pe_ix ix_list (pv 7) (pv 11) (fun _ _ => rfl)) pe_int) (pv 12)) (nomark _)))))
    (pss_one (ps_set (i := 11) sc__law_tops.nd rfl (Or.inl rfl) (pv 8)))
    pss_nil))
    pss_nil))))
    (pss_cons (ps_if (pt_cmpR op_isN (pv 11) pe_non (nomark _))
    (pss_one (ps_set (i := 11) sc__law_tops.nd rfl (Or.inl rfl) (pe_ix ix_tup (pe_callB (cr_minP rfl hr.units) (by rfl) T.z_min (by decide +kernel) (pa_cons (pe_lc (own := [("_law_person", 8)]) rfl sc__law_tops.nd (pi_tup (pv 4)) (blkOk_by (own := [("_law_person", 8)]) (N := ["_law_state_here", "_law_bottom", "_law_block_here", "_law_needs", "_law_here_here", "_law_things", "_law_ranks", "_law_parts_here", "_law_person", "_law_facts", "_law_turn", "_law_best", "_law_weight", "_law_cap"]) (sc := defScope s__law_tops) (by decide +kernel)) (fun _ _ _ _ _ => (pg_name (i := 8) sc__law_tops.nd rfl (Or.inl rfl))) (fun _ _ _ _ _ => pts_nil) (fun _ _ _ _ _ => (pe_tup (pa_cons (pe_ix (ix_listK (K := K) rfl) (pv 7) (pv 8) (fun _ _ => rfl)) (pa_cons (pv 8) pa_nil))))) pa_nil)) pe_int (fun _ _ => rfl))))
    pss_nil)
    (pss_one (ps_asg (pe_op op_add (pe_ix ix_list (pv 7) (pv 11) (fun _ _ => rfl)) pe_int) (pg_sub (pv 7) (pv 11) set_list)))))))
    (pss_one (ps_ret (pe_callTy call_tuple_of (by rfl) T.z_tuple (by decide +kernel) (pa_cons (pv 7) pa_nil)))))))), ?_⟩
  walk_at "gg"
  intro rd hrd
  have s1 := same_new (o := .dK []) hrd
  refine ⟨szr, fun l0 hl0 => ?_⟩
  have s2 := s1.trans (same_new (o := .lst [.int 0]) hl0)
  walk_at "gg"
  refine ⟨_, _, rfl, .inr (SqT.of (s2 _ _ hN.1)), ?_⟩
  rw [List.length_map, hN2]
  refine ⟨l0, (n : Int), _, rfl, rfl, upd_same, by omega, by omega, by rw [Int.toNat_natCast]; exact szl (by simp; omega), fun pl hpl => ?_⟩
  rw [Int.toNat_natCast, rep_flat]
  have s3 := s2.trans (same_new (o := .lst ((List.replicate n 0).map V.int)) hpl)
  have f1 : H pl = none := Same.free s2 hpl
  have rl0 : rd ≠ l0 := (free_unlock hl0).1.symm
  have rpl : rd ≠ pl := fun z => by
    have := (free_unlock (free_unlock hpl).2).1
    exact this z.symm
  refine ⟨szr, fun tu htu => ?_⟩
  have S0 := s3.trans (same_new (o := .tup [.ref rd, .ref pl]) htu)
  have d1 := (same_new (o := .tup [.ref rd, .ref pl]) htu) _ _ (upd_same (H := upd (upd H rd (.dK [])) l0 (.lst [.int 0])) (a := pl) (o := .lst ((List.replicate n 0).map V.int)))
  have d0 : upd (upd (upd (upd H rd (.dK [])) l0 (.lst [.int 0])) pl (.lst ((List.replicate n 0).map V.int))) tu (.tup [.ref rd, .ref pl]) rd = some (.dK []) := (same_new (o := .tup [.ref rd, .ref pl]) htu) _ _ (by rw [upd_ne rpl, upd_ne rl0, upd_same])
  walk_at "gg"
  generalize upd (upd (upd (upd H rd (.dK [])) l0 (.lst [.int 0])) pl (.lst ((List.replicate n 0).map V.int))) tu (.tup [.ref rd, .ref pl]) = H0 at S0 d1 d0 ⊢
  have r1 : ∀ {H2 : Hp} (a : Addr), (a = rd ∨ a = pl) → ¬ grow R H0 H2 a := fun {H2} a e z => by
    rcases z with z | ⟨z, _⟩
    · obtain ⟨o, q⟩ := hal a z
      rcases e with rfl | rfl
      · rw [hrd] at q; cases q
      · rw [f1] at q; cases q
    · rcases e with rfl | rfl
      · rw [d0] at z; cases z
      · rw [d1] at z; cases z
  clear s1 s2 s3 hpl hl0 htu
  refine ⟨⟨_, SqT.of (S0 _ _ hL.1)⟩, for_tup (xs := ns.map nV) (fun i σ H2 => ∃ a8 a9, i ≤ ns.length ∧ σ = [some (.ref sd), some (.int (bot : Int)), some (.ref q), some (.ref pn), some (.ref ph), some (.ref pt), some (.ref rd), some (.ref pl), a8, a9, none, none, none, none] ∧ Fr (CP K) (fun a => Wt sd ol a ∨ a = rd) H0 H2 ∧
    StateAt H2 sd ol n (ledTo bot b needs things ns n S i).1 (grow R H0 H2) ∧ StepOk n S (ledTo bot b needs things ns n S i) ∧ RankAt H2 rd ns i (ledTo bot b needs things ns n S i).2.1 (ledTo bot b needs things ns n S i).2.2)
    ⟨none, none, Nat.zero_le _, rfl, Fr.refl, (SA.same S0).mono fun a h => .inl h, StepOk.zero hS, ⟨[], d0, Nat.le_refl _, fun j z h => absurd h (Nat.not_lt_zero j)⟩⟩ (fun i σ H2 _ ⟨_, _, _, _, f2, _⟩ => SqT.of (f2.tp _ _ (S0 _ _ hL.1))) ?_ ?_⟩
  · rintro i x σ H2 hx ⟨a8, a9, _, rfl, F2, SA2, SO, hRk⟩
    obtain ⟨z, hz, rfl⟩ := get_nat hx
    have hi := (List.getElem?_eq_some_iff.mp hz).1
    have hzn := hL.2.1 z (List.mem_of_getElem? hz)
    have est := ledTo_step (bot := bot) (b := b) (needs := needs) (things := things) (n := n) (S := S) hz
    generalize hX : ledTo bot b needs things ns n S i = X at *
    obtain ⟨kd2, kk2, i1, i2, i3, i4, i5⟩ := SA2.ob
    obtain ⟨rk, k1, k2, k3⟩ := hRk
    have hpn := F2.tp _ _ (S0 _ _ hN.1)
    have hpt := F2.tp _ _ (S0 _ _ hT.1)
    have hph := F2.tp _ _ (S0 _ _ hL.1)
    have hqq := F2.tp _ _ (S0 _ _ hq)
    have hss := hs.mono ((same_tp S0).trans F2.tp)
    walk_at "gg"
    intro fd hfd
    have sf := same_new (o := .dK []) hfd
    walk_at "gg"
    refine ⟨_, _, rfl, dget (sf _ _ i1) (k := Sum.inr "beat") rfl, ?_⟩
    walk_at "gg"
    refine ⟨_, _, _, _, rfl, rfl, SqT.of (sf _ _ hpn), at_gi (l := needs) (i := z) (by omega), ?_⟩
    walk_at "gg"
    refine ⟨_, _, _, _, rfl, rfl, SqT.of (sf _ _ hpt), at_gi (l := things) (i := z) (by omega), ?_⟩
    refine ⟨upd_same, [(Sum.inr "beat", .int X.1.beat), (Sum.inr "person", .int (z : Int)), (Sum.inr "need", .int (gi needs z)), (Sum.inr "things", .int (gi things z))], rfl, (show 4 ≤ 15 by decide), ?_⟩
    have npf : ph ≠ fd := ne_of_none hph hfd
    walk_at "gg"
    refine ⟨_, _, rfl, .inr (SqT.of (by rw [upd_ne npf, upd_ne npf]; exact hph)), ?_⟩
    walk_at "gg"
    refine ⟨fd, _, rfl, DPut.k (k := Sum.inr "people") upd_same (szt (by show 4 < 100000; decide)), ?_⟩
    obtain ⟨fc, efc⟩ : ∃ fc, fc = fctOf X.1.beat z needs things ns.length := ⟨_, rfl⟩
    obtain ⟨Hf, eHf⟩ : ∃ Hf, Hf = upd (upd (upd H2 fd (.dK [])) fd (.dK (mergeK [] [(Sum.inr "beat", .int X.1.beat), (Sum.inr "person", .int (z : Int)), (Sum.inr "need", .int (gi needs z)), (Sum.inr "things", .int (gi things z))]))) fd (.dK (putK (mergeK [] [(Sum.inr "beat", .int X.1.beat), (Sum.inr "person", .int (z : Int)), (Sum.inr "need", .int (gi needs z)), (Sum.inr "things", .int (gi things z))]) (Sum.inr "people") (.int (((ns.map nV).length : Nat) : Int)))) := ⟨_, rfl⟩
    rw [← eHf]
    have sff : Same H2 Hf := fun c o e => by
      have cn := ne_of_none e hfd
      rw [eHf, upd_ne cn, upd_ne cn, upd_ne cn]
      exact e
    have hff : Hf fd = some (.dK (factK fc)) := by
      rw [eHf, upd_same, List.length_map, efc]
      rfl
    have Ff := F2.trans (Fr.of_same sff)
    walk_at "gg"
    refine ⟨sd, ol, n, z, fd, q, bw, (bot : Int), b, X.1, grow R H0 Hf, fc, rfl, (SA2.same sff).mono (grow_same sff), hzn, sff _ _ hqq, hss.mono (same_tp sff), hok, hlev, SO.bd, by rw [efc]; exact fct_in SO.bd.b0 SO.bd.b1 (by omega) hl hN.2 hT.2, hff, by rw [efc]; rfl, fun u H5 F5 SA5 hu5 => ?_⟩
    rw [efc] at SA5 hu5
    have SA5 := SA5.mono (grow_grow Ff F5)
    obtain ⟨os, g1, _⟩ := SA2.ow
    have nrs : rd ≠ sd := fun z => r1 rd (.inl rfl) (by rw [z]; exact SA2.rs)
    have nro : rd ≠ ol := fun z => r1 rd (.inl rfl) (by rw [z]; exact SA2.ro)
    have k15 := F5.st _ _ (sff _ _ k1) (by rintro (q | q); exact nrs q; exact nro q)
    have P1 : ∀ o, Fr (CP K) (fun a => a = rd) H5 (upd H5 rd o) := fun o => Fr.put rfl k15 (fun xs q => by cases q) fun dx fs q => by cases q
    walk_at "gg"
    refine ⟨rd, _, rfl, DPut.k (k := Sum.inl (z : Int)) k15 (szt (by omega)), ?_⟩
    refine ⟨_, _, hi, rfl, ((Ff.trans (F5.mono fun a h => .inl h)).trans ((P1 _).mono fun a h => .inr h)), ?_, ?_, ?_⟩
    · rw [est]
      exact (SA5.frame (P1 _) fun a e => r1 a (.inl e)).mono (grow_le (P1 (.dK (putK rk (Sum.inl (z : Int)) (.ref u)))))
    · rw [est]
      exact SO.step hok hzn hn hl hN.2 hT.2
    · rw [est]
      refine ⟨_, upd_same, Nat.le_trans (length_putK _ _ _) (by omega), fun j z' hj hz' => ?_⟩
      have ur : u ≠ rd := fun e => by rw [e, k15] at hu5; cases hu5
      by_cases c : z' = z
      · subst c
        refine ⟨u, by rw [valV_put, if_pos rfl], ?_⟩
        rw [upd_ne ur, hu5]
        show _ = some (HO.tup [.int (gi (X.2.1.set z' _) z'), .int (gi (X.2.2.set z' _) z')])
        rw [gi_set (by rw [SO.l1]; exact hzn), gi_set (by rw [SO.l2]; exact hzn), if_pos rfl, if_pos rfl]
      · have hji : j < i := by
          rcases Nat.lt_or_ge j i with h | h
          · exact h
          · have e : j = i := by omega
            rw [e, hz] at hz'
            cases hz'
            exact absurd rfl c
        obtain ⟨u', v1, v2⟩ := k3 j z' hji hz'
        have u'r : u' ≠ rd := fun e => by rw [e, k1] at v2; cases v2
        refine ⟨u', by rw [valV_put, if_neg fun e => c (by injection e with e; omega)]; exact v1, ?_⟩
        rw [upd_ne u'r, F5.tp _ _ ((same_tp sff) _ _ v2)]
        show _ = some (HO.tup [.int (gi (X.2.1.set z _) z'), .int (gi (X.2.2.set z _) z')])
        rw [gi_set (by rw [SO.l1]; exact hzn), gi_set (by rw [SO.l2]; exact hzn), if_neg c, if_neg c]
  · rintro σ H2 ⟨a8, a9, _, rfl, F2, SA2, SO, hRk⟩
    rw [List.length_map] at SA2 SO hRk
    have eT : toldP bot b needs things ns n S = tps (ledTo bot b needs things ns n S ns.length).2.1 (ledTo bot b needs things ns n S ns.length).2.2 ns n bot := rfl
    have eA : aft bot b needs things ns n S = { (ledTo bot b needs things ns n S ns.length).1 with beat := S.beat + 1 } := rfl
    rw [eT, eA] at k
    generalize hX : ledTo bot b needs things ns n S ns.length = X at *
    obtain ⟨kd2, kk2, i1, i2, i3, i4, i5⟩ := SA2.ob
    walk_at "gg"
    refine ⟨_, _, rfl, dget i1 (k := Sum.inr "beat") rfl, ?_⟩
    walk_at "gg"
    refine ⟨sd, _, rfl, DPut.k (k := Sum.inr "beat") i1 (szt (by show 3 < 100000; decide)), ?_⟩
    obtain ⟨SA4, F4⟩ := SA2.put (C := CP K) (bt := X.1.beat + 1) i2 i3 i4 i5
    have nrs : rd ≠ sd := fun z => r1 rd (.inl rfl) (by rw [z]; exact SA2.rs)
    have npo : pl ≠ ol := fun z => r1 pl (.inr rfl) (by rw [z]; exact SA2.ro)
    have nps : pl ≠ sd := fun z => r1 pl (.inr rfl) (by rw [z]; exact SA2.rs)
    have hpl2 := F2.st _ _ d1 (by rintro ((q | q) | q); exact nps q; exact npo q; exact rpl q.symm)
    have hpl4 : upd H2 sd (.dK (stK kd2 ol (X.1.beat + 1))) pl = some (.lst ((List.replicate n 0).map V.int)) := by rw [upd_ne nps]; exact hpl2
    have hR4 : RankAt (upd H2 sd (.dK (stK kd2 ol (X.1.beat + 1)))) rd ns ns.length X.2.1 X.2.2 := by
      obtain ⟨rk, k1, k2, k3⟩ := hRk
      refine ⟨rk, by rw [upd_ne nrs]; exact k1, k2, fun j z hj hz => ?_⟩
      obtain ⟨u, v1, v2⟩ := k3 j z hj hz
      exact ⟨u, v1, F4.tp _ _ v2⟩
    have F04 := F2.trans (F4.mono fun a h => Or.inl (b := a = rd) h)
    have hp4 := F04.tp _ _ (S0 _ _ hL.1)
    have eb4 : X.1.beat + 1 = S.beat + 1 := by rw [SO.bt]
    change tSeq _ _ _ _ (upd H2 sd (.dK (stK kd2 ol (X.1.beat + 1))))
    generalize upd H2 sd (.dK (stK kd2 ol (X.1.beat + 1))) = H4 at SA4 F4 hpl4 hR4 F04 hp4 ⊢
    obtain ⟨rk, k1, k2, k3⟩ := hR4
    have lw := SO.l1
    have lc := SO.l2
    walk_at "gg"
    refine ⟨by omega, by omega, for_range (lo := 0) (n := ((bot : Int)).toNat) (fun i σ H5 => ∃ a8 b10 b11 b12 b13, i ≤ bot ∧ σ = [some (.ref sd), some (.int (bot : Int)), some (.ref q), some (.ref pn), some (.ref ph), some (.ref pt), some (.ref rd), some (.ref pl), a8, a9, b10, b11, b12, b13] ∧ Fr (CP K) (fun a => a = pl) H4 H5 ∧
      H5 pl = some (.lst ((tps X.2.1 X.2.2 ns n i).map V.int)) ∧ PartsIn (tps X.2.1 X.2.2 ns n i) i) ⟨_, none, none, none, none, Nat.zero_le _, rfl, Fr.refl, hpl4, PartsIn.rep⟩ ?_ ?_⟩
    · rintro i σ H5 hi ⟨b8, b10, b11, b12, b13, _, rfl, F5, g5, hP⟩
      have tl := tps_len (w := X.2.1) (c := X.2.2) (ns := ns) (n := n) i
      have hnx : tps X.2.1 X.2.2 ns n (i + 1) = turn X.2.1 X.2.2 ns (tps X.2.1 X.2.2 ns n i) := rfl
      generalize tps X.2.1 X.2.2 ns n i = ps at tl hnx g5 hP
      have hp5 := F5.tp _ _ hp4
      have k15 := F5.st _ _ k1 rpl
      walk_at "gg"
      refine ⟨⟨_, SqT.of hp5⟩, for_tup (xs := ns.map nV) (fun j σ H6 => ∃ a8 a12 a13, σ = [some (.ref sd), some (.int (bot : Int)), some (.ref q), some (.ref pn), some (.ref ph), some (.ref pt), some (.ref rd), some (.ref pl), a8, a9, some (.int (0 + (i : Int))), some (optV (best X.2.1 X.2.2 ps (ns.take j))), a12, a13] ∧ H6 = H5) ⟨_, _, _, rfl, rfl⟩ (fun j σ H6 _ ⟨_, _, _, _, e2⟩ => by rw [e2]; exact SqT.of hp5) ?_ ?_⟩
      · rintro j x σ H6 hx ⟨a8', a12, a13, rfl, rfl⟩
        obtain ⟨z, hz, rfl⟩ := get_nat hx
        have hj := (List.getElem?_eq_some_iff.mp hz).1
        have hzm := hL.2.1 z (List.mem_of_getElem? hz)
        have hst : best X.2.1 X.2.2 ps (ns.take (j + 1)) = bestS X.2.1 X.2.2 ps (best X.2.1 X.2.2 ps (ns.take j)) z := foldl_take hz
        have hin : ∀ y, best X.2.1 X.2.2 ps (ns.take j) = some y → y ∈ ns := fun y e => best_in e
        generalize hf : best X.2.1 X.2.2 ps (ns.take j) = f at hst hin
        obtain ⟨u, v1, v2⟩ := k3 j z hj hz
        have v2 := F5.tp _ _ v2
        have gp := at_gi (l := ps) (i := z) (by omega)
        walk_at "gg"
        refine ⟨_, _, rfl, dget k15 (k := Sum.inl (z : Int)) v1, ?_⟩
        walk_at "gg"
        refine if2 (fun c1 => ?_) (fun c1 => ?_)
        · have c1 : (0 : Int) < gi X.2.1 z := of_decide_eq_true c1
          walk_at "gg"
          refine ⟨_, _, _, _, rfl, rfl, SqL.of g5, gp, ?_⟩
          walk_at "gg"
          refine if2 (fun c2 => ?_) (fun c2 => ?_)
          · have c2 : gi ps z < gi X.2.2 z := of_decide_eq_true c2
            cases f with
            | none =>
              walk_at "gg"
              have e1 : best X.2.1 X.2.2 ps (ns.take (j + 1)) = some z := hst.trans (by unfold bestS; rw [if_pos ⟨c1, c2⟩])
              exact ⟨some (.int (z : Int)), _, _, by rw [e1]; rfl, rfl⟩
            | some y =>
              have hyn := hin y rfl
              have hy := hL.2.1 y hyn
              obtain ⟨jy, hjy⟩ := List.getElem?_of_mem hyn
              obtain ⟨uy, w1, w2⟩ := k3 jy y (List.getElem?_eq_some_iff.mp hjy).1 hjy
              have w2 := F5.tp _ _ w2
              have hPz := hP z
              have hPy := hP y
              have gpy := at_gi (l := ps) (i := y) (by omega)
              have hb2 : bestS X.2.1 X.2.2 ps (some y) z = if (gi ps z + 1) * gi X.2.1 y < (gi ps y + 1) * gi X.2.1 z then some z else some y := by
                unfold bestS
                rw [if_pos ⟨c1, c2⟩]
              walk_at "gg"
              refine ⟨_, _, _, _, rfl, rfl, SqL.of g5, gp, ?_⟩
              walk_at "gg"
              refine ⟨_, _, rfl, dget k15 (k := Sum.inl (y : Int)) w1, ?_⟩
              walk_at "gg"
              refine ⟨cmul_within ⟨by show -1000000000000000000 ≤ gi ps z + 1; omega, by show gi ps z + 1 ≤ 1000000000000000000; omega⟩, ?_⟩
              walk_at "gg"
              refine ⟨_, _, _, _, rfl, rfl, SqL.of g5, gpy, ?_⟩
              walk_at "gg"
              refine ⟨cmul_within ⟨by show -1000000000000000000 ≤ gi ps y + 1; omega, by show gi ps y + 1 ≤ 1000000000000000000; omega⟩, ?_⟩
              walk_at "gg"
              refine if2 (fun c3 => ?_) (fun c3 => ?_)
              · have c3 : (gi ps z + 1) * gi X.2.1 y < (gi ps y + 1) * gi X.2.1 z := of_decide_eq_true c3
                rw [if_pos c3] at hb2
                walk_at "gg"
                exact ⟨some (.int (z : Int)), _, _, by rw [hst, hb2]; rfl, rfl⟩
              · have c3 : ¬ (gi ps z + 1) * gi X.2.1 y < (gi ps y + 1) * gi X.2.1 z := of_decide_eq_false c3
                rw [if_neg c3] at hb2
                exact ⟨some (.int (z : Int)), _, _, by rw [hst, hb2]; rfl, rfl⟩
          · have c2 : ¬ gi ps z < gi X.2.2 z := of_decide_eq_false c2
            exact ⟨some (.int (z : Int)), _, _, by rw [hst, show bestS X.2.1 X.2.2 ps f z = f from if_neg fun q => c2 q.2]; rfl, rfl⟩
        · have c1 : ¬ (0 : Int) < gi X.2.1 z := of_decide_eq_false c1
          exact ⟨some (.int (z : Int)), _, _, by rw [hst, show bestS X.2.1 X.2.2 ps f z = f from if_neg fun q => c1 q.1]; rfl, rfl⟩
      · rintro σ H6 ⟨a8', a12, a13, rfl, rfl⟩
        rw [List.length_map, List.take_length]
        cases hf : best X.2.1 X.2.2 ps ns with
        | some y =>
          have hy : next X.2.1 X.2.2 ps ns = y := by unfold next; rw [hf]
          have hyn := hL.2.1 y (best_in (i := ns.length) (by rw [List.take_length]; exact hf))
          have gpy := at_gi (l := ps) (i := y) (by omega)
          walk_at "gg"
          refine ⟨_, _, _, _, rfl, rfl, SqL.of g5, gpy, ?_⟩
          walk_at "gg"
          refine ⟨pl, _, _, y, rfl, rfl, g5, ix_nat (by rw [List.length_map]; omega), ?_⟩
          refine ⟨_, _, _, _, _, by omega, rfl, F5.trans (Fr.put rfl g5 (fun xs q => by cases q) fun dx fs q => by cases q), ?_, ?_⟩
          · rw [upd_same, hnx]
            unfold turn
            rw [hy, List.map_set]
          · rw [hnx]
            exact turn_in hP (by omega)
        | none =>
          have hy : next X.2.1 X.2.2 ps ns = few ps ns := by unfold next; rw [hf]
          obtain ⟨z0, zr, rfl⟩ : ∃ a r, ns = a :: r := by
            cases ns with
            | nil => exact absurd rfl hne
            | cons a r => exact ⟨a, r, rfl⟩
          obtain ⟨mf1, mf2⟩ := min_few (p := ps) (a := z0) (l := zr)
          have hyn := hL.2.1 _ mf2
          have gpy := at_gi (l := ps) (i := few ps (z0 :: zr)) (by omega)
          walk_at "gg"
          refine ⟨⟨_, SqT.of hp5⟩, fun D hD => lc_tup (xs := (z0 :: zr).map nV) (fun i H7 => i ≤ (z0 :: zr).length ∧ Same H6 H7 ∧ ∃ qs : List Addr, H7 D = some (.lst (qs.map V.ref)) ∧ Paired (fun p z => H7 p = some (.tup [.int z.1, .int z.2])) qs (((z0 :: zr).take i).map fun z => (gi ps z, (z : Int)))) ⟨Nat.zero_le _, same_new hD, [], upd_same, .nil⟩ (fun i H7 _ q => SqT.of (q.2.1 _ _ hp5)) ?_ ?_⟩
          · rintro i x H7 hx ⟨_, s7, qs, e7, p7⟩
            obtain ⟨z, hz, rfl⟩ := get_nat hx
            have hzm := hL.2.1 z (List.mem_of_getElem? hz)
            have hi := (List.getElem?_eq_some_iff.mp hz).1
            have tk : (z0 :: zr).take (i + 1) = (z0 :: zr).take i ++ [z] := by
              rw [List.take_add_one, hz]
              rfl
            have ql : qs.length ≤ 100 := by
              have := paired_len p7
              rw [List.length_map] at this
              have q2 := List.length_take_le i (z0 :: zr)
              omega
            walk_at "gg"
            refine ⟨_, _, _, _, rfl, rfl, SqL.of (s7 _ _ g5), at_gi (l := ps) (i := z) (by omega), ?_⟩
            walk_at "gg"
            refine ⟨szr, fun tt htt => ?_⟩
            have s8 := same_new (o := .tup [.int (gi ps z), .int (z : Int)]) htt
            have nDt : tt ≠ D := fun e => by rw [e, e7] at htt; cases htt
            refine ⟨qs.map V.ref, s8 _ _ e7, by rw [List.length_map]; exact szt (by omega), hi, same_put (s7.trans s8) hD, qs ++ [tt], ?_, ?_⟩
            · rw [upd_same, List.map_append]
              rfl
            · have tp : Tp H7 (upd (upd H7 tt (.tup [.int (gi ps z), .int (z : Int)])) D (.lst (qs.map V.ref ++ [.ref tt]))) := (same_tp s8).trans (Tp.put (s8 _ _ e7))
              rw [tk, List.map_append]
              refine paired_snoc ?_ (paired_imp (fun a b h => tp _ _ h) p7)
              rw [upd_ne nDt, upd_same]
          · rintro H7 ⟨_, s7, qs, e7, p7⟩
            rw [List.length_map, List.take_length, List.map_cons] at p7
            walk_at "gg"
            refine ⟨D, qs, _, _, rfl, SqL.of e7, paired_imp (fun a b h => SqT.of h) p7, fun pm hpm => ?_⟩
            rw [mf1] at hpm
            have g7 := s7 _ _ g5
            refine ⟨pm, _, _, _, rfl, rfl, hpm, rfl, ?_⟩
            walk_at "gg"
            refine ⟨_, _, _, _, rfl, rfl, SqL.of g7, gpy, ?_⟩
            walk_at "gg"
            refine ⟨pl, _, _, few ps (z0 :: zr), rfl, rfl, g7, ix_nat (by rw [List.length_map]; omega), ?_⟩
            refine ⟨_, _, _, _, _, by omega, rfl, (F5.trans (Fr.of_same s7)).trans (Fr.put rfl g7 (fun xs q => by cases q) fun dx fs q => by cases q), ?_, ?_⟩
            · rw [upd_same, hnx]
              unfold turn
              rw [hy, List.map_set]
            · rw [hnx]
              exact turn_in hP (by omega)
    · rintro σ H5 ⟨b8, b10, b11, b12, b13, _, rfl, F5, g5, hP⟩
      rw [Int.toNat_natCast] at g5
      walk_at "gg"
      refine ⟨pl, _, rfl, .inl ⟨SqL.of g5, fun v hv => ?_⟩⟩
      have F6 : Fr (CP K) (Wt sd ol) H (upd H5 v (.tup ((tps X.2.1 X.2.2 ns n bot).map V.int))) := (((Fr.of_same S0).trans' F04 fun a e => by
        rcases e with e | rfl
        · exact .inl e
        · exact .inr hrd).trans' F5 fun a e => .inr (by rw [e]; exact f1)).new hv
      refine k v _ F6 ?_ upd_same
      rw [← eb4]
      have SA5 := (SA4.mono (grow_le F4)).frame F5 fun a e => r1 a (.inr e)
      exact (SA5.same (same_new hv)).mono fun a h => grow_base (Fr.of_same (C := CP K) (S := fun _ => False) S0) a (grow_same (same_new hv) a (grow_le F5 a h))
end
end K6
set_option maxHeartbeats 4000000
/-! The law's own states: made, copied, told. -/
namespace K6
open PySem PySem.Spec PyProof.Rows L2 RZ
local macro_rules | `(tactic| walk_at "gg") => `(tactic| repeat first
  | refine ⟨_, rfl, ?_⟩ | refine ⟨_, _, rfl, rfl, ?_⟩ | refine ⟨rfl, ?_⟩ | refine iteT ?_ | refine iteF ?_
  | refine ⟨_, _, _, _, rfl, rfl, SqT.of (by assumption), rfl, ?_⟩
  | refine ⟨_, _, _, _, rfl, rfl, SqT.of (by assumption), at0, ?_⟩
  | refine ⟨_, _, _, _, rfl, rfl, SqL.of (by assumption), rfl, ?_⟩
  | refine ⟨_, _, rfl, .inr (SqT.of (by assumption)), ?_⟩
  | refine ⟨_, _, rfl, .inl (SqL.of (by assumption)), ?_⟩
  | refine ⟨_, _, rfl, .inr (SqT.of upd_same), rfl, rfl, ?_⟩
  | refine ⟨_, _, rfl, .inr (Txt.q_HOLDERS (by assumption) _), rfl, rfl, ?_⟩
  | refine ⟨_, _, rfl, .inr (Txt.q_GIVERS (by assumption) _), rfl, rfl, ?_⟩
  | refine ⟨_, _, rfl, .inr (Txt.q_FACTS (by assumption) _), rfl, rfl, ?_⟩
  | refine ⟨_, _, rfl, .inr (Txt.q_SIGNS (by assumption) _), rfl, rfl, ?_⟩
  | refine ⟨_, _, rfl, SqT.of upd_same, rfl, ?_⟩
  | refine ⟨_, _, rfl, SqT.of (by assumption), rfl, ?_⟩
  | refine ⟨_, _, rfl, ?_⟩
  | refine .inl ⟨_, rfl, ?_⟩
  | refine .inr ⟨_, rfl, ?_⟩
  | refine ⟨(by show (0 : Int) < _; decide), ?_⟩
  | refine ⟨.inr ⟨by decide, by decide⟩, ?_⟩
  | refine ⟨.inl ⟨by decide, by decide⟩, ?_⟩
  | refine ⟨⟨by decide, by decide⟩, ?_⟩
  | refine ⟨⟨by decide, by decide, by decide⟩, ?_⟩)
def S0 : TSt := ⟨0, fun _ => 0, fun _ _ => 0⟩
def sp_law_state : Sp := fun vs H Q _ => ∃ n : Nat, vs = [.int (n : Int)] ∧ n ≤ 100 ∧ ∀ sd ol H', Same H H' → H sd = none → H ol = none → StateAt H' sd ol n S0 (grow (fun _ => False) H H') → Q (.ref sd) H'
def sp_law_copied : Sp := fun vs H Q _ => ∃ sd ol, ∃ n : Nat, ∃ S R, vs = [.ref sd] ∧ StateAt H sd ol n S R ∧ n ≤ 100 ∧ ∀ sd2 ol2 H', Same H H' → H sd2 = none → H ol2 = none → StateAt H' sd2 ol2 n S (grow (fun _ => False) H H') → Q (.ref sd2) H'
def sp_law_kept : Sp := fun vs H Q _ => ∃ d kvs f, vs = [.ref d] ∧ H d = some (.dK kvs) ∧ NmOk kvs f ∧ ∀ p kk H', Same H H' → H p = none → H' p = some (.dK kk) → NzOk kk f → Q (.ref p) H'
theorem mergeK_snoc (l : List (Key × V)) (p : Key × V) : mergeK [] (l ++ [p]) = putK (mergeK [] l) p.1 p.2 := by
  unfold mergeK
  rw [List.foldl_append]
  rfl
theorem mergeK_nd : ∀ {l : List (Key × V)}, (l.map (·.1)).Nodup → mergeK [] l = l := by
  intro l
  have all : ∀ (i : Nat), i ≤ l.length → (l.map (·.1)).Nodup → mergeK [] (l.take i) = l.take i := by
    intro i
    induction i with
    | zero => exact fun _ _ => rfl
    | succ i ih =>
      intro hi nd
      have e : l.take (i + 1) = l.take i ++ [l[i]] := by
        rw [List.take_add_one, List.getElem?_eq_getElem (by omega)]
        rfl
      have n1 : ((l.take (i + 1)).map (·.1)).Nodup := nd.sublist ((List.take_sublist _ _).map _)
      rw [e, mergeK_snoc, ih (by omega) nd]
      have q : valV (l.take i) l[i].1 = none := by
        cases z : valV (l.take i) l[i].1 with
        | none => rfl
        | some v =>
          rw [e, List.map_append] at n1
          exact absurd rfl ((List.nodup_append.mp n1).2.2 _ (List.mem_map_of_mem (f := (·.1)) (valV_mem z)) l[i].1 (by simp))
      rw [putK_new _ q]
  intro nd
  have := all l.length (Nat.le_refl _) nd
  rw [List.take_length] at this
  exact this
theorem nz_list {kvs : List (Key × V)} {i : Nat} {p : Key × V} (h : kvs[i]? = some p) : nzK (kvs.take (i + 1)) = if nzP p = true then nzK (kvs.take i) ++ [p] else nzK (kvs.take i) := by
  have e : kvs.take (i + 1) = kvs.take i ++ [p] := by
    rw [List.take_add_one, h]
    rfl
  rw [e]
  unfold nzK
  rw [List.filter_append]
  by_cases c : nzP p = true
  · rw [if_pos c]
    simp [c]
  · rw [if_neg c]
    simp [c]
section
variable {P : Program} {w : World} {K : PySem.W.Frag} {mg : Str → Option Value} {base : Heap}
theorem ok__law_kept (T : Txt K mg) : FnOk P w K mg base CX0 1 (a__law_kept K) (fdOf K (a__law_kept K)) ["_law_book"] sp_law_kept := by
  refine T.F__law_kept.ok sc__law_kept (fun vs H Q E h => ?_) (fun cdv A outer s H vs Q E hr h => ?_)
  · obtain ⟨d, kvs, f, rfl, _⟩ := h
    rfl
  obtain ⟨d, kvs, f, rfl, hd, hf, k⟩ := h
  have hu := hu_of hr
  refine ⟨_, PSs.nox (pss_one (ps_ret (pe_callTy (call_dictP rfl) (by rfl) T.z_dict (by decide +kernel) (pa_cons (pe_lock (pe_lc (own := [("_law_name_here", 1)]) rfl sc__law_kept.nd (pi_keys (pv 0)) (blkOk_by (own := [("_law_name_here", 1)]) (N := ["_law_book", "_law_name_here"]) (sc := defScope s__law_kept) (by decide +kernel)) (fun _ _ _ _ _ => (pg_name (i := 1) sc__law_kept.nd rfl (Or.inl rfl))) (fun _ _ _ _ _ => (pts_one (pt_cmpR op_ne (pe_dget hu (pv 0) (pv 1) (fun _ _ => rfl)) pe_int (nomark _)))) (fun _ _ _ _ _ => (pe_tup (pa_cons (pv 1) (pa_cons (pe_dget hu (pv 0) (pv 1) (fun _ _ => rfl)) pa_nil)))))) pa_nil)))), ?_⟩
  refine ⟨d, _, hd, trivial, fun od => ?_⟩
  walk_at "gg"
  refine ⟨d, od, rfl, .inl ⟨kvs, upd_same, fun D hD => ?_⟩⟩
  obtain ⟨nD, hD0⟩ := free_unlock hD
  refine lc_it walk_keys (fun i H2 => i ≤ kvs.length ∧ Same (upd H d (.frz od (.dK kvs))) H2 ∧ ∃ qs : List Addr, H2 D = some (.lst (qs.map V.ref)) ∧ Paired (fun p kv => H2 p = some (.tup [kV kv.1, kv.2])) qs (nzK (kvs.take i))) ⟨Nat.zero_le _, same_new hD, [], upd_same, .nil⟩ (fun i H2 _ q => q.2.1 _ _ upd_same) ?_ ?_
  · rintro i x H2 H3 hi ⟨_, s2, qs, e2, p2⟩ ⟨rfl, key, v, hkv, rfl⟩
    obtain ⟨n, z, hel⟩ := hf.el _ (List.mem_of_getElem? hkv)
    injection hel with e3 e4
    subst e3 e4
    have hst := nz_list hkv
    have hval := val_nodup hf.nd _ (List.mem_of_getElem? hkv)
    have hfz := s2 _ _ (upd_same (H := H) (a := d) (o := .frz od (.dK kvs)))
    have ql : qs.length ≤ 4 := by
      have := paired_len p2
      have q1 : (nzK (kvs.take i)).length ≤ (kvs.take i).length := List.length_filter_le _ _
      have q2 : (kvs.take i).length ≤ i := List.length_take_le _ _
      have := hf.len
      omega
    walk_at "gg"
    refine ⟨_, _, rfl, .inl ⟨kvs, Sum.inr n.str, .inr ⟨od, hfz⟩, rfl, hval.symm⟩, ?_⟩
    walk_at "gg"
    refine if2 (fun c => ?_) (fun c => ?_)
    · have c : nzP (Sum.inr n.str, V.int z) = true := c
      rw [if_pos c] at hst
      walk_at "gg"
      refine ⟨_, _, rfl, .inl ⟨kvs, Sum.inr n.str, .inr ⟨od, hfz⟩, rfl, hval.symm⟩, ?_⟩
      refine ⟨szr, fun t ht => ?_⟩
      have s8 := same_new (o := .tup [.str n.str, .int z]) ht
      have nDt : t ≠ D := fun e => by rw [e, e2] at ht; cases ht
      refine ⟨qs.map V.ref, s8 _ _ e2, by rw [List.length_map]; exact szt (by omega), hi, same_put (s2.trans s8) hD, qs ++ [t], ?_, ?_⟩
      · rw [upd_same, List.map_append]
        rfl
      · rw [hst]
        have tp : Tp H3 (upd (upd H3 t (.tup [.str n.str, .int z])) D (.lst (qs.map V.ref ++ [.ref t]))) := (same_tp s8).trans (Tp.put (s8 _ _ e2))
        refine paired_snoc ?_ (paired_imp (fun a b h => tp _ _ h) p2)
        rw [upd_ne nDt, upd_same]
    · have c : nzP (Sum.inr n.str, V.int z) = false := c
      rw [c, if_neg Bool.false_ne_true] at hst
      exact ⟨hi, s2, qs, e2, by rw [hst]; exact p2⟩
  · rintro H2 ⟨_, s2, qs, e2, p2⟩
    rw [List.take_length] at p2
    have s5 := same_unlock hd s2
    have nt : ∀ {a : Addr} {xs : List V}, H2 a = some (.tup xs) → upd H2 d (.dK kvs) a = some (.tup xs) := fun {a xs} h => by
      rw [upd_ne fun z => by rw [z, s2 _ _ upd_same] at h; cases h]
      exact h
    refine ⟨s2 _ _ upd_same, ?_⟩
    walk_at "gg"
    refine ⟨D, qs, nzK kvs, rfl, SqL.of (by rw [upd_ne nD]; exact e2), paired_imp (fun a b h => SqT.of (nt h)) p2, fun p hp => ?_⟩
    rw [mergeK_nd (nzK_nd hf.nd)]
    exact k p _ _ (s5.trans (same_new hp)) (Same.free s5 hp) upd_same hf.nz
theorem ok__law_state (T : Txt K mg) : FnOk P w K mg base CX0 1 (a__law_state K) (fdOf K (a__law_state K)) ["_law_n"] sp_law_state := by
  refine T.F__law_state.ok sc__law_state (fun vs H Q E h => ?_) (fun cdv A outer s H vs Q E hr h => ?_)
  · obtain ⟨n, rfl, _⟩ := h
    rfl
  obtain ⟨n, rfl, hn, k⟩ := h
  refine ⟨_, PSs.nox (pss_one (ps_ret (pe_disp (pps_cons pe_str pe_dnewK (pps_cons pe_str (pe_lc (own := [("_law_person", 1)]) rfl sc__law_state.nd (pi_range1 (by rfl) T.z_range (pa_cons (pv 0) pa_nil)) (blkOk_by (own := [("_law_person", 1)]) (N := ["_law_n", "_law_person"]) (sc := defScope s__law_state) (by decide +kernel)) (fun _ _ _ _ _ => (pg_name (i := 1) sc__law_state.nd rfl (Or.inl rfl))) (fun _ _ _ _ _ => pts_nil) (fun _ _ _ _ _ => pe_dnewK)) (pps_cons pe_str pe_int pps_nil))) (by rfl) (by rfl) (fun z => by cases z) (by decide)))), ?_⟩
  walk_at "gg"
  intro sd hsd
  have s1 := same_new (o := .dK []) hsd
  walk_at "gg"
  intro kd hkd
  have s2 := s1.trans (same_new (o := .dK []) hkd)
  walk_at "gg"
  refine ⟨by omega, by omega, fun D hD => lc_range (lo := 0) (n := ((n : Int)).toNat) (fun i H2 => i ≤ n ∧ Same (upd (upd H sd (.dK [])) kd (.dK [])) H2 ∧ ∃ qs : List Addr, H2 D = some (.lst (qs.map V.ref)) ∧ qs.length = i ∧ ∀ (j : Nat) (x : Addr), qs[j]? = some x → upd (upd H sd (.dK [])) kd (.dK []) x = none ∧ x ≠ D ∧ H2 x = some (.dK [])) ⟨Nat.zero_le _, same_new hD, [], upd_same, rfl, fun j x h => by cases h⟩ ?_ ?_⟩
  · rintro i H2 hi ⟨_, s3, qs, e2, ql, q3⟩
    walk_at "gg"
    intro x hx
    have sx := same_new (o := .dK []) hx
    have xD : x ≠ D := fun e => by rw [e, e2] at hx; cases hx
    refine ⟨qs.map V.ref, sx _ _ e2, by rw [List.length_map]; exact szt (by omega), by omega, same_put (s3.trans sx) hD, qs ++ [x], ?_, by rw [List.length_append, ql]; rfl, fun j y hy => ?_⟩
    · rw [upd_same, List.map_append]
      rfl
    · by_cases c : j < qs.length
      · rw [List.getElem?_append_left c] at hy
        obtain ⟨g1, g2, g3⟩ := q3 j y hy
        exact ⟨g1, g2, by rw [upd_ne g2]; exact sx _ _ g3⟩
      · have hm := List.mem_of_getElem? hy
        have hl := (List.getElem?_eq_some_iff.mp hy).1
        rw [List.length_append, List.length_singleton] at hl
        have e : j = qs.length := by omega
        rw [e, List.getElem?_append_right (Nat.le_refl _), Nat.sub_self] at hy
        cases hy
        exact ⟨Same.free s3 hx, xD, by rw [upd_ne xD, upd_same]⟩
  · rintro H2 ⟨_, s3, qs, e2, ql, q3⟩
    rw [Int.toNat_natCast] at ql
    obtain ⟨m1, m2⟩ := free_unlock hD
    obtain ⟨m3, m4⟩ := free_unlock m2
    obtain ⟨n1, n2⟩ := free_unlock hkd
    have b1 : H2 sd = some (.dK []) := s3 _ _ (by rw [upd_ne n1.symm, upd_same])
    have b2 : H2 kd = some (.dK []) := s3 _ _ upd_same
    have st := s2.trans s3
    walk_at "gg"
    refine ⟨b1, [(Sum.inr "keep", .ref kd), (Sum.inr "own", .ref D), (Sum.inr "beat", .int 0)], rfl, (show 3 ≤ 15 by decide), ?_⟩
    have gr : ∀ a o, H a = none → a ≠ sd → H2 a = some o → grow (fun _ => False) H (upd H2 sd (.dK (stK kd D 0))) a := fun a o e1 e2 e3 => .inr ⟨e1, o, by rw [upd_ne e2]; exact e3⟩
    refine k sd D _ (same_put st hsd) hsd m4 ⟨⟨kd, [], upd_same, by rw [upd_ne n1]; exact b2, NmOk.nil, gr _ _ n2 n1 b2, n1⟩, ⟨qs, by rw [upd_ne m3]; exact e2, ql, fun j x hx => ?_⟩, .inr ⟨hsd, _, upd_same⟩, gr _ _ m4 m3 e2⟩
    obtain ⟨g1, g2, g3⟩ := q3 j x hx
    obtain ⟨g4, g5⟩ := free_unlock g1
    obtain ⟨g6, g7⟩ := free_unlock g5
    exact ⟨g6, gr _ _ g7 g6 g3, [], by rw [upd_ne g6]; exact g3, NmOk.nil⟩
theorem ok__law_copied (T : Txt K mg) : FnOk P w K mg base CX0 1 (a__law_copied K) (fdOf K (a__law_copied K)) ["_law_state_here"] sp_law_copied := by
  refine T.F__law_copied.ok sc__law_copied (fun vs H Q E h => ?_) (fun cdv A outer s H vs Q E hr h => ?_)
  · obtain ⟨sd, ol, n, S, R, rfl, _⟩ := h
    rfl
  obtain ⟨s0, ol, n, S, R, rfl, SA, hn, k⟩ := h
  have hu := hu_of hr
  refine ⟨_, PSs.nox (pss_one (ps_ret (pe_disp (pps_cons pe_str (pe_callTy call_dictD (by rfl) T.z_dict (by decide +kernel) (pa_cons (pe_dget hu (pv 0) pe_str (fun _ _ => rfl)) pa_nil)) (pps_cons pe_str (pe_lc (own := [("_law_one", 1)]) rfl sc__law_copied.nd (pi_list (pe_dget hu (pv 0) pe_str (fun _ _ => rfl))) (blkOk_by (own := [("_law_one", 1)]) (N := ["_law_state_here", "_law_one"]) (sc := defScope s__law_copied) (by decide +kernel)) (fun _ _ _ _ _ => (pg_name (i := 1) sc__law_copied.nd rfl (Or.inl rfl))) (fun _ _ _ _ _ => pts_nil) (fun _ _ _ _ _ => (pe_callTy call_dictD (by rfl) T.z_dict (by decide +kernel) (pa_cons (pv 1) pa_nil)))) (pps_cons pe_str (pe_dget hu (pv 0) pe_str (fun _ _ => rfl)) pps_nil))) (by rfl) (by rfl) (fun z => by cases z) (by decide)))), ?_⟩
  obtain ⟨k0, kk, h1, h2, h3, h4, h5⟩ := SA.ob
  obtain ⟨os, g1, g2, g3⟩ := SA.ow
  walk_at "gg"
  intro sd hsd
  have s1 := same_new (o := .dK []) hsd
  walk_at "gg"
  refine ⟨_, _, rfl, dget (s1 _ _ h1) (k := Sum.inr "keep") rfl, ?_⟩
  refine ⟨k0, kk, rfl, .inl (s1 _ _ h2), fun kd hkd => ?_⟩
  have s2 := s1.trans (same_new (o := .dK kk) hkd)
  walk_at "gg"
  refine ⟨_, _, rfl, dget (s2 _ _ h1) (k := Sum.inr "own") rfl, ?_⟩
  walk_at "gg"
  refine ⟨⟨_, SqL.of (s2 _ _ g1)⟩, fun D hD => lc_list (xs := os.map V.ref) (fun i H2 => i ≤ n ∧ Same (upd (upd H sd (.dK [])) kd (.dK kk)) H2 ∧ ∃ qs : List Addr, H2 D = some (.lst (qs.map V.ref)) ∧ qs.length = i ∧ ∀ (j : Nat) (x : Addr), qs[j]? = some x → upd (upd H sd (.dK [])) kd (.dK kk) x = none ∧ x ≠ D ∧ ∃ kx, H2 x = some (.dK kx) ∧ NmOk kx (S.ow j)) ⟨Nat.zero_le _, same_new hD, [], upd_same, rfl, fun j x h => by cases h⟩ (fun i H2 _ q => SqL.of (q.2.1 _ _ (s2 _ _ g1))) ?_ ?_⟩
  · rintro i v H2 hv ⟨_, s3, qs, e2, ql, q3⟩
    obtain ⟨a, ha, rfl⟩ : ∃ a, os[i]? = some a ∧ v = .ref a := by
      rw [List.getElem?_map] at hv
      cases e : os[i]? with
      | none => rw [e] at hv; cases hv
      | some a => rw [e] at hv; exact ⟨a, rfl, (Option.some.inj hv).symm⟩
    have hi := (List.getElem?_eq_some_iff.mp ha).1
    obtain ⟨_, _, kx, x1, x2⟩ := g3 i a ha
    walk_at "gg"
    refine ⟨a, kx, rfl, .inl (s3 _ _ (s2 _ _ x1)), fun x hx => ?_⟩
    have sx := same_new (o := .dK kx) hx
    have xD : x ≠ D := fun e => by rw [e, e2] at hx; cases hx
    refine ⟨qs.map V.ref, sx _ _ e2, by rw [List.length_map]; exact szt (by omega), by omega, same_put (s3.trans sx) hD, qs ++ [x], ?_, by rw [List.length_append, ql]; rfl, fun j y hy => ?_⟩
    · rw [upd_same, List.map_append]
      rfl
    · by_cases c : j < qs.length
      · rw [List.getElem?_append_left c] at hy
        obtain ⟨g1, g2, ky, g3, g4⟩ := q3 j y hy
        exact ⟨g1, g2, ky, by rw [upd_ne g2]; exact sx _ _ g3, g4⟩
      · have hl := (List.getElem?_eq_some_iff.mp hy).1
        rw [List.length_append, List.length_singleton] at hl
        have e : j = qs.length := by omega
        rw [e, List.getElem?_append_right (Nat.le_refl _), Nat.sub_self] at hy
        cases hy
        exact ⟨Same.free s3 hx, xD, kx, by rw [upd_ne xD, upd_same], by rw [e, ql]; exact x2⟩
  · rintro H2 ⟨_, s3, qs, e2, ql, q3⟩
    rw [List.length_map, g2] at ql
    obtain ⟨m1, m2⟩ := free_unlock hD
    obtain ⟨m3, m4⟩ := free_unlock m2
    obtain ⟨n1, n2⟩ := free_unlock hkd
    have b1 : H2 sd = some (.dK []) := s3 _ _ (by rw [upd_ne n1.symm, upd_same])
    have b2 : H2 kd = some (.dK kk) := s3 _ _ upd_same
    have st := s2.trans s3
    walk_at "gg"
    refine ⟨_, _, rfl, dget (st _ _ h1) (k := Sum.inr "beat") rfl, ?_⟩
    refine ⟨b1, [(Sum.inr "keep", .ref kd), (Sum.inr "own", .ref D), (Sum.inr "beat", .int S.beat)], rfl, (show 3 ≤ 15 by decide), ?_⟩
    have gr : ∀ a o, H a = none → a ≠ sd → H2 a = some o → grow (fun _ => False) H (upd H2 sd (.dK (stK kd D S.beat))) a := fun a o e1 e2 e3 => .inr ⟨e1, o, by rw [upd_ne e2]; exact e3⟩
    refine k sd D _ (same_put st hsd) hsd m4 ⟨⟨kd, kk, upd_same, by rw [upd_ne n1]; exact b2, h3, gr _ _ n2 n1 b2, n1⟩, ⟨qs, by rw [upd_ne m3]; exact e2, ql, fun j x hx => ?_⟩, .inr ⟨hsd, _, upd_same⟩, gr _ _ m4 m3 e2⟩
    obtain ⟨g1, g2, kx, g3, g8⟩ := q3 j x hx
    obtain ⟨g4, g5⟩ := free_unlock g1
    obtain ⟨g6, g7⟩ := free_unlock g5
    exact ⟨g6, gr _ _ g7 g6 g3, kx, by rw [upd_ne g6]; exact g3, g8⟩
end
end K6
set_option maxHeartbeats 4000000
/-! Beats led and compared. -/
namespace K6
open PySem PySem.Spec PyProof.Rows L2 RZ
local macro_rules | `(tactic| walk_at "gg") => `(tactic| repeat first
  | refine ⟨_, rfl, ?_⟩ | refine ⟨_, _, rfl, rfl, ?_⟩ | refine ⟨rfl, ?_⟩ | refine iteT ?_ | refine iteF ?_
  | refine ⟨_, _, _, _, rfl, rfl, SqT.of (by assumption), rfl, ?_⟩
  | refine ⟨_, _, _, _, rfl, rfl, SqT.of (by assumption), at0, ?_⟩
  | refine ⟨_, _, _, _, rfl, rfl, SqL.of (by assumption), rfl, ?_⟩
  | refine ⟨_, _, rfl, .inr (SqT.of (by assumption)), ?_⟩
  | refine ⟨_, _, rfl, .inl (SqL.of (by assumption)), ?_⟩
  | refine ⟨_, _, rfl, .inr (SqT.of upd_same), rfl, rfl, ?_⟩
  | refine ⟨_, _, rfl, .inr (Txt.q_HOLDERS (by assumption) _), rfl, rfl, ?_⟩
  | refine ⟨_, _, rfl, .inr (Txt.q_GIVERS (by assumption) _), rfl, rfl, ?_⟩
  | refine ⟨_, _, rfl, .inr (Txt.q_FACTS (by assumption) _), rfl, rfl, ?_⟩
  | refine ⟨_, _, rfl, .inr (Txt.q_SIGNS (by assumption) _), rfl, rfl, ?_⟩
  | refine ⟨_, _, rfl, SqT.of upd_same, rfl, ?_⟩
  | refine ⟨_, _, rfl, SqT.of (by assumption), rfl, ?_⟩
  | refine ⟨_, _, rfl, ?_⟩
  | refine .inl ⟨_, rfl, ?_⟩
  | refine .inr ⟨_, rfl, ?_⟩
  | refine ⟨(by show (0 : Int) < _; decide), ?_⟩
  | refine ⟨.inr ⟨by decide, by decide⟩, ?_⟩
  | refine ⟨.inl ⟨by decide, by decide⟩, ?_⟩
  | refine ⟨⟨by decide, by decide⟩, ?_⟩
  | refine ⟨⟨by decide, by decide, by decide⟩, ?_⟩)
structure PairAt (K : PySem.W.Frag) (H : Hp) (hd ca t od sd ol : Addr) (n : Nat) (pol qv : Addr) (bot : Nat) (b : Blk) (S : TSt) (Rt Rs : Addr → Prop) : Prop where
  ta : TellAt K H t od n pol (bot : Int) b S Rt
  sa : StateAt H sd ol n S Rs
  lt : Al Rt H
  ls : Al Rs H
  x1 : ∀ a, Wt t od a → ¬ Rs a
  x2 : ∀ a, Wt sd ol a → ¬ Rt a
  h1 : ∀ a, (a = hd ∨ a = ca) → ¬ Rt a
  h2 : ∀ a, (a = hd ∨ a = ca) → ¬ Rs a
  pa : PolAt H (.ref qv) (bot : Int) b
  po : PolOk (bot : Int) b
  bd : S.bd n
section
variable {K : PySem.W.Frag} {H H' : Hp} {hd ca t od sd ol : Addr} {n : Nat} {pol qv : Addr} {bot : Nat} {b : Blk} {S : TSt} {Rt Rs W : Addr → Prop}
theorem PairAt.frame (h : PairAt K H hd ca t od sd ol n pol qv bot b S Rt Rs) (f : Fr (CP K) W H H') (s1 : ∀ a, W a → ¬ Rt a) (s2 : ∀ a, W a → ¬ Rs a) : PairAt K H' hd ca t od sd ol n pol qv bot b S Rt Rs :=
  { h with ta := h.ta.frame f s1, sa := h.sa.frame f s2, lt := h.lt.mono f, ls := h.ls.mono f, pa := h.pa.mono f.tp }
theorem PairAt.same (h : PairAt K H hd ca t od sd ol n pol qv bot b S Rt Rs) (s : Same H H') : PairAt K H' hd ca t od sd ol n pol qv bot b S Rt Rs := h.frame (W := fun _ => False) (Fr.of_same s) (fun _ z => z.elim) fun _ z => z.elim
theorem PairAt.hn (h : PairAt K H hd ca t od sd ol n pol qv bot b S Rt Rs) (f : Hn (CP K) hd ca H H') : PairAt K H' hd ca t od sd ol n pol qv bot b S Rt Rs := h.frame f.fr (fun a e => h.h1 a (.inl e)) fun a e => h.h2 a (.inl e)
end
/-- what a pair may change -/
def WP (hd t od sd ol : Addr) : Addr → Prop := fun a => a = hd ∨ Wt t od a ∨ Wt sd ol a
theorem grow_not {R : Addr → Prop} {H H' : Hp} {a : Addr} (h : ¬ R a) (e : ∃ o, H a = some o) : ¬ grow R H H' a := fun z => z.elim h fun q => by
  obtain ⟨o, e⟩ := e
  rw [e] at q
  exact absurd q.1 (by intro z; cases z)
theorem HandAt.all {H : Hp} {hd ca : Addr} (h : HandAt H hd ca) : ∀ a, (a = hd ∨ a = ca) → ∃ o, H a = Option.some o := by
  obtain ⟨cells, i, c, x, y, q⟩ := h
  rintro a (rfl | rfl)
  · exact ⟨_, q.at_⟩
  · exact ⟨_, q.cs⟩
section
variable {K : PySem.W.Frag} {H H' : Hp} {hd ca t od sd ol : Addr} {n : Nat} {pol qv : Addr} {bot : Nat} {b : Blk} {S S' : TSt} {Rt Rs W : Addr → Prop}
theorem TellAt.all (h : TellAt K H t od n pol (bot : Int) b S Rt) : ∀ a, Wt t od a → ∃ o, H a = some o := by
  obtain ⟨dx, kd, kk, h1, _⟩ := h.ob
  obtain ⟨oo, o1, _⟩ := h.ow
  rintro a (rfl | rfl)
  · exact ⟨_, h1⟩
  · exact ⟨_, o1⟩
theorem StateAt.all (h : StateAt H sd ol n S Rs) : ∀ a, Wt sd ol a → ∃ o, H a = some o := by
  obtain ⟨kd, kk, h1, _⟩ := h.ob
  obtain ⟨os, o1, _⟩ := h.ow
  rintro a (rfl | rfl)
  · exact ⟨_, h1⟩
  · exact ⟨_, o1⟩
theorem PairAt.wide (h : PairAt K H hd ca t od sd ol n pol qv bot b S Rt Rs) (HA : HandAt H hd ca) (f : Fr (CP K) W H H') (T : TellAt K H' t od n pol (bot : Int) b S' (grow Rt H H')) (Sa : StateAt H' sd ol n S' (grow Rs H H')) (bd : S'.bd n) :
    PairAt K H' hd ca t od sd ol n pol qv bot b S' (grow Rt H H') (grow Rs H H') :=
  { ta := T, sa := Sa, lt := h.lt.grow f, ls := h.ls.grow f, x1 := fun a z => grow_not (h.x1 a z) (h.ta.all a z), x2 := fun a z => grow_not (h.x2 a z) (h.sa.all a z), h1 := fun a z => grow_not (h.h1 a z) (HA.all a z), h2 := fun a z => grow_not (h.h2 a z) (HA.all a z), pa := h.pa.mono f.tp, po := h.po, bd := bd }
end
theorem ledTo_ok {bot : Int} {b : Blk} {needs things : List Int} {ns : List Nat} {n : Nat} {S : TSt} (hS : S.bd n) (ho : b.ok) (hn : n ≤ 100) (hns : ∀ z ∈ ns, z < n) (hc : ns.length ≤ 100) (h1 : ∀ z ∈ needs, 0 ≤ z ∧ z ≤ 1000000000) (h2 : ∀ z ∈ things, 0 ≤ z ∧ z ≤ 1000000000) :
    ∀ i, i ≤ ns.length → StepOk n S (ledTo bot b needs things ns n S i)
  | 0, _ => StepOk.zero hS
  | i + 1, hi => by
    have e : ns[i]? = some ns[i] := List.getElem?_eq_getElem (by omega)
    rw [ledTo_step e]
    exact (ledTo_ok hS ho hn hns hc h1 h2 i (by omega)).step ho (hns _ (List.mem_of_getElem? e)) hn hc h1 h2
theorem aft_bd {bot : Int} {b : Blk} {needs things : List Int} {ns : List Nat} {n : Nat} {S : TSt} (hS : S.bd n) (hb : S.beat + 1 ≤ 1000000) (ho : b.ok) (hn : n ≤ 100) (hns : ∀ z ∈ ns, z < n) (hc : ns.length ≤ 100) (h1 : ∀ z ∈ needs, 0 ≤ z ∧ z ≤ 1000000000) (h2 : ∀ z ∈ things, 0 ≤ z ∧ z ≤ 1000000000) :
    (aft bot b needs things ns n S).bd n := by
  have q := (ledTo_ok (bot := bot) (b := b) hS ho hn hns hc h1 h2 ns.length (Nat.le_refl _)).bd
  exact ⟨by show 0 ≤ S.beat + 1; have := hS.b0; omega, hb, q.k, q.o⟩
def tupD (bot : Int) (l : List Int) : PyData := .tuple [.int bot, .tuple (l.map PyData.int)]
theorem tupD_can (bot : Int) (l : List Int) : (tupD bot l).canLay0 = true := by
  unfold tupD
  simp [PyData.canLay0, PyData.canLayAll0, PySem.W.canLayAll0_ints]
theorem tupD_shaped (bot : Int) (l : List Int) : SeqAt.shaped (tupD bot l) = true := by
  have h1 := PySem.W.depthAll_ints l
  have h2 : PyData.depth (tupD bot l) ≤ 64 := by
    unfold tupD
    simp only [PyData.depth, PyData.depthAll]
    omega
  show ((tupD bot l).canLay0 && decide (PyData.depth (tupD bot l) ≤ 64)) = true
  rw [tupD_can, decide_eq_true h2]
  rfl
theorem dp_ints {K : PySem.W.Frag} {H : Hp} : ∀ l : List Int, DpAll K H (l.map V.int) (l.map PyData.int)
  | [] => .nil
  | z :: r => .cons (.int z) (dp_ints r)
theorem dp_told {K : PySem.W.Frag} {H : Hp} {u v : Addr} {bot : Int} {l : List Int} (hu : H u = some (.tup [.int bot, .ref v])) (hv : H v = some (.tup (l.map V.int))) : Dp K H (.ref u) (tupD bot l) :=
  .tup (SqT.of hu) (.cons (.int bot) (.cons (.tup (SqT.of hv) (dp_ints l)) .nil))
def sp_law_beats (K : PySem.W.Frag) : Sp := fun vs H Q _ => ∃ hd ca t od sd ol, ∃ n : Nat, ∃ pol qv bot b S Rt Rs, vs = [.ref hd, .ref t, .ref sd, .ref qv, .int (n : Int)] ∧ HandAt H hd ca ∧ PairAt K H hd ca t od sd ol n pol qv bot b S Rt Rs ∧ 1 ≤ n ∧ n ≤ 6 ∧ S.beat ≤ 900000 ∧
  ∀ S' H', Fr (CP K) (WP hd t od sd ol) H H' → HandAt H' hd ca → PairAt K H' hd ca t od sd ol n pol qv bot b S' (grow Rt H H') (grow Rs H H') → S'.beat ≤ S.beat + 3 → Q (.bl true) H'
section
variable {P : Program} {w : World} {K : PySem.W.Frag} {mg : Str → Option Value} {base : Heap}
theorem ok__law_beats (T : Txt K mg) : FnOk P w K mg base CX0 17 (a__law_beats K) (fdOf K (a__law_beats K)) ["_law_hand_here", "_law_teller", "_law_state_here", "_law_policy_here", "_law_n"] (sp_law_beats K) := by
  have G__law_draw := ok__law_draw (P := P) (w := w) (base := base) T
  have G__law_numbers := ok__law_numbers (P := P) (w := w) (base := base) T
  have G__law_here := ok__law_here (P := P) (w := w) (base := base) T
  have G_Teller_shares := ok_Teller_shares (P := P) (w := w) (base := base) T
  have G__law_tops := ok__law_tops (P := P) (w := w) (base := base) T
  have G_Teller_kept := ok_Teller_kept (P := P) (w := w) (base := base) T
  have G_Teller_owned := ok_Teller_owned (P := P) (w := w) (base := base) T
  have G__law_kept := ok__law_kept (P := P) (w := w) (base := base) T
  refine T.F__law_beats.ok sc__law_beats (fun vs H Q E h => ?_) (fun cdv A outer s H vs Q E hr h => ?_)
  · obtain ⟨hd, ca, t, od, sd, ol, n, pol, qv, bot, b, S, Rt, Rs, rfl, _⟩ := h
    rfl
  obtain ⟨hd, ca, t, od, sd, ol, n, pol, qv, bot, b, S, Rt, Rs, rfl, HA, PA, hn1, hn6, hbt, k⟩ := h
  have hu := hu_of hr
  refine ⟨_, PSs.nox (pss_cons (ps_for PassesOwn.never rfl (pi_range1 (by rfl) T.z_range (pa_cons (pe_op op_add pe_int (pe_call G__law_draw (hr.mono (by decide)) rfl T.g__law_draw T.F__law_draw.kp T.b__law_draw .nil pass0 (pa_cons (pv 0) (pa_cons pe_int pa_nil)))) pa_nil)) (pg_name (i := 5) sc__law_beats.nd rfl (Or.inl rfl))
    (pss_cons (ps_par3 (i := 6) (j := 7) (l := 8) (by rfl) sc__law_beats.nd rfl rfl rfl (by decide) (by decide) (by decide) rfl rfl rfl (pa_cons (pe_call G__law_numbers (hr.mono (by decide)) rfl T.g__law_numbers T.F__law_numbers.kp T.b__law_numbers .nil pass0 (pa_cons (pv 0) (pa_cons (pv 4) pa_nil))) (pa_cons (pe_call G__law_here (hr.mono (by decide)) rfl T.g__law_here T.F__law_here.kp T.b__law_here .nil pass0 (pa_cons (pv 0) (pa_cons (pv 4) pa_nil))) (pa_cons (pe_call G__law_numbers (hr.mono (by decide)) rfl T.g__law_numbers T.F__law_numbers.kp T.b__law_numbers .nil pass0 (pa_cons (pv 0) (pa_cons (pv 4) pa_nil))) pa_nil))) (by rfl))
    (pss_cons (ps_set (i := 9) sc__law_beats.nd rfl (Or.inl rfl) (pe_meth (pv 1) T.c_Teller T.m_Teller_shares G_Teller_shares (hr.mono (by decide)) T.b_Teller_shares .nil pass0 (pa_cons (pv 6) (pa_cons (pv 7) (pa_cons (pv 8) pa_nil)))))
    (pss_one (ps_if (pt_cmpR (op_neD hr.units) (pv 9) (pe_tup (pa_cons (pe_ix ix_tup (pv 3) pe_int (fun _ _ => rfl)) (pa_cons (pe_call G__law_tops (hr.mono (by decide)) rfl T.g__law_tops T.F__law_tops.kp T.b__law_tops .nil pass0 (pa_cons (pv 2) (pa_cons (pe_ix ix_tup (pv 3) pe_int (fun _ _ => rfl)) (pa_cons (pe_ix ix_tup (pv 3) pe_int (fun _ _ => rfl)) (pa_cons (pv 6) (pa_cons (pv 7) (pa_cons (pv 8) pa_nil))))))) pa_nil))) (nomark _))
    (pss_one (ps_ret pe_bl))
    pss_nil)))))
    (pss_cons (ps_if (pt_cmpR (op_ne_dictA hr.units0) (pe_meth0 (pv 1) T.c_Teller T.m_Teller_kept G_Teller_kept (hr.mono (by decide)) T.b_Teller_kept .nil pass0) (pe_call G__law_kept (hr.mono (by decide)) rfl T.g__law_kept T.F__law_kept.kp T.b__law_kept .nil pass0 (pa_cons (pe_dget hu (pv 2) pe_str (fun _ _ => rfl)) pa_nil)) (nomark _))
    (pss_one (ps_ret pe_bl))
    pss_nil)
    (pss_one (ps_ret (pe_callB (cr_all rfl) (by rfl) T.z_all (by decide +kernel) (pa_cons (pe_lc (own := [("_law_person", 10)]) rfl sc__law_beats.nd (pi_range1 (by rfl) T.z_range (pa_cons (pv 4) pa_nil)) (blkOk_by (own := [("_law_person", 10)]) (N := ["_law_hand_here", "_law_teller", "_law_state_here", "_law_policy_here", "_law_n", "_law_beat", "_law_needs", "_law_here_here", "_law_things", "_law_told", "_law_person"]) (sc := defScope s__law_beats) (by decide +kernel)) (fun _ _ _ _ _ => (pg_name (i := 10) sc__law_beats.nd rfl (Or.inl rfl))) (fun _ _ _ _ _ => pts_nil) (fun _ _ _ _ _ => (pe_cmpR (op_eq_dictA hr.units0) (pe_meth (pv 1) T.c_Teller T.m_Teller_owned G_Teller_owned (hr.mono (by decide)) T.b_Teller_owned .nil pass0 (pa_cons (pv 10) pa_nil)) (pe_call G__law_kept (hr.mono (by decide)) rfl T.g__law_kept T.F__law_kept.kp T.b__law_kept .nil pass0 (pa_cons (pe_ix (ix_listK (K := K) rfl) (pe_dget hu (pv 2) pe_str (fun _ _ => rfl)) (pv 10) (fun _ _ => rfl)) pa_nil)) (nomark _)))) pa_nil)))))), ?_⟩
  walk_at "gg"
  refine ⟨hd, ca, 3, rfl, HA, by decide, by decide, fun r H1 r0 r3 n1 => ?_⟩
  walk_at "gg"
  have PA1 := PA.hn n1
  have HA1 := n1.hand
  refine ⟨by omega, by omega, for_range (lo := 0) (n := (1 + r).toNat) (fun i σ H2 => ∃ b5 b6 b7 b8 b9 S2, i ≤ 3 ∧ σ = [some (.ref hd), some (.ref t), some (.ref sd), some (.ref qv), some (.int (n : Int)), b5, b6, b7, b8, b9, none] ∧ Fr (CP K) (WP hd t od sd ol) H1 H2 ∧ HandAt H2 hd ca ∧
    PairAt K H2 hd ca t od sd ol n pol qv bot b S2 (grow Rt H1 H2) (grow Rs H1 H2) ∧ S2.beat ≤ S.beat + i) ⟨none, none, none, none, none, S, Nat.zero_le _, rfl, Fr.refl (C := CP K) (S := WP hd t od sd ol), HA1, ?_, by omega⟩ ?_ ?_⟩
  · exact PA1.wide HA1 (Fr.refl (C := CP K) (S := WP hd t od sd ol)) (PA1.ta.mono fun a h => .inl h) (PA1.sa.mono fun a h => .inl h) PA1.bd
  · rintro i σ H2 hi ⟨b5, b6, b7, b8, b9, S2, _, rfl, F2, HA2, PA2, hb2⟩
    walk_at "gg"
    refine ⟨hd, ca, n, rfl, HA2, hn6, fun pn needs H3 n3 hN hN2 => ?_⟩
    walk_at "gg"
    refine ⟨hd, ca, n, rfl, n3.hand, hn1, hn6, fun ph ns H4 n4 hL hne hl => ?_⟩
    walk_at "gg"
    refine ⟨hd, ca, n, rfl, n4.hand, hn6, fun pt things H5 n5 hT hT2 => ?_⟩
    have n25 := (n3.trans n4).trans n5
    have F5 := F2.trans (n25.fr.mono fun a e => Or.inl (b := Wt t od a ∨ Wt sd ol a) e)
    have PA5 := PA1.wide HA1 F5 ((PA2.hn n25).ta.mono (grow_le n25.fr)) ((PA2.hn n25).sa.mono (grow_le n25.fr)) PA2.bd
    have HA5 := n5.hand
    obtain ⟨dx, kd, kk, h1, h2, h3, h4, h5⟩ := PA5.ta.ob
    have hS2 : S2.bd n := PA2.bd
    have hbot : bot ≤ 360 := by have := PA.po.hi; omega
    walk_at "gg"
    refine ⟨_, _, _, rfl, ?_⟩
    walk_at "gg"
    refine ⟨t, dx, _, rfl, h1, rfl, ?_⟩
    walk_at "gg"
    refine ⟨t, od, pn, ph, pt, n, bot, pol, b, S2, grow Rt H1 H5, needs, things, ns, rfl, PA5.ta, PA5.lt, by omega, hbot, PA.po.ok, PA.po.lev, hS2, ⟨(n4.trans n5).fr.tp _ _ hN.1, hN.2⟩, hN2, ⟨n5.fr.tp _ _ hL.1, hL.2⟩, hne, by omega, hT, hT2, fun u v H6 F6 TA6 hu6 hv6 => ?_⟩
    obtain ⟨qp, qb, bw, eqv, q1, q2, q3⟩ := PA5.pa
    cases eqv
    have q1 := F6.tp _ _ q1
    have q2 := F6.tp _ _ q2
    have q3 := q3.mono F6.tp
    have F16 := F5.trans (F6.mono fun a e => Or.inr (a := a = hd) (Or.inl (b := Wt sd ol a) e))
    have SA6 := (PA5.sa.frame F6 PA5.x1).mono (grow_le F6)
    have TA6 := TA6.mono (grow_grow F5 F6)
    have hdt : ∀ a, (a = hd ∨ a = ca) → ¬ Wt t od a := fun a e z => by
      obtain ⟨oo, _, o2, _⟩ := PA1.ta.ow
      rcases z with z | z
      · exact PA1.h1 a e (by rw [z]; exact PA1.ta.rt)
      · exact PA1.h1 a e (by rw [z]; exact o2)
    have hds : ∀ a, (a = hd ∨ a = ca) → ¬ Wt sd ol a := fun a e z => by
      rcases z with z | z
      · exact PA1.h2 a e (by rw [z]; exact PA1.sa.rs)
      · exact PA1.h2 a e (by rw [z]; exact PA1.sa.ro)
    have HA6 := HA5.frame F6 (hdt hd (.inl rfl)) (hdt ca (.inr rfl))
    walk_at "gg"
    refine ⟨sd, ol, qb, pn, ph, pt, n, bot, bw, b, S2, grow Rs H1 H6, needs, things, ns, rfl, SA6, PA1.ls.grow F16, by omega, hbot, q2, q3, PA.po.ok, PA.po.lev, hS2, ⟨F6.tp _ _ ((n4.trans n5).fr.tp _ _ hN.1), hN.2⟩, hN2, ⟨F6.tp _ _ (n5.fr.tp _ _ hL.1), hL.2⟩, hne, by omega, ⟨F6.tp _ _ hT.1, hT.2⟩, hT2, fun v2 H7 F7 SA7 hv7 => ?_⟩
    have F17 := F16.trans (F7.mono fun a e => Or.inr (a := a = hd) (Or.inr (a := Wt t od a) e))
    have SA7 := SA7.mono (grow_grow F16 F7)
    have TA7 := (TA6.frame F7 fun a z => grow_not (PA1.x2 a z) (PA1.sa.all a z)).mono (grow_le F7)
    have HA7 := HA6.frame F7 (hds hd (.inl rfl)) (hds ca (.inr rfl))
    refine ⟨szr, fun tt htt => ?_⟩
    have s8 := same_new (o := .tup [.int (bot : Int), .ref v2]) htt
    have ed : PyData.eqv (tupD (bot : Int) (toldP bot b needs things ns n S2)) (tupD (bot : Int) (toldP bot b needs things ns n S2)) = true := SeqAt.eqv_refl _ (tupD_can _ _)
    refine ⟨tupD (bot : Int) (toldP bot b needs things ns n S2), tupD (bot : Int) (toldP bot b needs things ns n S2), dp_told (s8 _ _ (F7.tp _ _ hu6)) (s8 _ _ (F7.tp _ _ hv6)), dp_told upd_same (s8 _ _ hv7), tupD_shaped _ _, tupD_shaped _ _, ?_⟩
    rw [ed]
    walk_at "gg"
    have hi3 : i < 3 := by omega
    have bd' : (aft bot b needs things ns n S2).bd n := aft_bd hS2 (by omega) PA.po.ok (by omega) hL.2.1 (by omega) hN.2 hT.2
    refine ⟨_, _, _, _, _, aft bot b needs things ns n S2, by omega, rfl, F17.new htt, HA7.same s8, PA1.wide HA1 (F17.new htt) ((TA7.same s8).mono (grow_same s8)) ((SA7.same s8).mono (grow_same s8)) bd', ?_⟩
    show S2.beat + 1 ≤ S.beat + ((i + 1 : Nat) : Int)
    omega
  · rintro σ H2 ⟨b5, b6, b7, b8, b9, S2, _, rfl, F2, HA2, PA2, hb2⟩
    obtain ⟨dx, kd, kk, h1, h2, h3, h4, h5⟩ := PA2.ta.ob
    obtain ⟨kd2, kk2, g1, g2, g3, g4, g5⟩ := PA2.sa.ob
    obtain ⟨os, o1, o2, o3⟩ := PA2.sa.ow
    walk_at "gg"
    refine ⟨t, dx, _, rfl, h1, rfl, ?_⟩
    walk_at "gg"
    refine ⟨t, od, n, pol, (bot : Int), b, S2, _, rfl, PA2.ta, fun p3 k3 H3 s3 m3 e3 z3 => ?_⟩
    walk_at "gg"
    refine ⟨_, _, rfl, dget (s3 _ _ g1) (k := Sum.inr "keep") rfl, ?_⟩
    walk_at "gg"
    refine ⟨kd2, kk2, S2.kp, rfl, s3 _ _ g2, g3, fun p4 k4 H4 s4 m4 e4 z4 => ?_⟩
    obtain ⟨el, ev⟩ := z3.eq z4
    refine ⟨p3, p4, k3, k4, rfl, rfl, s4 _ _ e3, e4, el, ev, ?_⟩
    have s24 := s3.trans s4
    walk_at "gg"
    refine ⟨by omega, by omega, fun D hD => lc_range (lo := 0) (n := ((n : Int)).toNat) (Lc _ D fun _ => .bl true) (Lc.zero hD) ?_ ?_⟩
    · intro i H5 hi q
      have s25 := s24.trans q.sm
      obtain ⟨x, hx⟩ : ∃ x, os[i]? = some x := ⟨os[i]'(by omega), List.getElem?_eq_getElem _⟩
      obtain ⟨_, _, kx, x1, x2⟩ := o3 i x hx
      have hgx : (os.map V.ref)[i]? = some (.ref x) := by rw [List.getElem?_map, hx]; rfl
      walk_at "gg"
      refine ⟨t, dx, _, rfl, s25 _ _ h1, rfl, ?_⟩
      walk_at "gg"
      have ei : (0 : Int) + (i : Int) = (i : Int) := Int.zero_add _
      have hin : i < n := by omega
      refine ⟨t, od, n, i, pol, (bot : Int), b, S2, _, by rw [ei]; rfl, PA2.ta.same s25, hin, fun p5 k5 H6 s6 m6 e6 z6 => ?_⟩
      have s26 := s25.trans s6
      walk_at "gg"
      refine ⟨_, _, rfl, dget (s26 _ _ g1) (k := Sum.inr "own") rfl, ?_⟩
      walk_at "gg"
      refine ⟨ol, _, _, _, rfl, rfl, SqL.of (s26 _ _ o1), at_of (j := i) ei hgx, ?_⟩
      walk_at "gg"
      refine ⟨x, kx, S2.ow i, rfl, s26 _ _ x1, x2, fun p6 k6 H7 s7 m7 e7 z7 => ?_⟩
      obtain ⟨el, ev⟩ := z6.eq z7
      refine ⟨p5, p6, k5, k6, rfl, rfl, s7 _ _ e6, e7, el, ev, ?_⟩
      exact q.step (s6.trans s7) rfl (by omega)
    · intro H5 q
      walk_at "gg"
      refine ⟨D, (List.range ((n : Int)).toNat).map fun _ => true, rfl, SqL.of (by rw [q.at_, List.map_map]; rfl), ?_⟩
      have e : (((List.range ((n : Int)).toNat).map fun _ => true).all id) = true := by simp
      rw [e]
      have s25 := s24.trans q.sm
      have F15 := F2.trans (Fr.of_same s25)
      have F0 := (n1.fr.mono fun a e => Or.inl (b := Wt t od a ∨ Wt sd ol a) e).trans F15
      exact k S2 H5 F0 (HA2.same s25) (PA.wide HA F0 ((PA2.ta.same s25).mono fun a h => grow_base n1.fr a (grow_same s25 a h)) ((PA2.sa.same s25).mono fun a h => grow_base n1.fr a (grow_same s25 a h)) PA2.bd) (by omega)
end
end K6
set_option maxHeartbeats 4000000
/-! The law: a family of tellers, each with a state of the law's own. -/
namespace K6
open PySem PySem.Spec PyProof.Rows L2 RZ
local macro_rules | `(tactic| walk_at "gg") => `(tactic| repeat first
  | refine ⟨_, rfl, ?_⟩ | refine ⟨_, _, rfl, rfl, ?_⟩ | refine ⟨rfl, ?_⟩ | refine iteT ?_ | refine iteF ?_
  | refine ⟨_, _, _, _, rfl, rfl, SqT.of (by assumption), rfl, ?_⟩
  | refine ⟨_, _, _, _, rfl, rfl, SqT.of (by assumption), at0, ?_⟩
  | refine ⟨_, _, _, _, rfl, rfl, SqL.of (by assumption), rfl, ?_⟩
  | refine ⟨_, _, rfl, .inr (SqT.of (by assumption)), ?_⟩
  | refine ⟨_, _, rfl, .inl (SqL.of (by assumption)), ?_⟩
  | refine ⟨_, _, rfl, .inr (SqT.of upd_same), rfl, rfl, ?_⟩
  | refine ⟨_, _, rfl, .inr (Txt.q_HOLDERS (by assumption) _), rfl, rfl, ?_⟩
  | refine ⟨_, _, rfl, .inr (Txt.q_GIVERS (by assumption) _), rfl, rfl, ?_⟩
  | refine ⟨_, _, rfl, .inr (Txt.q_FACTS (by assumption) _), rfl, rfl, ?_⟩
  | refine ⟨_, _, rfl, .inr (Txt.q_SIGNS (by assumption) _), rfl, rfl, ?_⟩
  | refine ⟨_, _, rfl, SqT.of upd_same, rfl, ?_⟩
  | refine ⟨_, _, rfl, SqT.of (by assumption), rfl, ?_⟩
  | refine ⟨_, _, rfl, ?_⟩
  | refine .inl ⟨_, rfl, ?_⟩
  | refine .inr ⟨_, rfl, ?_⟩
  | refine ⟨(by show (0 : Int) < _; decide), ?_⟩
  | refine ⟨.inr ⟨by decide, by decide⟩, ?_⟩
  | refine ⟨.inl ⟨by decide, by decide⟩, ?_⟩
  | refine ⟨⟨by decide, by decide⟩, ?_⟩
  | refine ⟨⟨by decide, by decide, by decide⟩, ?_⟩)
structure Rec where
  t : Addr
  od : Addr
  sd : Addr
  ol : Addr
  pol : Addr
  qv : Addr
  r : Addr
  bot : Nat
  b : Blk
  S : TSt
  Rt : Addr → Prop
  Rs : Addr → Prop
def Rec.W (p : Rec) : Addr → Prop := fun a => Wt p.t p.od a ∨ Wt p.sd p.ol a
def Rec.R (p : Rec) : Addr → Prop := fun a => p.Rt a ∨ p.Rs a
abbrev Rec.At (p : Rec) (K : PySem.W.Frag) (H : Hp) (hd ca : Addr) (n : Nat) : Prop := PairAt K H hd ca p.t p.od p.sd p.ol n p.pol p.qv p.bot p.b p.S p.Rt p.Rs
theorem Rec.At.wr {p : Rec} {K : PySem.W.Frag} {H : Hp} {hd ca : Addr} {n : Nat} (h : p.At K H hd ca n) : ∀ a, p.W a → p.R a := by
  obtain ⟨oo, _, o2, _⟩ := h.ta.ow
  rintro a ((rfl | rfl) | (rfl | rfl))
  · exact .inl h.ta.rt
  · exact .inl o2
  · exact .inr h.sa.rs
  · exact .inr h.sa.ro
theorem Rec.At.al {p : Rec} {K : PySem.W.Frag} {H : Hp} {hd ca : Addr} {n : Nat} (h : p.At K H hd ca n) : ∀ a, p.R a → ∃ o, H a = some o := fun a z => z.elim (h.lt a) (h.ls a)
theorem Rec.At.hr {p : Rec} {K : PySem.W.Frag} {H : Hp} {hd ca : Addr} {n : Nat} (h : p.At K H hd ca n) : ∀ a, (a = hd ∨ a = ca) → ¬ p.R a := fun a e z => z.elim (h.h1 a e) (h.h2 a e)
theorem Rec.At.fr {p : Rec} {K : PySem.W.Frag} {H H' : Hp} {hd ca : Addr} {n : Nat} {W : Addr → Prop} (h : p.At K H hd ca n) (f : Fr (CP K) W H H') (s : ∀ a, W a → ¬ p.R a) : p.At K H' hd ca n :=
  h.frame f (fun a w z => s a w (.inl z)) fun a w z => s a w (.inr z)
structure FamAt (K : PySem.W.Frag) (H : Hp) (hd ca L : Addr) (O : Addr → Prop) (n : Nat) (ps : List Rec) (B : Int) : Prop where
  li : H L = some (.lst (ps.map fun p => V.ref p.r))
  el : ∀ (i : Nat) (p : Rec), ps[i]? = some p → H p.r = some (.tup [.ref p.t, .ref p.sd, .ref p.qv]) ∧ p.At K H hd ca n ∧ p.S.beat ≤ B
  sp : ∀ (i j : Nat) (p q : Rec), ps[i]? = some p → ps[j]? = some q → i ≠ j → ∀ a, p.W a → ¬ q.R a
  ou : ∀ a, O a → (∃ o, H a = some o) ∧ a ≠ hd ∧ ∀ (i : Nat) (p : Rec), ps[i]? = some p → ¬ p.R a
  ol : O L
section
variable {K : PySem.W.Frag} {H H' : Hp} {hd ca L : Addr} {O O' W : Addr → Prop} {n : Nat} {ps : List Rec} {B B' : Int}
theorem FamAt.frame (h : FamAt K H hd ca L O n ps B) (f : Fr (CP K) W H H') (s : ∀ a, W a → a ≠ L ∧ ∀ (i : Nat) (p : Rec), ps[i]? = some p → ¬ p.R a) : FamAt K H' hd ca L O n ps B := by
  refine ⟨f.st _ _ h.li fun z => (s _ z).1 rfl, fun i p hp => ?_, h.sp, fun a z => ?_, h.ol⟩
  · obtain ⟨h1, h2, h3⟩ := h.el i p hp
    exact ⟨f.tp _ _ h1, h2.fr f fun a w => (s a w).2 i p hp, h3⟩
  · obtain ⟨⟨o, h1⟩, h2, h3⟩ := h.ou a z
    exact ⟨f.al _ _ h1, h2, h3⟩
theorem FamAt.same (h : FamAt K H hd ca L O n ps B) (s : Same H H') : FamAt K H' hd ca L O n ps B := h.frame (W := fun _ => False) (Fr.of_same s) fun _ z => z.elim
theorem FamAt.hn (h : FamAt K H hd ca L O n ps B) (f : Hn (CP K) hd ca H H') : FamAt K H' hd ca L O n ps B := h.frame f.fr fun a e => ⟨fun z => (h.ou L h.ol).2.1 (z.symm.trans e), fun i p hp => (h.el i p hp).2.1.hr a (.inl e)⟩
theorem FamAt.wide (h : FamAt K H hd ca L O n ps B) (s : ∀ a, O' a → O a ∨ ((∃ o, H a = some o) ∧ a ≠ hd ∧ ∀ (i : Nat) (p : Rec), ps[i]? = some p → ¬ p.R a)) (l : O' L) : FamAt K H hd ca L O' n ps B :=
  ⟨h.li, h.el, h.sp, fun a z => (s a z).elim (h.ou a) id, l⟩
theorem FamAt.more (h : FamAt K H hd ca L O n ps B) (l : B ≤ B') : FamAt K H hd ca L O n ps B' := ⟨h.li, fun i p hp => let ⟨a, b, c⟩ := h.el i p hp; ⟨a, b, Int.le_trans c l⟩, h.sp, h.ou, h.ol⟩
theorem FamAt.nca (h : FamAt K H hd ca L O n ps B) (HA : HandAt H hd ca) (hl : 1 ≤ ps.length) : ca ≠ L := fun e => by
  obtain ⟨cells, i, c, x, y, q⟩ := HA
  have q1 := q.cs
  rw [e, h.li] at q1
  injection q1 with q1
  injection q1 with q1
  cases ps with
  | nil => exact absurd hl (by decide)
  | cons p r =>
    cases cells with
    | nil => cases q1
    | cons c cs =>
      injection q1 with q1 _
      cases q1
/-- a pair has been led on -/
theorem FamAt.step (h : FamAt K H hd ca L O n ps B) {i : Nat} {p : Rec} (hp : ps[i]? = some p) {S' : TSt} (f : Fr (CP K) (WP hd p.t p.od p.sd p.ol) H H')
    (P' : PairAt K H' hd ca p.t p.od p.sd p.ol n p.pol p.qv p.bot p.b S' (grow p.Rt H H') (grow p.Rs H H')) (hb : S'.beat ≤ p.S.beat + 3) :
    ∃ ps', ps'.length = ps.length ∧ (ps'.map fun p => V.ref p.r) = (ps.map fun p => V.ref p.r) ∧ FamAt K H' hd ca L O n ps' (B + 3) := by
  obtain ⟨e1, PA, e3⟩ := h.el i p hp
  have hi := (List.getElem?_eq_some_iff.mp hp).1
  have nW : ∀ a, O a → ¬ WP hd p.t p.od p.sd p.ol a := fun a o z => by
    obtain ⟨_, q2, q3⟩ := h.ou a o
    rcases z with z | z
    · exact q2 z
    · exact q3 i p hp (PA.wr a z)
  have gn : ∀ a, ¬ p.R a → (∃ o, H a = some o) → ∀ z : grow p.Rt H H' a ∨ grow p.Rs H H' a, False := fun a q e z => z.elim (grow_not (fun r => q (.inl r)) e) (grow_not (fun r => q (.inr r)) e)
  obtain ⟨p', ep⟩ : ∃ p' : Rec, p' = { p with S := S', Rt := grow p.Rt H H', Rs := grow p.Rs H H' } := ⟨_, rfl⟩
  have other : ∀ (j : Nat) (q : Rec), j ≠ i → ps[j]? = some q → ∀ a, WP hd p.t p.od p.sd p.ol a → ¬ q.R a := fun j q ne hq a w => by
    rcases w with w | w
    · exact (h.el j q hq).2.1.hr a (.inl w)
    · exact h.sp i j p q hp hq (fun z => ne z.symm) a w
  have get : ∀ (j : Nat) (q : Rec), (ps.set i p')[j]? = some q → (j = i ∧ q = p') ∨ (j ≠ i ∧ ps[j]? = some q) := fun j q hq => by
    rw [List.getElem?_set] at hq
    by_cases c : i = j
    · rw [if_pos c, if_pos (by omega)] at hq
      exact .inl ⟨c.symm, (Option.some.inj hq).symm⟩
    · rw [if_neg c] at hq
      exact .inr ⟨fun z => c z.symm, hq⟩
  have mp : ((ps.set i p').map fun p => V.ref p.r) = ps.map fun p => V.ref p.r := by
    rw [List.map_set, ep]
    apply List.ext_getElem?
    intro j
    rw [List.getElem?_set]
    by_cases c : i = j
    · subst c
      rw [if_pos rfl, List.length_map, if_pos hi, List.getElem?_map, hp]
      rfl
    · rw [if_neg c]
  refine ⟨ps.set i p', List.length_set .., mp, ?_, fun j q hq => ?_, fun j k q r hq hr ne a w => ?_, fun a o => ?_, h.ol⟩
  · rw [f.st _ _ h.li (nW L h.ol), mp]
  · rcases get j q hq with ⟨c1, c2⟩ | ⟨ne, hq⟩
    · rw [c2, ep]
      exact ⟨f.tp _ _ e1, P', by show S'.beat ≤ B + 3; omega⟩
    · obtain ⟨g1, g2, g3⟩ := h.el j q hq
      exact ⟨f.tp _ _ g1, Rec.At.fr (p := q) g2 f (other j q ne hq), by omega⟩
  · rcases get j q hq with ⟨c1, c2⟩ | ⟨n1, hq⟩
    · rcases get k r hr with ⟨c3, c4⟩ | ⟨n2, hr⟩
      · exact absurd (c1.trans c3.symm) ne
      · rw [c2, ep] at w
        exact h.sp i k p r hp hr (fun z => n2 z.symm) a w
    · rcases get k r hr with ⟨c3, c4⟩ | ⟨n2, hr⟩
      · rw [c4, ep]
        have QA := (h.el j q hq).2.1
        exact gn a (h.sp j i q p hq hp n1 a w) (Rec.At.al (p := q) QA a (Rec.At.wr (p := q) QA a w))
      · exact h.sp j k q r hq hr ne a w
  · obtain ⟨⟨o', q1⟩, q2, q3⟩ := h.ou a o
    refine ⟨f.al _ _ q1, q2, fun j q hq => ?_⟩
    rcases get j q hq with ⟨c1, c2⟩ | ⟨n1, hq⟩
    · rw [c2, ep]
      exact gn a (q3 i p hp) ⟨o', q1⟩
    · exact q3 j q hq
/-- a pair more -/
theorem FamAt.push (h : FamAt K H hd ca L O n ps B) (HA : HandAt H hd ca) (s : Same H H') {p : Rec} (P' : p.At K H' hd ca n) (hr : H' p.r = some (.tup [.ref p.t, .ref p.sd, .ref p.qv])) (hb : p.S.beat ≤ B) (fresh : ∀ a, p.R a → H a = none) :
    FamAt K (upd H' L (.lst ((ps.map fun p => V.ref p.r) ++ [.ref p.r]))) hd ca L O n (ps ++ [p]) B ∧ Fr (CP K) (fun a => a = L) H' (upd H' L (.lst ((ps.map fun p => V.ref p.r) ++ [.ref p.r]))) := by
  have f : Fr (CP K) (fun a => a = L) H' (upd H' L (.lst ((ps.map fun p => V.ref p.r) ++ [.ref p.r]))) := Fr.put rfl (s _ _ h.li) (fun xs q => by cases q) fun dx fs q => by cases q
  have get : ∀ (j : Nat) (q : Rec), (ps ++ [p])[j]? = some q → (j = ps.length ∧ q = p) ∨ (j < ps.length ∧ ps[j]? = some q) := fun j q hq => by
    by_cases c : j < ps.length
    · rw [List.getElem?_append_left c] at hq
      exact .inr ⟨c, hq⟩
    · have hl := (List.getElem?_eq_some_iff.mp hq).1
      rw [List.length_append, List.length_singleton] at hl
      have e : j = ps.length := by omega
      rw [e, List.getElem?_append_right (Nat.le_refl _), Nat.sub_self] at hq
      exact .inl ⟨e, (Option.some.inj hq).symm⟩
  have nn : ∀ a, p.R a → ∀ o, H a = some o → False := fun a r o e => by
    rw [fresh a r] at e
    cases e
  refine ⟨⟨by rw [upd_same, List.map_append]; rfl, fun j q hq => ?_, fun j k q r hq hr' ne a w z => ?_, fun a o => ?_, h.ol⟩, f⟩
  · rcases get j q hq with ⟨c1, c2⟩ | ⟨_, hq⟩
    · rw [c2]
      refine ⟨f.tp _ _ hr, Rec.At.fr (p := p) P' f fun a e z => ?_, hb⟩
      rw [e] at z
      exact nn L z _ h.li
    · obtain ⟨g1, g2, g3⟩ := h.el j q hq
      have g2' : q.At K H' hd ca n := g2.same s
      exact ⟨f.tp _ _ ((same_tp s) _ _ g1), Rec.At.fr (p := q) g2' f fun a e => by rw [e]; exact (h.ou L h.ol).2.2 j q hq, g3⟩
  · rcases get j q hq with ⟨c1, c2⟩ | ⟨_, hq⟩
    · rcases get k r hr' with ⟨c3, c4⟩ | ⟨_, hr'⟩
      · exact ne (c1.trans c3.symm)
      · rw [c2] at w
        obtain ⟨o, e⟩ := Rec.At.al (p := r) (h.el k r hr').2.1 a z
        exact nn a (Rec.At.wr (p := p) P' a w) o e
    · rcases get k r hr' with ⟨c3, c4⟩ | ⟨_, hr'⟩
      · have QA := (h.el j q hq).2.1
        obtain ⟨o, e⟩ := Rec.At.al (p := q) QA a (Rec.At.wr (p := q) QA a w)
        rw [c4] at z
        exact nn a z o e
      · exact h.sp j k q r hq hr' ne a w z
  · obtain ⟨⟨o', q1⟩, q2, q3⟩ := h.ou a o
    refine ⟨f.al _ _ (s _ _ q1), q2, fun j q hq z => ?_⟩
    rcases get j q hq with ⟨c1, c2⟩ | ⟨_, hq⟩
    · rw [c2] at z
      exact nn a z _ q1
    · exact q3 j q hq z
end
theorem grow_new {H H' : Hp} {a : Addr} (h : grow (fun _ => False) H H' a) : H a = none ∧ ∃ o, H' a = some o := h.elim (fun z => z.elim) id
theorem PairAt.new {K : PySem.W.Frag} {Ha Hb Hc : Hp} {hd ca t od sd ol : Addr} {n : Nat} {pol qv : Addr} {bot : Nat} {b : Blk} {S : TSt} {Rt Rs : Addr → Prop} (sab : Same Ha Hb) (sbc : Same Hb Hc) (HA : HandAt Ha hd ca) (T : TellAt K Hb t od n pol (bot : Int) b S Rt) (Sa : StateAt Hc sd ol n S Rs)
    (rt : ∀ a, Rt a → Ha a = none ∧ ∃ o, Hb a = some o) (rs : ∀ a, Rs a → Hb a = none ∧ ∃ o, Hc a = some o) (pa : PolAt Hc (.ref qv) (bot : Int) b) (po : PolOk (bot : Int) b) (bd : S.bd n) : PairAt K Hc hd ca t od sd ol n pol qv bot b S Rt Rs where
  ta := T.same sbc
  sa := Sa
  lt := fun a z => (rt a z).2.elim fun o e => ⟨o, sbc _ _ e⟩
  ls := fun a z => (rs a z).2
  x1 := fun a w z => by
    obtain ⟨o, e⟩ := T.all a w
    rw [(rs a z).1] at e
    cases e
  x2 := fun a w z => by
    obtain ⟨o, e⟩ := (rt a z).2
    rcases w with w | w
    · rw [w, (rs sd Sa.rs).1] at e
      cases e
    · rw [w, (rs ol Sa.ro).1] at e
      cases e
  h1 := fun a w z => by
    obtain ⟨o, e⟩ := HA.all a w
    rw [(rt a z).1] at e
    cases e
  h2 := fun a w z => by
    obtain ⟨o, e⟩ := HA.all a w
    have e := sab _ _ e
    rw [(rs a z).1] at e
    cases e
  pa := pa
  po := po
  bd := bd
theorem S0_bd {n : Nat} : S0.bd n := ⟨by decide, by decide, fun _ => zero_in, fun _ _ _ => zero_in⟩
def sp_law (K : PySem.W.Frag) : Sp := fun vs H Q _ => ∃ (a : Addr) (ns : List Int), vs = [.ref a] ∧ SqL K H a (ns.map V.int) ∧ ns.length ≤ 63 ∧ ∀ H', Q (.bl true) H'
section
variable {P : Program} {w : World} {K : PySem.W.Frag} {mg : Str → Option Value} {base : Heap}
theorem ok_law (T : Txt K mg) : FnOk P w K mg base CX0 23 (a_law K) (fdOf K (a_law K)) ["_law_script"] (sp_law K) := by
  have G__law_hand := ok__law_hand (P := P) (w := w) (base := base) T
  have G__law_draw := ok__law_draw (P := P) (w := w) (base := base) T
  have G__law_policy := ok__law_policy (P := P) (w := w) (base := base) T
  have G_Teller_init := ok_Teller_init (P := P) (w := w) (base := base) T
  have G_Policy_init := ok_Policy_init (P := P) (w := w) (base := base) T
  have G__law_state := ok__law_state (P := P) (w := w) (base := base) T
  have G__law_copied := ok__law_copied (P := P) (w := w) (base := base) T
  have G_Teller_copy := ok_Teller_copy (P := P) (w := w) (base := base) T
  have G_Teller_turned := ok_Teller_turned (P := P) (w := w) (base := base) T
  have G_Teller_kept := ok_Teller_kept (P := P) (w := w) (base := base) T
  have G_Teller_owned := ok_Teller_owned (P := P) (w := w) (base := base) T
  have G__law_beats := ok__law_beats (P := P) (w := w) (base := base) T
  refine T.F_law.ok sc_law (fun vs H Q E h => ?_) (fun cdv A outer s H vs Q E hr h => ?_)
  · obtain ⟨a, ns, rfl, _⟩ := h
    rfl
  obtain ⟨a, ns, rfl, hS, hl, k⟩ := h
  have hu := hu_of hr
  refine ⟨_, PSs.nox (pss_cons (ps_set (i := 1) sc_law.nd rfl (Or.inr rfl) (pe_call G__law_hand (hr.mono (by decide)) rfl T.g__law_hand T.F__law_hand.kp T.b__law_hand .nil pass0 (pa_cons (pv 0) pa_nil)))
    (C8.pss_cut (ps_asg (pe_tup (pa_cons (pe_op op_add pe_int (pe_call G__law_draw (hr.mono (by decide)) rfl T.g__law_draw T.F__law_draw.kp T.b__law_draw .nil pass0 (pa_cons (pv 1) (pa_cons pe_int pa_nil)))) (pa_cons (pe_call G__law_policy (hr.mono (by decide)) rfl T.g__law_policy T.F__law_policy.kp T.b__law_policy .nil pass0 (pa_cons (pv 1) pa_nil)) pa_nil))) (pg_tup rfl (pgs_cons (pg_name (i := 2) sc_law.nd rfl (Or.inr rfl)) (pgs_cons (pg_name (i := 3) sc_law.nd rfl (Or.inl rfl)) pgs_nil))))
    (pss_cons (ps_set (i := 4) sc_law.nd rfl (Or.inl rfl) (pe_lst (pa_cons (pe_tup (pa_cons (pe_make T.k_Teller G_Teller_init (hr.mono (by decide)) rfl T.g_Teller T.b_Teller_init .nil pass0 (pa_cons (pv 2) (pa_cons (pe_make T.k_Policy G_Policy_init (hr.mono (by decide)) rfl T.g_Policy T.b_Policy_init .nil pass0 (pa_cons (pe_ix ix_tup (pv 3) pe_int (fun _ _ => rfl)) (pa_cons (pe_ix ix_tup (pv 3) pe_int (fun _ _ => rfl)) pa_nil))) pa_nil))) (pa_cons (pe_call G__law_state (hr.mono (by decide)) rfl T.g__law_state T.F__law_state.kp T.b__law_state .nil pass0 (pa_cons (pv 2) pa_nil)) (pa_cons (pv 3) pa_nil)))) pa_nil)))
    (pss_cons (ps_for PassesOwn.never rfl (pi_range1 (by rfl) T.z_range (pa_cons pe_int pa_nil)) (pg_name (i := 5) sc_law.nd rfl (Or.inl rfl))
    (pss_cons (ps_set (i := 6) sc_law.nd rfl (Or.inl rfl) (pe_call G__law_draw (hr.mono (by decide)) rfl T.g__law_draw T.F__law_draw.kp T.b__law_draw .nil pass0 (pa_cons (pv 1) (pa_cons (pe_callB call_len_seq (by rfl) T.z_len boot_len (pa_cons (pv 4) pa_nil)) pa_nil))))
    (pss_cons (ps_asg (pe_ix ix_list (pv 4) (pv 6) (fun _ _ => rfl)) (pg_tup rfl (pgs_cons (pg_name (i := 7) sc_law.nd rfl (Or.inl rfl)) (pgs_cons (pg_name (i := 8) sc_law.nd rfl (Or.inl rfl)) (pgs_cons (pg_name (i := 3) sc_law.nd rfl (Or.inl rfl)) pgs_nil)))))
    (pss_cons (ps_set (i := 9) sc_law.nd rfl (Or.inl rfl) (pe_call G__law_draw (hr.mono (by decide)) rfl T.g__law_draw T.F__law_draw.kp T.b__law_draw .nil pass0 (pa_cons (pv 1) (pa_cons pe_int pa_nil))))
    (C8.pss_cut (ps_if (PW.pt (pw_and (pt_cmpR op_eq (pv 9) pe_int (nomark _)) (pw_and1 (pt_cmpR op_lt (pe_callB call_len_seq (by rfl) T.z_len boot_len (pa_cons (pv 4) pa_nil)) pe_int (nomark _)))))
    (pss_one (ps_expr (pe_bm PySem.F.plainAttrs_list PySem.F.slot_list_append PySem.F.type_list_append mt_append (pv 4) (pa_cons (pe_tup (pa_cons (pe_meth0 (pv 7) T.c_Teller T.m_Teller_copy G_Teller_copy (hr.mono (by decide)) T.b_Teller_copy .nil pass0) (pa_cons (pe_call G__law_copied (hr.mono (by decide)) rfl T.g__law_copied T.F__law_copied.kp T.b__law_copied .nil pass0 (pa_cons (pv 8) pa_nil)) (pa_cons (pv 3) pa_nil)))) pa_nil))))
    (pss_one (ps_if (PW.pt (pw_and (pt_cmpR op_eq (pv 9) pe_int (nomark _)) (pw_and1 (pt_cmpR op_lt (pe_callB call_len_seq (by rfl) T.z_len boot_len (pa_cons (pv 4) pa_nil)) pe_int (nomark _)))))
    (pss_cons (ps_set (i := 10) sc_law.nd rfl (Or.inl rfl) (pe_call G__law_policy (hr.mono (by decide)) rfl T.g__law_policy T.F__law_policy.kp T.b__law_policy .nil pass0 (pa_cons (pv 1) pa_nil)))
    (pss_one (ps_expr (pe_bm PySem.F.plainAttrs_list PySem.F.slot_list_append PySem.F.type_list_append mt_append (pv 4) (pa_cons (pe_tup (pa_cons (pe_meth (pv 7) T.c_Teller T.m_Teller_turned G_Teller_turned (hr.mono (by decide)) T.b_Teller_turned .nil pass0 (pa_cons (pe_make T.k_Policy G_Policy_init (hr.mono (by decide)) rfl T.g_Policy T.b_Policy_init .nil pass0 (pa_cons (pe_ix ix_tup (pv 10) pe_int (fun _ _ => rfl)) (pa_cons (pe_ix ix_tup (pv 10) pe_int (fun _ _ => rfl)) pa_nil))) pa_nil)) (pa_cons (pe_call G__law_copied (hr.mono (by decide)) rfl T.g__law_copied T.F__law_copied.kp T.b__law_copied .nil pass0 (pa_cons (pv 8) pa_nil)) (pa_cons (pv 10) pa_nil)))) pa_nil)))))
    (pss_one (ps_if (pt_cmpR op_eq (pv 9) pe_int (nomark _))
    (pss_cons (ps_set (i := 11) sc_law.nd rfl (Or.inl rfl) (pe_meth0 (pv 7) T.c_Teller T.m_Teller_kept G_Teller_kept (hr.mono (by decide)) T.b_Teller_kept .nil pass0))
    (pss_cons (ps_dput hu (pv 11) pe_str pe_int rfl)
    (pss_cons (ps_set (i := 11) sc_law.nd rfl (Or.inl rfl) (pe_meth (pv 7) T.c_Teller T.m_Teller_owned G_Teller_owned (hr.mono (by decide)) T.b_Teller_owned .nil pass0 (pa_cons (pe_call G__law_draw (hr.mono (by decide)) rfl T.g__law_draw T.F__law_draw.kp T.b__law_draw .nil pass0 (pa_cons (pv 1) (pa_cons (pv 2) pa_nil))) pa_nil)))
    (pss_one (ps_dput hu (pv 11) pe_str pe_int rfl)))))
    pss_nil)))))
    (pss_one (ps_if (pt_not (pt_val (pe_call G__law_beats (hr.mono (by decide)) rfl T.g__law_beats T.F__law_beats.kp T.b__law_beats .nil pass0 (pa_cons (pv 1) (pa_cons (pv 7) (pa_cons (pv 8) (pa_cons (pv 3) (pa_cons (pv 2) pa_nil))))))))
    (pss_one (ps_ret pe_bl))
    pss_nil)))))))
    (pss_cons (ps_if (PW.pt (pw_or (pt_cmpR (op_eqT T.defEq hr.units) (pe_ix ix_tup (pe_ix ix_list (pv 4) pe_int (fun _ _ => rfl)) pe_int (fun _ _ => rfl)) (pe_meth0 (pe_ix ix_tup (pe_ix ix_list (pv 4) pe_int (fun _ _ => rfl)) pe_int (fun _ _ => rfl)) T.c_Teller T.m_Teller_copy G_Teller_copy (hr.mono (by decide)) T.b_Teller_copy .nil pass0) (nomark _)) (pw_or1 (pt_cmpR (op_neT T.defEq hr.units) (pe_ix ix_tup (pe_ix ix_list (pv 4) pe_int (fun _ _ => rfl)) pe_int (fun _ _ => rfl)) (pe_ix ix_tup (pe_ix ix_list (pv 4) pe_int (fun _ _ => rfl)) pe_int (fun _ _ => rfl)) (nomark _)))))
    (pss_one (ps_ret pe_bl))
    pss_nil)
    (pss_one (ps_ret (pe_callB (cr_all rfl) (by rfl) T.z_all (by decide +kernel) (pa_cons (pe_lc (own := [("_law_teller", 7), ("_law_state_here", 8), ("_law_policy_here", 3)]) (g := (gTup K 3 (gCons (gName 7) (gCons (gName 8) (gCons (gName 3) gNil))))) rfl sc_law.nd (pi_list (pv 4)) (blkOk_by (own := [("_law_teller", 7), ("_law_state_here", 8), ("_law_policy_here", 3)]) (N := ["_law_script", "_law_hand_here", "_law_n", "_law_policy_here", "_law_some", "_law_turn", "_law_at", "_law_teller", "_law_state_here", "_law_kind", "_law_other", "_law_told"]) (sc := defScope s_law) (by decide +kernel)) (fun _ _ _ _ _ => by exact (pg_tup rfl (pgs_cons (pg_name (i := 7) sc_law.nd rfl (Or.inl rfl)) (pgs_cons (pg_name (i := 8) sc_law.nd rfl (Or.inl rfl)) (pgs_cons (pg_name (i := 3) sc_law.nd rfl (Or.inl rfl)) pgs_nil))))) (fun _ _ _ _ _ => pts_nil) (fun _ _ _ _ _ => (pe_call G__law_beats (hr.mono (by decide)) rfl T.g__law_beats T.F__law_beats.kp T.b__law_beats .nil pass0 (pa_cons (pv 1) (pa_cons (pv 7) (pa_cons (pv 8) (pa_cons (pv 3) (pa_cons (pv 2) pa_nil)))))))) pa_nil))))))))), ?_⟩
  walk_at "gg"
  refine ⟨a, ns, rfl, hS, hl, fun hd ca H1 s1 _ _ HA1 => ?_⟩
  walk_at "gg"
  refine ⟨fun σ' H' => ∃ (n : Nat) (qv : Addr) (bot : Nat) (b : Blk), 1 ≤ n ∧ n ≤ 6 ∧ σ' = [some (.ref a), some (.ref hd), some (.int (n : Int)), some (.ref qv), none, none, none, none, none, none, none, none] ∧ HandAt H' hd ca ∧ PolAt H' (.ref qv) (bot : Int) b ∧ PolOk (bot : Int) b, ?_, ?_⟩
  · walk_at "gg"
    refine ⟨hd, ca, 6, rfl, HA1, by decide, by decide, fun r H2 r0 r6 n2 => ?_⟩
    obtain ⟨n, en⟩ : ∃ n : Nat, 1 + r = (n : Int) := ⟨(1 + r).toNat, by omega⟩
    walk_at "gg"
    refine ⟨hd, ca, rfl, n2.hand, fun v bot b H3 n3 pa po => ?_⟩
    obtain ⟨qv, _, _, rfl, _⟩ := id pa
    obtain ⟨m, rfl⟩ : ∃ m : Nat, bot = (m : Int) := ⟨bot.toNat, by have := po.lo; omega⟩
    refine ⟨szr, fun u hu3 => ?_⟩
    have s4 := same_new (o := .tup [.int (1 + r), .ref qv]) hu3
    walk_at "gg"
    refine ⟨n, qv, m, b, by omega, by omega, by rw [← en]; rfl, n3.hand.same s4, pa.mono (same_tp s4), po⟩
  rintro σ' H2 ⟨n, qv, bot, b, hn1, hn6, rfl, HA2, pa, po⟩
  obtain ⟨qp, qb, bw, eqv, q1, q2, q3⟩ := id pa
  cases eqv
  walk_at "gg"
  intro pl dp hpl hdp npl
  have sb := (same_new (o := .own pl) hdp).trans (same_new (o := .ins (CP K) dp []) (by rw [upd_ne npl.symm]; exact hpl))
  refine ⟨pl, dp, qb, bw, b, (bot : Int), rfl, upd_same, po.lo, po.hi, sb _ _ q2, q3.mono (same_tp sb), po.ok, po.lev, po.cnt, fun H3 k3 e3 => ⟨rfl, ?_⟩⟩
  have s3 : Same H2 H3 := fun c o z => k3 c o (sb _ _ z) (ne_of_none z hpl)
  walk_at "gg"
  intro t2 d2 ht2 hd2 nt2
  have sb2 := (same_new (o := .own t2) hd2).trans (same_new (o := .ins (He.ga K "Teller") d2 []) (by rw [upd_ne nt2.symm]; exact ht2))
  refine ⟨t2, d2, n, pl, dp, _, rfl, upd_same, hn1, by omega, sb2 _ _ e3, fun kd od H4 k4 m1 m2 m3 e4 e5 e6 => ⟨rfl, ?_⟩⟩
  have s4 : Same H3 H4 := fun c o z => k4 c o (sb2 _ _ z) (ne_of_none z ht2)
  walk_at "gg"
  refine ⟨by omega, fun sd ol H5 s5 m4 m5 SA => ?_⟩
  have TA : TellAt K H4 t2 od n pl (bot : Int) b S0 (fun a => a = t2 ∨ a = kd ∨ a = od) := ⟨⟨d2, kd, [], e4, e5, ⟨NmOk.nil, (fun p h => nomatch h)⟩, .inr (.inl rfl), m3⟩, ⟨[], e6, .inr (.inr rfl), List.nodup_nil, (fun p h => nomatch h), fun _ _ _ _ => rfl⟩, ⟨dp, qb, bw, s4 _ _ e3, s4 _ _ (s3 _ _ q2), (q3.mono (same_tp s3)).mono (same_tp s4)⟩, .inl rfl⟩
  have s25 := (s3.trans s4).trans s5
  have PA := PairAt.new (hd := hd) (ca := ca) (qv := qv) s4 s5 (HA2.same s3) TA SA (fun a z => by
    rcases z with rfl | rfl | rfl
    · exact ⟨ht2, _, e4⟩
    · exact ⟨Same.free sb2 m1, _, e5⟩
    · exact ⟨Same.free sb2 m2, _, e6⟩) (fun a z => grow_new z) (pa.mono (same_tp s25)) po S0_bd
  walk_at "gg"
  refine ⟨szr, fun u hu5 => ?_⟩
  have s6 := same_new (o := .tup [.ref t2, .ref sd, .ref qv]) hu5
  refine ⟨szr, fun L hL => ?_⟩
  have s7 := s6.trans (same_new (o := .lst [.ref u]) hL)
  have HA7 := (HA2.same s25).same s7
  have Lhd : L ≠ hd := ((HA2.same s25).same s6).ne hL
  have LR : ∀ a, (a = t2 ∨ a = kd ∨ a = od) ∨ grow (fun _ => False) H4 H5 a → a ≠ L := fun a z e => by
    have q : ∃ o, H5 a = some o := z.elim (PA.lt a) (PA.ls a)
    obtain ⟨o, q⟩ := q
    have q := s6 _ _ q
    rw [e, hL] at q
    cases q
  have FA : FamAt K (upd (upd H5 u (.tup [.ref t2, .ref sd, .ref qv])) L (.lst [.ref u])) hd ca L (fun a => a = L) n [⟨t2, od, sd, ol, pl, qv, u, bot, b, S0, fun a => a = t2 ∨ a = kd ∨ a = od, grow (fun _ => False) H4 H5⟩] 0 := by
    refine ⟨upd_same, fun i p hp => ?_, fun i j p q hp hq ne => ?_, fun a e => ?_, rfl⟩
    · match i, hp with
      | 0, hp =>
        cases hp
        exact ⟨(same_new hL) _ _ upd_same, PA.same s7, Int.le_refl _⟩
    · match i, j, hp, hq with
      | 0, 0, _, _ => exact absurd rfl ne
    · rw [e]
      refine ⟨⟨_, upd_same⟩, Lhd, fun i p hp => ?_⟩
      match i, hp with
      | 0, hp =>
        cases hp
        exact fun z => LR L z rfl
  generalize upd (upd H5 u (.tup [.ref t2, .ref sd, .ref qv])) L (.lst [.ref u]) = H7 at HA7 FA ⊢
  walk_at "gg"
  refine ⟨by decide, by decide, for_range (lo := 0) (n := (8 : Int).toNat) (fun i σ H8 => ∃ c3 c5 c6 c7 c8 c9 c10 c11 ps, i ≤ 8 ∧ σ = [some (.ref a), some (.ref hd), some (.int (n : Int)), c3, some (.ref L), c5, c6, c7, c8, c9, c10, c11] ∧ HandAt H8 hd ca ∧ FamAt K H8 hd ca L (fun a => a = L) n ps (3 * (i : Int)) ∧ 1 ≤ ps.length ∧ ps.length ≤ 4) ⟨_, _, _, _, _, _, _, _, _, Nat.zero_le _, rfl, HA7, FA, Nat.le_refl _, by show 1 ≤ 4; decide⟩ ?_ ?_⟩
  · rintro i σ H8 hi ⟨c3, c5, c6, c7, c8, c9, c10, c11, ps, _, rfl, HA8, FA8, hl1, hl4⟩
    have hi8 : i < 8 := hi
    have hL8 := FA8.li
    walk_at "gg"
    refine ⟨hd, ca, _, rfl, HA8, by rw [List.length_map]; omega, by rw [List.length_map]; omega, fun r H9 r0 r1 n9 => ?_⟩
    rw [List.length_map] at r1
    have FA9 := FA8.hn n9
    have HA9 := n9.hand
    obtain ⟨j, ej⟩ : ∃ j : Nat, r = (j : Int) := ⟨r.toNat, by omega⟩
    obtain ⟨p, hp⟩ : ∃ p, ps[j]? = some p := ⟨ps[j]'(by omega), List.getElem?_eq_getElem _⟩
    obtain ⟨pr, PA9, pb⟩ := FA9.el j p hp
    have hgx : (ps.map fun p => V.ref p.r)[j]? = some (.ref p.r) := by rw [List.getElem?_map, hp]; rfl
    walk_at "gg"
    refine ⟨L, _, _, _, rfl, rfl, SqL.of FA9.li, at_of (j := j) ej hgx, ?_⟩
    walk_at "gg"
    refine ⟨hd, ca, 4, rfl, HA9, by decide, by decide, fun r' H10 r2 r3 n10 => ?_⟩
    have FA10 := FA9.hn n10
    have HA10 := n10.hand
    have PA10 := (FA10.el j p hp).2.1
    have hL10 := FA10.li
    obtain ⟨dx, kd1, kk1, t1, _⟩ := PA10.ta.ob
    walk_at "gg"
    refine ⟨fun σ' H' => ∃ c10 c11 ps, σ' = [some (.ref a), some (.ref hd), some (.int (n : Int)), some (.ref p.qv), some (.ref L), some (.int (0 + (i : Int))), some (.int r), some (.ref p.t), some (.ref p.sd), some (.int r'), c10, c11] ∧ HandAt H' hd ca ∧ FamAt K H' hd ca L (fun a => a = L) n ps (3 * (i : Int)) ∧ 1 ≤ ps.length ∧ ps.length ≤ 4 ∧ ps[j]? = some p, ?_, ?_⟩
    · walk_at "gg"
      have mid0 : ∀ H' (x10 x11 : Option V), HandAt H' hd ca → FamAt K H' hd ca L (fun a => a = L) n ps (3 * (i : Int)) → ∃ c10 c11 ps, [some (.ref a), some (.ref hd), some (.int (n : Int)), some (.ref p.qv), some (.ref L), some (.int (0 + (i : Int))), some (.int r), some (.ref p.t), some (.ref p.sd), some (.int r'), x10, x11] = [some (.ref a), some (.ref hd), some (.int (n : Int)), some (.ref p.qv), some (.ref L), some (.int (0 + (i : Int))), some (.int r), some (.ref p.t), some (.ref p.sd), some (.int r'), c10, c11] ∧ HandAt H' hd ca ∧ FamAt K H' hd ca L (fun a => a = L) n ps (3 * (i : Int)) ∧ 1 ≤ ps.length ∧ ps.length ≤ 4 ∧ ps[j]? = some p :=
        fun H' x10 x11 h1 h2 => ⟨x10, x11, ps, rfl, h1, h2, hl1, hl4, hp⟩
      have last : (∀ (x10 : Option V), True) := fun _ => trivial
      refine if2 (fun k0 => ?_) (fun k0 => ?_)
      · walk_at "gg"
        refine if2 (fun k1 => ?_) (fun k1 => ?_)
        · have k1 : (((ps.map fun p => V.ref p.r).length : Nat) : Int) < 4 := of_decide_eq_true k1
          rw [List.length_map] at k1
          walk_at "gg"
          refine ⟨.inl ⟨rfl, _, SqL.of hL10⟩, ?_⟩
          walk_at "gg"
          refine ⟨p.t, dx, _, rfl, t1, rfl, ?_⟩
          refine ⟨p.t, p.od, n, p.pol, (p.bot : Int), p.b, p.S, p.Rt, rfl, PA10.ta, hn1, by omega, fun t3 od3 H11 s11 _ _ TA3 => ?_⟩
          walk_at "gg"
          refine ⟨p.sd, p.ol, n, p.S, p.Rs, rfl, PA10.sa.same s11, by omega, fun sd3 ol3 H12 s12 _ _ SA3 => ?_⟩
          walk_at "gg"
          refine ⟨szr, fun u3 hu3 => ?_⟩
          have s13 := same_new (o := .tup [.ref t3, .ref sd3, .ref p.qv]) hu3
          have S13 := (s11.trans s12).trans s13
          have PA3 := (PairAt.new (hd := hd) (ca := ca) (qv := p.qv) s11 s12 HA10 TA3 SA3 (fun a z => grow_new z) (fun a z => grow_new z) (PA10.pa.mono ((same_tp s11).trans (same_tp s12))) PA10.po PA10.bd).same s13
          obtain ⟨FA13, F13⟩ := FA10.push HA10 S13 (p := ⟨t3, od3, sd3, ol3, p.pol, p.qv, u3, p.bot, p.b, p.S, grow (fun _ => False) H10 H11, grow (fun _ => False) H11 H12⟩) PA3 upd_same (FA10.el j p hp).2.2 fun a z => z.elim (fun z => (grow_new z).1) fun z => Same.free s11 (grow_new z).1
          refine ⟨L, _, _, rfl, rfl, S13 _ _ hL10, by rw [List.length_map]; exact szt (by omega), ?_⟩
          refine ⟨_, _, ps ++ [⟨t3, od3, sd3, ol3, p.pol, p.qv, u3, p.bot, p.b, p.S, grow (fun _ => False) H10 H11, grow (fun _ => False) H11 H12⟩], rfl, (HA10.same S13).frame F13 (fun e => (FA10.ou L rfl).2.1 e.symm) ?_, FA13, by rw [List.length_append]; omega, by rw [List.length_append, List.length_singleton]; omega, by rw [List.getElem?_append_left (by omega)]; exact hp⟩
          exact FA10.nca HA10 hl1
        · walk_at "gg"
          refine if2 (fun k2 => ?_) (fun k2 => ?_)
          · rw [dec_int] at k0 k2
            have k0 := of_decide_eq_true k0
            have k2 := of_decide_eq_true k2
            omega
          · walk_at "gg"
            refine if2 (fun k3 => ?_) (fun k3 => ?_)
            · rw [dec_int] at k0 k3
              have k0 := of_decide_eq_true k0
              have k3 := of_decide_eq_true k3
              omega
            · exact mid0 _ _ _ HA10 FA10
      · walk_at "gg"
        have told : ∀ (x10 : Option V), True := fun _ => trivial
        refine if2 (fun k2 => ?_) (fun k2 => ?_)
        · walk_at "gg"
          refine if2 (fun k1 => ?_) (fun k1 => ?_)
          · have k1 : (((ps.map fun p => V.ref p.r).length : Nat) : Int) < 4 := of_decide_eq_true k1
            rw [List.length_map] at k1
            walk_at "gg"
            refine ⟨hd, ca, rfl, HA10, fun v2 bot2 b2 H11 n11 pa2 po2 => ?_⟩
            obtain ⟨qv2, qb2, bw2, ev2, y1, y2, y3⟩ := id pa2
            cases ev2
            obtain ⟨bm2, rfl⟩ : ∃ m : Nat, bot2 = (m : Int) := ⟨bot2.toNat, by have := po2.lo; omega⟩
            have FA11 := FA10.hn n11
            have HA11 := n11.hand
            have PA11 := (FA11.el j p hp).2.1
            have hL11 := FA11.li
            obtain ⟨dx2, kd2, kk2, t2', _⟩ := PA11.ta.ob
            walk_at "gg"
            refine ⟨.inl ⟨rfl, _, SqL.of hL11⟩, ?_⟩
            walk_at "gg"
            refine ⟨p.t, dx2, _, rfl, t2', rfl, ?_⟩
            walk_at "gg"
            intro pl2 dp2 hpl2 hdp2 npl2
            have sc := (same_new (o := .own pl2) hdp2).trans (same_new (o := .ins (CP K) dp2 []) (by rw [upd_ne npl2.symm]; exact hpl2))
            refine ⟨pl2, dp2, qb2, bw2, b2, (bm2 : Int), rfl, upd_same, po2.lo, po2.hi, sc _ _ y2, y3.mono (same_tp sc), po2.ok, po2.lev, po2.cnt, fun H12 k12 e12 => ⟨rfl, ?_⟩⟩
            have s12 : Same H11 H12 := fun c o z => k12 c o (sc _ _ z) (ne_of_none z hpl2)
            have pin : PolIn (CP K) H12 pl2 (bm2 : Int) b2 := ⟨dp2, qb2, bw2, e12, s12 _ _ y2, y3.mono (same_tp s12)⟩
            walk_at "gg"
            refine ⟨p.t, p.od, n, p.pol, (p.bot : Int), p.b, p.S, p.Rt, pl2, (bm2 : Int), b2, rfl, PA11.ta.same s12, hn1, by omega, pin, fun t3 od3 H13 s13 _ _ TA3 => ?_⟩
            walk_at "gg"
            refine ⟨p.sd, p.ol, n, p.S, p.Rs, rfl, (PA11.sa.same s12).same s13, by omega, fun sd3 ol3 H14 s14 _ _ SA3 => ?_⟩
            walk_at "gg"
            refine ⟨szr, fun u3 hu3 => ?_⟩
            have s15 := same_new (o := .tup [.ref t3, .ref sd3, .ref qv2]) hu3
            have S15 := ((s12.trans s13).trans s14).trans s15
            have PA3 := (PairAt.new (hd := hd) (ca := ca) (qv := qv2) s13 s14 (HA11.same s12) TA3 SA3 (fun a z => grow_new z) (fun a z => grow_new z) (pa2.mono ((same_tp s12).trans ((same_tp s13).trans (same_tp s14)))) po2 PA11.bd).same s15
            obtain ⟨FA15, F15⟩ := FA11.push HA11 S15 (p := ⟨t3, od3, sd3, ol3, pl2, qv2, u3, bm2, b2, p.S, grow (fun _ => False) H12 H13, grow (fun _ => False) H13 H14⟩) PA3 upd_same (FA11.el j p hp).2.2 fun a z => Same.free s12 (z.elim (fun z => (grow_new z).1) fun z => Same.free s13 (grow_new z).1)
            refine ⟨L, _, _, rfl, rfl, S15 _ _ hL11, by rw [List.length_map]; exact szt (by omega), ?_⟩
            refine ⟨_, _, ps ++ [⟨t3, od3, sd3, ol3, pl2, qv2, u3, bm2, b2, p.S, grow (fun _ => False) H12 H13, grow (fun _ => False) H13 H14⟩], rfl, (HA11.same S15).frame F15 (fun e => (FA11.ou L rfl).2.1 e.symm) ?_, FA15, by rw [List.length_append]; omega, by rw [List.length_append, List.length_singleton]; omega, by rw [List.getElem?_append_left (by omega)]; exact hp⟩
            exact FA11.nca HA11 hl1
          · walk_at "gg"
            refine if2 (fun k3 => ?_) (fun k3 => ?_)
            · rw [dec_int] at k2 k3
              have k2 := of_decide_eq_true k2
              have k3 := of_decide_eq_true k3
              omega
            · exact mid0 _ _ _ HA10 FA10
        · walk_at "gg"
          refine if2 (fun k3 => ?_) (fun k3 => ?_)
          · walk_at "gg"
            refine ⟨p.t, dx, _, rfl, t1, rfl, ?_⟩
            refine ⟨p.t, p.od, n, p.pol, (p.bot : Int), p.b, p.S, p.Rt, rfl, PA10.ta, fun p1 k1 H11 s11 m11 e11 z11 => ?_⟩
            walk_at "gg"
            refine ⟨p1, _, rfl, DPut.k (k := Sum.inr "a") e11 (szt (by have := z11.1.len; omega)), ?_⟩
            have S12 : Same H10 (upd H11 p1 (.dK (putK k1 (Sum.inr "a") (.int 77)))) := same_put s11 m11
            generalize upd H11 p1 (.dK (putK k1 (Sum.inr "a") (.int 77))) = H12 at S12 ⊢
            have FA12 := FA10.same S12
            have HA12 := HA10.same S12
            walk_at "gg"
            refine ⟨p.t, dx, _, rfl, S12 _ _ t1, rfl, ?_⟩
            walk_at "gg"
            refine ⟨hd, ca, (n : Int), rfl, HA12, by omega, by omega, fun r5 H13 r6 r7 n13 => ?_⟩
            have FA13 := FA12.hn n13
            have HA13 := n13.hand
            obtain ⟨pi, epi⟩ : ∃ m : Nat, r5 = (m : Int) := ⟨r5.toNat, by omega⟩
            walk_at "gg"
            refine ⟨p.t, p.od, n, pi, p.pol, (p.bot : Int), p.b, p.S, p.Rt, by rw [epi]; rfl, (FA13.el j p hp).2.1.ta, by omega, fun p2 k2 H14 s14 m14 e14 z14 => ?_⟩
            walk_at "gg"
            refine ⟨p2, _, rfl, DPut.k (k := Sum.inr "a") e14 (szt (by have := z14.1.len; omega)), ?_⟩
            have S15 : Same H13 (upd H14 p2 (.dK (putK k2 (Sum.inr "a") (.int 77)))) := same_put s14 m14
            exact mid0 _ _ _ (HA13.same S15) (FA13.same S15)
          · exact mid0 _ _ _ HA10 FA10
    · rintro σ' H11 ⟨c10, c11, ps, rfl, HA11, FA11, hl1, hl4, hp⟩
      obtain ⟨_, PA11, pb⟩ := FA11.el j p hp
      walk_at "gg"
      refine ⟨hd, ca, p.t, p.od, p.sd, p.ol, n, p.pol, p.qv, p.bot, p.b, p.S, p.Rt, p.Rs, rfl, HA11, PA11, hn1, hn6, by omega, fun S' H12 F12 HA12 P12 hb' => ?_⟩
      obtain ⟨ps', l', _, FA12⟩ := FA11.step hp F12 P12 hb'
      walk_at "gg"
      exact ⟨_, _, _, _, _, _, _, _, ps', by omega, rfl, HA12, FA12.more (by omega), by omega, by omega⟩
  · rintro σ H8 ⟨c3, c5, c6, c7, c8, c9, c10, c11, ps, _, rfl, HA8, FA8, hl1, hl4⟩
    have hL8 := FA8.li
    obtain ⟨p, hp⟩ : ∃ p, ps[0]? = some p := ⟨ps[0]'(by omega), List.getElem?_eq_getElem _⟩
    obtain ⟨pr, PA8, pb⟩ := FA8.el 0 p hp
    have hgx : (ps.map fun p => V.ref p.r)[0]? = some (.ref p.r) := by rw [List.getElem?_map, hp]; rfl
    obtain ⟨dx, kd1, kk1, t1, _⟩ := PA8.ta.ob
    walk_at "gg"
    refine ⟨L, _, _, _, rfl, rfl, SqL.of hL8, at_of (j := 0) rfl hgx, ?_⟩
    walk_at "gg"
    refine ⟨L, _, _, _, rfl, rfl, SqL.of hL8, at_of (j := 0) rfl hgx, ?_⟩
    walk_at "gg"
    refine ⟨p.t, dx, _, rfl, t1, rfl, ?_⟩
    refine ⟨p.t, p.od, n, p.pol, (p.bot : Int), p.b, p.S, p.Rt, rfl, PA8.ta, hn1, by omega, fun t3 od3 H9 s9 m1 m2 TA3 => ?_⟩
    obtain ⟨dx3, kd3, kk3, t3a, _⟩ := TA3.ob
    refine ⟨p.t, t3, dx, dx3, _, _, rfl, rfl, ne_of_none t1 m1, s9 _ _ t1, t3a, ?_⟩
    have FA9 := FA8.same s9
    have HA9 := HA8.same s9
    have hL9 := FA9.li
    have pr9 := s9 _ _ pr
    have t19 := s9 _ _ t1
    clear hL8 pr t1
    walk_at "gg"
    refine ⟨L, _, _, _, rfl, rfl, SqL.of hL9, at_of (j := 0) rfl hgx, ?_⟩
    walk_at "gg"
    refine ⟨L, _, _, _, rfl, rfl, SqL.of hL9, at_of (j := 0) rfl hgx, ?_⟩
    walk_at "gg"
    refine ⟨p.t, dx, _, rfl, rfl, t19, ?_⟩
    walk_at "gg"
    refine ⟨⟨_, SqL.of hL9⟩, fun D hD => ?_⟩
    have DL : D ≠ L := fun z => by rw [z, hL9] at hD; cases hD
    have Dh := HA9.ne hD
    have Dc := HA9.nc hD
    refine lc_list (xs := ps.map fun p => V.ref p.r) (fun i H10 => ∃ ps', ps'.length = ps.length ∧ (ps'.map fun p => V.ref p.r) = (ps.map fun p => V.ref p.r) ∧ HandAt H10 hd ca ∧ FamAt K H10 hd ca L (fun a => a = L ∨ a = D) n ps' (24 + 3 * (i : Int)) ∧ H10 D = some (.lst ((List.range i).map fun _ => .bl true)))
      ⟨ps, rfl, rfl, HA9.same (same_new hD), ((FA9.same (same_new hD)).wide (fun a z => z.imp id fun e => ⟨⟨_, by rw [e]; exact upd_same⟩, by rw [e]; exact Dh, fun i p hp z => by
        obtain ⟨o, q⟩ := Rec.At.al (p := p) (FA9.el i p hp).2.1 a z
        rw [e, hD] at q
        cases q⟩) (.inl rfl)).more (by show 3 * ((8 : Int).toNat : Int) ≤ 24 + 3 * ((0 : Nat) : Int); decide), upd_same⟩
      (fun i H10 _ ⟨ps', _, m', _, FA', _⟩ => SqL.of (by rw [FA'.li, m'])) ?_ ?_
    · rintro i v H10 hv ⟨ps', l', m', HA10, FA10, eD⟩
      have hv' := hv
      rw [← m', List.getElem?_map] at hv'
      obtain ⟨p', hp', rfl⟩ : ∃ p', ps'[i]? = some p' ∧ v = .ref p'.r := by
        cases e : ps'[i]? with
        | none => rw [e] at hv'; cases hv'
        | some p' => rw [e] at hv'; exact ⟨p', rfl, (Option.some.inj hv').symm⟩
      have hi := (List.getElem?_eq_some_iff.mp hp').1
      obtain ⟨pr', PA10, pb'⟩ := FA10.el i p' hp'
      walk_at "gg"
      refine ⟨hd, ca, p'.t, p'.od, p'.sd, p'.ol, n, p'.pol, p'.qv, p'.bot, p'.b, p'.S, p'.Rt, p'.Rs, rfl, HA10, PA10, hn1, hn6, by omega, fun S' H12 F12 HA12 P12 hb' => ?_⟩
      obtain ⟨ps2, l2, m2', FA12⟩ := FA10.step hp' F12 P12 hb'
      obtain ⟨_, _, oD⟩ := FA10.ou D (.inr rfl)
      have eD12 := F12.st _ _ eD (by
        rintro (q | q)
        · exact Dh q
        · exact oD i p' hp' (Rec.At.wr (p := p') PA10 D q))
      have fD : Fr (CP K) (fun a => a = D) H12 (upd H12 D (.lst (((List.range i).map fun _ => V.bl true) ++ [.bl true]))) := Fr.put rfl eD12 (fun xs q => by cases q) fun dx fs q => by cases q
      obtain ⟨_, _, oD2⟩ := FA12.ou D (.inr rfl)
      refine ⟨_, eD12, by rw [List.length_map, List.length_range]; exact szt (by omega), ps2, by omega, m2'.trans m', HA12.upd' Dh Dc, (FA12.frame fD fun a e => by rw [e]; exact ⟨DL, oD2⟩).more (by omega), ?_⟩
      rw [upd_same, List.range_succ, List.map_append]
      rfl
    · rintro H10 ⟨ps', l', m', HA10, FA10, eD⟩
      rw [List.length_map] at eD
      walk_at "gg"
      refine ⟨D, (List.range ps.length).map fun _ => true, rfl, SqL.of (by rw [eD, List.map_map]; rfl), ?_⟩
      have e : (((List.range ps.length).map fun _ => true).all id) = true := by simp
      rw [e]
      exact k H10
end
end K6
set_option maxHeartbeats 4000000
open PySem PySem.W PySem.Calls PyProof.Rows
theorem PySem.Challenge.cw_harmonicdues_k06_whole_policies_turned_a_holds : PySem.Challenge.rw_harmonicdues_k06_whole_policies_turned_a.Holds := by
  w_on; o_law
  refine HandSHeadRun.head_any (r := OpenLaw.row PySem.Challenge.rw_harmonicdues_k06_whole_policies_turned_a) (q := view (OpenLaw.row PySem.Challenge.rw_harmonicdues_k06_whole_policies_turned_a).prog [75]) (H := K6.hk) (ob := K6.ob) (M := 6000) (loose := K6.loose) (d := HandSHeadRun.topDef (OpenLaw.row PySem.Challenge.rw_harmonicdues_k06_whole_policies_turned_a).prog 75) (kwd := []) K6.ob_eq
    (by kernel_rfl) (fun s => by kernel_rfl) K6.run (by kernel_rfl) (by kernel_rfl) (by kernel_rfl) (by rfl) (by first | assumption | decide +kernel) (by decide +kernel) ⟨rfl, rfl, rfl, rfl, rfl, by decide +kernel⟩ ?hw ?hc
  case hw => w_witness2
  case hc =>
    refine L2.walk_ofE (l := PySem.Challenge.rw_harmonicdues_k06_whole_policies_turned_a) (n := 63) (k := 23) (x := "_law_script") (CX := L2.CX0) rfl (by decide) (by kernel_rfl) ⟨rfl, by decide, by decide⟩ ?F (fun _ _ _ _ z => z)
    intro w mg fa h Y G hmg0
    obtain ⟨K, KX, c⟩ := Y
    have hmg : mg ("law" : PySem.Str) = some (.ref fa) := by
      have e : (HandSHeadRun.topDef (OpenLaw.row PySem.Challenge.rw_harmonicdues_k06_whole_policies_turned_a).prog 75).name = ("law" : PySem.Str) := by kernel_rfl
      rw [← e]
      exact hmg0
    have T : K6.Txt K mg := ⟨⟨h, KX, G⟩, c.t.d, c.more⟩
    have e := hmg.symm.trans T.g_law
    cases e
    have b := L2.FunD.bindsA (ps := ["_law_script"]) T.F_law fun _ _ _ _ _ _ us hl => match us, hl with | [_], _ => rfl
    exact ⟨K, K6.fdOf K (K6.a_law K), K6.sp_law K, KX, (fun s u => b s [u] rfl), fun H a ns hl _ hS => ⟨a, ns, rfl, hS, hl, fun _ => rfl⟩, fun base _ _ => K6.ok_law T⟩
