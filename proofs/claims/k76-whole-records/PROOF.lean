import PyProof.Rows.All
import Wide.All
import OpenK.AllK
import Wide.FinOn
import KE.GoesNew
import KE.KDictKeyed
import HandS.ForMost
import HandS.Exc
import HandS.TryOnly
import HandS.ExcOwn
import HandS.WordsExc
import HandS.ExcInit
import HandS.IsInst
import HandS.TupAny
import HandS.Style
import HandS.Deep
import HandS.Conv
import HandS.Walk
import HandS.More
import HandS.DictComp
import HandS.Wide
import HandS.Codes
import PySem.Challenge.RW_syncedwords_k76_whole_records_by_whomeve
set_option Elab.async false
set_option linter.all false
set_option maxRecDepth 100000
set_option maxHeartbeats 4000000
namespace K76
open PySem PySem.Spec PyProof.Rows L2

/-! ### the text by places -/
def top (i : Nat) : Stmt := PySem.Challenge.pw_syncedwords_k76_whole_records_by_whomeve.main.body.getD i (.Pass ⟨0, 0, 0, 0⟩)

/-- a def of the top: where its name leads -/
def DefIn (K : PySem.W.Frag) (mg : Str → Option Value) (x : Str) (st : Stmt) : Prop := ∃ (f : Addr) (fd : FuncData), mg x = some (.ref f) ∧ Fun K x x st f fd
/-- a def keeps its promise: all that a caller asks -/
def Have (P : Program) (w : World) (K : PySem.W.Frag) (mg : Str → Option Value) (base : Heap) (CX : CXT) (x : Str) (k : Nat) (ps : List Str) (sp : Sp) : Prop :=
  ∃ (f : Addr) (fd : FuncData), mg x = some (.ref f) ∧ PySem.W.keepIn K (.ref f) = true ∧ Binds K fd ps [] ∧ FnOk P w K mg base CX k f fd ps sp
section
variable {P : Program} {w : World} {K : PySem.W.Frag} {mg : Str → Option Value} {base : Heap}
theorem Have.mono {CX : CXT} {x : Str} {j k : Nat} {ps : List Str} {sp : Sp} (h : Have P w K mg base CX x j ps sp) (l : j ≤ k) : Have P w K mg base CX x k ps sp := by
  obtain ⟨f, fd, g, kp, b, o⟩ := h
  exact ⟨f, fd, g, kp, b, o.mono l⟩
theorem have_of {x : Str} {st : Stmt} {N ps : List Str} {k : Nat} {sp : Sp} (d : DefIn K mg x st)
    (hb : ∀ (kV doc pm : Value) (an : Option Addr) (cdv ct : Value) (us : List Value), us.length = ps.length → bindArgs (PySem.W.fnOf x x (defArgs st) (defBody st) (defScope st) .none kV doc pm an cdv ct) ⟨us, []⟩ = pure (ps.zip us))
    (S : FnScope N ps (defScope st)) (len : ∀ vs H Q E, sp vs H Q E → vs.length = ps.length)
    (body : ∀ (f : Addr) (cdv : Value) (A : Around) (outer : List Env) (s : Shared) (H : Hp) (vs : List V) (Q : VK) (E : XK), Room k (A.deeper (envOfC x (defScope st) s.heap.objs.size f cdv)) → sp vs H Q E →
      ∃ t, PSs (cxOf CX0 P w K mg base N x (defScope st) f cdv A outer s H E).nox (defBody st) t ∧ t { nx := fun _ H' => Q .non H', rt := Q } (start N vs) H) :
    Have P w K mg base CX0 x (k + 1) ps sp := by
  obtain ⟨f, fd, g, F⟩ := d
  exact ⟨f, fd, g, F.kp, F.binds hb, F.ok S len fun cdv A outer s H vs Q E hr h => body f cdv A outer s H vs Q E hr h⟩
end
abbrev s_NP_init : Stmt := inClass (top 5) 0
theorem sc_NP_init : FnScope ["self", "why"] ["self", "why"] (defScope s_NP_init) := ⟨rfl, rfl, rfl, by decide +kernel, rfl, by decide +kernel, by decide +kernel⟩
abbrev s_B_init : Stmt := inClass (top 32) 0
theorem sc_B_init : FnScope ["self", "code"] ["self", "code"] (defScope s_B_init) := ⟨rfl, rfl, rfl, by decide +kernel, rfl, by decide +kernel, by decide +kernel⟩
abbrev s_B_act : Stmt := inClass (top 32) 1
theorem sc_B_act : FnScope ["self", "command", "state"] ["self", "command"] (defScope s_B_act) := ⟨rfl, rfl, rfl, by decide +kernel, rfl, by decide +kernel, by decide +kernel⟩
abbrev s_B_records : Stmt := inClass (top 32) 9
theorem sc_B_records : FnScope ["self", "found", "at", "command"] ["self"] (defScope s_B_records) := ⟨rfl, rfl, rfl, by decide +kernel, rfl, by decide +kernel, by decide +kernel⟩
abbrev s_is_spelled : Stmt := top 10
theorem sc_is_spelled : FnScope ["value", "low", "high", "letter"] ["value", "low", "high"] (defScope s_is_spelled) := ⟨rfl, rfl, rfl, by decide +kernel, rfl, by decide +kernel, by decide +kernel⟩
abbrev s_is_code : Stmt := top 11
theorem sc_is_code : FnScope ["value", "at", "word"] ["value"] (defScope s_is_code) := ⟨rfl, rfl, rfl, by decide +kernel, rfl, by decide +kernel, by decide +kernel⟩
abbrev s_listed_states : Stmt := top 13
theorem sc_listed_states : FnScope ["code", "found", "word", "letters", "many"] ["code"] (defScope s_listed_states) := ⟨rfl, rfl, rfl, by decide +kernel, rfl, by decide +kernel, by decide +kernel⟩
abbrev s_moves_of : Stmt := top 14
theorem sc_moves_of : FnScope ["code", "states", "numbers", "found", "word", "letters", "many", "letter", "start", "end", "ends", "number", "state"] ["code"] (defScope s_moves_of) := ⟨rfl, rfl, rfl, by decide +kernel, rfl, by decide +kernel, by decide +kernel⟩
abbrev s_led_to : Stmt := top 16
theorem sc_led_to : FnScope ["moves", "states", "letter", "found", "state", "end"] ["moves", "states", "letter"] (defScope s_led_to) := ⟨rfl, rfl, rfl, by decide +kernel, rfl, by decide +kernel, by decide +kernel⟩
abbrev s_led_from : Stmt := top 17
theorem sc_led_from : FnScope ["moves", "many", "states", "letter", "found", "state", "end"] ["moves", "many", "states", "letter"] (defScope s_led_from) := ⟨rfl, rfl, rfl, by decide +kernel, rfl, by decide +kernel, by decide +kernel⟩
abbrev s_sets_ahead : Stmt := top 18
theorem sc_sets_ahead : FnScope ["code", "string", "moves", "rows", "letter"] ["code", "string"] (defScope s_sets_ahead) := ⟨rfl, rfl, rfl, by decide +kernel, rfl, by decide +kernel, by decide +kernel⟩
abbrev s_sets_behind : Stmt := top 19
theorem sc_sets_behind : FnScope ["code", "string", "moves", "many", "rows", "letter"] ["code", "string"] (defScope s_sets_behind) := ⟨rfl, rfl, rfl, by decide +kernel, rfl, by decide +kernel, by decide +kernel⟩
abbrev s_runs_sets : Stmt := top 20
theorem sc_runs_sets : FnScope ["code", "string", "rows", "ahead", "behind", "state"] ["code", "string"] (defScope s_runs_sets) := ⟨rfl, rfl, rfl, by decide +kernel, rfl, by decide +kernel, by decide +kernel⟩
abbrev s_observable : Stmt := top 21
theorem sc_observable : FnScope ["code", "string"] ["code", "string"] (defScope s_observable) := ⟨rfl, rfl, rfl, by decide +kernel, rfl, by decide +kernel, by decide +kernel⟩
abbrev s_known_in : Stmt := top 22
theorem sc_known_in : FnScope ["code", "string", "place", "states"] ["code", "string"] (defScope s_known_in) := ⟨rfl, rfl, rfl, by decide +kernel, rfl, by decide +kernel, by decide +kernel⟩
abbrev s_is_whole : Stmt := top 26
theorem sc_is_whole : FnScope ["value", "least", "most"] ["value", "least", "most"] (defScope s_is_whole) := ⟨rfl, rfl, rfl, by decide +kernel, rfl, by decide +kernel, by decide +kernel⟩
abbrev s_check_code : Stmt := top 27
theorem sc_check_code : FnScope ["code"] ["code"] (defScope s_check_code) := ⟨rfl, rfl, rfl, by decide +kernel, rfl, by decide +kernel, by decide +kernel⟩
abbrev s_is_command : Stmt := top 28
theorem sc_is_command : FnScope ["value", "code"] ["value", "code"] (defScope s_is_command) := ⟨rfl, rfl, rfl, by decide +kernel, rfl, by decide +kernel, by decide +kernel⟩
abbrev s_sent_more : Stmt := top 29
theorem sc_sent_more : FnScope ["code", "sent", "word", "many", "inside"] ["code", "sent", "word", "many"] (defScope s_sent_more) := ⟨rfl, rfl, rfl, by decide +kernel, rfl, by decide +kernel, by decide +kernel⟩
abbrev s_behind : Stmt := top 30
theorem sc_behind : FnScope ["code", "state", "command", "sent", "inside", "joined"] ["code", "state", "command"] (defScope s_behind) := ⟨rfl, rfl, rfl, by decide +kernel, rfl, by decide +kernel, by decide +kernel⟩
abbrev s_known_to : Stmt := top 31
theorem sc_known_to : FnScope ["code", "state", "sent", "inside", "joined", "start"] ["code", "state"] (defScope s_known_to) := ⟨rfl, rfl, rfl, by decide +kernel, rfl, by decide +kernel, by decide +kernel⟩
abbrev s_are_rows : Stmt := top 34
theorem sc_are_rows : FnScope ["value", "row", "one"] ["value"] (defScope s_are_rows) := ⟨rfl, rfl, rfl, by decide +kernel, rfl, by decide +kernel, by decide +kernel⟩
abbrev s_state_behind : Stmt := top 35
theorem sc_state_behind : FnScope ["code", "state", "record", "later"] ["code", "state", "record"] (defScope s_state_behind) := ⟨rfl, rfl, rfl, by decide +kernel, rfl, by decide +kernel, by decide +kernel⟩
abbrev s_are_right : Stmt := top 36
theorem sc_are_right : FnScope ["code", "records", "state", "record"] ["code", "records"] (defScope s_are_right) := ⟨rfl, rfl, rfl, by decide +kernel, rfl, by decide +kernel, by decide +kernel⟩
abbrev s_l_stream : Stmt := top 38
theorem sc_l_stream : FnScope ["_law_script"] ["_law_script"] (defScope s_l_stream) := ⟨rfl, rfl, rfl, by decide +kernel, rfl, by decide +kernel, by decide +kernel⟩
abbrev s_l_next : Stmt := top 39
theorem sc_l_next : FnScope ["_law_stream_here", "_law_many", "_law_digit", "_law_k", "_law_cell"] ["_law_stream_here", "_law_many"] (defScope s_l_next) := ⟨rfl, rfl, rfl, by decide +kernel, rfl, by decide +kernel, by decide +kernel⟩
abbrev s_l_is_integer : Stmt := top 40
theorem sc_l_is_integer : FnScope ["_law_actual"] ["_law_actual"] (defScope s_l_is_integer) := ⟨rfl, rfl, rfl, by decide +kernel, rfl, by decide +kernel, by decide +kernel⟩
abbrev s_l_equal : Stmt := top 41
theorem sc_l_equal : FnScope ["_law_actual", "_law_due", "_law_at"] ["_law_actual", "_law_due"] (defScope s_l_equal) := ⟨rfl, rfl, rfl, by decide +kernel, rfl, by decide +kernel, by decide +kernel⟩
abbrev s_l_string : Stmt := top 42
theorem sc_l_string : FnScope ["_law_stream_here", "_law_letters", "_law_least", "_law_most", "_law_many", "_law_turn"] ["_law_stream_here", "_law_letters", "_law_least", "_law_most"] (defScope s_l_string) := ⟨rfl, rfl, rfl, by decide +kernel, rfl, by decide +kernel, by decide +kernel⟩
abbrev s_l_code : Stmt := top 43
theorem sc_l_code : FnScope ["_law_stream_here", "_law_least", "_law_most", "_law_longest", "_law_letters", "_law_found", "_law_turn", "_law_word"] ["_law_stream_here", "_law_least", "_law_most", "_law_longest"] (defScope s_l_code) := ⟨rfl, rfl, rfl, by decide +kernel, rfl, by decide +kernel, by decide +kernel⟩
abbrev s_l_states : Stmt := top 44
theorem sc_l_states : FnScope ["_law_code_here", "_law_found", "_law_word", "_law_many"] ["_law_code_here"] (defScope s_l_states) := ⟨rfl, rfl, rfl, by decide +kernel, rfl, by decide +kernel, by decide +kernel⟩
abbrev s_l_next_states : Stmt := top 45
theorem sc_l_next_states : FnScope ["_law_code_here", "_law_state", "_law_letter", "_law_found", "_law_word", "_law_many"] ["_law_code_here", "_law_state", "_law_letter"] (defScope s_l_next_states) := ⟨rfl, rfl, rfl, by decide +kernel, rfl, by decide +kernel, by decide +kernel⟩
abbrev s_l_known : Stmt := top 46
theorem sc_l_known : FnScope ["_law_code_here", "_law_string_here", "_law_states_here", "_law_ahead", "_law_letter", "_law_behind_here", "_law_known_here", "_law_at", "_law_found", "_law_state", "_law_both", "_law_end"] ["_law_code_here", "_law_string_here"] (defScope s_l_known) := ⟨rfl, rfl, rfl, by decide +kernel, rfl, by decide +kernel, by decide +kernel⟩
abbrev s_l_command : Stmt := top 47
theorem sc_l_command : FnScope ["_law_stream_here", "_law_code_here", "_law_state", "_law_pick", "_law_sent", "_law_inside", "_law_joined"] ["_law_stream_here", "_law_code_here", "_law_state"] (defScope s_l_command) := ⟨rfl, rfl, rfl, by decide +kernel, rfl, by decide +kernel, by decide +kernel⟩
abbrev s_l_why_not : Stmt := top 48
theorem sc_l_why_not : FnScope ["_law_state", "_law_command_here", "_law_sent", "_law_inside", "_law_joined"] ["_law_state", "_law_command_here"] (defScope s_l_why_not) := ⟨rfl, rfl, rfl, by decide +kernel, rfl, by decide +kernel, by decide +kernel⟩
abbrev s_l_behind : Stmt := top 49
theorem sc_l_behind : FnScope ["_law_code_here", "_law_state", "_law_command_here", "_law_word", "_law_many", "_law_later", "_law_sent", "_law_inside", "_law_joined"] ["_law_code_here", "_law_state", "_law_command_here"] (defScope s_l_behind) := ⟨rfl, rfl, rfl, by decide +kernel, rfl, by decide +kernel, by decide +kernel⟩
abbrev s_l_history : Stmt := top 50
theorem sc_l_history : FnScope ["_law_stream_here", "_law_code_here", "_law_most", "_law_journal", "_law_states_here", "_law_turn", "_law_command_here"] ["_law_stream_here", "_law_code_here", "_law_most"] (defScope s_l_history) := ⟨rfl, rfl, rfl, by decide +kernel, rfl, by decide +kernel, by decide +kernel⟩
abbrev s_l_told_all : Stmt := top 51
theorem sc_l_told_all : FnScope ["_law_code_here", "_law_state", "_law_start"] ["_law_code_here", "_law_state"] (defScope s_l_told_all) := ⟨rfl, rfl, rfl, by decide +kernel, rfl, by decide +kernel, by decide +kernel⟩
abbrev s_l_is_command : Stmt := top 52
theorem sc_l_is_command : FnScope ["_law_code_here", "_law_value"] ["_law_code_here", "_law_value"] (defScope s_l_is_command) := ⟨rfl, rfl, rfl, by decide +kernel, rfl, by decide +kernel, by decide +kernel⟩
abbrev s_l_are_right : Stmt := top 53
theorem sc_l_are_right : FnScope ["_law_code_here", "_law_records", "_law_state", "_law_record"] ["_law_code_here", "_law_records"] (defScope s_l_are_right) := ⟨rfl, rfl, rfl, by decide +kernel, rfl, by decide +kernel, by decide +kernel⟩
abbrev s_l_turned : Stmt := top 54
theorem sc_l_turned : FnScope ["_law_stream_here", "_law_code_here", "_law_states_here", "_law_records", "_law_pick", "_law_at", "_law_odd", "_law_rows", "_law_command_here", "_law_told", "_law_row"] ["_law_stream_here", "_law_code_here", "_law_states_here", "_law_records"] (defScope s_l_turned) := ⟨rfl, rfl, rfl, by decide +kernel, rfl, by decide +kernel, by decide +kernel⟩
abbrev s_law : Stmt := top 55
theorem sc_law : FnScope ["_law_script", "_law_stream_here", "_law_code_here", "_law_broadcast", "_law_command_here", "_law_records", "_law_due", "_law_turn", "_law_journal", "_law_states_here", "_law_value", "_law_at"] ["_law_script"] (defScope s_law) := ⟨rfl, rfl, rfl, by decide +kernel, rfl, by decide +kernel, by decide +kernel⟩
/-- what the walk asks of the top: the built-ins are still built in, the constants, where each def stands -/
structure TxtD (K : PySem.W.Frag) (mg : Str → Option Value) : Prop where
  b_len : mg "len" = none
  b_isinstance : mg "isinstance" = none
  b_all : mg "all" = none
  b_any : mg "any" = none
  b_sorted : mg "sorted" = none
  b_abs : mg "abs" = none
  b_enumerate : mg "enumerate" = none
  b_zip : mg "zip" = none
  b_range : mg "range" = none
  b_int : mg "int" = none
  b_str : mg "str" = none
  b_bool : mg "bool" = none
  b_tuple : mg "tuple" = none
  b_list : mg "list" = none
  c_LETTERS : ∃ t, mg "LETTERS" = some (.str "abc" t)
  c_MOST_WORDS : ∃ t, mg "MOST_WORDS" = some (.int 6 t)
  c_LONGEST_WORD : ∃ t, mg "LONGEST_WORD" = some (.int 5 t)
  c_MOST_LISTENERS : ∃ t, mg "MOST_LISTENERS" = some (.int 6 t)
  c_MOST_COMMANDS : ∃ t, mg "MOST_COMMANDS" = some (.int 20 t)
  d_is_spelled : DefIn K mg "is_spelled" s_is_spelled
  d_is_code : DefIn K mg "is_code" s_is_code
  d_listed_states : DefIn K mg "listed_states" s_listed_states
  d_moves_of : DefIn K mg "moves_of" s_moves_of
  d_led_to : DefIn K mg "led_to" s_led_to
  d_led_from : DefIn K mg "led_from" s_led_from
  d_sets_ahead : DefIn K mg "sets_ahead" s_sets_ahead
  d_sets_behind : DefIn K mg "sets_behind" s_sets_behind
  d_runs_sets : DefIn K mg "runs_sets" s_runs_sets
  d_observable : DefIn K mg "observable" s_observable
  d_known_in : DefIn K mg "known_in" s_known_in
  d_is_whole : DefIn K mg "is_whole" s_is_whole
  d_check_code : DefIn K mg "check_code" s_check_code
  d_is_command : DefIn K mg "is_command" s_is_command
  d_sent_more : DefIn K mg "sent_more" s_sent_more
  d_behind : DefIn K mg "behind" s_behind
  d_known_to : DefIn K mg "known_to" s_known_to
  d_are_rows : DefIn K mg "are_rows" s_are_rows
  d_state_behind : DefIn K mg "state_behind" s_state_behind
  d_are_right : DefIn K mg "are_right" s_are_right
  d_l_stream : DefIn K mg "_law_stream" s_l_stream
  d_l_next : DefIn K mg "_law_next" s_l_next
  d_l_is_integer : DefIn K mg "_law_is_integer" s_l_is_integer
  d_l_equal : DefIn K mg "_law_equal" s_l_equal
  d_l_string : DefIn K mg "_law_string" s_l_string
  d_l_code : DefIn K mg "_law_code" s_l_code
  d_l_states : DefIn K mg "_law_states" s_l_states
  d_l_next_states : DefIn K mg "_law_next_states" s_l_next_states
  d_l_known : DefIn K mg "_law_known" s_l_known
  d_l_command : DefIn K mg "_law_command" s_l_command
  d_l_why_not : DefIn K mg "_law_why_not" s_l_why_not
  d_l_behind : DefIn K mg "_law_behind" s_l_behind
  d_l_history : DefIn K mg "_law_history" s_l_history
  d_l_told_all : DefIn K mg "_law_told_all" s_l_told_all
  d_l_is_command : DefIn K mg "_law_is_command" s_l_is_command
  d_l_are_right : DefIn K mg "_law_are_right" s_l_are_right
  d_l_turned : DefIn K mg "_law_turned" s_l_turned
  d_law : DefIn K mg "law" s_law

/-! ### NotPossible and Broadcast as the top has made them -/
structure NPt (K : PySem.W.Frag) (mg : Str → Option Value) (C fI : Addr) (fd : FuncData) : Prop where
  g : mg "NotPossible" = some (.ref C)
  ox : OexC K C
  iC : PySem.W.findIn K (.ref C) "__init__" = some (some (.ref fI))
  tI : PySem.W.typeIn K (.ref fI) = some (.type "function")
  F : Fun K "__init__" "NotPossible.__init__" s_NP_init fI fd
  nw : PySem.W.findIn K (.ref C) "why" = some none
  te : PySem.W.exmOne K (.ref C) (.ref C) = some true
structure BCt (K : PySem.W.Frag) (mg : Str → Option Value) (C fI fA fR : Addr) (fdI fdA fdR : FuncData) : Prop where
  g : mg "Broadcast" = some (.ref C)
  cl : Cls K C
  nC : NoAttr K C "code"
  nS : NoAttr K C "states"
  nM : NoAttr K C "commands"
  mkB : Mk K C fI
  FI : Fun K "__init__" "Broadcast.__init__" s_B_init fI fdI
  mA : Meth K C "act" fA
  FA : Fun K "act" "Broadcast.act" s_B_act fA fdA
  mR : Meth K C "records" fR
  FR : Fun K "records" "Broadcast.records" s_B_records fR fdR
structure Txt (K : PySem.W.Frag) (mg : Str → Option Value) : Prop extends TxtD K mg where
  np : ∃ C fI fd, NPt K mg C fI fd
  bc : ∃ C fI fA fR fdI fdA fdR, BCt K mg C fI fA fR fdI fdA fdR

end K76

namespace L2
open PySem PySem.Spec PyProof.Rows
/-! ### heaps -/
theorem Same.new {H : Hp} {p : Addr} {o : HO} (h : H p = none) : Same H (upd H p o) := fun a u e => by
  rw [upd_ne (ne_of_none e h)]
  exact e
theorem Same.then {H H' : Hp} {p : Addr} {o : HO} (e : Same H H') (h : H' p = none) : Same H (upd H' p o) := e.trans (Same.new h)
/-- an object unknown at first may change -/
theorem Same.mut {H H' : Hp} {p : Addr} {o : HO} (e : Same H H') (h : H p = none) : Same H (upd H' p o) := fun a u q => by
  rw [upd_ne (ne_of_none q h)]
  exact e a u q
theorem Same.rd {H H' : Hp} {a : Addr} {u : HO} (e : Same H H') (h : Rd H a u) : Rd H' a u := by
  rcases h with h | ⟨o, h⟩
  · exact .inl (e a _ h)
  · exact .inr ⟨o, e a _ h⟩
theorem Same.sqt {K : PySem.W.Frag} {H H' : Hp} {a : Addr} {xs : List V} (e : Same H H') (h : SqT K H a xs) : SqT K H' a xs := by
  rcases h with h | h
  · exact .inl (e.rd h)
  · exact .inr h
/-- the tuples stand -/
def TupS (H H' : Hp) : Prop := ∀ b xs, Rd H b (.tup xs) → Rd H' b (.tup xs)
theorem TupS.refl (H : Hp) : TupS H H := fun _ _ h => h
theorem TupS.trans {H H1 H2 : Hp} (a : TupS H H1) (b : TupS H1 H2) : TupS H H2 := fun c xs h => b c xs (a c xs h)
theorem Same.ts {H H' : Hp} (e : Same H H') : TupS H H' := fun _ _ h => e.rd h
theorem TupS.lst {H : Hp} {D : Addr} {acc : List V} {o : HO} (h : H D = some (.lst acc)) : TupS H (upd H D o) := fun b xs q => by
  have nb : b ≠ D := fun z => by
    rw [z] at q
    rcases q with q | ⟨u, q⟩
    · rw [h] at q; cases q
    · rw [h] at q; cases q
  rcases q with q | ⟨u, q⟩
  · exact .inl (by rw [upd_ne nb]; exact q)
  · exact .inr ⟨u, by rw [upd_ne nb]; exact q⟩
theorem TupS.sqt {K : PySem.W.Frag} {H H' : Hp} {a : Addr} {xs : List V} (e : TupS H H') (h : SqT K H a xs) : SqT K H' a xs := by
  rcases h with h | h
  · exact .inl (e _ _ h)
  · exact .inr h

/-! ### data -/
mutual
def noL : PyData → Bool
  | .list _ => false
  | .tuple xs => noLs xs
  | _ => true
def noLs : List PyData → Bool
  | [] => true
  | x :: xs => noL x && noLs xs
end
mutual
theorem Dp.same {K : PySem.W.Frag} {H H' : Hp} (e : Same H H') : ∀ {v : V} {d : PyData}, Dp K H v d → Dp K H' v d
  | _, _, .non => .non
  | _, _, .bl b => .bl b
  | _, _, .int i => .int i
  | _, _, .str x => .str x
  | _, _, .lst h a => .lst (e.seq h) (DpAll.same e a)
  | _, _, .tup h a => .tup (Same.sqt e h) (DpAll.same e a)
theorem DpAll.same {K : PySem.W.Frag} {H H' : Hp} (e : Same H H') : ∀ {vs : List V} {ds : List PyData}, DpAll K H vs ds → DpAll K H' vs ds
  | _, _, .nil => .nil
  | _, _, .cons h a => .cons (Dp.same e h) (DpAll.same e a)
end
mutual
theorem Dp.ts {K : PySem.W.Frag} {H H' : Hp} (e : TupS H H') : ∀ {v : V} {d : PyData}, noL d = true → Dp K H v d → Dp K H' v d
  | _, _, _, .non => .non
  | _, _, _, .bl b => .bl b
  | _, _, _, .int i => .int i
  | _, _, _, .str x => .str x
  | _, _, z, .lst h a => by simp [noL] at z
  | _, _, z, .tup h a => .tup (TupS.sqt e h) (DpAll.ts e (by simpa [noL] using z) a)
theorem DpAll.ts {K : PySem.W.Frag} {H H' : Hp} (e : TupS H H') : ∀ {vs : List V} {ds : List PyData}, noLs ds = true → DpAll K H vs ds → DpAll K H' vs ds
  | _, _, _, .nil => .nil
  | _, _, z, .cons h a => by
    simp only [noLs, Bool.and_eq_true] at z
    exact .cons (Dp.ts e z.1 h) (DpAll.ts e z.2 a)
end
section
variable {K : PySem.W.Frag} {H : Hp}
theorem Dp.intI {v : V} {i : Int} (h : Dp K H v (.int i)) : v = .int i := by cases h; rfl
theorem Dp.strI {v : V} {x : Str} (h : Dp K H v (.str x)) : v = .str x := by cases h; rfl
theorem Dp.nonI {v : V} (h : Dp K H v .none) : v = .non := by cases h; rfl
theorem Dp.blI {v : V} {b : Bool} (h : Dp K H v (.bool b)) : v = .bl b := by cases h; rfl
theorem Dp.tupI {v : V} {ds : List PyData} (h : Dp K H v (.tuple ds)) : ∃ a xs, v = .ref a ∧ SqT K H a xs ∧ DpAll K H xs ds := by
  cases h with
  | tup h a => exact ⟨_, _, rfl, h, a⟩
theorem Dp.lstI {v : V} {ds : List PyData} (h : Dp K H v (.list ds)) : ∃ a xs, v = .ref a ∧ SqL K H a xs ∧ DpAll K H xs ds := by
  cases h with
  | lst h a => exact ⟨_, _, rfl, h, a⟩
theorem DpAll.consI {vs : List V} {d : PyData} {ds : List PyData} (h : DpAll K H vs (d :: ds)) : ∃ v ws, vs = v :: ws ∧ Dp K H v d ∧ DpAll K H ws ds := by
  cases h with
  | cons h a => exact ⟨_, _, rfl, h, a⟩
theorem DpAll.nilI {vs : List V} (h : DpAll K H vs []) : vs = [] := by cases h; rfl
theorem DpAll.length : ∀ {vs : List V} {ds : List PyData}, DpAll K H vs ds → vs.length = ds.length
  | _, _, .nil => rfl
  | _, _, .cons _ a => by rw [List.length_cons, List.length_cons, DpAll.length a]
theorem DpAll.get : ∀ {vs : List V} {ds : List PyData} {i : Nat} {d : PyData}, DpAll K H vs ds → ds[i]? = some d → ∃ v, vs[i]? = some v ∧ Dp K H v d
  | _, _, _, _, .nil, e => by simp at e
  | _, _, 0, _, .cons h _, e => by simp at e; subst e; exact ⟨_, rfl, h⟩
  | _, _, i + 1, d, .cons _ a, e => by
    obtain ⟨v, h1, h2⟩ := DpAll.get (i := i) (d := d) a (by simpa using e)
    exact ⟨v, by simpa using h1, h2⟩
theorem DpAll.get' : ∀ {vs : List V} {ds : List PyData} {i : Nat} {v : V}, DpAll K H vs ds → vs[i]? = some v → ∃ d, ds[i]? = some d ∧ Dp K H v d
  | _, _, _, _, .nil, e => by simp at e
  | _, _, 0, _, .cons h _, e => by simp at e; subst e; exact ⟨_, rfl, h⟩
  | _, _, i + 1, v, .cons _ a, e => by
    obtain ⟨d, h1, h2⟩ := DpAll.get' (i := i) (v := v) a (by simpa using e)
    exact ⟨d, by simpa using h1, h2⟩
theorem DpAll.append : ∀ {vs ws : List V} {ds es : List PyData}, DpAll K H vs ds → DpAll K H ws es → DpAll K H (vs ++ ws) (ds ++ es)
  | _, _, _, _, .nil, b => b
  | _, _, _, _, .cons h a, b => .cons h (DpAll.append a b)
theorem DpAll.take : ∀ {vs : List V} {ds : List PyData} (n : Nat), DpAll K H vs ds → DpAll K H (vs.take n) (ds.take n)
  | _, _, 0, _ => by simp only [List.take_zero]; exact .nil
  | _, _, n + 1, .nil => .nil
  | _, _, n + 1, .cons h a => .cons h (DpAll.take n a)
theorem DpAll.drop : ∀ {vs : List V} {ds : List PyData} (n : Nat), DpAll K H vs ds → DpAll K H (vs.drop n) (ds.drop n)
  | _, _, 0, a => a
  | _, _, n + 1, .nil => .nil
  | _, _, n + 1, .cons _ a => DpAll.drop n a
theorem DpAll.reverse : ∀ {vs : List V} {ds : List PyData}, DpAll K H vs ds → DpAll K H vs.reverse ds.reverse
  | _, _, .nil => .nil
  | _, _, .cons h a => by rw [List.reverse_cons, List.reverse_cons]; exact DpAll.append (DpAll.reverse a) (.cons h .nil)
theorem DpAll.snoc {vs : List V} {ds : List PyData} {v : V} {d : PyData} (a : DpAll K H vs ds) (h : Dp K H v d) : DpAll K H (vs ++ [v]) (ds ++ [d]) := DpAll.append a (.cons h .nil)
theorem DpAll.ints : ∀ (ns : List Int), DpAll K H (ns.map V.int) (ns.map PyData.int)
  | [] => .nil
  | n :: ns => .cons (.int n) (DpAll.ints ns)
theorem DpAll.intsI : ∀ {ns : List Int} {vs : List V}, DpAll K H vs (ns.map PyData.int) → vs = ns.map V.int
  | [], _, h => h.nilI
  | n :: ns, _, h => by
    obtain ⟨v, ws, rfl, h1, h2⟩ := DpAll.consI h
    rw [h1.intI, DpAll.intsI h2]
    rfl
end
theorem small {n : Nat} (h : n ≤ 100000) : n ≤ sizeLine := Nat.le_trans h (by decide)
theorem smallLt {n : Nat} (h : n < 100000) : n < sizeLine := Nat.lt_of_lt_of_le h (by decide)
theorem hu65_of {A : Around} {k : Nat} (hr : Room k A) : A.units + 65 < cLine := by have := hr.un; omega

/-! ### a comprehension over any walk: R of the turn, the list so far and the heap, where tuples alone are looked at -/
theorem lc_gen {J : It} {n : Nat} {G : Hp → Prop} {Y : Nat → Hp → V → Hp → Prop} (w : Walk J n G Y) (hn : n ≤ 100000) {g : TG} {tt : TT} {te : TE} {vs : List Nat} {σ : L2.St} {H1 : Hp} {D : Addr} {Qd : Hp → Prop} (hD : H1 D = none)
    (R : Nat → List V → Hp → Prop) (mono : ∀ i acc H H', TupS H H' → R i acc H → R i acc H') (h0 : R 0 [] H1) (hG : ∀ H, Same H1 H → G H)
    (hs : ∀ i x H H' acc, i < n → Same H1 H → R i acc H → Y i H x H' → ∀ (Nx : Hp → Prop) (Ny : V → Hp → Prop), (∀ H2, Same H H2 → R (i + 1) acc H2 → Nx H2) → (∀ y H2, Same H H2 → R (i + 1) (acc ++ [y]) H2 → Ny y H2) →
      g x (wipe σ vs) H' fun σ2 H2 => wipe σ2 vs = wipe σ vs ∧ tt σ2 H2 fun b H3 => if b = true then te σ2 H3 Ny else Nx H3)
    (hd : ∀ acc H, Same H1 H → R n acc H → H D = some (.lst acc) → acc.length ≤ n → Qd H) :
    ∃ W : Nat → Nat → Hp → Prop, (∃ m, W 0 m (upd H1 D (.lst []))) ∧ ∀ i m H, W i m H →
      (J.stop i H ∧ Qd H) ∨ (J.go i H ∧ ∃ Nx : Hp → Prop, (∀ H', Nx H' → ∃ m', m' < m ∧ W (i + 1) m' H') ∧ ∀ x H', J.yld i H x H' → g x (wipe σ vs) H' fun σ2 H2 => wipe σ2 vs = wipe σ vs ∧ tt σ2 H2 fun b H3 =>
        if b = true then te σ2 H3 fun y H4 => ∃ acc, H4 D = some (.lst acc) ∧ acc.length < sizeLine ∧ Nx (upd H4 D (.lst (acc ++ [y]))) else Nx H3) := by
  refine lc_it w (fun i H => ∃ acc, H D = some (.lst acc) ∧ Same H1 H ∧ R i acc H ∧ acc.length ≤ i) ⟨[], upd_same, Same.new hD, mono _ _ _ _ (Same.new hD).ts h0, Nat.le_refl _⟩ (fun i H _ ⟨_, _, s, _, _⟩ => hG H s) ?_ ?_
  · rintro i x H H' hi ⟨acc, hd, s, r, l⟩ y
    refine hs i x H H' acc hi s r y _ _ (fun H2 s2 r2 => ⟨acc, s2 _ _ hd, s.trans s2, r2, Nat.le_succ_of_le l⟩) fun z H2 s2 r2 => ?_
    have hd2 := s2 _ _ hd
    refine ⟨acc, hd2, smallLt (by omega), acc ++ [z], upd_same, (s.trans s2).mut hD, mono _ _ _ _ (TupS.lst hd2) r2, ?_⟩
    rw [List.length_append, List.length_singleton]
    omega
  · rintro H ⟨acc, hdd, s, r, l⟩
    exact hd acc H s r hdd l
/-- .. without an if -/
theorem lc_map {J : It} {n : Nat} {G : Hp → Prop} {Y : Nat → Hp → V → Hp → Prop} (w : Walk J n G Y) (hn : n ≤ 100000) {g : TG} {te : TE} {vs : List Nat} {σ : L2.St} {H1 : Hp} {D : Addr} {Qd : Hp → Prop} (hD : H1 D = none)
    (gm : ∀ x σ H (A B : L2.St → Hp → Prop), (∀ σ2 H2, A σ2 H2 → B σ2 H2) → g x σ H A → g x σ H B)
    (R : Nat → List V → Hp → Prop) (mono : ∀ i acc H H', TupS H H' → R i acc H → R i acc H') (h0 : R 0 [] H1) (hG : ∀ H, Same H1 H → G H)
    (hs : ∀ i x H H' acc, i < n → Same H1 H → R i acc H → acc.length = i → Y i H x H' → ∀ (Ny : V → Hp → Prop), (∀ y H2, Same H H2 → R (i + 1) (acc ++ [y]) H2 → Ny y H2) →
      g x (wipe σ vs) H' fun σ2 H2 => wipe σ2 vs = wipe σ vs ∧ te σ2 H2 Ny)
    (hd : ∀ acc H, Same H1 H → R n acc H → H D = some (.lst acc) → acc.length = n → Qd H) :
    ∃ W : Nat → Nat → Hp → Prop, (∃ m, W 0 m (upd H1 D (.lst []))) ∧ ∀ i m H, W i m H →
      (J.stop i H ∧ Qd H) ∨ (J.go i H ∧ ∃ Nx : Hp → Prop, (∀ H', Nx H' → ∃ m', m' < m ∧ W (i + 1) m' H') ∧ ∀ x H', J.yld i H x H' → g x (wipe σ vs) H' fun σ2 H2 => wipe σ2 vs = wipe σ vs ∧ tYes σ2 H2 fun b H3 =>
        if b = true then te σ2 H3 fun y H4 => ∃ acc, H4 D = some (.lst acc) ∧ acc.length < sizeLine ∧ Nx (upd H4 D (.lst (acc ++ [y]))) else Nx H3) := by
  refine lc_gen w hn hD (fun i acc H => R i acc H ∧ acc.length = i) (fun i acc H H' t r => ⟨mono i acc H H' t r.1, r.2⟩) ⟨h0, rfl⟩ hG ?_ fun acc H s r hdd _ => hd acc H s r.1 hdd r.2
  intro i x H H' acc hi s r y Nx Ny _ ky
  refine gm _ _ _ _ _ (fun σ2 H2 q => ⟨q.1, ?_⟩) (hs i x H H' acc hi s r.1 r.2 y Ny fun z H2 s2 r2 => ky z H2 s2 ⟨r2, ?_⟩)
  · show (if true = true then te σ2 H2 Ny else Nx H2)
    rw [if_pos rfl]
    exact q.2
  · rw [List.length_append, List.length_singleton, r.2]
theorem gm_name {i : Nat} : ∀ x σ H (A B : L2.St → Hp → Prop), (∀ σ2 H2, A σ2 H2 → B σ2 H2) → gName i x σ H A → gName i x σ H B := fun _ _ _ _ _ k h => k _ _ h
theorem gm_pair {K : PySem.W.Frag} {i j : Nat} : ∀ x σ H (A B : L2.St → Hp → Prop), (∀ σ2 H2, A σ2 H2 → B σ2 H2) → gTup K 2 (gCons (gName i) (gCons (gName j) gNil)) x σ H A → gTup K 2 (gCons (gName i) (gCons (gName j) gNil)) x σ H B := fun _ _ _ _ _ k h => by
  obtain ⟨a, xs, e1, q, l, v, r, e2, v2, r2, e3, e4, z⟩ := h
  exact ⟨a, xs, e1, q, l, v, r, e2, v2, r2, e3, e4, k _ _ z⟩
end L2
namespace L2
open PySem PySem.Spec PyProof.Rows
/-! ### isinstance of data -/
def dTy : PyData → String
  | .none => "NoneType" | .bool _ => "bool" | .int _ => "int" | .str _ => "str" | .list _ => "list" | .tuple _ => "tuple" | .dict _ => "dict"
section
variable {K : PySem.W.Frag} {H : Hp} {v : V} {d : PyData}
theorem SqT.ty {a : Addr} {xs : List V} (h : SqT K H a xs) : TyX K H (.ref a) (.type "tuple") := by
  rcases h with (h | ⟨o, h⟩) | ⟨o, its, n, e, c, _⟩
  · exact .base (.tup h)
  · exact .fTuple h
  · exact .kTuple e c
theorem SqL.ty {a : Addr} {xs : List V} (h : SqL K H a xs) : TyX K H (.ref a) (.type "list") := by
  rcases h with (h | ⟨o, h⟩) | ⟨o, its, n, e, c, _⟩
  · exact .base (.lst h)
  · exact .base (.frz h)
  · exact .kList e c
theorem Dp.ty (h : Dp K H v d) : TyX K H v (.type (dTy d)) := by
  cases h with
  | non => exact .base .non
  | bl b => exact .base (.bl b)
  | int i => exact .base (.int i)
  | str x => exact .base (.str x)
  | lst h _ => exact SqL.ty h
  | tup h _ => exact SqT.ty h
theorem isi_of {t T : String} {b : Bool} {Q : VK} (ty : TyX K H v (.type t)) (h : kitB t T = some b) (q : Q (.bl b) H) : rIsi K [v, .ty T] H Q := ⟨v, .ty T, .type t, .type T, b, rfl, .ty T, ty, kit_ty h, q⟩
theorem isi_D {T : String} {b : Bool} {Q : VK} (ty : Dp K H v d) (h : kitB (dTy d) T = some b) (q : Q (.bl b) H) : rIsi K [v, .ty T] H Q := isi_of ty.ty h q
end
def isTup : PyData → Bool
  | .tuple _ => true
  | _ => false
def isLst : PyData → Bool
  | .list _ => true
  | _ => false
def isStr : PyData → Bool
  | .str _ => true
  | _ => false
def isBool : PyData → Bool
  | .bool _ => true
  | _ => false
def isInt : PyData → Bool
  | .int _ => true
  | .bool _ => true
  | _ => false
theorem kit_tuple (d : PyData) : kitB (dTy d) "tuple" = some (isTup d) := by cases d <;> (dsimp only [dTy, isTup]; decide +kernel)
theorem kit_list (d : PyData) : kitB (dTy d) "list" = some (isLst d) := by cases d <;> (dsimp only [dTy, isLst]; decide +kernel)
theorem kit_str (d : PyData) : kitB (dTy d) "str" = some (isStr d) := by cases d <;> (dsimp only [dTy, isStr]; decide +kernel)
theorem kit_bool (d : PyData) : kitB (dTy d) "bool" = some (isBool d) := by cases d <;> (dsimp only [dTy, isBool]; decide +kernel)
theorem kit_int (d : PyData) : kitB (dTy d) "int" = some (isInt d) := by cases d <;> (dsimp only [dTy, isInt]; decide +kernel)
end L2
namespace L2
open PySem PySem.Spec PyProof.Rows
theorem iteD {c A B : Prop} [Decidable c] (hc : c) (h : A) : if decide c = true then A else B := by
  rw [decide_eq_true hc]
  exact iteT h
theorem iteDF {c A B : Prop} [Decidable c] (hc : ¬ c) (h : B) : if decide c = true then A else B := by
  rw [decide_eq_false hc]
  exact iteF h
theorem iteDN {c A B : Prop} [Decidable c] (hc : ¬ c) (h : A) : if (!decide c) = true then A else B := by
  rw [decide_eq_false hc]
  exact iteT h
theorem iteE {b : Bool} {A B : Prop} (hc : b = true) (h : A) : if b = true then A else B := by rw [hc]; exact iteT h
theorem iteEF {b : Bool} {A B : Prop} (hc : b = false) (h : B) : if b = true then A else B := by rw [hc]; exact iteF h
theorem bool2 {b : Bool} {A B : Prop} (h1 : b = true → A) (h2 : b = false → B) : if b = true then A else B := by
  cases b with
  | true => exact iteT (h1 rfl)
  | false => exact iteF (h2 rfl)
end L2
namespace L2
open PySem PySem.Spec PyProof.Rows
/-! ### rules whose readings name the written part by itself -/
def rLenQ (K : PySem.W.Frag) : List V → Hp → VK → Prop := fun xs H Q => ∃ p ys, xs = [.ref p] ∧ (SqL K H p ys ∨ SqT K H p ys) ∧ Q (.int ys.length) H
def rListQ (K : PySem.W.Frag) : List V → Hp → VK → Prop := fun xs H Q => ∃ p ys, xs = [.ref p] ∧ (SqL K H p ys ∨ SqT K H p ys) ∧ ∀ l, H l = none → Q (.ref l) (upd H l (.lst ys))
def rTupQ (K : PySem.W.Frag) : List V → Hp → VK → Prop := fun xs H Q => ∃ p ys, xs = [.ref p] ∧ ((SqL K H p ys ∧ ∀ l, H l = none → Q (.ref l) (upd H l (.tup ys))) ∨ (SqT K H p ys ∧ Q (.ref p) H))
section
variable {X : Cx} {K : PySem.W.Frag} {tg e : Expr} {te : TE}
theorem call_lenQ : CallR X (.builtin "len") (rLenQ X.K) := call_len_seq
theorem call_listQ : CallR X (.type "list") (rListQ X.K) := call_list_of
theorem call_tupQ : CallR X (.type "tuple") (rTupQ X.K) := call_tuple_of
theorem pi_listK (hK : X.K = K) (he : PE X e te) : PI X tg e (iList K te) := hK ▸ pi_list he
theorem pi_tupK (hK : X.K = K) (he : PE X e te) : PI X tg e (iTup K te) := hK ▸ pi_tup he
end
theorem yes_of {te : TE} {σ : L2.St} {H : Hp} {Ny : VK} {Nx : Hp → Prop} (h : te σ H Ny) : tYes σ H (fun b H3 => if b = true then te σ H3 Ny else Nx H3) := by
  show (if true = true then te σ H Ny else Nx H)
  rw [if_pos rfl]
  exact h
end L2
namespace K76
open PySem PySem.Spec PyProof.Rows L2
/-! ### texts as lists of signs -/
def mkS (l : List Nat) : Str := ⟨l.toArray⟩
theorem mkS_len (l : List Nat) : (mkS l).length = l.length := by
  show l.toArray.size = l.length
  rw [List.size_toArray]
theorem mkS_cps (l : List Nat) : (mkS l).cps.toList = l := rfl
theorem mkS_app (a b : List Nat) : mkS a ++ mkS b = mkS (a ++ b) := by
  show (⟨a.toArray ++ b.toArray⟩ : Str) = ⟨(a ++ b).toArray⟩
  rw [List.append_toArray]
theorem mkS_inj {a b : List Nat} (h : mkS a = mkS b) : a = b := by
  have q : (mkS a).cps.toList = (mkS b).cps.toList := by rw [h]
  exact q
theorem mkS_nil : mkS [] = "" := by decide +kernel
theorem mkS_eq (z : Str) : ∃ l, z = mkS l := ⟨z.cps.toList, by cases z; simp [mkS]⟩
/-- the words as they stand in a code -/
abbrev wV (ws : List (List Nat)) : List V := ws.map fun w => .str (mkS w)
structure OkC (ws : List (List Nat)) : Prop where
  len : ws.length ≤ 4
  low : ∀ w ∈ ws, 1 ≤ w.length
  high : ∀ w ∈ ws, w.length ≤ 3
  abc : ∀ w ∈ ws, ∀ c ∈ w, c = 97 ∨ c = 98 ∨ c = 99
  nd : ws.Nodup
theorem wV_get {ws : List (List Nat)} {i : Nat} {w : List Nat} (h : ws[i]? = some w) : (wV ws)[i]? = some (.str (mkS w)) := by
  rw [List.getElem?_map, h]
  rfl
theorem wV_get' {ws : List (List Nat)} {i : Nat} {x : V} (h : (wV ws)[i]? = some x) : ∃ w, ws[i]? = some w ∧ x = .str (mkS w) := by
  rw [List.getElem?_map] at h
  cases e : ws[i]? with
  | none => rw [e] at h; cases h
  | some w => rw [e] at h; exact ⟨w, rfl, (Option.some.inj h).symm⟩
/-! ### states, commands, broadcasts -/
abbrev Sta := Option (Nat × Nat)
def stD : Sta → PyData
  | none => .none
  | some (w, k) => .tuple [.int w, .int k]
inductive Cmd where
  | send (n : Nat) | step | join | leave (n : Nat)
  deriving DecidableEq
def cmdD : Cmd → PyData
  | .send n => .tuple [.str "send", .int n]
  | .step => .tuple [.str "step"]
  | .join => .tuple [.str "join"]
  | .leave n => .tuple [.str "leave", .int n]
structure S3 where
  sent : List Nat
  ins : Sta
  jo : List Nat
def intsD (l : List Nat) : PyData := .tuple (l.map fun (i : Nat) => .int i)
def s3D (s : S3) : PyData := .tuple [.str (mkS s.sent), stD s.ins, intsD s.jo]
def rowsD (r : List (List Nat)) : PyData := .tuple (r.map intsD)
end K76
namespace PySem
/-! ### enumerate(v), one argument, over whatever begins -/
theorem enum1_meets {v : Value} {o : Obj} {Hb : Heap → Prop} (B : Begins v o Hb) :
    Meets (Builtin.«enumerate.__new__» ⟨[.type "enumerate", v], []⟩) (fun _ R s => Hb s.heap ∧
      R (.ok (.ret (.ref (s.heap.push o).objs.size))) { s with heap := (s.heap.push o).push { cls := .type "enumerate", data := .fields #[.none, .bool false, .ref s.heap.objs.size, rawInt 0, .none, .none] } }) := by
  refine .of_wp fun prog w A R s h => ?_
  obtain ⟨hp, g, d, tk, os⟩ := s
  obtain ⟨hb, h⟩ := h
  have hsub := sub_enumerate
  have ib : ∀ {A1 : Around} {E1 : Value → Shared → Prop} {Q1 : Value → Shared → Prop}, Q1 (.ref hp.objs.size) ⟨hp.push o, g, d, tk, os⟩ → wpAny (model prog w) A1 (pyIter v) Q1 E1 ⟨hp, g, d, tk, os⟩ :=
    fun q => B.iter prog w _ _ ⟨hp, g, d, tk, os⟩ _ hb q
  wp_walk using ib
  refine wpAny_stack_any fun _ => wpAny_pure ?_
  split
  · rename_i c _ _ _ _ _
    cases (c == Value.type "enumerate") <;> (wp_walk using ib; exact ⟨_, rfl, h⟩)
  · wp_walk using ib
    exact ⟨_, rfl, h⟩
section
variable {prog : Program} {w : World} {A : Around} {E : Value → Shared → Prop} {s : Shared}
theorem enum1_call {v : Value} {o : Obj} {Hb : Heap → Prop} {Q : Value → Shared → Prop} (B : Begins v o Hb) (hb : Hb s.heap)
    (k : ∀ h2, IsEnum h2 (s.heap.objs.size + 1) s.heap.objs.size 0 .none → h2.get? s.heap.objs.size = some o → (∀ b u, s.heap.get? b = some u → h2.get? b = some u) → Q (.ref (s.heap.objs.size + 1)) { s with heap := h2 }) :
    wpAny (model prog w) A (call (.type "enumerate") [v]) Q E s := by
  refine callType_new F.called_enumerate (by decide) (F.typeCall_enumerate_1 _) (F.newCall_enumerate_1 _) (fun obj => F.args_object_init_2 obj _) F.entry_enumerate_new (enum1_meets B) ⟨hb, ?_⟩
  have z1 : (s.heap.push o).objs.size = s.heap.objs.size + 1 := Heap.size_push ..
  have e1 : ((s.heap.push o).push { cls := .type "enumerate", data := .fields #[.none, .bool false, .ref s.heap.objs.size, rawInt 0, .none, .none] }).get? (s.heap.push o).objs.size
      = some { cls := .type "enumerate", data := .fields #[.none, .bool false, .ref s.heap.objs.size, rawInt 0, .none, .none] } := Heap.get?_push_size _ rfl
  rw [z1] at e1
  show _ ∧ _
  rw [z1]
  exact ⟨⟨_, e1, rfl⟩, k _ e1 (Heap.get?_push_of_some _ (Heap.get?_push_size _ B.free)) fun b u q => Heap.get?_push_of_some _ (Heap.get?_push_of_some _ q)⟩
end
end PySem

namespace L2
open PySem PySem.Spec PyProof.Rows
/-- n turns, each a new pair (turn, f turn), while Gd holds of the heap -/
def Itn (n : Nat) (f : Nat → Option V) (Gd : Hp → Prop) : It :=
  ⟨fun i H => i < n ∧ Gd H, fun i H v H2 => ∃ T x, v = .ref T ∧ H T = none ∧ H2 = upd H T (.tup [.int (i : Nat), x]) ∧ f i = some x, fun i H => i = n ∧ Gd H⟩
theorem walk_n {n : Nat} {f : Nat → Option V} {Gd : Hp → Prop} : Walk (Itn n f Gd) n Gd (YPair (fun i => some (.int (i : Nat))) f) := by
  refine ⟨fun i _ hi q => ⟨hi, q⟩, fun _ q => ⟨rfl, q⟩, fun i H v H2 _ _ y => ?_⟩
  obtain ⟨T, x, h1, h2, h3, h4⟩ := y
  exact ⟨T, .int (i : Nat), x, h1, h2, h3, rfl, h4⟩
/-- an enumeration that the library tells by its draws is a turn of the layer; the draws may look at what is tracked (Sd), the turn's own state (Ss) may not -/
theorem turn_n {P : Program} {w : World} {K : PySem.W.Frag} {elts : List Expr} {kk n : Nat} {tpos : Pos} {f : Nat → Option V} {Gd : Hp → Prop} {e it : Addr} {fp : List Addr} {Pv : Nat → Value → Prop} {Ss Sd : Nat → Heap → Prop}
    (D : ∀ A : Around, A.handled = none → Draws P w A it fp n Pv Sd) (hei : e ≠ it) (hef : e ∉ fp) (hif : it ∈ fp)
    (up : ∀ (X : Cx) (pins : List (Addr × Obj)) (s : Shared) (σ : L2.St) (H : Hp) (i : Nat), X.prog = P → X.w = w → X.K = K → Inv X pins σ H s → Gd H → Ss i s.heap → Sd i s.heap) (dn : ∀ i h, Sd i h → Ss i h)
    (ob : ∀ i h, Ss i h → ∃ o, h.get? it = some o ∧ ∀ v, o.data ≠ .cell v) (rel : ∀ i x, i < n → Pv i x → ∃ y, f i = some y ∧ RelV y x)
    (fr : ∀ i h h2, Ss i h → (∀ o, h.get? it = some o → h2.get? it = some o) → Ss i h2) :
    Turn P w K (.Tuple elts kk tpos) (Itn n f Gd) [e, it] e (fun i h => (∃ old, IsEnum h e it (0 + (i : Int)) old) ∧ Ss i h) where
  mem := List.mem_cons_self
  obj := fun i h st b hb => by
    obtain ⟨⟨old, he⟩, hs⟩ := st
    rcases List.mem_cons.mp hb with rfl | hb
    · exact ⟨_, he, fun v q => nomatch q⟩
    · rw [List.mem_singleton.mp hb]
      exact ob i h hs
  keep := fun i h h2 st k => ⟨⟨st.1.choose, k e List.mem_cons_self _ st.1.choose_spec⟩, fr i h h2 st.2 (k it (by simp))⟩
  item := by
    intro X hP hw hK hc i pins s σ H E I hf st hi
    have sd := up X pins s σ H i hP hw hK I hi.2 st.2
    subst hP hw hK
    have W := GoesN.enumFrom (elts := elts) (x1 := kk) (pos := tpos) 0 (D X.A.in1 (show X.A.in1.handled = none from I.ok.hd hc)) e hei hef hif
    refine W.goes i s _ E hi.1 ⟨st.1, sd⟩ fun v h2 tk hy st2 hk htk => ?_
    obtain ⟨T, t, x, rfl, hT, hx, o, ho, hcl, m, hdt⟩ := hy
    obtain ⟨y, hfi, ry⟩ := rel i x hi.1 hx
    have new : ObjOk X.prog X.w (upd H T (.tup [.int (i : Nat), y])) h2 T (.tup [.int (i : Nat), y]) :=
      ⟨by show 2 ≤ sizeLine; decide, [.int (0 + (i : Int)) t, x], .cons ⟨t, by rw [Int.zero_add]⟩ (.cons ry .nil), ⟨o, ho, hcl, m, hdt⟩⟩
    refine ⟨.ref T, _, I.turnedNew (t' := tk) (ch := [e, it]) hk hf hT new, rfl, ⟨T, y, rfl, I.hok.fresh hT, rfl, hfi⟩, ⟨st2.1, dn _ _ st2.2⟩, fun b hb => ?_⟩
    have nb : b ≠ T := by
      have lt : b < s.heap.objs.size := by
        rcases List.mem_cons.mp hb with rfl | hb
        · obtain ⟨⟨old, he⟩, _⟩ := st
          exact Heap.lt_size he
        · obtain ⟨o1, h1, _⟩ := ob i _ st.2
          rw [List.mem_singleton.mp hb]
          exact Heap.lt_size h1
      exact Nat.ne_of_lt (Nat.lt_of_lt_of_le lt hT)
    rw [upd_ne nb]
    exact (hf b hb).1
  done := by
    intro X hP hw hK hc i pins s σ H E I hf st hi
    have sd := up X pins s σ H i hP hw hK I hi.2 st.2
    subst hP hw hK
    have hin := hi.1
    subst hin
    have W := GoesN.enumFrom (elts := elts) (x1 := kk) (pos := tpos) 0 (D X.A.in1 (show X.A.in1.handled = none from I.ok.hd hc)) e hei hef hif
    exact W.stops s _ E ⟨st.1, sd⟩ fun h2 tk hk htk => I.turnedL (t' := tk) hk hf
  self := fun A i s Q E st h => let ⟨⟨_, he⟩, _⟩ := st; wpAny_pyIter_enum he h
/-- drawing from a tuple that is told by its abstract items -/
theorem draws_tup {P : Program} {w : World} {A : Around} (hh : A.handled = none) (it a : Addr) (hne : a ≠ it) (xs : List V) :
    Draws P w A it [it, a] xs.length (fun i v => ∃ y, xs[i]? = some y ∧ RelV y v) (fun i h => h.IsTupleIter it a i ∧ ∃ its : List Value, Vals xs its ∧ h.IsTuple a its.toArray) where
  live := fun _ _ st => let ⟨o, ho, _⟩ := st.1; ⟨o, ho⟩
  frame := fun _ _ _ st hk => let ⟨its, rv, ht⟩ := st.2; ⟨st.1.at fun o e => hk it (by simp) o e, its, rv, ht.at fun o e => hk a (by simp) o e⟩
  item := fun i s Q E hi st hQ => by
    obtain ⟨si, its, rv, ht⟩ := st
    have en : its.toArray.size = xs.length := by rw [List.size_toArray]; exact rv.length.symm
    refine (Draws.tuple (prog := P) (w := w) hh it a hne its.toArray).item i s Q E (by rw [en]; exact hi) ⟨si, ht⟩ fun x h2 tk hx st2 sb => ?_
    obtain ⟨u, h3, r3⟩ := rv.get (i := i) (x := xs[i]) (by simp [hi])
    have hx : its[i]? = some x := by simpa using hx
    rw [hx] at h3
    cases h3
    exact hQ x h2 tk ⟨xs[i], by simp [hi], r3⟩ ⟨st2.1, its, rv, st2.2⟩ sb
  done := fun s Q E st hE => by
    obtain ⟨si, its, rv, ht⟩ := st
    have en : its.toArray.size = xs.length := by rw [List.size_toArray]; exact rv.length.symm
    exact (Draws.tuple (prog := P) (w := w) hh it a hne its.toArray).done s Q E ⟨by rw [en]; exact si, ht⟩ hE
/-- enumerate(tuple) -/
def iEnumT (K : PySem.W.Frag) (ta : TA) : TI := fun σ H R => ta σ H fun vs H1 => ∃ a xs, vs = [.ref a] ∧ SqT K H1 a xs ∧ R (Itn xs.length (fun i => xs[i]?) fun H => SqT K H a xs) H1
/-- enumerate(text) -/
def iEnumS (ta : TA) : TI := fun σ H R => ta σ H fun vs H1 => ∃ x : Str, vs = [.str x] ∧ R (Itn x.cps.size (fun i => (x.cps[i]?).map fun c => .str ⟨#[c]⟩) fun _ => True) H1
section
variable {X : Cx} {e : Expr} {ta : TA} {p pos tpos : Pos} {elts : List Expr} {kk : Nat}
theorem pi_enumT (hg : Gl X "enumerate") (hm : X.mg "enumerate" = none) (ha : PA X [e] ta) (hs : starEach [e] X.env = [(false, eval e X.env)] := by rfl) :
    PI X (.Tuple elts kk tpos) (.Call (.Name "enumerate" p) [e] [] pos) (iEnumT X.K ta) := by
  refine ⟨fun pins s σ H R I h => ?_⟩
  refine Call_ (ld_blt I hg hm boot_enumerate (PyProof.Rows.callWith_type1 (thn (ha.run pos pins s σ H _ I h) fun us s1 ⟨vs, H1, I1, r1, a, xs, ev, hq, q⟩ => ?_) hs rfl))
  subst ev
  obtain ⟨u, rfl, ru⟩ := vals1 r1
  cases ru
  obtain ⟨its, rv, ht, hz⟩ := I1.tuple hq
  have lv := rv.length
  have lt : (a : Nat) < s1.heap.objs.size := by
    obtain ⟨o, h1, _⟩ := id ht
    exact Heap.lt_size h1
  refine enum1_call (begins_tuple a its.toArray) ht fun h2 he ho hk => wpAny_pyIter_enum he ?_
  have I2 : Inv X pins σ H1 { s1 with heap := h2 } := I1.kept (t' := s1.toks) hk
  have TU : Turn X.prog X.w X.K (.Tuple elts kk tpos) (Itn xs.length (fun i => xs[i]?) fun H => SqT X.K H a xs) [s1.heap.objs.size + 1, s1.heap.objs.size] (s1.heap.objs.size + 1)
      (fun i h => (∃ old, IsEnum h (s1.heap.objs.size + 1) s1.heap.objs.size (0 + (i : Int)) old) ∧ h.IsTupleIter s1.heap.objs.size a i) := by
    refine turn_n (fun A hh => draws_tup hh s1.heap.objs.size a (Nat.ne_of_lt lt) xs) (Nat.succ_ne_self _) (fun z => ?_) List.mem_cons_self (fun X2 pins2 s2 σ2 H2 i e1 e2 e3 J g st => ⟨st, ?_⟩) (fun i h st => st.1) (fun i h st => ?_) (fun i x hi hx => hx) (fun i h h3 st k => st.at k)
    · rcases List.mem_cons.mp z with z | z
      · exact Nat.succ_ne_self _ z
      · have z2 : (s1.heap.objs.size + 1 : Nat) = a := List.mem_singleton.mp z
        rw [← z2] at lt
        exact absurd (Nat.lt_trans (Nat.lt_succ_self s1.heap.objs.size) lt) (Nat.lt_irrefl _)
    · rw [← e3] at g
      obtain ⟨its2, rv2, ht2, _⟩ := J.tuple g
      exact ⟨its2, rv2, ht2⟩
    · obtain ⟨o, e, c, d⟩ := st
      exact ⟨o, e, fun v z => by rw [d] at z; cases z⟩
  refine ⟨s1.heap.objs.size + 1, _, _, _, H1, rfl, I2, TU, ⟨⟨.none, he⟩, ⟨_, ho, rfl, rfl⟩⟩, fun b hb => ?_, q⟩
  have hle : s1.heap.objs.size ≤ b := by
    rcases List.mem_cons.mp hb with z | z
    · rw [z]; exact Nat.le_succ _
    · rw [List.mem_singleton.mp z]; exact Nat.le_refl _
  exact I1.fpOk hle (I1.hok.fresh hle)
theorem pi_enumS (hg : Gl X "enumerate") (hm : X.mg "enumerate" = none) (ha : PA X [e] ta) (hs : starEach [e] X.env = [(false, eval e X.env)] := by rfl) :
    PI X (.Tuple elts kk tpos) (.Call (.Name "enumerate" p) [e] [] pos) (iEnumS ta) := by
  refine ⟨fun pins s σ H R I h => ?_⟩
  refine Call_ (ld_blt I hg hm boot_enumerate (PyProof.Rows.callWith_type1 (thn (ha.run pos pins s σ H _ I h) fun us s1 ⟨vs, H1, I1, r1, x, ev, q⟩ => ?_) hs rfl))
  subst ev
  obtain ⟨u, rfl, t, rfl⟩ := vals1 r1
  refine enum1_call (begins_text x t) True.intro fun h2 he ho hk => wpAny_pyIter_enum he ?_
  have I2 : Inv X pins σ H1 { s1 with heap := h2 } := I1.kept (t' := s1.toks) hk
  have TU : Turn X.prog X.w X.K (.Tuple elts kk tpos) (Itn x.cps.size (fun i => (x.cps[i]?).map fun c => V.str ⟨#[c]⟩) fun _ => True) [s1.heap.objs.size + 1, s1.heap.objs.size] (s1.heap.objs.size + 1)
      (fun i h => (∃ old, IsEnum h (s1.heap.objs.size + 1) s1.heap.objs.size (0 + (i : Int)) old) ∧ h.IsStrIter s1.heap.objs.size (strIterType x) x t i) := by
    refine turn_n (fun A hh => Draws.text hh s1.heap.objs.size x t) (Nat.succ_ne_self _) (fun z => Nat.succ_ne_self _ (List.mem_singleton.mp z)) List.mem_cons_self (fun X2 pins2 s2 σ2 H2 i e1 e2 e3 J g st => st) (fun i h st => st) (fun i h st => ?_) (fun i y hi hy => ?_) (fun i h h3 st k => let ⟨o, e, c, d⟩ := st; ⟨o, k _ e, c, d⟩)
    · obtain ⟨o, e, c, d⟩ := st
      exact ⟨o, e, fun v z => by rw [d] at z; cases z⟩
    · obtain ⟨c, u, hc, rfl⟩ := hy
      exact ⟨.str ⟨#[c]⟩, by rw [hc]; rfl, u, rfl⟩
  refine ⟨s1.heap.objs.size + 1, _, _, _, H1, rfl, I2, TU, ⟨⟨.none, he⟩, ⟨_, ho, rfl, rfl⟩⟩, fun b hb => ?_, q⟩
  have hle : s1.heap.objs.size ≤ b := by
    rcases List.mem_cons.mp hb with z | z
    · rw [z]; exact Nat.le_succ _
    · rw [List.mem_singleton.mp z]; exact Nat.le_refl _
  exact I1.fpOk hle (I1.hok.fresh hle)
end
end L2
namespace L2
open PySem PySem.Spec PyProof.Rows
/-! ### t[::-1] of a tuple, of a text -/
theorem rev_picks (xs : Array Value) : (List.range xs.size).filterMap (fun (m : Nat) => xs[(((xs.size : Int) - 1) + (m : Int) * (-1)).toNat]?) = xs.toList.reverse := by
  have e : (fun (m : Nat) => xs[(((xs.size : Int) - 1) + (m : Int) * (-1)).toNat]?) = (fun j => xs[j]?) ∘ fun m => xs.size - 1 - m := by
    funext m
    show xs[(((xs.size : Int) - 1) + (m : Int) * (-1)).toNat]? = xs[xs.size - 1 - m]?
    have q : (((xs.size : Int) - 1) + (m : Int) * (-1)).toNat = xs.size - 1 - m := by omega
    rw [q]
  rw [e, ← List.filterMap_map, PySem.W.krv_range, List.filterMap_reverse, PySem.W.krv_all]
theorem rev_places (n : Nat) : Builtin.Slice.slicePlaces ((n : Int) - 1) (-1) (-1) = n := by
  unfold Builtin.Slice.slicePlaces
  rw [if_neg (by decide)]
  by_cases h : n = 0
  · subst h
    rfl
  · rw [if_pos (by omega)]
    have q : ((n : Int) - 1 - (-1) - 1) / (-(-1)) + 1 = (n : Int) := by
      rw [show (-(-1) : Int) = 1 by decide, Int.ediv_one]
      omega
    rw [q]
    omega
section
variable {prog : Program} {w : World} {A : Around} {E : Value → Shared → Prop} {s : Shared}
theorem rev_applied {sl : Addr} {t : Tok} {n : Nat} {Q : Int × Int × Nat → Shared → Prop} (hs : s.heap.IsSliceOf sl .none .none (.int (-1) t)) (h : Q ((n : Int) - 1, -1, n) s) :
    wpAny (model prog w) A (Builtin.Slice.sliceApplied (.ref sl) (pure (n : Int))) Q E s := by
  obtain ⟨os, hos, hcs, hds⟩ := id hs
  unfold Builtin.Slice.sliceApplied Builtin.Slice.sliceFields
  refine wpAny_bind (wpAny_bind (wpAny_field hos hds (x := .none) rfl (wpAny_bind (wpAny_field hos hds (x := .none) rfl (wpAny_bind (wpAny_field hos hds (x := .int (-1) t) rfl (wpAny_pure ?_)))))))
  refine wpAny_bind (slicePart_int ?_)
  show wpAny _ _ (if ((-1 : Int) == 0) = true then _ else _) _ _ s
  rw [if_neg (by decide)]
  refine wpAny_bind (slicePart_none (wpAny_bind (slicePart_none (wpAny_bind (wpAny_pure ?_)))))
  have e := rev_places n
  show wpAny _ _ (pure ((n : Int) - 1, (-1 : Int), Builtin.Slice.slicePlaces ((n : Int) - 1) (-1) (-1))) _ _ s
  rw [e]
  exact wpAny_pure h
theorem tuple_rev {t sl : Addr} {items : Array Value} {tk : Tok} {Q : Value → Shared → Prop} (ht : IsTup s.heap t items) (hs : s.heap.IsSliceOf sl .none .none (.int (-1) tk)) (hz : items.size ≤ sizeLine)
    (h : Q (.ref s.heap.objs.size) { s with heap := s.heap.push { cls := .type "tuple", data := .seq items.toList.reverse.toArray } }) : wpAny (model prog w) A (getItem (.ref t) (.ref sl)) Q E s := by
  have hl : sizeOk (.seq items.toList.reverse.toArray) := by
    show items.toList.reverse.toArray.size ≤ sizeLine
    rw [List.size_toArray, List.length_reverse, Array.length_toList]
    exact hz
  obtain ⟨os, hos, hcs, hds⟩ := id hs
  have ts : s.TypeIs (.ref sl) "slice" := ⟨os, hos, hcs⟩
  unfold getItem
  try with_reducible refine wpAny_holding ?_
  first | refine wpAny_bind (wpAny_pure ?_) | skip
  refine wpAny_bind (wpAny_sequenceKey ht.typeIs (by decide) ?_)
  refine wpAny_bind (wpAny_callSpecial?_slot (name := Str.ofString "__getitem__") ht.typeIs PyProof.Rows.slot_tuple_getitem
    (wpAny_call_entry PyProof.Rows.slot_tuple_getitem ht.typeIs entry_tuple_getitem ?_ (args_tuple_getitem _ _)))
  show wpAny _ _ (Builtin.Tuple.tupleItemsOf (.ref t) >>= _) _ _ s
  refine wpAny_bind (tupleItemsOf_ ht (wpAny_bind (wpAny_typeOf ts ?_)))
  rw [if_pos (by decide)]
  refine wpAny_bind (rev_applied hs ?_)
  show wpAny _ _ (if (((items.size : Int) - 1) == 0 && (-1 : Int) == 1 && items.size == items.size) = true then _ else _) _ _ s
  rw [if_neg (by rw [show ((-1 : Int) == 1) = false by decide, Bool.and_false, Bool.false_and]; exact Bool.false_ne_true), rev_picks]
  first
    | exact wpAny_bind (m := Builtin.Tuple.tupleExact _) (wpAny_newObj_type (wpAny_pure ⟨_, rfl, wpAny_pure h⟩) hl)
    | exact wpAny_bind (wpAny_bind (m := Builtin.Tuple.tupleExact _) (wpAny_newObj_type (wpAny_pure (wpAny_pure ⟨_, rfl, wpAny_pure h⟩)) hl))
    | exact wpAny_bind (wpAny_bind (m := Builtin.Tuple.tupleExact _) (wpAny_newObj_type (wpAny_pure ⟨_, rfl, wpAny_pure h⟩) hl))
    | exact wpAny_bind (m := Builtin.Tuple.tupleExact _) (wpAny_newObj_type (wpAny_bind (wpAny_pure (wpAny_pure ⟨_, rfl, wpAny_pure h⟩))) hl)
end
def revS (z : Str) : Str := ⟨z.cps.toList.reverse.toArray⟩
def tRevT (K : PySem.W.Frag) (te : TE) : TE := fun σ H Q => te σ H fun x H1 => ∃ a xs, x = .ref a ∧ SqT K H1 a xs ∧ ∀ p, H1 p = none → Q (.ref p) (upd H1 p (.tup xs.reverse))
def tRevS (te : TE) : TE := fun σ H Q => te σ H fun x H1 => ∃ z, x = .str z ∧ z.length ≤ sizeLine ∧ Q (.str (revS z)) H1
section
variable {X : Cx} {e : Expr} {te : TE} {k : Nat} {p1 p2 p3 pos : Pos}
/-- the written slice ::-1 -/
theorem slice_back {pins : List (Addr × Obj)} {s1 : Shared} {σ : L2.St} {H1 : Hp} {Q : Value → Shared → Prop} (I1 : Inv X pins σ H1 s1)
    (h : ∀ (s4 : Shared) (t : Tok), Inv X pins σ H1 { s4 with heap := s4.heap.push { cls := .type "slice", data := .fields #[.none, .none, .int (-1) t] } } →
      Q (.ref s4.heap.objs.size) { s4 with heap := s4.heap.push { cls := .type "slice", data := .fields #[.none, .none, .int (-1) t] } }) :
    wpAny (model X.prog X.w) X.A (eval (.Slice none none (some (.UnaryOp .USub (.Constant (.int 1) k p1) p2)) p3) X.env) Q X.xe s1 := by
  have st : PO X (some (.UnaryOp .USub (.Constant (.int 1) k p1) p2)) (tPart (tUn (rU fun i => .int (-i)) (tC (.int 1)))) := po_some (pe_un un_neg pe_int)
  refine wpAny_Slice (thn (po_none.run pins s1 σ H1 (fun o H2 => o = none ∧ H2 = H1) I1 ⟨rfl, rfl⟩) fun vl s2 ⟨l, H2, I2, pl, el, e2⟩ => ?_)
  subst el e2
  refine thn (po_none.run pins s2 σ H2 (fun o H3 => o = none ∧ H3 = H2) I2 ⟨rfl, rfl⟩) fun vu s3 ⟨u, H3, I3, pu, eu, e3⟩ => ?_
  subst eu e3
  refine thn (st.run pins s3 σ H3 (fun o H4 => o = some (-1) ∧ H4 = H3) I3 ⟨1, rfl, -1, rfl, rfl, rfl⟩) fun vs s4 ⟨o, H4, I4, ps, eo, e4⟩ => ?_
  subst eo e4
  cases pl
  cases pu
  cases ps with
  | int i t => exact h s4 t (I4.kept (t' := s4.toks) fun b ob q => Heap.get?_push_of_some _ q)
theorem pe_revT (he : PE X e te) : PE X (.Subscript e (.Slice none none (some (.UnaryOp .USub (.Constant (.int 1) k p1) p2)) p3) pos) (tRevT X.K te) := by
  refine ⟨fun pins s σ H Q I h => ?_⟩
  refine Subscript_ (thn (he.run pins s σ H _ I h) fun v s1 ⟨x, H1, I1, r1, a, xs, ex, hx, q⟩ => ?_)
  subst ex
  cases r1
  refine slice_back I1 fun s4 t I5 => ?_
  obtain ⟨its, r, ht, hz⟩ := I5.tuple hx
  have hl := r.length
  refine tail_any (ops := [.ref a, .ref s4.heap.objs.size]) ht.typeIs PyProof.Rows.slot_tuple_getitem.lookup ?_ (by with_unfolding_all rfl)
  refine tuple_rev ht (Heap.IsSliceOf.new _ _ _ _) (by rw [List.size_toArray]; omega) ?_
  refine ⟨.ref _, _, I5.laid (t' := s4.toks) (o := .tup xs.reverse) (fun b ob q => Heap.get?_push_of_some _ q) (Nat.le_refl _) ?_, rfl, q _ (I5.hok.fresh (Nat.le_refl _))⟩
  exact ⟨by rw [List.length_reverse]; exact hz, its.reverse, r.reverse, ⟨_, Heap.get?_push_size _ rfl, rfl, _, rfl⟩⟩
theorem pe_revS (he : PE X e te) : PE X (.Subscript e (.Slice none none (some (.UnaryOp .USub (.Constant (.int 1) k p1) p2)) p3) pos) (tRevS te) := by
  refine ⟨fun pins s σ H Q I h => ?_⟩
  refine Subscript_ (thn (he.run pins s σ H _ I h) fun v s1 ⟨x, H1, I1, r1, z, ex, hz, q⟩ => ?_)
  subst ex
  obtain ⟨t1, rfl⟩ := r1
  refine slice_back I1 fun s4 t I5 => ?_
  refine tail_any (ops := [.str z t1, .ref s4.heap.objs.size]) (typeIs_str _ _ _) F.slot_str_getitem.lookup ?_ (by with_unfolding_all rfl)
  refine wpAny_getItem_str_slice (l := none) (u := none) (st := some (-1, t)) ⟨_, Heap.get?_push_size _ rfl, rfl, rfl⟩ rfl ?_
  have e1 : (slicePicked z none none (some (-1, t))).filterMap (z.cps[·]?) = z.cps.toList.reverse := by
    show (sliceRange ((z.length : Int) - 1) (-1) (-1)).filterMap (z.cps[·]?) = _
    rw [PySem.W.krv_sliceRange, PySem.W.krv_range, List.filterMap_reverse]
    show ((List.range z.cps.size).filterMap (z.cps[·]?)).reverse = _
    rw [PySem.W.krv_all]
  have c : ¬ ((((some ((-1 : Int), t)).map (·.1)).getD 1 == 1 && (slicePicked z none none (some (-1, t))).length == z.length) = true) := by
    rw [show (((some ((-1 : Int), t)).map (·.1)).getD 1 == 1) = false by rfl, Bool.false_and]
    exact Bool.false_ne_true
  unfold sliceMade
  rw [if_neg c, e1]
  refine ⟨?_, .str (revS z), H1, I5.tok _, ⟨_, rfl⟩, q⟩
  show z.cps.toList.reverse.toArray.size ≤ sizeLine
  rw [List.size_toArray, List.length_reverse, Array.length_toList]
  exact hz
end
end L2
namespace L2
open PySem PySem.Spec PyProof.Rows
/-! ### d.update(e), two dicts whose keys are ints and texts -/
section
variable {X : Cx} {pins : List (Addr × Obj)} {σ : L2.St} {H : Hp} {s : Shared} {E : Value → Shared → Prop} {A : Around} {a b : Addr} {ks ms : List (Key × V)}
theorem d_update {Q : Value → Shared → Prop} (I : Inv X pins σ H s) (ea : H a = some (.dK ks)) (eb : H b = some (.dK ms)) (hz : ks.length + ms.length ≤ sizeLine) (h : ∀ s2, Inv X pins σ (upd H a (.dK (mergeK ks ms))) s2 → Q .none s2)
    (hab : a ≠ b) : wpAny (model X.prog X.w) A (call (.builtin "dict.update") [.ref a, .ref b]) Q E s := by
  obtain ⟨z1, n1, vs, r1, d1⟩ := dk_of I.hok ea
  obtain ⟨z2, n2, us, r2, d2⟩ := dk_of I.hok eb
  refine call_meetsIn PySem.F.slot_dict_update d1.typeIs PySem.F.entry_dict_update (PySem.F.args_dict_update_2 _ _) (meets_dict_update (mixKind X.prog X.w) a b hab n2)
    ⟨vs, us, d1, d2, by rw [← r1.length, ← r2.length]; exact hz, fun h2 d3 _ hs => h _ ?_⟩
  have he : ∃ q, h2.get? a = some q := let ⟨q, _, _, hq, _⟩ := d3; ⟨q, hq⟩
  exact d_write (t' := s.toks) I (by rw [ea]; exact True.intro) hs he (dk_new (Nat.le_trans (length_mergeK ms ks) hz) n1 (KV.merge r2 r1) d3)
end
def tDUpd (td te : TE) : TE := fun σ H Q => td σ H fun x H1 => ∃ a, x = .ref a ∧ IsD H1 a ∧ te σ H1 fun y H2 => ∃ (b : Addr) (ks ms : List (Key × V)), y = .ref b ∧ H2 a = some (.dK ks) ∧ H2 b = some (.dK ms) ∧ a ≠ b ∧ ks.length + ms.length ≤ sizeLine ∧ Q .non (upd H2 a (.dK (mergeK ks ms)))
section
variable {X : Cx} {o e : Expr} {apos cpos : Pos} {td te : TE}
theorem pe_dupd (ho : PE X o td) (he : PE X e te) (m : M1 X o "update" apos e cpos) : PE X (.Call (.Attribute o "update" apos) [e] [] cpos) (tDUpd td te) := by
  refine ⟨fun pins s σ H Q I h => ?_⟩
  refine wpAny_Call_method m.base m.few m.line PySem.F.plainAttrs_dict PySem.F.slot_dict_update PySem.F.type_dict_update (thn (ho.run pins s σ H _ I h) fun u s1 ⟨x, H1, I1, rx, a, ex, d, q1⟩ => ?_)
  subst ex
  cases rx
  obtain ⟨t1, t2, _⟩ := isD_at I1 d
  refine ⟨t1, t2, ?_⟩
  rw [m.trees]
  refine Calls.callWith_builtin rfl (Calls.evalArgs_plain (Calls.spliced_cons (thn (he.run pins s1 σ H1 _ I1 q1) fun iv s2 ⟨y, H2, I2, ry, b, ks, ms, ey, ea, eb, nab, hz, q2⟩ => Calls.spliced_nil ?_)))
  subst ey
  cases ry
  exact d_update I2 ea eb hz (fun s3 I3 => ⟨.non, _, I3, rfl, q2⟩) nab
end
end L2
namespace L2
open PySem PySem.Spec PyProof.Rows
section
variable {K : PySem.W.Frag} {H : Hp}
/-- t + u: some tuple with both's items -/
theorem catA_of {a b : Addr} {xs ys : List V} {Q : VK} (ha : SqT K H a xs) (hb : SqT K H b ys) (hz : xs.length + ys.length ≤ sizeLine) (k : ∀ c H2, Same H H2 → SqT K H2 c (xs ++ ys) → Q (.ref c) H2) : rCatA K (.ref a) (.ref b) H Q :=
  ⟨a, b, xs, ys, rfl, rfl, ha, hb, hz, fun e => k b H (Same.refl H) (by rw [e]; exact hb), fun _ e => k a H (Same.refl H) (by rw [e, List.append_nil]; exact ha), fun _ _ p hp => k p _ (Same.new hp) (SqT.of upd_same)⟩
/-- t[lo:hi]: some tuple with those items -/
theorem slA_of {a : Addr} {xs : List V} {lo hi : Option Int} {Q : VK} (ha : SqT K H a xs) (k : ∀ c H2, Same H H2 → SqT K H2 c (cutV xs lo hi) → Q (.ref c) H2) : rSlA K (.ref a) lo hi H Q :=
  ⟨a, xs, rfl, ha, fun e => k a H (Same.refl H) (by
    have q : cutV xs lo hi = xs := by
      unfold cutV
      rw [e.1, e.2, List.drop_zero, Nat.sub_zero, List.take_length]
    rw [q]
    exact ha), fun _ p hp => k p _ (Same.new hp) (SqT.of upd_same)⟩
theorem cutV_to (xs : List V) (i : Nat) : cutV xs none (some (i : Int)) = xs.take i := by
  unfold cutV
  rw [HT.sIx_none, HT.sIx_nat, List.drop_zero, Nat.sub_zero]
  by_cases h : i ≤ xs.length
  · rw [Nat.min_eq_left h]
  · rw [Nat.min_eq_right (by omega), List.take_length, List.take_of_length_le (by omega)]
theorem cutV_from (xs : List V) (i : Nat) : cutV xs (some (i : Int)) none = xs.drop i := by
  unfold cutV
  rw [HT.sIx_none, HT.sIx_nat]
  by_cases h : i ≤ xs.length
  · rw [Nat.min_eq_left h, List.take_of_length_le (by rw [List.length_drop]; omega)]
  · rw [Nat.min_eq_right (by omega), Nat.sub_self, List.take_zero, List.drop_eq_nil_of_le (by omega)]
theorem atI_last' {xs : List V} {v : V} (h : xs[xs.length - 1]? = some v) : atI xs (-1) = some v := by
  have ne : xs ≠ [] := fun e => by rw [e] at h; simp at h
  have e : xs = xs.dropLast ++ [v] := by
    have q := List.dropLast_concat_getLast ne
    have l : xs.getLast ne = v := by
      rw [List.getLast_eq_getElem]
      exact (List.getElem?_eq_some_iff.mp h).2
    rw [l] at q
    exact q.symm
  rw [e]
  exact atI_last _ _
end
end L2
namespace K76
open PySem PySem.Spec PyProof.Rows L2
/-! ### data of the three kinds, seen and made -/
abbrev nV (l : List Nat) : List V := l.map fun (i : Nat) => V.int i
section
variable {K : PySem.W.Frag} {H : Hp}
theorem nD_all : ∀ (l : List Nat), DpAll K H (nV l) (l.map fun (i : Nat) => PyData.int i)
  | [] => .nil
  | n :: ns => .cons (.int n) (nD_all ns)
theorem nD_inv : ∀ {l : List Nat} {vs : List V}, DpAll K H vs (l.map fun (i : Nat) => PyData.int i) → vs = nV l
  | [], _, h => h.nilI
  | n :: ns, _, h => by
    obtain ⟨v, ws, rfl, h1, h2⟩ := DpAll.consI h
    rw [h1.intI, nD_inv h2]
    rfl
theorem intsD_of {a : Addr} {l : List Nat} (h : SqT K H a (nV l)) : Dp K H (.ref a) (intsD l) := .tup h (nD_all l)
theorem intsD_inv {v : V} {l : List Nat} (h : Dp K H v (intsD l)) : ∃ a, v = .ref a ∧ SqT K H a (nV l) := by
  obtain ⟨a, xs, rfl, hs, ha⟩ := Dp.tupI h
  rw [nD_inv ha] at hs
  exact ⟨a, rfl, hs⟩
theorem s3D_inv {v : V} {s : S3} (h : Dp K H v (s3D s)) : ∃ a iv ja, v = .ref a ∧ SqT K H a [.str (mkS s.sent), iv, .ref ja] ∧ Dp K H iv (stD s.ins) ∧ SqT K H ja (nV s.jo) := by
  obtain ⟨a, xs, rfl, hs, ha⟩ := Dp.tupI h
  obtain ⟨v1, r1, rfl, h1, ha⟩ := ha.consI
  obtain ⟨v2, r2, rfl, h2, ha⟩ := ha.consI
  obtain ⟨v3, r3, rfl, h3, ha⟩ := ha.consI
  cases ha
  cases h1
  obtain ⟨ja, rfl, hj⟩ := intsD_inv h3
  exact ⟨a, v2, ja, rfl, hs, h2, hj⟩
theorem s3D_of {a ja : Addr} {iv : V} {s : S3} (h : SqT K H a [.str (mkS s.sent), iv, .ref ja]) (hi : Dp K H iv (stD s.ins)) (hj : SqT K H ja (nV s.jo)) : Dp K H (.ref a) (s3D s) := .tup h (.cons (.str _) (.cons hi (.cons (intsD_of hj) .nil)))
theorem stD_some {v : V} {w k : Nat} (h : Dp K H v (stD (some (w, k)))) : ∃ a, v = .ref a ∧ SqT K H a [.int (w : Nat), .int (k : Nat)] := by
  obtain ⟨a, xs, rfl, hs, ha⟩ := Dp.tupI (ds := [.int w, .int k]) h
  obtain ⟨v1, r1, rfl, h1, ha⟩ := ha.consI
  obtain ⟨v2, r2, rfl, h2, ha⟩ := ha.consI
  cases ha
  cases h1
  cases h2
  exact ⟨a, rfl, hs⟩
theorem stD_mk {a : Addr} {w k : Nat} (h : SqT K H a [.int (w : Nat), .int (k : Nat)]) : Dp K H (.ref a) (stD (some (w, k))) := .tup h (.cons (.int _) (.cons (.int _) .nil))
end
theorem stD_noL : ∀ (s : Sta), noL (stD s) = true
  | none => rfl
  | some (_, _) => rfl
/-! ### what a broadcast does -/
def wd (ws : List (List Nat)) (i : Nat) : List Nat := ws.getD i []
def letterOf (ws : List (List Nat)) (i k : Nat) : Nat := (wd ws i).getD k 0
def adv (ws : List (List Nat)) (i k : Nat) : Sta := if k < (wd ws i).length then some (i, k) else none
def canB (s : S3) : Cmd → Bool
  | .send _ => s.ins.isNone
  | .step => s.ins.isSome
  | .join => decide (s.jo.length < 6)
  | .leave n => decide (n < s.jo.length)
def bhd (ws : List (List Nat)) (s : S3) : Cmd → S3
  | .send n => ⟨s.sent ++ [letterOf ws n 0], adv ws n 1, s.jo⟩
  | .step => match s.ins with
    | some (i, k) => ⟨s.sent ++ [letterOf ws i k], adv ws i (k + 1), s.jo⟩
    | none => s
  | .join => ⟨s.sent, s.ins, s.jo ++ [s.sent.length]⟩
  | .leave n => ⟨s.sent, s.ins, s.jo.take n ++ s.jo.drop (n + 1)⟩
/-- inside a word -/
def InOk (ws : List (List Nat)) : Sta → Prop
  | none => True
  | some (i, k) => i < ws.length ∧ 1 ≤ k ∧ k < (wd ws i).length
/-- a command that names a word names one of the code -/
def ValC (ws : List (List Nat)) : Cmd → Prop
  | .send n => n < ws.length
  | .leave n => n ≤ 5
  | _ => True
theorem wd_get {ws : List (List Nat)} {i : Nat} (h : i < ws.length) : ws[i]? = some (wd ws i) := by
  unfold wd
  rw [List.getD_eq_getElem?_getD, List.getElem?_eq_getElem h]
  rfl
theorem wd_mem {ws : List (List Nat)} {i : Nat} (h : i < ws.length) : wd ws i ∈ ws := List.mem_of_getElem? (wd_get h)
theorem letter_get {ws : List (List Nat)} {i k : Nat} (h : k < (wd ws i).length) : (wd ws i)[k]? = some (letterOf ws i k) := by
  unfold letterOf
  rw [List.getD_eq_getElem?_getD, List.getElem?_eq_getElem h]
  rfl
theorem mkS_one (c : Nat) : (⟨#[c]⟩ : Str) = mkS [c] := rfl
end K76
namespace K76
open PySem PySem.Spec PyProof.Rows L2
/-! ### histories: commands, and the states between them (no program here) -/
def s0 : S3 := ⟨[], none, []⟩
def stAfter (ws : List (List Nat)) (cs : List Cmd) : S3 := cs.foldl (bhd ws) s0
theorem stAfter_snoc (ws : List (List Nat)) (cs : List Cmd) (c : Cmd) : stAfter ws (cs ++ [c]) = bhd ws (stAfter ws cs) c := by
  unfold stAfter
  rw [List.foldl_append]
  rfl
def ssOf (ws : List (List Nat)) (cs : List Cmd) : List S3 := (List.range (cs.length + 1)).map fun i => stAfter ws (cs.take i)
theorem ssOf_len (ws : List (List Nat)) (cs : List Cmd) : (ssOf ws cs).length = cs.length + 1 := by unfold ssOf; rw [List.length_map, List.length_range]
theorem ssOf_get {ws : List (List Nat)} {cs : List Cmd} {i : Nat} (h : i ≤ cs.length) : (ssOf ws cs)[i]? = some (stAfter ws (cs.take i)) := by
  unfold ssOf
  rw [List.getElem?_map, List.getElem?_range (by omega)]
  rfl
theorem ssOf_last (ws : List (List Nat)) (cs : List Cmd) : (ssOf ws cs)[(ssOf ws cs).length - 1]? = some (stAfter ws cs) := by
  rw [ssOf_len, Nat.add_sub_cancel, ssOf_get (Nat.le_refl _), List.take_length]
theorem ssOf_snoc (ws : List (List Nat)) (cs : List Cmd) (c : Cmd) : ssOf ws (cs ++ [c]) = ssOf ws cs ++ [bhd ws (stAfter ws cs) c] := by
  unfold ssOf
  rw [List.length_append, List.length_singleton, List.range_succ, List.map_append]
  congr 1
  · refine List.map_congr_left fun i hi => ?_
    have hi := List.mem_range.mp hi
    rw [List.take_append_of_le_length (by omega)]
  · show [stAfter ws ((cs ++ [c]).take (cs.length + 1))] = _
    rw [List.take_of_length_le (by rw [List.length_append]; exact Nat.le_refl _), stAfter_snoc]
/-- each command was possible where it came -/
structure Hist (ws : List (List Nat)) (cs : List Cmd) : Prop where
  len : cs.length ≤ 8
  ok : ∀ i c, cs[i]? = some c → ValC ws c ∧ canB (stAfter ws (cs.take i)) c = true
theorem hist_nil (ws : List (List Nat)) : Hist ws [] := ⟨by decide, fun i c h => by simp at h⟩
theorem hist_snoc {ws : List (List Nat)} {cs : List Cmd} {c : Cmd} (h : Hist ws cs) (hl : cs.length < 8) (hv : ValC ws c) (hc : canB (stAfter ws cs) c = true) : Hist ws (cs ++ [c]) where
  len := by rw [List.length_append]; show cs.length + 1 ≤ 8; omega
  ok := fun i d e => by
    by_cases hi : i < cs.length
    · rw [List.getElem?_append_left hi] at e
      rw [List.take_append_of_le_length (by omega)]
      exact h.ok i d e
    · have q := (List.getElem?_eq_some_iff.mp e).1
      rw [List.length_append, List.length_singleton] at q
      have hi2 : i = cs.length := by omega
      subst hi2
      rw [List.getElem?_append_right (Nat.le_refl _), Nat.sub_self] at e
      cases e
      rw [List.take_append_of_le_length (Nat.le_refl _), List.take_length]
      exact ⟨hv, hc⟩
/-- what holds of every state -/
structure StOk (ws : List (List Nat)) (n : Nat) (s : S3) : Prop where
  ins : InOk ws s.ins
  jo : s.jo.length ≤ 6
  sent : s.sent.length ≤ n
  at_ : ∀ j ∈ s.jo, j ≤ s.sent.length
theorem adv_ok {ws : List (List Nat)} {i k : Nat} (hi : i < ws.length) : InOk ws (adv ws i (k + 1)) := by
  unfold adv
  by_cases h : k + 1 < (wd ws i).length
  · rw [if_pos h]
    exact ⟨hi, by omega, h⟩
  · rw [if_neg h]
    exact True.intro
theorem stOk_bhd {ws : List (List Nat)} {n : Nat} {s : S3} {c : Cmd} (o : StOk ws n s) (hv : ValC ws c) (hc : canB s c = true) : StOk ws (n + 1) (bhd ws s c) := by
  obtain ⟨o1, o2, o3, o4⟩ := o
  cases c with
  | send m =>
    refine ⟨adv_ok hv, o2, ?_, fun j m => ?_⟩
    · show (s.sent ++ [_]).length ≤ n + 1
      rw [List.length_append, List.length_singleton]
      omega
    · show j ≤ (s.sent ++ [_]).length
      rw [List.length_append]
      have := o4 j m
      omega
  | step =>
    have hc : s.ins.isSome = true := hc
    cases e : s.ins with
    | none => rw [e] at hc; cases hc
    | some wk =>
      obtain ⟨i, k⟩ := wk
      rw [e] at o1
      have q : bhd ws s .step = ⟨s.sent ++ [letterOf ws i k], adv ws i (k + 1), s.jo⟩ := by unfold bhd; rw [e]
      rw [q]
      refine ⟨adv_ok o1.1, o2, ?_, fun j m => ?_⟩
      · show (s.sent ++ [_]).length ≤ n + 1
        rw [List.length_append, List.length_singleton]
        omega
      · show j ≤ (s.sent ++ [_]).length
        rw [List.length_append]
        have := o4 j m
        omega
  | join =>
    have hc : s.jo.length < 6 := of_decide_eq_true hc
    refine ⟨o1, ?_, Nat.le_succ_of_le o3, fun j m => ?_⟩
    · show (s.jo ++ [_]).length ≤ 6
      rw [List.length_append, List.length_singleton]
      omega
    · rcases List.mem_append.mp m with m | m
      · exact o4 j m
      · rw [List.mem_singleton.mp m]
        exact Nat.le_refl _
  | leave m =>
    refine ⟨o1, ?_, Nat.le_succ_of_le o3, fun j hj => ?_⟩
    · show (s.jo.take m ++ s.jo.drop (m + 1)).length ≤ 6
      rw [List.length_append, List.length_take, List.length_drop]
      omega
    · rcases List.mem_append.mp hj with m | m
      · exact o4 j (List.mem_of_mem_take m)
      · exact o4 j (List.mem_of_mem_drop m)
theorem stOk_0 (ws : List (List Nat)) : StOk ws 0 s0 := ⟨True.intro, by decide, Nat.le_refl _, fun _ m => nomatch m⟩
theorem take_succ_get {α : Type} {l : List α} {i : Nat} {x : α} (h : l[i]? = some x) : l.take (i + 1) = l.take i ++ [x] := by
  rw [List.take_succ, h]
  rfl
theorem hist_ok {ws : List (List Nat)} {cs : List Cmd} (h : Hist ws cs) : ∀ i, i ≤ cs.length → StOk ws i (stAfter ws (cs.take i))
  | 0, _ => by rw [List.take_zero]; exact stOk_0 ws
  | i + 1, hi => by
    have hx : cs[i]? = some cs[i] := List.getElem?_eq_getElem (by omega)
    have ih := hist_ok h i (by omega)
    rw [take_succ_get hx, stAfter_snoc]
    obtain ⟨hv, hc⟩ := h.ok i _ hx
    exact stOk_bhd ih hv hc
theorem hist_last {ws : List (List Nat)} {cs : List Cmd} (h : Hist ws cs) : StOk ws 8 (stAfter ws cs) := by
  have q := hist_ok h cs.length (Nat.le_refl _)
  rw [List.take_length] at q
  exact ⟨q.ins, q.jo, Nat.le_trans q.sent h.len, q.at_⟩
theorem s3D_noL (s : S3) : noL (s3D s) = true := by
  have h1 := stD_noL s.ins
  have h2 : ∀ l : List Nat, noLs (l.map fun (i : Nat) => PyData.int i) = true := by
    intro l
    induction l with
    | nil => rfl
    | cons x r ih => rw [List.map_cons, noLs, ih]; rfl
  show (noL (.str (mkS s.sent)) && (noL (stD s.ins) && (noL (intsD s.jo) && noLs []))) = true
  rw [h1]
  show (true && (true && (noLs (s.jo.map fun (i : Nat) => PyData.int i) && true))) = true
  rw [h2]
  rfl
theorem cmdD_noL (c : Cmd) : noL (cmdD c) = true := by cases c <;> rfl
theorem noLs_map {α : Type} (f : α → PyData) (h : ∀ x, noL (f x) = true) : ∀ l : List α, noLs (l.map f) = true
  | [] => rfl
  | x :: r => by rw [List.map_cons, noLs, h x, noLs_map f h r]; rfl
end K76
namespace K76
open PySem PySem.Spec PyProof.Rows L2
/-! ### is_spelled, is_code, check_code, is_whole -/
def sp_is_spelled (K : PySem.W.Frag) : Sp := fun vs H Q _ => ∃ (w : List Nat), vs = [.str (mkS w), .int 1, .int 5] ∧ 1 ≤ w.length ∧ w.length ≤ 3 ∧ (∀ c ∈ w, c = 97 ∨ c = 98 ∨ c = 99) ∧ ∀ H2, Same H H2 → Q (.bl true) H2
theorem abc_in {c : Nat} (h : c = 97 ∨ c = 98 ∨ c = 99) : c ∈ (("abc" : Str)).cps.toList := by
  rcases h with rfl | rfl | rfl <;> decide +kernel
theorem all_rep (n : Nat) : ((List.replicate n true).all id) = true := by
  induction n with
  | zero => rfl
  | succ n ih => rw [List.replicate_succ, List.all_cons, ih]; rfl
theorem rep_snoc {α : Type} (n : Nat) (x : α) : List.replicate n x ++ [x] = List.replicate (n + 1) x := by rw [List.replicate_succ']
abbrev Ok_is_spelled (P : Program) (w : World) (K : PySem.W.Frag) (mg : Str → Option Value) (base : Heap) : Prop := Have P w K mg base CX0 "is_spelled" 1 ["value", "low", "high"] (sp_is_spelled K)
theorem ok_is_spelled {P : Program} {w : World} {K : PySem.W.Frag} {mg : Str → Option Value} {base : Heap} (T : Txt K mg) : Ok_is_spelled P w K mg base := by
  obtain ⟨t_LETTERS, c_LETTERS⟩ := T.c_LETTERS
  refine have_of T.d_is_spelled (fun _ _ _ _ _ _ us hl => match us, hl with | [_, _, _], _ => rfl) sc_is_spelled (fun vs H Q E h => ?_) fun f cdv A outer s H vs Q E hr h => ?_
  · obtain ⟨w, rfl, _⟩ := h
    rfl
  have hu := hu_of hr
  have hu65 := hu65_of hr
  obtain ⟨w, rfl, h1, h3, ha, k⟩ := h
  refine ⟨_, (pss_one (ps_ret (pe_and (pe_callB (r := rIsi K) call_isi (by rfl) T.b_isinstance (by decide +kernel) (pa_cons (pv 0) (pa_cons (pe_bltn (v := .ty "str") (by rfl) T.b_str (by decide +kernel) rfl) pa_nil))) (pe_and (pe_chain op_le op_le (pv 1) (pe_callB call_len_str (by rfl) T.b_len (by decide +kernel) (pa_cons (pv 0) pa_nil)) (pv 2)) (pe_one (pe_callB (r := rAll K) (cr_all rfl) (by rfl) T.b_all (by decide +kernel) (pa_cons (pe_lc (own := [("letter", 3)]) (g := gName 3) rfl sc_is_spelled.nd (pi_str (pv 0)) (blkOk_by (by kernel_rfl)) (fun _ _ _ _ _ => (pg_name (i := 3) sc_is_spelled.nd rfl (Or.inl rfl))) (fun _ _ _ _ _ => pts_nil) (fun _ _ _ _ _ => (pe_cmpR op_in_sign (pv 3) (pe_glob (v := .str "abc") (by rfl) c_LETTERS ⟨_, rfl⟩) (by rfl)))) pa_nil))))))), ?_⟩
  have hl := mkS_len w
  refine ⟨_, rfl, _, _, _, _, true, rfl, .ty _, .base (.str _), kit_ty (by decide +kernel), true, rfl, iteT ?_⟩
  refine ⟨_, rfl, _, rfl, _, rfl, small (by rw [hl]; omega), _, _, rfl, rfl, _, rfl, iteD (by rw [hl]; omega) ⟨_, rfl, _, _, rfl, rfl, _, rfl, iteD (by rw [hl]; omega) ?_⟩⟩
  refine ⟨_, rfl, _, rfl, fun D hD => lc_map (walk_str (z := mkS w)) (by show (mkS w).length ≤ _; rw [hl]; omega) hD gm_name (fun i acc _ => acc = List.replicate i (V.bl true)) (fun _ _ _ _ _ r => r) rfl (fun _ _ => trivial) ?_ ?_⟩
  · rintro i x H1 H2 acc hi s1 rfl _ ⟨rfl, c, hc, rfl⟩ Ny ky
    have hm : c ∈ w := by
      have q : w.toArray[i]? = some c := hc
      rw [List.getElem?_toArray] at q
      exact List.mem_of_getElem? q
    refine ⟨rfl, _, rfl, c, _, rfl, rfl, ?_⟩
    rw [decide_eq_true (abc_in (ha c hm))]
    exact ky _ _ (Same.refl _) (rep_snoc i _)
  · rintro acc H1 s1 rfl hd _
    refine ⟨D, List.replicate (mkS w).cps.size true, rfl, SqL.of (by rw [List.map_replicate]; exact hd), ?_⟩
    rw [all_rep]
    exact k _ s1

def sp_is_code (K : PySem.W.Frag) : Sp := fun vs H Q _ => ∃ (a : Addr) (ws : List (List Nat)), vs = [.ref a] ∧ SqT K H a (wV ws) ∧ OkC ws ∧ ∀ H2, Same H H2 → Q (.bl true) H2
theorem cutV_take (xs : List V) (i : Nat) (h : i ≤ xs.length) : cutV xs none (some (i : Int)) = xs.take i := by
  unfold cutV
  rw [HT.sIx_none, HT.sIx_nat, List.drop_zero, Nat.sub_zero, Nat.min_eq_left h]
theorem take_no {xs : List (List Nat)} (nd : xs.Nodup) {i : Nat} {w : List Nat} (h : xs[i]? = some w) : w ∉ xs.take i := by
  intro m
  obtain ⟨j, hj⟩ := List.mem_iff_getElem?.mp m
  have lj : j < i := by
    have q := (List.getElem?_eq_some_iff.mp hj).1
    rw [List.length_take] at q
    omega
  rw [List.getElem?_take_of_lt lj] at hj
  have q := nd_ix nd h hj
  omega
theorem inV_str {x : List Nat} : ∀ {xs : List (List Nat)}, x ∉ xs → inV (.str (mkS x)) (wV xs) = false
  | [], _ => rfl
  | y :: ys, h => by
    have h1 : ¬ x = y := fun e => h (by rw [e]; exact List.mem_cons_self)
    have h2 := inV_str (x := x) (xs := ys) fun m => h (List.mem_cons_of_mem _ m)
    unfold inV at h2 ⊢
    rw [show wV (y :: ys) = .str (mkS y) :: wV ys from rfl, List.any_cons, h2, Bool.or_false]
    show (mkS y == mkS x) = false
    rw [beq_eq_false_iff_ne]
    exact fun e => h1 (mkS_inj e).symm
theorem flat_wV : ∀ ws : List (List Nat), (wV ws).all flatV = true
  | [] => rfl
  | _ :: ws => by rw [show wV (_ :: ws) = _ :: wV ws from rfl, List.all_cons, flat_wV ws]; rfl
abbrev Ok_is_code (P : Program) (w : World) (K : PySem.W.Frag) (mg : Str → Option Value) (base : Heap) : Prop := Have P w K mg base CX0 "is_code" 2 ["value"] (sp_is_code K)
theorem ok_is_code {P : Program} {w : World} {K : PySem.W.Frag} {mg : Str → Option Value} {base : Heap} (T : Txt K mg) (h_is_spelled : Ok_is_spelled P w K mg base) : Ok_is_code P w K mg base := by
  obtain ⟨f_is_spelled, fd_is_spelled, g_is_spelled, kp_is_spelled, b_is_spelled, G_is_spelled⟩ := h_is_spelled
  obtain ⟨t_MOST_WORDS, c_MOST_WORDS⟩ := T.c_MOST_WORDS
  obtain ⟨t_LONGEST_WORD, c_LONGEST_WORD⟩ := T.c_LONGEST_WORD
  refine have_of T.d_is_code (fun _ _ _ _ _ _ us hl => match us, hl with | [_], _ => rfl) sc_is_code (fun vs H Q E h => ?_) fun f cdv A outer s H vs Q E hr h => ?_
  · obtain ⟨a, ws, rfl, _⟩ := h
    rfl
  have hu := hu_of hr
  have hu65 := hu65_of hr
  obtain ⟨a, ws, rfl, hS, ok, k⟩ := h
  have hlen : (wV ws).length = ws.length := List.length_map ..
  have hl := ok.len
  refine ⟨_, (pss_cons (ps_if (PW.pt (pw_or (pt_not (pt_val (pe_callB (r := rIsi K) call_isi (by rfl) T.b_isinstance (by decide +kernel) (pa_cons (pv 0) (pa_cons (pe_bltn (v := .ty "tuple") (by rfl) T.b_tuple (by decide +kernel) rfl) pa_nil))))) (pw_or1 (pt_cmpR op_gt (pe_callB (r := rLenQ K) call_lenQ (by rfl) T.b_len (by decide +kernel) (pa_cons (pv 0) pa_nil)) (pe_glob (v := .int 6) (by rfl) c_MOST_WORDS ⟨_, rfl⟩) (nomark _))))) (pss_one (ps_ret pe_bl)) pss_nil)
 (pss_cons (ps_if (pt_not (pt_val (pe_callB (r := rAll K) (cr_all rfl) (by rfl) T.b_all (by decide +kernel) (pa_cons (pe_lc (own := [("word", 2)]) (g := gName 2) rfl sc_is_code.nd (pi_tupK (K := K) rfl (pv 0)) (blkOk_by (by kernel_rfl)) (fun _ _ _ _ _ => (pg_name (i := 2) sc_is_code.nd rfl (Or.inl rfl))) (fun _ _ _ _ _ => pts_nil) (fun _ _ _ _ _ => (pe_call G_is_spelled (hr.mono (by decide)) (by rfl) g_is_spelled kp_is_spelled b_is_spelled .nil pass0 (pa_cons (pv 2) (pa_cons pe_int (pa_cons (pe_glob (v := .int 5) (by rfl) c_LONGEST_WORD ⟨_, rfl⟩) pa_nil)))))) pa_nil)))) (pss_one (ps_ret pe_bl)) pss_nil)
 (pss_one (ps_ret (pe_callB (r := rAll K) (cr_all rfl) (by rfl) T.b_all (by decide +kernel) (pa_cons (pe_lc (own := [("at", 1), ("word", 2)]) (g := gTup K 2 (gCons (gName 1) (gCons (gName 2) gNil))) rfl sc_is_code.nd (pi_enumT (by rfl) T.b_enumerate (pa_cons (pv 0) pa_nil)) (blkOk_by (by kernel_rfl)) (fun _ _ _ _ _ => (pg_tup rfl (pgs_cons (pg_name (i := 1) sc_is_code.nd rfl (Or.inl rfl)) (pgs_cons (pg_name (i := 2) sc_is_code.nd rfl (Or.inl rfl)) pgs_nil)))) (fun _ _ _ _ _ => pts_nil) (fun _ _ _ _ _ => (pe_cmpR (r := rIn K true) op_notIn_seq (pv 2) (pe_slice (r := rSlA K) sl_tupA (pv 0) po_none (po_some (pv 1))) (by rfl)))) pa_nil)))))), ?_⟩
  refine ⟨_, rfl, _, _, _, _, true, rfl, .ty _, SqT.ty hS, kit_ty (by decide +kernel), true, rfl, _, rfl, _, _, rfl, .inr hS, _, _, rfl, rfl, _, rfl, iteDF (by rw [hlen]; omega) ?_⟩
  refine ⟨_, rfl, a, rfl, ⟨_, hS⟩, fun D hD => lc_map (walk_tup (a := a) (xs := wV ws)) (by rw [hlen]; omega) hD gm_name (fun i acc _ => acc = List.replicate i (V.bl true)) (fun _ _ _ _ _ r => r) rfl (fun H2 s => Same.sqt s hS) ?_ ?_⟩
  · rintro i x H1 H2 acc hi s1 rfl _ ⟨rfl, hx⟩ Ny ky
    obtain ⟨w, hw, rfl⟩ := wV_get' hx
    have hm := List.mem_of_getElem? hw
    exact ⟨rfl, _, rfl, w, rfl, ok.low w hm, ok.high w hm, ok.abc w hm, fun H3 s3 => ky _ _ s3 (rep_snoc i _)⟩
  rintro acc H1 s1 rfl hd _
  refine ⟨D, List.replicate (wV ws).length true, rfl, SqL.of (by rw [List.map_replicate]; exact hd), true, by rw [all_rep], ?_⟩
  have hS1 := Same.sqt s1 hS
  refine ⟨_, rfl, a, _, rfl, hS1, fun D2 hD2 => lc_map (walk_n (n := (wV ws).length) (f := fun i => (wV ws)[i]?) (Gd := fun H => SqT K H a (wV ws))) (by rw [hlen]; omega) hD2 gm_pair (fun i acc _ => acc = List.replicate i (V.bl true)) (fun _ _ _ _ _ r => r) rfl (fun H2 s => Same.sqt s hS1) ?_ ?_⟩
  · rintro i x H3 H4 acc hi s3 rfl _ ⟨T0, y, z, rfl, hT, rfl, e1, e2⟩ Ny ky
    cases e1
    obtain ⟨w, hw, rfl⟩ := wV_get' e2
    have s34 : Same H3 (upd H3 T0 (.tup [.int (i : Nat), .str (mkS w)])) := Same.new hT
    have hS4 : SqT K (upd H3 T0 (.tup [.int (i : Nat), .str (mkS w)])) a (wV ws) := Same.sqt s34 (Same.sqt s3 hS1)
    refine ⟨T0, _, rfl, SqT.of upd_same, rfl, _, _, rfl, _, _, rfl, rfl, rfl, _, rfl, _, rfl, _, rfl, _, rfl, a, wV ws, rfl, hS4, fun hw2 => ?_, fun _ p hp => ?_⟩
    · exfalso
      have q := hw2.2
      rw [HT.sIx_nat] at q
      omega
    · refine ⟨p, _, rfl, .inr (SqT.of upd_same), rfl, ?_, ?_⟩
      · rw [cutV_take _ _ (Nat.le_of_lt hi), ← List.map_take]
        exact flat_wV _
      · rw [cutV_take _ _ (Nat.le_of_lt hi), ← List.map_take, if_pos rfl, inV_str (take_no ok.nd hw)]
        exact ky _ _ (s34.then hp) (rep_snoc i _)
  · rintro acc H3 s3 rfl hd2 _
    refine ⟨D2, List.replicate (wV ws).length true, rfl, SqL.of (by rw [List.map_replicate]; exact hd2), ?_⟩
    rw [all_rep]
    exact k _ (s1.trans s3)
end K76
namespace K76
open PySem PySem.Spec PyProof.Rows L2
/-! ### check_code, is_whole, is_command, sent_more -/
def sp_check_code (K : PySem.W.Frag) : Sp := fun vs H Q _ => ∃ (a : Addr) (ws : List (List Nat)), vs = [.ref a] ∧ SqT K H a (wV ws) ∧ OkC ws ∧ ∀ H2, Same H H2 → Q .non H2
abbrev Ok_check_code (P : Program) (w : World) (K : PySem.W.Frag) (mg : Str → Option Value) (base : Heap) : Prop := Have P w K mg base CX0 "check_code" 3 ["code"] (sp_check_code K)
theorem ok_check_code {P : Program} {w : World} {K : PySem.W.Frag} {mg : Str → Option Value} {base : Heap} (T : Txt K mg) (h_is_code : Ok_is_code P w K mg base) : Ok_check_code P w K mg base := by
  obtain ⟨f_is_code, fd_is_code, g_is_code, kp_is_code, b_is_code, G_is_code⟩ := h_is_code
  refine have_of T.d_check_code (fun _ _ _ _ _ _ us hl => match us, hl with | [_], _ => rfl) sc_check_code (fun vs H Q E h => ?_) fun f cdv A outer s H vs Q E hr h => ?_
  · obtain ⟨a, ws, rfl, _⟩ := h
    rfl
  have hu := hu_of hr
  have hu65 := hu65_of hr
  obtain ⟨a, ws, rfl, hS, ok, k⟩ := h
  refine ⟨_, (pss_one (ps_if (pt_not (pt_val (pe_call G_is_code (hr.mono (by decide)) (by rfl) g_is_code kp_is_code b_is_code .nil pass0 (pa_cons (pv 0) pa_nil)))) (pss_one ps_never) pss_nil)), ?_⟩
  exact ⟨_, rfl, a, ws, rfl, hS, ok, fun H2 s => ⟨true, rfl, k H2 s⟩⟩
/-- an integer within bounds, no bool -/
def isW : PyData → Int → Int → Bool
  | .int i, lo, hi => decide (lo ≤ i) && decide (i ≤ hi)
  | _, _, _ => false
def sp_is_whole (K : PySem.W.Frag) : Sp := fun vs H Q _ => ∃ (v : V) (d : PyData) (lo hi : Int), vs = [v, .int lo, .int hi] ∧ Dp K H v d ∧ Q (.bl (isW d lo hi)) H
abbrev Ok_is_whole (P : Program) (w : World) (K : PySem.W.Frag) (mg : Str → Option Value) (base : Heap) : Prop := Have P w K mg base CX0 "is_whole" 1 ["value", "least", "most"] (sp_is_whole K)
theorem ok_is_whole {P : Program} {w : World} {K : PySem.W.Frag} {mg : Str → Option Value} {base : Heap} (T : Txt K mg) : Ok_is_whole P w K mg base := by
  refine have_of T.d_is_whole (fun _ _ _ _ _ _ us hl => match us, hl with | [_, _, _], _ => rfl) sc_is_whole (fun vs H Q E h => ?_) fun f cdv A outer s H vs Q E hr h => ?_
  · obtain ⟨v, d, lo, hi, rfl, _⟩ := h
    rfl
  have hu := hu_of hr
  have hu65 := hu65_of hr
  obtain ⟨v, d, lo, hi, rfl, hd, k⟩ := h
  refine ⟨_, (pss_one (ps_ret (pe_and (pe_callB (r := rIsi K) call_isi (by rfl) T.b_isinstance (by decide +kernel) (pa_cons (pv 0) (pa_cons (pe_bltn (v := .ty "int") (by rfl) T.b_int (by decide +kernel) rfl) pa_nil))) (pe_and (pe_not (pe_callB (r := rIsi K) call_isi (by rfl) T.b_isinstance (by decide +kernel) (pa_cons (pv 0) (pa_cons (pe_bltn (v := .ty "bool") (by rfl) T.b_bool (by decide +kernel) rfl) pa_nil)))) (pe_one (pe_chain op_le op_le (pv 1) (pv 0) (pv 2))))))), ?_⟩
  refine ⟨_, rfl, _, _, _, _, _, rfl, .ty _, hd.ty, kit_ty (kit_int d), _, rfl, ?_⟩
  cases d with
  | int i =>
    cases hd
    refine ⟨_, rfl, _, _, _, _, _, rfl, .ty _, .base (.int i), kit_ty (kit_bool (.int i)), _, rfl, _, rfl, ?_⟩
    refine ⟨_, rfl, _, rfl, _, _, rfl, rfl, _, rfl, ?_⟩
    by_cases c : lo ≤ i
    · refine iteD c ⟨_, rfl, _, _, rfl, rfl, ?_⟩
      have e : isW (.int i) lo hi = decide (i ≤ hi) := by
        show (decide (lo ≤ i) && decide (i ≤ hi)) = _
        rw [decide_eq_true c, Bool.true_and]
      rw [e] at k
      exact k
    · refine iteDF c ?_
      have e : isW (.int i) lo hi = false := by
        show (decide (lo ≤ i) && decide (i ≤ hi)) = _
        rw [decide_eq_false c, Bool.false_and]
      rw [e] at k
      exact k
  | bool b =>
    refine ⟨_, rfl, _, _, _, _, _, rfl, .ty _, hd.ty, kit_ty (kit_bool (.bool b)), _, rfl, _, rfl, ?_⟩
    exact k
  | none => exact k
  | str x => exact k
  | list xs => exact k
  | tuple xs => exact k
  | dict kvs => exact k
/-- a command for a code of n words -/
def cmdB (n : Nat) : PyData → Bool
  | .tuple (.str x :: r) => if x = "step" ∨ x = "join" then r.length == 0 else match r with
    | [d] => if x = "send" then isW d 0 ((n : Int) - 1) else decide (x = "leave") && isW d 0 5
    | _ => false
  | _ => false
def sp_is_command (K : PySem.W.Frag) : Sp := fun vs H Q _ => ∃ (v : V) (d : PyData) (a : Addr) (ws : List (List Nat)), vs = [v, .ref a] ∧ Dp K H v d ∧ SqT K H a (wV ws) ∧ ∀ H2, Same H H2 → Q (.bl (cmdB ws.length d)) H2
theorem str2 (x a b : Str) : inV (.str x) [.str a, .str b] = decide (x = a ∨ x = b) := by
  show ((a == x) || ((b == x) || false)) = _
  rw [Bool.or_false]
  by_cases h1 : x = a
  · subst h1
    simp
  · by_cases h2 : x = b
    · subst h2
      simp
    · have e1 : (a == x) = false := beq_eq_false_iff_ne.mpr (Ne.symm h1)
      have e2 : (b == x) = false := beq_eq_false_iff_ne.mpr (Ne.symm h2)
      rw [e1, e2]
      simp [h1, h2]
abbrev Ok_is_command (P : Program) (w : World) (K : PySem.W.Frag) (mg : Str → Option Value) (base : Heap) : Prop := Have P w K mg base CX0 "is_command" 2 ["value", "code"] (sp_is_command K)
theorem ok_is_command {P : Program} {w : World} {K : PySem.W.Frag} {mg : Str → Option Value} {base : Heap} (T : Txt K mg) (h_is_whole : Ok_is_whole P w K mg base) : Ok_is_command P w K mg base := by
  obtain ⟨f_is_whole, fd_is_whole, g_is_whole, kp_is_whole, b_is_whole, G_is_whole⟩ := h_is_whole
  obtain ⟨t_MOST_LISTENERS, c_MOST_LISTENERS⟩ := T.c_MOST_LISTENERS
  refine have_of T.d_is_command (fun _ _ _ _ _ _ us hl => match us, hl with | [_, _], _ => rfl) sc_is_command (fun vs H Q E h => ?_) fun f cdv A outer s H vs Q E hr h => ?_
  · obtain ⟨v, d, a, ws, rfl, _⟩ := h
    rfl
  have hu := hu_of hr
  have hu65 := hu65_of hr
  obtain ⟨v, d, a, ws, rfl, hd, hS, k⟩ := h
  refine ⟨_, (pss_cons (ps_if (PW.pt (pw_or (pt_not (pt_val (pe_callB (r := rIsi K) call_isi (by rfl) T.b_isinstance (by decide +kernel) (pa_cons (pv 0) (pa_cons (pe_bltn (v := .ty "tuple") (by rfl) T.b_tuple (by decide +kernel) rfl) pa_nil))))) (pw_or (pt_not (pt_truth (pv 0) (by intro _; rfl))) (pw_or1 (pt_not (pt_val (pe_callB (r := rIsi K) call_isi (by rfl) T.b_isinstance (by decide +kernel) (pa_cons (pe_ix (r := rIxT K) ix_tup (pv 0) pe_int (fun _ _ => rfl)) (pa_cons (pe_bltn (v := .ty "str") (by rfl) T.b_str (by decide +kernel) rfl) pa_nil))))))))) (pss_one (ps_ret pe_bl)) pss_nil)
 (pss_cons (ps_if (pt_cmpR (r := rIn K false) op_in_seq (pe_ix (r := rIxT K) ix_tup (pv 0) pe_int (fun _ _ => rfl)) (pe_tup (pa_cons pe_str (pa_cons pe_str pa_nil))) (by rfl)) (pss_one (ps_ret (pe_cmpR op_eq (pe_callB (r := rLenQ K) call_lenQ (by rfl) T.b_len (by decide +kernel) (pa_cons (pv 0) pa_nil)) pe_int (nomark _)))) pss_nil)
 (pss_cons (ps_if (pt_cmpR op_ne (pe_callB (r := rLenQ K) call_lenQ (by rfl) T.b_len (by decide +kernel) (pa_cons (pv 0) pa_nil)) pe_int (nomark _)) (pss_one (ps_ret pe_bl)) pss_nil)
 (pss_cons (ps_if (pt_cmpR op_eq (pe_ix (r := rIxT K) ix_tup (pv 0) pe_int (fun _ _ => rfl)) pe_str (nomark _)) (pss_one (ps_ret (pe_call G_is_whole (hr.mono (by decide)) (by rfl) g_is_whole kp_is_whole b_is_whole .nil pass0 (pa_cons (pe_ix (r := rIxT K) ix_tup (pv 0) pe_int (fun _ _ => rfl)) (pa_cons pe_int (pa_cons (pe_op op_sub (pe_callB (r := rLenQ K) call_lenQ (by rfl) T.b_len (by decide +kernel) (pa_cons (pv 1) pa_nil)) pe_int) pa_nil)))))) pss_nil)
 (pss_one (ps_ret (pe_and (pe_cmpR op_eq (pe_ix (r := rIxT K) ix_tup (pv 0) pe_int (fun _ _ => rfl)) pe_str (nomark _)) (pe_one (pe_call G_is_whole (hr.mono (by decide)) (by rfl) g_is_whole kp_is_whole b_is_whole .nil pass0 (pa_cons (pe_ix (r := rIxT K) ix_tup (pv 0) pe_int (fun _ _ => rfl)) (pa_cons pe_int (pa_cons (pe_op op_sub (pe_glob (v := .int 6) (by rfl) c_MOST_LISTENERS ⟨_, rfl⟩) pe_int) pa_nil)))))))))))), ?_⟩
  refine ⟨_, rfl, _, _, _, _, _, rfl, .ty _, hd.ty, kit_ty (kit_tuple d), _, rfl, ?_⟩
  cases d with
  | int i => exact k H (Same.refl H)
  | bool b => exact k H (Same.refl H)
  | none => exact k H (Same.refl H)
  | str x => exact k H (Same.refl H)
  | list xs => exact k H (Same.refl H)
  | dict kvs => exact k H (Same.refl H)
  | tuple ds =>
    obtain ⟨p, xs, rfl, hp, ha⟩ := hd.tupI
    refine ⟨_, rfl, _, .inr (.inl ⟨xs, hp, rfl⟩), ?_⟩
    cases ha with
    | nil => exact k H (Same.refl H)
    | @cons v vs d ds h1 h2 =>
      refine ⟨_, rfl, p, v :: vs, 0, v, rfl, rfl, hp, atI_nat (j := 0) rfl, _, _, _, _, _, rfl, .ty _, h1.ty, kit_ty (kit_str d), _, rfl, ?_⟩
      cases d with
      | int i => exact k H (Same.refl H)
      | bool b => exact k H (Same.refl H)
      | none => exact k H (Same.refl H)
      | list xs => exact k H (Same.refl H)
      | tuple xs => exact k H (Same.refl H)
      | dict kvs => exact k H (Same.refl H)
      | str x =>
        cases h1
        have hl2 := h2.length
        have at0 : atI (V.str x :: vs) 0 = some (.str x) := atI_nat (j := 0) rfl
        refine ⟨_, rfl, p, _, 0, _, rfl, rfl, hp, at0, by show 2 ≤ sizeLine; decide, fun q hq => ?_⟩
        have s1 : Same H (upd H q (.tup [.str "step", .str "join"])) := Same.new hq
        refine ⟨q, _, rfl, .inr (SqT.of upd_same), rfl, rfl, _, rfl, ?_⟩
        rw [str2, if_neg Bool.false_ne_true]
        have hp1 := Same.sqt s1 hp
        by_cases c1 : x = "step" ∨ x = "join"
        · refine iteD c1 ⟨_, rfl, p, _, rfl, .inr hp1, rfl, ?_⟩
          have e : decide (V.int ((V.str x :: vs).length : Nat) = V.int 1) = cmdB ws.length (.tuple (.str x :: ds)) := by
            show _ = if x = "step" ∨ x = "join" then ds.length == 0 else _
            rw [if_pos c1, List.length_cons, ← hl2]
            cases vs with
            | nil => rfl
            | cons _ r =>
              rw [List.length_cons, decide_eq_false (fun z => by injection z; omega)]
              rfl
          rw [e]
          exact k _ s1
        · refine iteDF c1 ⟨_, rfl, p, _, rfl, .inr hp1, rfl, _, rfl, ?_⟩
          by_cases c2 : vs.length = 1
          · obtain ⟨v1, rfl⟩ := List.length_eq_one_iff.mp c2
            cases h2 with
            | @cons _ _ d1 _ h3 h3b =>
              cases h3b
              refine iteNS rfl ⟨_, rfl, p, _, 0, _, rfl, rfl, hp1, at0, rfl, _, rfl, ?_⟩
              have at1 : atI [V.str x, v1] 1 = some v1 := atI_nat (j := 1) rfl
              have h4 := Dp.same s1 h3
              by_cases c3 : x = "send"
              · have d3 : V.str x = V.str "send" := by rw [c3]
                refine iteD d3 ⟨_, rfl, p, _, 1, _, rfl, rfl, hp1, at1, _, rfl, a, _, rfl, .inr (Same.sqt s1 hS), _, _, rfl, rfl, v1, d1, 0, _, rfl, h4, ?_⟩
                have e : cmdB ws.length (.tuple [.str x, d1]) = isW d1 0 ((((wV ws).length : Nat) : Int) - 1) := by
                  show (if x = "step" ∨ x = "join" then _ else if x = "send" then _ else _) = _
                  rw [if_neg c1, if_pos c3, List.length_map]
                rw [← e]
                exact k _ s1
              · have d3 : ¬ V.str x = V.str "send" := fun z => c3 (by injection z)
                refine iteDF d3 ⟨_, rfl, p, _, 0, _, rfl, rfl, hp1, at0, rfl, _, rfl, ?_⟩
                have e : cmdB ws.length (.tuple [.str x, d1]) = (decide (x = "leave") && isW d1 0 5) := by
                  show (if x = "step" ∨ x = "join" then _ else if x = "send" then _ else _) = _
                  rw [if_neg c1, if_neg c3]
                by_cases c4 : x = "leave"
                · have d4 : V.str x = V.str "leave" := by rw [c4]
                  rw [decide_eq_true c4, Bool.true_and] at e
                  refine iteD d4 ⟨_, rfl, p, _, 1, _, rfl, rfl, hp1, at1, _, _, rfl, rfl, v1, d1, 0, 5, rfl, h4, ?_⟩
                  rw [← e]
                  exact k _ s1
                · have d4 : ¬ V.str x = V.str "leave" := fun z => c4 (by injection z)
                  rw [decide_eq_false c4, Bool.false_and] at e
                  refine iteDF d4 ?_
                  rw [← e]
                  exact k _ s1
          · refine iteDN (fun z => c2 (by injection z with z; rw [List.length_cons] at z; omega)) ?_
            have e : cmdB ws.length (.tuple (.str x :: ds)) = false := by
              show (if x = "step" ∨ x = "join" then _ else _) = _
              rw [if_neg c1]
              match ds, hl2 with
              | [], _ => rfl
              | [_], z => exact absurd z c2
              | _ :: _ :: _, _ => rfl
            rw [← e]
            exact k _ s1
end K76
namespace K76
open PySem PySem.Spec PyProof.Rows L2
/-! ### sent_more, behind -/
def sp_sent_more (K : PySem.W.Frag) : Sp := fun vs H Q _ => ∃ (a : Addr) (ws : List (List Nat)) (l : List Nat) (i k : Nat), vs = [.ref a, .str (mkS l), .int (i : Nat), .int (k : Nat)] ∧ SqT K H a (wV ws) ∧ i < ws.length ∧ k < (wd ws i).length ∧ OkC ws ∧ l.length ≤ 1000 ∧
  ∀ (p : Addr) (sv : V) (H2 : Hp), Same H H2 → SqT K H2 p [.str (mkS (l ++ [letterOf ws i k])), sv] → Dp K H2 sv (stD (adv ws i (k + 1))) → Q (.ref p) H2
theorem atI_w {ws : List (List Nat)} {i : Nat} (h : i < ws.length) : atI (wV ws) (i : Int) = some (.str (mkS (wd ws i))) := atI_nat (wV_get (wd_get h))
theorem atI_l {ws : List (List Nat)} {i k : Nat} (h : k < (wd ws i).length) : atI (mkS (wd ws i)).cps.toList (k : Int) = some (letterOf ws i k) := atI_nat (letter_get h)
theorem wd_len {ws : List (List Nat)} (ok : OkC ws) {i : Nat} (h : i < ws.length) : (mkS (wd ws i)).length ≤ sizeLine := by
  rw [mkS_len]
  have := ok.high _ (wd_mem h)
  exact small (by omega)
abbrev Ok_sent_more (P : Program) (w : World) (K : PySem.W.Frag) (mg : Str → Option Value) (base : Heap) : Prop := Have P w K mg base CX0 "sent_more" 1 ["code", "sent", "word", "many"] (sp_sent_more K)
theorem ok_sent_more {P : Program} {w : World} {K : PySem.W.Frag} {mg : Str → Option Value} {base : Heap} (T : Txt K mg) : Ok_sent_more P w K mg base := by
  refine have_of T.d_sent_more (fun _ _ _ _ _ _ us hl => match us, hl with | [_, _, _, _], _ => rfl) sc_sent_more (fun vs H Q E h => ?_) fun f cdv A outer s H vs Q E hr h => ?_
  · obtain ⟨a, ws, l, i, j, rfl, _⟩ := h
    rfl
  have hu := hu_of hr
  have hu65 := hu65_of hr
  obtain ⟨a, ws, l, i, j, rfl, hS, hi, hk, ok, hl, k⟩ := h
  refine ⟨_, (pss_cons (ps_set (i := 4) sc_sent_more.nd rfl (Or.inl rfl) (pe_ifExp (pt_cmpR op_lt (pe_op op_add (pv 3) pe_int) (pe_callB call_len_str (by rfl) T.b_len (by decide +kernel) (pa_cons (pe_ix (r := rIxT K) ix_tup (pv 0) (pv 2) (fun _ _ => rfl)) pa_nil)) (nomark _)) (pe_tup (pa_cons (pv 2) (pa_cons (pe_op op_add (pv 3) pe_int) pa_nil))) pe_non))
 (pss_one (ps_ret (pe_tup (pa_cons (pe_op op_add_str (pv 1) (pe_ix ix_str (pe_ix (r := rIxT K) ix_tup (pv 0) (pv 2) (fun _ _ => rfl)) (pv 3) (fun _ _ => rfl))) (pa_cons (pv 4) pa_nil)))))), ?_⟩
  have hw := mkS_len (wd ws i)
  refine ⟨_, rfl, _, _, rfl, rfl, _, rfl, _, rfl, a, _, _, _, rfl, rfl, hS, atI_w hi, _, rfl, wd_len ok hi, _, _, rfl, rfl, _, rfl, ?_⟩
  have fin : ∀ (H1 : Hp) (sv : V), Same H H1 → Dp K H1 sv (stD (adv ws i (j + 1))) → (∀ p H2, Same H1 H2 → H1 p = none → H2 = upd H1 p (.tup [.str (mkS (l ++ [letterOf ws i j])), sv]) → Q (.ref p) H2) := by
    intro H1 sv s1 hd p H2 s2 hp e
    subst e
    exact k p sv _ (s1.trans s2) (SqT.of upd_same) (Dp.same s2 hd)
  by_cases c : ((j : Int) + 1) < ((mkS (wd ws i)).length : Int)
  · have c2 : j + 1 < (wd ws i).length := by rw [hw] at c; omega
    refine iteD c ⟨_, rfl, _, rfl, _, _, rfl, rfl, by show 2 ≤ sizeLine; decide, fun t ht => ?_⟩
    have e : adv ws i (j + 1) = some (i, j + 1) := if_pos c2
    have hd : Dp K (upd H t (.tup [.int (i : Nat), .int ((j : Nat) + 1)])) (.ref t) (stD (adv ws i (j + 1))) := by
      rw [e]
      exact stD_mk (SqT.of upd_same)
    have s1 : Same H (upd H t (.tup [.int (i : Nat), .int ((j : Nat) + 1)])) := Same.new ht
    refine ⟨_, rfl, _, rfl, _, rfl, a, _, _, _, rfl, rfl, Same.sqt s1 hS, atI_w hi, _, rfl, _, _, _, rfl, rfl, wd_len ok hi, atI_l hk, _, _, rfl, rfl, ?_, _, rfl, by show 2 ≤ sizeLine; decide, fun p hp => ?_⟩
    · rw [mkS_len]
      exact small (by show l.length + 1 ≤ _; omega)
    · rw [mkS_one, mkS_app]
      exact fin _ _ s1 hd p _ (Same.new hp) hp rfl
  · have c2 : ¬ j + 1 < (wd ws i).length := by rw [hw] at c; omega
    have e : adv ws i (j + 1) = none := if_neg c2
    have hd : Dp K H .non (stD (adv ws i (j + 1))) := by
      rw [e]
      exact .non
    refine iteDF c ?_
    refine ⟨_, rfl, _, rfl, _, rfl, a, _, _, _, rfl, rfl, hS, atI_w hi, _, rfl, _, _, _, rfl, rfl, wd_len ok hi, atI_l hk, _, _, rfl, rfl, ?_, _, rfl, by show 2 ≤ sizeLine; decide, fun p hp => ?_⟩
    · rw [mkS_len]
      exact small (by show l.length + 1 ≤ _; omega)
    · rw [mkS_one, mkS_app]
      exact fin _ _ (Same.refl H) hd p _ (Same.new hp) hp rfl

/-! ### NotPossible(why), behind -/
def sp_np (C : Addr) : Sp := fun vs H Q _ => ∃ (a : Addr) (z : Str), vs = [.ref a, .str z] ∧ H a = some (exo a C none) ∧ ∀ dx, H dx = none → dx ≠ a → Q .non (upd (upd H dx (exd dx [("why", .str z)])) a (exo a C (some dx)))
theorem ok_np {P : Program} {w : World} {K : PySem.W.Frag} {mg : Str → Option Value} {base : Heap} {C fI : Addr} {fd : FuncData} (NP : NPt K mg C fI fd) : FnOk P w K mg base CX0 1 fI fd ["self", "why"] (sp_np C) := by
  refine NP.F.ok sc_NP_init (fun vs H Q E h => ?_) (fun cdv A outer s H vs Q E hr h => ?_)
  · obtain ⟨a, z, rfl, _⟩ := h
    rfl
  · obtain ⟨a, z, rfl, ha, k⟩ := h
    refine ⟨_, pss_one (ps_ost (pv 0) (pv 1)), ?_⟩
    exact ⟨_, rfl, _, rfl, a, C, rfl, NP.ox, NP.nw, .inl ⟨ha, k⟩⟩
/-- a raise of NotPossible(text), as behind writes it -/
theorem np_made {C : Addr} {z : Str} {H : Hp} {E : XK} (k : ∀ d H2, Same H H2 → E (.ref C) (some d) H2) : ∀ a, H a = none → sp_np C [.ref a, .str z] (upd H a (exo a C none))
    (fun v H2 => v = .non ∧ ∃ (d : Addr) (fs : List (Str × V)), H2 a = some (exo a C (some d)) ∧ H2 d = some (exd d fs) ∧ H d = none ∧ E (.ref C) (some d) (upd (del H2 a) d (.xd fs))) (fun _ _ _ => False) := by
  intro a ha
  refine ⟨a, z, rfl, upd_same, fun d hd hda => ⟨rfl, d, _, upd_same, by rw [upd_ne hda, upd_same], by rw [upd_ne hda] at hd; exact hd, k d _ fun b o e => ?_⟩⟩
  rw [upd_ne hda] at hd
  have n1 : b ≠ d := ne_of_none e hd
  have n2 : b ≠ a := ne_of_none e ha
  rw [upd_ne n1, del_ne n2, upd_ne n2, upd_ne n1, upd_ne n2]
  exact e
def sp_behind (K : PySem.W.Frag) (C : Addr) : Sp := fun vs H Q E => ∃ (a : Addr) (ws : List (List Nat)) (sv cv : V) (s : S3) (c : Cmd), vs = [.ref a, sv, cv] ∧ SqT K H a (wV ws) ∧ OkC ws ∧ Dp K H sv (s3D s) ∧ Dp K H cv (cmdD c) ∧ ValC ws c ∧ InOk ws s.ins ∧
  s.sent.length ≤ 1000 ∧ s.jo.length ≤ 6 ∧ (canB s c = true → ∀ v H2, Same H H2 → Dp K H2 v (s3D (bhd ws s c)) → Q v H2) ∧ (canB s c = false → ∀ d H2, Same H H2 → E (.ref C) (some d) H2)

section
variable {P : Program} {w : World} {K : PySem.W.Frag} {mg : Str → Option Value} {base : Heap}
theorem have_ofX {x : Str} {st : Stmt} {N ps : List Str} {k : Nat} {sp : Sp} (d : DefIn K mg x st)
    (hb : ∀ (kV doc pm : Value) (an : Option Addr) (cdv ct : Value) (us : List Value), us.length = ps.length → bindArgs (PySem.W.fnOf x x (defArgs st) (defBody st) (defScope st) .none kV doc pm an cdv ct) ⟨us, []⟩ = pure (ps.zip us))
    (S : FnScope N ps (defScope st)) (len : ∀ vs H Q E, sp vs H Q E → vs.length = ps.length)
    (body : ∀ (f : Addr) (cdv : Value) (A : Around) (outer : List Env) (s : Shared) (H : Hp) (vs : List V) (Q : VK) (E : XK), Room k (A.deeper (envOfC x (defScope st) s.heap.objs.size f cdv)) → sp vs H Q E →
      ∃ t, PSs (cxOf (L2.CX P w) P w K mg base N x (defScope st) f cdv A outer s H E) (defBody st) t ∧ t { nx := fun _ H' => Q .non H', rt := Q } (start N vs) H) :
    Have P w K mg base (L2.CX P w) x (k + 1) ps sp := by
  obtain ⟨f, fd, g, F⟩ := d
  exact ⟨f, fd, g, F.kp, F.binds hb, F.okX S len fun cdv A outer s H vs Q E hr h => body f cdv A outer s H vs Q E hr h⟩
end
theorem sne {x y : Str} (h : ¬ x = y) : ¬ V.str x = V.str y := fun z => h (V.str.inj z)
theorem rne (a : Addr) : ¬ V.ref a = V.non := fun z => nomatch z
theorem n_ss : ¬ (("step" : Str)) = "send" := by decide +kernel
theorem n_js : ¬ (("join" : Str)) = "send" := by decide +kernel
theorem n_jt : ¬ (("join" : Str)) = "step" := by decide +kernel
theorem n_ls : ¬ (("leave" : Str)) = "send" := by decide +kernel
theorem n_lt : ¬ (("leave" : Str)) = "step" := by decide +kernel
theorem n_lj : ¬ (("leave" : Str)) = "join" := by decide +kernel
section
variable {K : PySem.W.Frag} {H : Hp}
theorem cmd2 {v : V} {x : Str} {n : Nat} (h : Dp K H v (.tuple [.str x, .int n])) : ∃ q, v = .ref q ∧ SqT K H q [.str x, .int (n : Nat)] := by
  obtain ⟨q, xs, rfl, hq, ha⟩ := h.tupI
  obtain ⟨v1, r1, rfl, h1, ha⟩ := ha.consI
  obtain ⟨v2, r2, rfl, h2, ha⟩ := ha.consI
  cases ha
  cases h1
  cases h2
  exact ⟨q, rfl, hq⟩
theorem cmd1 {v : V} {x : Str} (h : Dp K H v (.tuple [.str x])) : ∃ q, v = .ref q ∧ SqT K H q [.str x] := by
  obtain ⟨q, xs, rfl, hq, ha⟩ := h.tupI
  obtain ⟨v1, r1, rfl, h1, ha⟩ := ha.consI
  cases ha
  cases h1
  exact ⟨q, rfl, hq⟩
end
def Ok_behind (P : Program) (w : World) (K : PySem.W.Frag) (mg : Str → Option Value) (base : Heap) : Prop := ∃ C fI fd, NPt K mg C fI fd ∧ Have P w K mg base (L2.CX P w) "behind" 3 ["code", "state", "command"] (sp_behind K C)
theorem ok_behind {P : Program} {w : World} {K : PySem.W.Frag} {mg : Str → Option Value} {base : Heap} (T : Txt K mg) (h_sent_more : Ok_sent_more P w K mg base) : Ok_behind P w K mg base := by
  obtain ⟨C, fI, fd, NP⟩ := T.np
  refine ⟨C, fI, fd, NP, ?_⟩
  have G_np : FnOk P w K mg base CX0 1 fI fd ["self", "why"] (sp_np C) := ok_np NP
  have b_np : Binds K fd ["self", "why"] [] := NP.F.binds fun _ _ _ _ _ _ us hl => match us, hl with | [_, _], _ => rfl
  obtain ⟨f_sent_more, fd_sent_more, g_sent_more, kp_sent_more, b_sent_more, G_sent_more⟩ := h_sent_more
  obtain ⟨t_MOST_LISTENERS, c_MOST_LISTENERS⟩ := T.c_MOST_LISTENERS
  refine have_ofX T.d_behind (fun _ _ _ _ _ _ us hl => match us, hl with | [_, _, _], _ => rfl) sc_behind (fun vs H Q E h => ?_) fun f cdv A outer s0 H vs Q E hr h => ?_
  · obtain ⟨a, ws, sv, cv, s, c, rfl, _⟩ := h
    rfl
  have hu := hu_of hr
  obtain ⟨a, ws, sv, cv, s, c, rfl, hS, ok, hs, hc, vc, io, hl, hj, kY, kN⟩ := h
  refine ⟨_, (pss_cons (ps_asg (pv 1) (pg_tup rfl (pgs_cons (pg_name (i := 3) sc_behind.nd rfl (Or.inl rfl)) (pgs_cons (pg_name (i := 4) sc_behind.nd rfl (Or.inl rfl)) (pgs_cons (pg_name (i := 5) sc_behind.nd rfl (Or.inl rfl)) pgs_nil)))))
 (pss_cons (ps_if (pt_cmpR op_eq (pe_ix (r := rIxT K) ix_tup (pv 2) pe_int (fun _ _ => rfl)) pe_str (nomark _)) (pss_cons (ps_if (pt_cmpR op_notN (pv 4) pe_non (nomark _)) (pss_one (ps_raise rfl (takes_of rfl rfl rfl rfl) (pmk_oex NP.ox NP.iC NP.tI G_np hr b_np .nil pass0 rfl NP.g (by exact (pa_cons pe_str pa_nil))))) pss_nil)
 (pss_one (ps_ret (pe_op (r := rCatA K) op_catA (pe_call G_sent_more (hr.mono (by decide)) (by rfl) g_sent_more kp_sent_more b_sent_more .nil pass0 (pa_cons (pv 0) (pa_cons (pv 3) (pa_cons (pe_ix (r := rIxT K) ix_tup (pv 2) pe_int (fun _ _ => rfl)) (pa_cons pe_int pa_nil))))) (pe_tup (pa_cons (pv 5) pa_nil)))))) pss_nil)
 (pss_cons (ps_if (pt_cmpR op_eq (pe_ix (r := rIxT K) ix_tup (pv 2) pe_int (fun _ _ => rfl)) pe_str (nomark _)) (pss_cons (ps_if (pt_cmpR op_isN (pv 4) pe_non (nomark _)) (pss_one (ps_raise rfl (takes_of rfl rfl rfl rfl) (pmk_oex NP.ox NP.iC NP.tI G_np hr b_np .nil pass0 rfl NP.g (by exact (pa_cons pe_str pa_nil))))) pss_nil)
 (pss_one (ps_ret (pe_op (r := rCatA K) op_catA (pe_call G_sent_more (hr.mono (by decide)) (by rfl) g_sent_more kp_sent_more b_sent_more .nil pass0 (pa_cons (pv 0) (pa_cons (pv 3) (pa_cons (pe_ix (r := rIxT K) ix_tup (pv 4) pe_int (fun _ _ => rfl)) (pa_cons (pe_ix (r := rIxT K) ix_tup (pv 4) pe_int (fun _ _ => rfl)) pa_nil))))) (pe_tup (pa_cons (pv 5) pa_nil)))))) pss_nil)
 (pss_cons (ps_if (pt_cmpR op_eq (pe_ix (r := rIxT K) ix_tup (pv 2) pe_int (fun _ _ => rfl)) pe_str (nomark _)) (pss_cons (ps_if (pt_cmpR op_ge (pe_callB (r := rLenQ K) call_lenQ (by rfl) T.b_len (by decide +kernel) (pa_cons (pv 5) pa_nil)) (pe_glob (v := .int 6) (by rfl) c_MOST_LISTENERS ⟨_, rfl⟩) (nomark _)) (pss_one (ps_raise rfl (takes_of rfl rfl rfl rfl) (pmk_oex NP.ox NP.iC NP.tI G_np hr b_np .nil pass0 rfl NP.g (by exact (pa_cons pe_str pa_nil))))) pss_nil)
 (pss_one (ps_ret (pe_tup (pa_cons (pv 3) (pa_cons (pv 4) (pa_cons (pe_op (r := rCatA K) op_catA (pv 5) (pe_tup (pa_cons (pe_callB call_len_str (by rfl) T.b_len (by decide +kernel) (pa_cons (pv 3) pa_nil)) pa_nil))) pa_nil))))))) pss_nil)
 (pss_cons (ps_if (pt_cmpR op_ge (pe_ix (r := rIxT K) ix_tup (pv 2) pe_int (fun _ _ => rfl)) (pe_callB (r := rLenQ K) call_lenQ (by rfl) T.b_len (by decide +kernel) (pa_cons (pv 5) pa_nil)) (nomark _)) (pss_one (ps_raise rfl (takes_of rfl rfl rfl rfl) (pmk_oex NP.ox NP.iC NP.tI G_np hr b_np .nil pass0 rfl NP.g (by exact (pa_cons pe_str pa_nil))))) pss_nil)
 (pss_one (ps_ret (pe_tup (pa_cons (pv 3) (pa_cons (pv 4) (pa_cons (pe_op (r := rCatA K) op_catA (pe_slice (r := rSlA K) sl_tupA (pv 5) po_none (po_some (pe_ix (r := rIxT K) ix_tup (pv 2) pe_int (fun _ _ => rfl)))) (pe_slice (r := rSlA K) sl_tupA (pv 5) (po_some (pe_op op_add (pe_ix (r := rIxT K) ix_tup (pv 2) pe_int (fun _ _ => rfl)) pe_int)) po_none)) pa_nil))))))))))), ?_⟩
  obtain ⟨p, iv, ja, rfl, hp, hi, hja⟩ := s3D_inv hs
  refine ⟨_, rfl, p, _, rfl, hp, rfl, _, _, rfl, _, _, rfl, _, _, rfl, rfl, ?_⟩
  have jl : (nV s.jo).length = s.jo.length := List.length_map ..
  -- a letter more: the pair that the call gave, and what listens
  have more : ∀ (i k : Nat) (Q1 : VK) (p2 : Addr) (sv2 : V) (H2 : Hp) (t : Addr), Same H H2 → SqT K H2 p2 [.str (mkS (s.sent ++ [letterOf ws i k])), sv2] → Dp K H2 sv2 (stD (adv ws i (k + 1))) → H2 t = none →
      (∀ v H3, Same H H3 → Dp K H3 v (s3D ⟨s.sent ++ [letterOf ws i k], adv ws i (k + 1), s.jo⟩) → Q1 v H3) → rCatA K (.ref p2) (.ref t) (upd H2 t (.tup [.ref ja])) Q1 := by
    intro i k Q1 p2 sv2 H2 t s2 h1 h2 ht kk
    refine catA_of (Same.sqt (Same.new ht) h1) (SqT.of upd_same) (by show 3 ≤ sizeLine; decide) fun c H3 s3 h3 => ?_
    exact kk _ _ ((s2.then ht).trans s3) (s3D_of (s := ⟨s.sent ++ [letterOf ws i k], adv ws i (k + 1), s.jo⟩) h3 (Dp.same ((Same.new ht).trans s3) h2) (Same.sqt ((s2.then ht).trans s3) hja))
  cases c with
  | send n =>
    obtain ⟨q, rfl, hq⟩ := cmd2 (x := "send") (n := n) hc
    have at0 : atI [V.str "send", V.int (n : Nat)] 0 = some (.str "send") := atI_nat (j := 0) rfl
    have at1 : atI [V.str "send", V.int (n : Nat)] 1 = some (.int (n : Nat)) := atI_nat (j := 1) rfl
    refine ⟨_, rfl, q, _, 0, _, rfl, rfl, hq, at0, rfl, _, rfl, iteD rfl ?_⟩
    cases es : s.ins with
    | none =>
      rw [es] at hi
      cases hi
      refine ⟨_, rfl, rfl, _, rfl, iteNS rfl ?_⟩
      refine ⟨_, rfl, _, rfl, _, rfl, q, _, 1, _, rfl, rfl, hq, at1, a, ws, s.sent, n, 0, rfl, hS, vc, by have := ok.low _ (wd_mem (show n < ws.length from vc)); omega, ok, hl, fun p2 sv2 H2 s2 h1 h2 => ⟨_, rfl, by show 1 ≤ sizeLine; decide, fun t ht => more n 0 _ p2 sv2 H2 t s2 h1 h2 ht fun v H3 s3 h3 => kY ?_ v H3 s3 h3⟩⟩
      show s.ins.isNone = true
      rw [es]
      rfl
    | some wk =>
      obtain ⟨i, k⟩ := wk
      rw [es] at hi
      obtain ⟨ia, rfl, hia⟩ := stD_some hi
      refine ⟨_, rfl, rfl, _, rfl, iteDN (rne ia) ?_⟩
      refine ⟨by show 1 ≤ 1000; decide, np_made fun d H2 s2 => kN ?_ d H2 s2⟩
      show s.ins.isNone = false
      rw [es]
      rfl
  | step =>
    obtain ⟨q, rfl, hq⟩ := cmd1 (x := "step") hc
    have at0 : atI [V.str "step"] 0 = some (.str "step") := atI_nat (j := 0) rfl
    refine ⟨_, rfl, q, _, 0, _, rfl, rfl, hq, at0, rfl, _, rfl, iteDF (sne n_ss) ⟨_, rfl, q, _, 0, _, rfl, rfl, hq, at0, rfl, _, rfl, iteD rfl ?_⟩⟩
    cases es : s.ins with
    | none =>
      rw [es] at hi
      cases hi
      refine ⟨_, rfl, rfl, _, rfl, iteD rfl ?_⟩
      refine ⟨by show 1 ≤ 1000; decide, np_made fun d H2 s2 => kN ?_ d H2 s2⟩
      show s.ins.isSome = false
      rw [es]
      rfl
    | some wk =>
      obtain ⟨i, k⟩ := wk
      rw [es] at hi
      obtain ⟨ia, rfl, hia⟩ := stD_some hi
      have io2 : i < ws.length ∧ 1 ≤ k ∧ k < (wd ws i).length := by
        rw [es] at io
        exact io
      refine ⟨_, rfl, rfl, _, rfl, iteDF (rne ia) ?_⟩
      refine ⟨_, rfl, _, rfl, _, rfl, ia, _, 0, _, rfl, rfl, hia, atI_nat (j := 0) rfl, _, rfl, ia, _, 1, _, rfl, rfl, hia, atI_nat (j := 1) rfl, a, ws, s.sent, i, k, rfl, hS, io2.1, io2.2.2, ok, hl, fun p2 sv2 H2 s2 h1 h2 => ⟨_, rfl, by show 1 ≤ sizeLine; decide, fun t ht => more i k _ p2 sv2 H2 t s2 h1 h2 ht fun v H3 s3 h3 => kY ?_ v H3 s3 ?_⟩⟩
      · show s.ins.isSome = true
        rw [es]
        rfl
      · have e : bhd ws s .step = ⟨s.sent ++ [letterOf ws i k], adv ws i (k + 1), s.jo⟩ := by
          unfold bhd
          rw [es]
        rw [e]
        exact h3
  | join =>
    obtain ⟨q, rfl, hq⟩ := cmd1 (x := "join") hc
    have at0 : atI [V.str "join"] 0 = some (.str "join") := atI_nat (j := 0) rfl
    refine ⟨_, rfl, q, _, 0, _, rfl, rfl, hq, at0, rfl, _, rfl, iteDF (sne n_js) ⟨_, rfl, q, _, 0, _, rfl, rfl, hq, at0, rfl, _, rfl, iteDF (sne n_jt) ⟨_, rfl, q, _, 0, _, rfl, rfl, hq, at0, rfl, _, rfl, iteD rfl ?_⟩⟩⟩
    refine ⟨_, rfl, ja, _, rfl, .inr hja, _, _, rfl, rfl, _, rfl, ?_⟩
    by_cases cj : (6 : Int) ≤ ((nV s.jo).length : Int)
    · refine iteD cj ⟨by show 1 ≤ 1000; decide, np_made fun d H2 s2 => kN ?_ d H2 s2⟩
      exact decide_eq_false (by omega)
    · refine iteDF cj ⟨_, rfl, _, rfl, _, rfl, _, rfl, _, rfl, small (by rw [mkS_len]; omega), by show 1 ≤ sizeLine; decide, fun t ht => ?_⟩
      refine catA_of (Same.sqt (Same.new ht) hja) (SqT.of upd_same) (small (by rw [jl]; show s.jo.length + 1 ≤ _; omega)) fun c H3 s3 h3 => ⟨by show 3 ≤ sizeLine; decide, fun p2 hp2 => ?_⟩
      have s4 : Same H (upd H3 p2 (.tup [.str (mkS s.sent), iv, .ref c])) := ((Same.new ht).trans s3).then hp2
      refine kY (decide_eq_true (by omega)) _ _ s4 (s3D_of (s := bhd ws s .join) (SqT.of upd_same) (Dp.same s4 hi) ?_)
      have e : nV (bhd ws s .join).jo = nV s.jo ++ [.int ((mkS s.sent).length : Nat)] := by
        show nV (s.jo ++ [s.sent.length]) = _
        rw [mkS_len]
        exact List.map_append ..
      rw [e]
      exact Same.sqt (Same.new hp2) h3
  | leave n =>
    obtain ⟨q, rfl, hq⟩ := cmd2 (x := "leave") (n := n) hc
    have at0 : atI [V.str "leave", V.int (n : Nat)] 0 = some (.str "leave") := atI_nat (j := 0) rfl
    have at1 : atI [V.str "leave", V.int (n : Nat)] 1 = some (.int (n : Nat)) := atI_nat (j := 1) rfl
    refine ⟨_, rfl, q, _, 0, _, rfl, rfl, hq, at0, rfl, _, rfl, iteDF (sne n_ls) ⟨_, rfl, q, _, 0, _, rfl, rfl, hq, at0, rfl, _, rfl, iteDF (sne n_lt) ⟨_, rfl, q, _, 0, _, rfl, rfl, hq, at0, rfl, _, rfl, iteDF (sne n_lj) ?_⟩⟩⟩
    refine ⟨_, rfl, q, _, 1, _, rfl, rfl, hq, at1, _, rfl, ja, _, rfl, .inr hja, _, _, rfl, rfl, _, rfl, ?_⟩
    by_cases cj : ((nV s.jo).length : Int) ≤ (n : Int)
    · refine iteD cj ⟨by show 1 ≤ 1000; decide, np_made fun d H2 s2 => kN ?_ d H2 s2⟩
      exact decide_eq_false (by omega)
    · refine iteDF cj ⟨_, rfl, _, rfl, _, rfl, _, rfl, q, _, 1, _, rfl, rfl, hq, at1, _, rfl, ?_⟩
      refine slA_of hja fun c1 H1 s1 h1 => ?_
      rw [cutV_to] at h1
      refine ⟨_, rfl, _, rfl, q, _, 1, _, rfl, rfl, Same.sqt s1 hq, at1, _, _, rfl, rfl, _, rfl, ?_⟩
      dsimp only [tNoPart]
      refine slA_of (Same.sqt s1 hja) fun c2 H2 s2 h2 => ?_
      rw [show ((n : Nat) : Int) + 1 = ((n + 1 : Nat) : Int) by omega, cutV_from] at h2
      refine catA_of (Same.sqt s2 h1) h2 (small ?_) fun c H3 s3 h3 => ⟨by show 3 ≤ sizeLine; decide, fun p2 hp2 => ?_⟩
      · rw [List.length_take, List.length_drop, jl]
        omega
      have s4 : Same H (upd H3 p2 (.tup [.str (mkS s.sent), iv, .ref c])) := ((s1.trans s2).trans s3).then hp2
      refine kY (decide_eq_true (by omega)) _ _ s4 (s3D_of (s := bhd ws s (.leave n)) (SqT.of upd_same) (Dp.same s4 hi) ?_)
      have e : nV (bhd ws s (.leave n)).jo = (nV s.jo).take n ++ (nV s.jo).drop (n + 1) := by
        show nV (s.jo.take n ++ s.jo.drop (n + 1)) = _
        rw [show nV (s.jo.take n ++ s.jo.drop (n + 1)) = nV (s.jo.take n) ++ nV (s.jo.drop (n + 1)) from List.map_append .., ← List.map_take, ← List.map_drop]
      rw [e]
      exact Same.sqt (Same.new hp2) h3
end K76
namespace K76
open PySem PySem.Spec PyProof.Rows L2
/-! ### the law's stream of draws -/
/-- all but the object at a stands -/
def SameX (a : Addr) (H H2 : Hp) : Prop := ∀ b o, b ≠ a → H b = some o → H2 b = some o
theorem SameX.refl (a : Addr) (H : Hp) : SameX a H H := fun _ _ _ h => h
theorem SameX.trans {a : Addr} {H H1 H2 : Hp} (x : SameX a H H1) (y : SameX a H1 H2) : SameX a H H2 := fun b o n h => y b o n (x b o n h)
theorem SameX.upd {a : Addr} {H H1 : Hp} (x : SameX a H H1) (o : HO) : SameX a H (upd H1 a o) := fun b u n h => by rw [upd_ne n]; exact x b u n h
theorem Same.x {a : Addr} {H H1 : Hp} (s : Same H H1) : SameX a H H1 := fun b o _ h => s b o h
/-- the stream at a: the numbers, the cell, how many were taken -/
def StAt (H : Hp) (a l : Addr) (ns : List Int) : Prop := ∃ (c k : Int), H a = some (.lst [.ref l, .int c, .int k]) ∧ H l = some (.lst (ns.map V.int)) ∧ l ≠ a ∧ 0 ≤ c ∧ 0 ≤ k
section
variable {H H2 : Hp} {a l p : Addr} {ns : List Int}
theorem StAt.same (s : StAt H a l ns) (e : Same H H2) : StAt H2 a l ns := by
  obtain ⟨c, k, h1, h2, r⟩ := s
  exact ⟨c, k, e _ _ h1, e _ _ h2, r⟩
theorem StAt.obj (s : StAt H a l ns) : ∃ o, H a = some o := by
  obtain ⟨c, k, h, _⟩ := s
  exact ⟨_, h⟩
theorem StAt.ne (s : StAt H a l ns) (h : H p = none) : p ≠ a := fun z => by
  obtain ⟨o, e⟩ := s.obj
  rw [z, e] at h
  cases h
theorem StAt.neT (s : StAt H a l ns) {xs : List V} (h : H p = some (.tup xs)) : p ≠ a := fun z => by
  obtain ⟨c, k, e, _⟩ := s
  rw [z, e] at h
  cases h
/-- another object is laid or changed -/
theorem StAt.put (s : StAt H a l ns) {o : HO} (h1 : p ≠ a) (h2 : p ≠ l) : StAt (upd H p o) a l ns := by
  obtain ⟨c, k, e1, e2, r⟩ := s
  exact ⟨c, k, by rw [upd_ne (Ne.symm h1)]; exact e1, by rw [upd_ne (Ne.symm h2)]; exact e2, r⟩
theorem StAt.nel (s : StAt H a l ns) (h : H p = none) : p ≠ l := fun z => by
  obtain ⟨c, k, e1, e2, r⟩ := s
  rw [z, e2] at h
  cases h
end
def sp_l_next (K : PySem.W.Frag) : Sp := fun vs H Q _ => ∃ (a l : Addr) (ns : List Int) (m : Nat), vs = [.ref a, .int (m : Nat)] ∧ StAt H a l ns ∧ 0 < m ∧ m < 1000 ∧ ∀ (d : Nat) (H2 : Hp), d < m → SameX a H H2 → StAt H2 a l ns → Q (.int (d : Nat)) H2
abbrev Ok_l_next (P : Program) (w : World) (K : PySem.W.Frag) (mg : Str → Option Value) (base : Heap) : Prop := Have P w K mg base CX0 "_law_next" 1 ["_law_stream_here", "_law_many"] (sp_l_next K)
theorem ok_l_next {P : Program} {w : World} {K : PySem.W.Frag} {mg : Str → Option Value} {base : Heap} (T : Txt K mg) : Ok_l_next P w K mg base := by
  refine have_of T.d_l_next (fun _ _ _ _ _ _ us hl => match us, hl with | [_, _], _ => rfl) sc_l_next (fun vs H Q E h => ?_) fun f cdv A outer s H vs Q E hr h => ?_
  · obtain ⟨a, l, ns, m, rfl, _⟩ := h
    rfl
  have hu := hu_of hr
  have hu65 := hu65_of hr
  obtain ⟨a, l, ns, m, rfl, ⟨c, n, h1, h2, hla, hc, hn⟩, hm0, hm, k⟩ := h
  refine ⟨_, (C8.pss_cut (ps_if (pt_cmpR op_eq (pe_ix (r := rIxL K) ix_list (pv 0) pe_int (fun _ _ => rfl)) pe_int (nomark _)) (pss_cons (ps_set (i := 3) sc_l_next.nd rfl (Or.inl rfl) (pe_ix (r := rIxL K) ix_list (pv 0) pe_int (fun _ _ => rfl)))
 (pss_cons (ps_set (i := 4) sc_l_next.nd rfl (Or.inl rfl) (pe_op op_add pe_int (pv 3)))
 (C8.pss_cut (ps_if (pt_cmpR op_lt (pv 3) (pe_callB (r := rLenQ K) call_lenQ (by rfl) T.b_len (by decide +kernel) (pa_cons (pe_ix (r := rIxL K) ix_list (pv 0) pe_int (fun _ _ => rfl)) pa_nil)) (nomark _)) (pss_one (ps_set (i := 4) sc_l_next.nd rfl (Or.inl rfl) (pe_callB call_abs (by rfl) T.b_abs (by decide +kernel) (pa_cons (pe_ix (r := rIxL K) ix_list (pe_ix (r := rIxL K) ix_list (pv 0) pe_int (fun _ _ => rfl)) (pv 3) (fun _ _ => rfl)) pa_nil)))) pss_nil)
 (C8.pss_cut (ps_if (pt_cmpR op_lt (pv 4) (pe_op op_pow pe_int pe_int) (nomark _)) (pss_cons (ps_set (i := 4) sc_l_next.nd rfl (Or.inl rfl) (pe_op op_mod (pe_callTy call_int1 (by rfl) T.b_int (by decide +kernel) (pa_cons (pe_op op_add (pe_op op_add (pe_op op_mul (pv 4) pe_int) (pe_op op_mul (pv 3) pe_int)) pe_int) pa_nil)) pe_int))
 (pss_one (ps_set (i := 4) sc_l_next.nd rfl (Or.inl rfl) (pe_op op_add (pe_op op_mul (pe_op op_mod (pe_callTy call_int1 (by rfl) T.b_int (by decide +kernel) (pa_cons (pe_op op_add (pe_op op_mul (pv 4) pe_int) pe_int) pa_nil)) pe_int) pe_int) (pv 4))))) pss_nil)
 (pss_cons (ps_asg (pv 4) (pg_sub (pv 0) pe_int set_list))
 (pss_one (ps_asg (pe_op op_add (pv 3) pe_int) (pg_sub (pv 0) pe_int set_list)))))))) pss_nil)
 (pss_cons (ps_set (i := 2) sc_l_next.nd rfl (Or.inl rfl) (pe_op op_mod (pe_callTy call_int1 (by rfl) T.b_int (by decide +kernel) (pa_cons (pe_ix (r := rIxL K) ix_list (pv 0) pe_int (fun _ _ => rfl)) pa_nil)) (pv 1)))
 (pss_cons (ps_asg (pe_op op_fdiv (pe_ix (r := rIxL K) ix_list (pv 0) pe_int (fun _ _ => rfl)) (pv 1)) (pg_sub (pv 0) pe_int set_list))
 (pss_one (ps_ret (pv 2)))))), ?_⟩
  have at0 : ∀ (c k : Int), atI [V.ref l, V.int c, V.int k] 0 = some (.ref l) := fun _ _ => atI_nat (j := 0) rfl
  have at1 : ∀ (c k : Int), atI [V.ref l, V.int c, V.int k] 1 = some (.int c) := fun _ _ => atI_nat (j := 1) rfl
  have at2 : ∀ (c k : Int), atI [V.ref l, V.int c, V.int k] 2 = some (.int k) := fun _ _ => atI_nat (j := 2) rfl
  have ix1 : ∀ (x y z : V), ixN [x, y, z].length 1 = some 1 := fun _ _ _ => rfl
  have ix2 : ∀ (x y z : V), ixN [x, y, z].length 2 = some 2 := fun _ _ _ => rfl
  refine ⟨fun σ H1 => ∃ (x3 x4 : Option V) (c n : Int), σ = [some (.ref a), some (.int (m : Nat)), none, x3, x4] ∧ SameX a H H1 ∧ H1 a = some (.lst [.ref l, .int c, .int n]) ∧ 0 ≤ c ∧ 0 ≤ n, ?_, ?_⟩
  · refine ⟨_, rfl, a, _, 1, _, rfl, rfl, SqL.of h1, at1 c n, rfl, _, rfl, ?_⟩
    by_cases c0 : V.int c = V.int 0
    · refine iteD c0 ⟨_, rfl, a, _, 2, _, rfl, rfl, SqL.of h1, at2 c n, _, rfl, _, _, rfl, rfl, ?_⟩
      refine ⟨fun σ H1 => ∃ (y : Int), σ = [some (.ref a), some (.int (m : Nat)), none, some (.int n), some (.int y)] ∧ H1 = H ∧ 0 ≤ y, ?_, ?_⟩
      · refine ⟨_, rfl, _, rfl, a, _, 0, _, rfl, rfl, SqL.of h1, at0 c n, l, _, rfl, .inl (SqL.of h2), _, _, rfl, rfl, _, rfl, ?_⟩
        by_cases cl : n < ((ns.map V.int).length : Int)
        · rw [List.length_map] at cl
          refine iteD (by rw [List.length_map]; exact cl) ?_
          obtain ⟨j, rfl⟩ : ∃ j : Nat, n = j := ⟨n.toNat, by omega⟩
          have gj : (ns.map V.int)[j]? = some (.int (ns.getD j 0)) := by
            rw [List.getElem?_map, List.getElem?_eq_getElem (by omega), List.getD_eq_getElem?_getD, List.getElem?_eq_getElem (by omega)]
            rfl
          refine ⟨_, rfl, a, _, 0, _, rfl, rfl, SqL.of h1, at0 c _, _, rfl, l, _, _, _, rfl, rfl, SqL.of h2, atI_nat gj, _, rfl, ?_⟩
          exact ⟨_, rfl, rfl, by split <;> omega⟩
        · exact iteDF cl ⟨_, rfl, rfl, by omega⟩
      · rintro σ H1 ⟨y, rfl, rfl, hy⟩
        refine ⟨fun σ H2 => ∃ (y : Int), σ = [some (.ref a), some (.int (m : Nat)), none, some (.int n), some (.int y)] ∧ H2 = H1 ∧ 0 ≤ y, ?_, ?_⟩
        · refine ⟨_, rfl, _, _, rfl, rfl, ⟨by decide, by decide, by decide⟩, _, _, rfl, rfl, _, rfl, ?_⟩
          by_cases cy : y < (10 : Int) ^ (18 : Int).toNat
          · refine iteD cy ?_
            refine ⟨_, rfl, _, _, rfl, rfl, .inr (by decide), _, rfl, _, _, rfl, rfl, .inr (by decide), _, _, rfl, rfl, _, _, rfl, rfl, .inl ⟨_, rfl, _, _, rfl, rfl, by show (0 : Int) < 2147483647; decide, ?_⟩⟩
            refine ⟨_, rfl, _, _, rfl, rfl, .inr (by decide), _, _, rfl, rfl, .inl ⟨_, rfl, _, _, rfl, rfl, by show (0 : Int) < 2147483647; decide, _, _, rfl, rfl, .inr (by decide), _, rfl, _, _, rfl, rfl, ?_⟩⟩
            refine ⟨_, rfl, rfl, ?_⟩
            have e1 := Int.emod_nonneg (y * 48271 + n * 69621 + 11) (show (2147483647 : Int) ≠ 0 by decide)
            have e2 := Int.emod_nonneg ((y * 48271 + n * 69621 + 11) % 2147483647 * 16807 + 13) (show (2147483647 : Int) ≠ 0 by decide)
            omega
          · exact iteDF cy ⟨_, rfl, rfl, hy⟩
        · rintro σ H2 ⟨y, rfl, rfl, hy⟩
          refine ⟨_, rfl, _, rfl, a, _, _, 1, rfl, rfl, h1, ix1 _ _ _, ?_⟩
          refine ⟨_, rfl, _, _, rfl, rfl, _, rfl, a, _, _, 2, rfl, rfl, upd_same, ix2 _ _ _, ?_⟩
          exact ⟨_, _, y, n + 1, rfl, ((SameX.refl a H2).upd _).upd _, upd_same, hy, by omega⟩
    · exact iteDF c0 ⟨_, _, c, n, rfl, SameX.refl a H, h1, hc, hn⟩
  · rintro σ H1 ⟨x3, x4, c, n, rfl, sx, h1, hc, hn⟩
    refine ⟨_, rfl, a, _, 1, _, rfl, rfl, SqL.of h1, at1 c n, .inl ⟨_, rfl, _, rfl, _, _, rfl, rfl, by omega, ?_⟩⟩
    refine ⟨_, rfl, a, _, 1, _, rfl, rfl, SqL.of h1, at1 c n, _, rfl, _, _, rfl, rfl, ⟨by omega, by omega⟩, _, rfl, a, _, _, 1, rfl, rfl, h1, ix1 _ _ _, ?_⟩
    have e1 := Int.emod_nonneg c (show (m : Int) ≠ 0 by omega)
    have e2 := Int.emod_lt_of_pos c (show (0 : Int) < m by omega)
    have e3 : c % (m : Int) = (((c % (m : Int)).toNat : Nat) : Int) := by omega
    refine ⟨_, rfl, ?_⟩
    show Q (.int (c % (m : Int))) (upd H1 a (.lst [.ref l, .int (c / (m : Int)), .int n]))
    rw [e3]
    refine k _ _ (by omega) (sx.upd _) ⟨c / m, n, upd_same, ?_, hla, Int.ediv_nonneg hc (by omega), hn⟩
    rw [upd_ne hla]
    exact sx _ _ hla h2
end K76
namespace K76
open PySem PySem.Spec PyProof.Rows L2
/-! ### the drawn code -/
def abc (c : Nat) : Prop := c = 97 ∨ c = 98 ∨ c = 99
def sp_l_stream (K : PySem.W.Frag) : Sp := fun vs H Q _ => ∃ (b : Addr) (ns : List Int), vs = [.ref b] ∧ SqL K H b (ns.map V.int) ∧ ∀ a l H2, H a = none → H l = none → Same H H2 → StAt H2 a l ns → Q (.ref a) H2
abbrev Ok_l_stream (P : Program) (w : World) (K : PySem.W.Frag) (mg : Str → Option Value) (base : Heap) : Prop := Have P w K mg base CX0 "_law_stream" 1 ["_law_script"] (sp_l_stream K)
theorem ok_l_stream {P : Program} {w : World} {K : PySem.W.Frag} {mg : Str → Option Value} {base : Heap} (T : Txt K mg) : Ok_l_stream P w K mg base := by
  refine have_of T.d_l_stream (fun _ _ _ _ _ _ us hl => match us, hl with | [_], _ => rfl) sc_l_stream (fun vs H Q E h => ?_) fun f cdv A outer s H vs Q E hr h => ?_
  · obtain ⟨b, ns, rfl, _⟩ := h
    rfl
  have hu := hu_of hr
  have hu65 := hu65_of hr
  obtain ⟨b, ns, rfl, hb, k⟩ := h
  refine ⟨_, (pss_one (ps_ret (pe_lst (pa_cons (pe_callTy (r := rListQ K) call_listQ (by rfl) T.b_list (by decide +kernel) (pa_cons (pv 0) pa_nil)) (pa_cons pe_int (pa_cons pe_int pa_nil)))))), ?_⟩
  refine ⟨_, rfl, b, _, rfl, .inl hb, fun l hl => ⟨by show 3 ≤ sizeLine; decide, fun a ha => ?_⟩⟩
  have ha2 : H a = none := (Same.new hl).free ha
  refine k a l _ ha2 hl ((Same.new hl).then ha) ⟨0, 0, upd_same, ?_, ?_, by decide, by decide⟩
  · have nla : l ≠ a := fun z => by
      rw [← z, upd_same] at ha
      cases ha
    rw [upd_ne nla, upd_same]
  · intro z
    rw [← z, upd_same] at ha
    cases ha
def oneV (w : List Nat) : List V := (w.map fun c => mkS [c]).map V.str
theorem oneV_snoc (w : List Nat) (c : Nat) : oneV (w ++ [c]) = oneV w ++ [.str (mkS [c])] := by
  unfold oneV
  rw [List.map_append, List.map_append]
  rfl
theorem join_one : ∀ w : List Nat, Str.join "" (w.map fun c => mkS [c]) = mkS w
  | [] => mkS_nil.symm
  | [c] => rfl
  | c :: d :: r => by
    have ih := join_one (d :: r)
    show mkS [c] ++ ("" : Str) ++ Str.join "" ((d :: r).map fun c => mkS [c]) = _
    rw [ih, ← mkS_nil, mkS_app, mkS_app]
    rfl
theorem sum_one : ∀ w : List Nat, ((w.map fun c => mkS [c]).map (·.length)).sum = w.length
  | [] => rfl
  | c :: r => by
    rw [List.map_cons, List.map_cons, List.sum_cons, sum_one r, mkS_len, List.length_cons]
    show 1 + r.length = r.length + 1
    omega
def sp_l_string (K : PySem.W.Frag) : Sp := fun vs H Q _ => ∃ (a l : Addr) (ns : List Int) (zl : List Nat), vs = [.ref a, .str (mkS zl), .int 1, .int 3] ∧ StAt H a l ns ∧ 0 < zl.length ∧ zl.length < 1000 ∧ (∀ c ∈ zl, abc c) ∧
  ∀ w H2, 1 ≤ w.length → w.length ≤ 3 → (∀ c ∈ w, abc c) → SameX a H H2 → StAt H2 a l ns → Q (.str (mkS w)) H2
abbrev Ok_l_string (P : Program) (w : World) (K : PySem.W.Frag) (mg : Str → Option Value) (base : Heap) : Prop := Have P w K mg base CX0 "_law_string" 2 ["_law_stream_here", "_law_letters", "_law_least", "_law_most"] (sp_l_string K)
theorem ok_l_string {P : Program} {w : World} {K : PySem.W.Frag} {mg : Str → Option Value} {base : Heap} (T : Txt K mg) (h_l_next : Ok_l_next P w K mg base) : Ok_l_string P w K mg base := by
  obtain ⟨f_l_next, fd_l_next, g_l_next, kp_l_next, b_l_next, G_l_next⟩ := h_l_next
  refine have_of T.d_l_string (fun _ _ _ _ _ _ us hl => match us, hl with | [_, _, _, _], _ => rfl) sc_l_string (fun vs H Q E h => ?_) fun f cdv A outer s H vs Q E hr h => ?_
  · obtain ⟨a, l, ns, zl, rfl, _⟩ := h
    rfl
  have hu := hu_of hr
  have hu65 := hu65_of hr
  obtain ⟨a, l, ns, zl, rfl, st, hz0, hz, hab, k⟩ := h
  refine ⟨_, (pss_cons (ps_set (i := 4) sc_l_string.nd rfl (Or.inl rfl) (pe_op op_add (pv 2) (pe_call G_l_next (hr.mono (by decide)) (by rfl) g_l_next kp_l_next b_l_next .nil pass0 (pa_cons (pv 0) (pa_cons (pe_op op_add (pe_op op_sub (pv 3) (pv 2)) pe_int) pa_nil)))))
 (pss_one (ps_ret (pe_join pe_str (pe_lc (own := [("_law_turn", 5)]) (g := gName 5) rfl sc_l_string.nd (pi_range1 (by rfl) T.b_range (pa_cons (pv 4) pa_nil)) (blkOk_by (by kernel_rfl)) (fun _ _ _ _ _ => (pg_name (i := 5) sc_l_string.nd rfl (Or.inl rfl))) (fun _ _ _ _ _ => pts_nil) (fun _ _ _ _ _ => (pe_ix ix_str (pv 1) (pe_call G_l_next (hr.mono (by decide)) (by rfl) g_l_next kp_l_next b_l_next .nil pass0 (pa_cons (pv 0) (pa_cons (pe_callB call_len_str (by rfl) T.b_len (by decide +kernel) (pa_cons (pv 1) pa_nil)) pa_nil))) (fun _ _ => rfl)))))))), ?_⟩
  refine ⟨_, rfl, _, rfl, _, rfl, _, rfl, _, _, rfl, rfl, _, _, rfl, rfl, a, l, ns, 3, rfl, st, by decide, by decide, fun d H1 hd sx st1 => ?_⟩
  refine ⟨1, d, rfl, rfl, ⟨_, rfl⟩, _, rfl, _, rfl, by omega, by omega, fun D hD => ?_⟩
  have naD : D ≠ a := st1.ne hD
  have nlD : D ≠ l := st1.nel hD
  have hn : ((1 : Int) + (d : Int)).toNat = 1 + d := by omega
  refine lc_it (walk_range (lo := 0) (n := ((1 : Int) + (d : Int)).toNat)) (fun i H2 => ∃ w : List Nat, H2 D = some (.lst (oneV w)) ∧ w.length = i ∧ (∀ c ∈ w, abc c) ∧ SameX a H1 H2 ∧ StAt H2 a l ns) ⟨[], upd_same, rfl, fun _ m => (nomatch m), Same.x (Same.new hD), st1.same (Same.new hD)⟩ (fun _ _ _ _ => trivial) ?_ ?_
  · rintro i x H2 H3 hi ⟨w, hw, lw, aw, sx2, st2⟩ ⟨rfl, rfl⟩
    refine ⟨rfl, yes_of ?_⟩
    refine ⟨_, rfl, _, rfl, _, rfl, _, rfl, small (by rw [mkS_len]; omega), a, l, ns, zl.length, by rw [mkS_len]; rfl, st2, hz0, hz, fun d2 H4 hd2 sx4 st4 => ?_⟩
    have gd : zl[d2]? = some zl[d2] := List.getElem?_eq_getElem hd2
    refine ⟨_, _, _, rfl, rfl, small (by rw [mkS_len]; omega), atI_nat (xs := zl) gd, ?_⟩
    refine ⟨oneV w, sx4 _ _ naD hw, smallLt (by unfold oneV; rw [List.length_map, List.length_map]; omega), w ++ [zl[d2]], ?_, by rw [List.length_append, lw]; rfl, ?_, ?_, st4.put naD nlD⟩
    · rw [oneV_snoc]
      exact upd_same
    · intro c m
      rcases List.mem_append.mp m with m | m
      · exact aw c m
      · rw [List.mem_singleton.mp m]
        exact hab _ (List.getElem_mem hd2)
    · intro b o nb hb
      have nbD : b ≠ D := ne_of_none hb hD
      rw [upd_ne nbD]
      exact sx4 b o nb (sx2 b o nb hb)
  · rintro H2 ⟨w, hw, lw, aw, sx2, st2⟩
    refine ⟨_, D, w.map fun c => mkS [c], rfl, rfl, .inl (SqL.of hw), ?_, ?_⟩
    · rw [sum_one, List.length_map]
      show w.length + w.length * 0 ≤ 16777216
      omega
    · rw [TL.join_eq, join_one]
      exact k w H2 (by omega) (by omega) aw (sx.trans sx2) st2
/-! ### the words, one behind another -/
theorem okc_snoc {ws : List (List Nat)} {w : List Nat} (ok : OkC ws) (h4 : ws.length < 4) (h1 : 1 ≤ w.length) (h3 : w.length ≤ 3) (ha : ∀ c ∈ w, abc c) (hn : w ∉ ws) : OkC (ws ++ [w]) where
  len := by rw [List.length_append]; show ws.length + 1 ≤ 4; omega
  low := fun x m => (List.mem_append.mp m).elim (ok.low x) fun m => by rw [List.mem_singleton.mp m]; exact h1
  high := fun x m => (List.mem_append.mp m).elim (ok.high x) fun m => by rw [List.mem_singleton.mp m]; exact h3
  abc := fun x m => (List.mem_append.mp m).elim (ok.abc x) fun m => by rw [List.mem_singleton.mp m]; exact ha
  nd := nd_snoc ok.nd hn
theorem inV_mem {x : List Nat} {xs : List (List Nat)} (h : x ∈ xs) : inV (.str (mkS x)) (wV xs) = true := by
  unfold inV
  rw [List.any_eq_true]
  exact ⟨.str (mkS x), List.mem_map.mpr ⟨x, h, rfl⟩, by show (mkS x == mkS x) = true; rw [beq_self_eq_true]⟩
def sp_l_code (K : PySem.W.Frag) : Sp := fun vs H Q _ => ∃ (a l : Addr) (ns : List Int), vs = [.ref a, .int 0, .int 4, .int 3] ∧ StAt H a l ns ∧ ∀ (p : Addr) (ws : List (List Nat)) (H2 : Hp), OkC ws → SameX a H H2 → StAt H2 a l ns → H2 p = some (.tup (wV ws)) → Q (.ref p) H2
theorem ab_eq : ("ab" : Str) = mkS [97, 98] := by decide +kernel
theorem abc_eq : ("abc" : Str) = mkS [97, 98, 99] := by decide +kernel
abbrev Ok_l_code (P : Program) (w : World) (K : PySem.W.Frag) (mg : Str → Option Value) (base : Heap) : Prop := Have P w K mg base CX0 "_law_code" 3 ["_law_stream_here", "_law_least", "_law_most", "_law_longest"] (sp_l_code K)
theorem ok_l_code {P : Program} {w : World} {K : PySem.W.Frag} {mg : Str → Option Value} {base : Heap} (T : Txt K mg) (h_l_next : Ok_l_next P w K mg base) (h_l_string : Ok_l_string P w K mg base) : Ok_l_code P w K mg base := by
  obtain ⟨f_l_next, fd_l_next, g_l_next, kp_l_next, b_l_next, G_l_next⟩ := h_l_next
  obtain ⟨f_l_string, fd_l_string, g_l_string, kp_l_string, b_l_string, G_l_string⟩ := h_l_string
  refine have_of T.d_l_code (fun _ _ _ _ _ _ us hl => match us, hl with | [_, _, _, _], _ => rfl) sc_l_code (fun vs H Q E h => ?_) fun f cdv A outer s H vs Q E hr h => ?_
  · obtain ⟨a, l, ns, rfl, _⟩ := h
    rfl
  have hu := hu_of hr
  have hu65 := hu65_of hr
  obtain ⟨a, l, ns, rfl, st, k⟩ := h
  refine ⟨_, (pss_cons (ps_set (i := 4) sc_l_code.nd rfl (Or.inl rfl) (pe_ix (r := rIxL K) ix_list (pe_lst (pa_cons pe_str (pa_cons pe_str (pa_cons pe_str pa_nil)))) (pe_call G_l_next (hr.mono (by decide)) (by rfl) g_l_next kp_l_next b_l_next .nil pass0 (pa_cons (pv 0) (pa_cons pe_int pa_nil))) (fun _ _ => rfl)))
 (pss_cons (ps_set (i := 5) sc_l_code.nd rfl (Or.inl rfl) (pe_lst pa_nil))
 (pss_cons (ps_for PassesOwn.never rfl (pi_range1 (by rfl) T.b_range (pa_cons (pe_op op_add (pv 1) (pe_call G_l_next (hr.mono (by decide)) (by rfl) g_l_next kp_l_next b_l_next .nil pass0 (pa_cons (pv 0) (pa_cons (pe_op op_add (pe_op op_sub (pv 2) (pv 1)) pe_int) pa_nil)))) pa_nil)) (pg_name (i := 6) sc_l_code.nd rfl (Or.inl rfl))
 (pss_cons (ps_set (i := 7) sc_l_code.nd rfl (Or.inl rfl) (pe_call G_l_string (hr.mono (by decide)) (by rfl) g_l_string kp_l_string b_l_string .nil pass0 (pa_cons (pv 0) (pa_cons (pv 4) (pa_cons pe_int (pa_cons (pv 3) pa_nil))))))
 (pss_one (ps_if (pt_cmpR (r := rIn K true) op_notIn_seq (pv 7) (pv 5) (by rfl)) (pss_one (ps_expr (pe_bm PySem.F.plainAttrs_list PySem.F.slot_list_append PySem.F.type_list_append mt_append (pv 5) (pa_cons (pv 7) pa_nil)))) pss_nil))))
 (pss_one (ps_ret (pe_callTy (r := rTupQ K) call_tupQ (by rfl) T.b_tuple (by decide +kernel) (pa_cons (pv 5) pa_nil))))))), ?_⟩
  refine ⟨by show 3 ≤ sizeLine; decide, fun q hq => ⟨_, rfl, a, l, ns, 3, rfl, st.same (Same.new hq), by decide, by decide, fun d H1 hd sx1 st1 => ?_⟩⟩
  have nqa : q ≠ a := st.ne hq
  obtain ⟨zl, hzl, hz0, hz9, hzab⟩ : ∃ zl : List Nat, ([V.str "ab", V.str "ab", V.str "abc"] : List V)[d]? = some (.str (mkS zl)) ∧ 0 < zl.length ∧ zl.length < 1000 ∧ ∀ c ∈ zl, abc c := by
    have a2 : ∀ c ∈ [97, 98], abc c := fun c m => by
      simp only [List.mem_cons, List.mem_nil_iff, or_false] at m
      rcases m with rfl | rfl
      · exact .inl rfl
      · exact .inr (.inl rfl)
    match d, hd with
    | 0, _ => exact ⟨[97, 98], by rw [ab_eq]; rfl, by decide, by decide, a2⟩
    | 1, _ => exact ⟨[97, 98], by rw [ab_eq]; rfl, by decide, by decide, a2⟩
    | 2, _ =>
      refine ⟨[97, 98, 99], by rw [abc_eq]; rfl, by decide, by decide, fun c m => ?_⟩
      simp only [List.mem_cons, List.mem_nil_iff, or_false] at m
      exact m
  refine ⟨q, _, _, _, rfl, rfl, SqL.of (sx1 _ _ nqa upd_same), atI_nat hzl, Nat.zero_le _, fun D hD => ?_⟩
  have naD : D ≠ a := st1.ne hD
  have nlD : D ≠ l := st1.nel hD
  have st2 : StAt (upd H1 D (.lst [])) a l ns := st1.put naD nlD
  refine ⟨_, rfl, _, rfl, _, rfl, _, rfl, _, _, rfl, rfl, _, _, rfl, rfl, a, l, ns, 5, rfl, st2, by decide, by decide, fun e H3 he sx3 st3 => ?_⟩
  have hD3 : H3 D = some (.lst (wV [])) := sx3 _ _ naD upd_same
  have hq0 : H D = none := by
    have z := (fun b o (n : b ≠ a) (h : H b = some o) => sx1 b o n ((Same.new hq) b o h))
    cases e : H D with
    | none => rfl
    | some o => rw [z D o naD e] at hD; cases hD
  have sx0 : SameX a H H3 := fun b o n h => by
    have nbD : b ≠ D := ne_of_none h hq0
    exact sx3 b o n (by rw [upd_ne nbD]; exact sx1 b o n ((Same.new hq) b o h))
  refine ⟨_, _, rfl, rfl, _, rfl, by omega, by omega, ?_⟩
  refine for_range (lo := 0) (n := ((0 : Int) + (e : Int)).toNat) (fun i σ H4 => ∃ (x6 x7 : Option V) (ws : List (List Nat)), σ = [some (.ref a), some (.int 0), some (.int 4), some (.int 3), some (.str (mkS zl)), some (.ref D), x6, x7] ∧ ws.length ≤ i ∧ OkC ws ∧
    H4 D = some (.lst (wV ws)) ∧ SameX a H H4 ∧ StAt H4 a l ns) ?_ ?_ ?_
  · exact ⟨_, _, [], rfl, Nat.le_refl _, ⟨by decide, fun _ m => (nomatch m), fun _ m => (nomatch m), fun _ m => (nomatch m), List.nodup_nil⟩, hD3, sx0, st3⟩
  · rintro i σ H4 hi ⟨x6, x7, ws, rfl, hl, ok, h4, sx4, st4⟩
    refine ⟨_, rfl, _, rfl, _, rfl, a, l, ns, zl, rfl, st4, hz0, hz9, hzab, fun w H5 hw1 hw3 hwa sx5 st5 => ?_⟩
    have h5 := sx5 _ _ naD h4
    refine ⟨_, rfl, _, rfl, D, _, rfl, .inl (SqL.of h5), rfl, flat_wV ws, _, rfl, ?_⟩
    rw [if_pos rfl]
    by_cases m : w ∈ ws
    · rw [inV_mem m]
      refine iteF ⟨_, _, ws, rfl, Nat.le_succ_of_le hl, ok, h5, sx4.trans sx5, st5⟩
    · rw [inV_str m]
      refine iteT ⟨_, rfl, .inl ⟨rfl, _, SqL.of h5⟩, _, rfl, D, _, _, rfl, rfl, h5, smallLt (by rw [List.length_map]; omega), ?_⟩
      refine ⟨_, _, ws ++ [w], rfl, by rw [List.length_append]; show ws.length + 1 ≤ i + 1; omega, okc_snoc ok (by omega) hw1 hw3 hwa m, ?_, ?_, st5.put naD nlD⟩
      · rw [upd_same, show wV (ws ++ [w]) = wV ws ++ [.str (mkS w)] from List.map_append ..]
      · intro b o n h
        have nbD : b ≠ D := ne_of_none h hq0
        rw [upd_ne nbD]
        exact sx5 b o n (sx4 b o n h)
  · rintro σ H4 ⟨x6, x7, ws, rfl, hl, ok, h4, sx4, st4⟩
    refine ⟨_, rfl, D, _, rfl, .inl ⟨SqL.of h4, fun p hp => ?_⟩⟩
    exact k p ws _ ok (fun b o n h => by rw [upd_ne (ne_of_none (sx4 b o n h) hp)]; exact sx4 b o n h) (st4.put (st4.ne hp) (st4.nel hp)) upd_same
end K76
namespace K76
open PySem PySem.Spec PyProof.Rows L2
/-! ### the law's own commands and states -/
theorem n_busy : ¬ (("busy" : Str)) = "" := by decide +kernel
theorem n_idle : ¬ (("idle" : Str)) = "" := by decide +kernel
theorem n_many : ¬ (("many" : Str)) = "" := by decide +kernel
theorem n_miss : ¬ (("missing" : Str)) = "" := by decide +kernel
/-- ['', word][int(..)] -/
theorem why_ix (z : Str) (k : Bool) : atI [V.str "", V.str z] (if k = true then 1 else 0) = some (.str (if k = true then z else "")) := by
  cases k with
  | true => exact atI_nat (j := 1) rfl
  | false => exact atI_nat (j := 0) rfl
theorem why_iff {z : Str} (hz : ¬ z = "") (k : Bool) : (if k = true then z else "") = "" ↔ k = false := by
  cases k with
  | true => exact ⟨fun e => absurd e hz, fun e => nomatch e⟩
  | false => exact ⟨fun _ => rfl, fun _ => rfl⟩
def sp_l_why_not (K : PySem.W.Frag) : Sp := fun vs H Q _ => ∃ (sv cv : V) (s : S3) (c : Cmd), vs = [sv, cv] ∧ Dp K H sv (s3D s) ∧ Dp K H cv (cmdD c) ∧ ∀ (z : Str) (H2 : Hp), Same H H2 → (z = "" ↔ canB s c = true) → Q (.str z) H2
abbrev Ok_l_why_not (P : Program) (w : World) (K : PySem.W.Frag) (mg : Str → Option Value) (base : Heap) : Prop := Have P w K mg base CX0 "_law_why_not" 1 ["_law_state", "_law_command_here"] (sp_l_why_not K)
theorem ok_l_why_not {P : Program} {w : World} {K : PySem.W.Frag} {mg : Str → Option Value} {base : Heap} (T : Txt K mg) : Ok_l_why_not P w K mg base := by
  refine have_of T.d_l_why_not (fun _ _ _ _ _ _ us hl => match us, hl with | [_, _], _ => rfl) sc_l_why_not (fun vs H Q E h => ?_) fun f cdv A outer s H vs Q E hr h => ?_
  · obtain ⟨sv, cv, s, c, rfl, _⟩ := h
    rfl
  have hu := hu_of hr
  have hu65 := hu65_of hr
  obtain ⟨sv, cv, s, c, rfl, hs, hc, k⟩ := h
  refine ⟨_, (pss_cons (ps_asg (pv 0) (pg_tup rfl (pgs_cons (pg_name (i := 2) sc_l_why_not.nd rfl (Or.inl rfl)) (pgs_cons (pg_name (i := 3) sc_l_why_not.nd rfl (Or.inl rfl)) (pgs_cons (pg_name (i := 4) sc_l_why_not.nd rfl (Or.inl rfl)) pgs_nil)))))
 (pss_cons (ps_if (pt_cmpR op_eq (pe_ix (r := rIxT K) ix_tup (pv 1) pe_int (fun _ _ => rfl)) pe_str (nomark _)) (pss_one (ps_ret (pe_ix (r := rIxL K) ix_list (pe_lst (pa_cons pe_str (pa_cons pe_str pa_nil))) (pe_callTy call_int1 (by rfl) T.b_int (by decide +kernel) (pa_cons (pe_cmpR op_notN (pv 3) pe_non (nomark _)) pa_nil)) (fun _ _ => rfl)))) pss_nil)
 (pss_cons (ps_if (pt_cmpR op_eq (pe_ix (r := rIxT K) ix_tup (pv 1) pe_int (fun _ _ => rfl)) pe_str (nomark _)) (pss_one (ps_ret (pe_ix (r := rIxL K) ix_list (pe_lst (pa_cons pe_str (pa_cons pe_str pa_nil))) (pe_callTy call_int1 (by rfl) T.b_int (by decide +kernel) (pa_cons (pe_cmpR op_isN (pv 3) pe_non (nomark _)) pa_nil)) (fun _ _ => rfl)))) pss_nil)
 (pss_cons (ps_if (pt_cmpR op_eq (pe_ix (r := rIxT K) ix_tup (pv 1) pe_int (fun _ _ => rfl)) pe_str (nomark _)) (pss_one (ps_ret (pe_ix (r := rIxL K) ix_list (pe_lst (pa_cons pe_str (pa_cons pe_str pa_nil))) (pe_callTy call_int1 (by rfl) T.b_int (by decide +kernel) (pa_cons (pe_cmpR op_ge (pe_callB (r := rLenQ K) call_lenQ (by rfl) T.b_len (by decide +kernel) (pa_cons (pv 4) pa_nil)) pe_int (nomark _)) pa_nil)) (fun _ _ => rfl)))) pss_nil)
 (pss_one (ps_ret (pe_ix (r := rIxL K) ix_list (pe_lst (pa_cons pe_str (pa_cons pe_str pa_nil))) (pe_callTy call_int1 (by rfl) T.b_int (by decide +kernel) (pa_cons (pe_cmpR op_ge (pe_ix (r := rIxT K) ix_tup (pv 1) pe_int (fun _ _ => rfl)) (pe_callB (r := rLenQ K) call_lenQ (by rfl) T.b_len (by decide +kernel) (pa_cons (pv 4) pa_nil)) (nomark _)) pa_nil)) (fun _ _ => rfl)))))))), ?_⟩
  obtain ⟨p, iv, ja, rfl, hp, hi, hja⟩ := s3D_inv hs
  have jl : (nV s.jo).length = s.jo.length := List.length_map ..
  refine ⟨_, rfl, p, _, rfl, hp, rfl, _, _, rfl, _, _, rfl, _, _, rfl, rfl, ?_⟩
  have nonI : decide (iv = V.non) = s.ins.isNone := by
    cases es : s.ins with
    | none => rw [es] at hi; rw [hi.nonI]; rfl
    | some wk =>
      obtain ⟨i, n⟩ := wk
      rw [es] at hi
      obtain ⟨ia, rfl, _⟩ := stD_some hi
      exact decide_eq_false (rne ia)
  cases c with
  | send n =>
    obtain ⟨q, rfl, hq⟩ := cmd2 (x := "send") (n := n) hc
    have at0 : atI [V.str "send", V.int (n : Nat)] 0 = some (.str "send") := atI_nat (j := 0) rfl
    refine ⟨_, rfl, q, _, 0, _, rfl, rfl, hq, at0, rfl, _, rfl, iteD rfl ⟨by show 2 ≤ sizeLine; decide, fun t ht => ⟨_, rfl, rfl, .inr ⟨_, rfl, t, _, _, _, rfl, rfl, SqL.of upd_same, why_ix _ _, ?_⟩⟩⟩⟩
    refine k _ _ (Same.new ht) ((why_iff n_busy _).trans ?_)
    rw [nonI]
    show _ ↔ s.ins.isNone = true
    cases s.ins.isNone <;> simp
  | step =>
    obtain ⟨q, rfl, hq⟩ := cmd1 (x := "step") hc
    have at0 : atI [V.str "step"] 0 = some (.str "step") := atI_nat (j := 0) rfl
    refine ⟨_, rfl, q, _, 0, _, rfl, rfl, hq, at0, rfl, _, rfl, iteDF (sne n_ss) ⟨_, rfl, q, _, 0, _, rfl, rfl, hq, at0, rfl, _, rfl, iteD rfl ?_⟩⟩
    refine ⟨by show 2 ≤ sizeLine; decide, fun t ht => ⟨_, rfl, rfl, .inr ⟨_, rfl, t, _, _, _, rfl, rfl, SqL.of upd_same, why_ix _ _, ?_⟩⟩⟩
    refine k _ _ (Same.new ht) ((why_iff n_idle _).trans ?_)
    rw [nonI]
    show _ ↔ s.ins.isSome = true
    cases s.ins <;> simp
  | join =>
    obtain ⟨q, rfl, hq⟩ := cmd1 (x := "join") hc
    have at0 : atI [V.str "join"] 0 = some (.str "join") := atI_nat (j := 0) rfl
    refine ⟨_, rfl, q, _, 0, _, rfl, rfl, hq, at0, rfl, _, rfl, iteDF (sne n_js) ⟨_, rfl, q, _, 0, _, rfl, rfl, hq, at0, rfl, _, rfl, iteDF (sne n_jt) ⟨_, rfl, q, _, 0, _, rfl, rfl, hq, at0, rfl, _, rfl, iteD rfl ?_⟩⟩⟩
    refine ⟨by show 2 ≤ sizeLine; decide, fun t ht => ⟨_, rfl, ja, _, rfl, .inr (Same.sqt (Same.new ht) hja), _, _, rfl, rfl, .inr ⟨_, rfl, t, _, _, _, rfl, rfl, SqL.of upd_same, why_ix _ _, ?_⟩⟩⟩
    refine k _ _ (Same.new ht) ((why_iff n_many _).trans ?_)
    show decide ((6 : Int) ≤ ((nV s.jo).length : Int)) = false ↔ decide (s.jo.length < 6) = true
    rw [jl, decide_eq_false_iff_not, decide_eq_true_iff]
    omega
  | leave n =>
    obtain ⟨q, rfl, hq⟩ := cmd2 (x := "leave") (n := n) hc
    have at0 : atI [V.str "leave", V.int (n : Nat)] 0 = some (.str "leave") := atI_nat (j := 0) rfl
    have at1 : atI [V.str "leave", V.int (n : Nat)] 1 = some (.int (n : Nat)) := atI_nat (j := 1) rfl
    refine ⟨_, rfl, q, _, 0, _, rfl, rfl, hq, at0, rfl, _, rfl, iteDF (sne n_ls) ⟨_, rfl, q, _, 0, _, rfl, rfl, hq, at0, rfl, _, rfl, iteDF (sne n_lt) ⟨_, rfl, q, _, 0, _, rfl, rfl, hq, at0, rfl, _, rfl, iteDF (sne n_lj) ?_⟩⟩⟩
    refine ⟨by show 2 ≤ sizeLine; decide, fun t ht => ⟨_, rfl, q, _, 1, _, rfl, rfl, Same.sqt (Same.new ht) hq, at1, _, rfl, ja, _, rfl, .inr (Same.sqt (Same.new ht) hja), _, _, rfl, rfl, .inr ⟨_, rfl, t, _, _, _, rfl, rfl, SqL.of upd_same, why_ix _ _, ?_⟩⟩⟩
    refine k _ _ (Same.new ht) ((why_iff n_miss _).trans ?_)
    show decide (((nV s.jo).length : Int) ≤ (n : Int)) = false ↔ decide (n < s.jo.length) = true
    rw [jl, decide_eq_false_iff_not, decide_eq_true_iff]
    omega
/-- what the law takes for a command -/
def lcmdB : PyData → Bool
  | .tuple (.str x :: r) => if x = "step" ∨ x = "join" then r.length == 0 else decide (x = "send" ∨ x = "leave") && r.length == 1
  | _ => false
def sp_l_is_command (K : PySem.W.Frag) : Sp := fun vs H Q _ => ∃ (a : V) (v : V) (d : PyData), vs = [a, v] ∧ Dp K H v d ∧ ∀ H2, Same H H2 → Q (.bl (lcmdB d)) H2
abbrev Ok_l_is_command (P : Program) (w : World) (K : PySem.W.Frag) (mg : Str → Option Value) (base : Heap) : Prop := Have P w K mg base CX0 "_law_is_command" 1 ["_law_code_here", "_law_value"] (sp_l_is_command K)
theorem ok_l_is_command {P : Program} {w : World} {K : PySem.W.Frag} {mg : Str → Option Value} {base : Heap} (T : Txt K mg) : Ok_l_is_command P w K mg base := by
  refine have_of T.d_l_is_command (fun _ _ _ _ _ _ us hl => match us, hl with | [_, _], _ => rfl) sc_l_is_command (fun vs H Q E h => ?_) fun f cdv A outer s H vs Q E hr h => ?_
  · obtain ⟨a, v, d, rfl, _⟩ := h
    rfl
  have hu := hu_of hr
  have hu65 := hu65_of hr
  obtain ⟨a, v, d, rfl, hd, k⟩ := h
  refine ⟨_, (pss_cons (ps_if (PW.pt (pw_or (pt_not (pt_val (pe_callB (r := rIsi K) call_isi (by rfl) T.b_isinstance (by decide +kernel) (pa_cons (pv 1) (pa_cons (pe_bltn (v := .ty "tuple") (by rfl) T.b_tuple (by decide +kernel) rfl) pa_nil))))) (pw_or (pt_not (pt_truth (pv 1) (by intro _; rfl))) (pw_or1 (pt_not (pt_val (pe_callB (r := rIsi K) call_isi (by rfl) T.b_isinstance (by decide +kernel) (pa_cons (pe_ix (r := rIxT K) ix_tup (pv 1) pe_int (fun _ _ => rfl)) (pa_cons (pe_bltn (v := .ty "str") (by rfl) T.b_str (by decide +kernel) rfl) pa_nil))))))))) (pss_one (ps_ret pe_bl)) pss_nil)
 (pss_cons (ps_if (pt_cmpR (r := rIn K false) op_in_seq (pe_ix (r := rIxT K) ix_tup (pv 1) pe_int (fun _ _ => rfl)) (pe_lst (pa_cons pe_str (pa_cons pe_str pa_nil))) (by rfl)) (pss_one (ps_ret (pe_cmpR op_eq (pe_callB (r := rLenQ K) call_lenQ (by rfl) T.b_len (by decide +kernel) (pa_cons (pv 1) pa_nil)) pe_int (nomark _)))) pss_nil)
 (pss_one (ps_ret (pe_and (pe_cmpR (r := rIn K false) op_in_seq (pe_ix (r := rIxT K) ix_tup (pv 1) pe_int (fun _ _ => rfl)) (pe_lst (pa_cons pe_str (pa_cons pe_str pa_nil))) (by rfl)) (pe_one (pe_cmpR op_eq (pe_callB (r := rLenQ K) call_lenQ (by rfl) T.b_len (by decide +kernel) (pa_cons (pv 1) pa_nil)) pe_int (nomark _)))))))), ?_⟩
  refine ⟨_, rfl, _, _, _, _, _, rfl, .ty _, hd.ty, kit_ty (kit_tuple d), _, rfl, ?_⟩
  cases d with
  | int i => exact k H (Same.refl H)
  | bool b => exact k H (Same.refl H)
  | none => exact k H (Same.refl H)
  | str x => exact k H (Same.refl H)
  | list xs => exact k H (Same.refl H)
  | dict kvs => exact k H (Same.refl H)
  | tuple ds =>
    obtain ⟨p, xs, rfl, hp, ha⟩ := hd.tupI
    refine ⟨_, rfl, _, .inr (.inl ⟨xs, hp, rfl⟩), ?_⟩
    cases ha with
    | nil => exact k H (Same.refl H)
    | @cons v vs d ds h1 h2 =>
      refine ⟨_, rfl, p, v :: vs, 0, v, rfl, rfl, hp, atI_nat (j := 0) rfl, _, _, _, _, _, rfl, .ty _, h1.ty, kit_ty (kit_str d), _, rfl, ?_⟩
      cases d with
      | int i => exact k H (Same.refl H)
      | bool b => exact k H (Same.refl H)
      | none => exact k H (Same.refl H)
      | list xs => exact k H (Same.refl H)
      | tuple xs => exact k H (Same.refl H)
      | dict kvs => exact k H (Same.refl H)
      | str x =>
        cases h1
        have hl2 := h2.length
        have at0 : atI (V.str x :: vs) 0 = some (.str x) := atI_nat (j := 0) rfl
        refine ⟨_, rfl, p, _, 0, _, rfl, rfl, hp, at0, by show 2 ≤ sizeLine; decide, fun q hq => ?_⟩
        have s1 : Same H (upd H q (.lst [.str "step", .str "join"])) := Same.new hq
        refine ⟨q, _, rfl, .inl (SqL.of upd_same), rfl, rfl, _, rfl, ?_⟩
        rw [str2, if_neg Bool.false_ne_true]
        have hp1 := Same.sqt s1 hp
        have e1 : decide (V.int ((V.str x :: vs).length : Nat) = V.int 1) = (ds.length == 0) := by
          rw [List.length_cons, hl2]
          cases ds with
          | nil => rfl
          | cons _ r => rw [List.length_cons, decide_eq_false (fun z => by injection z; omega)]; rfl
        have e2 : decide (V.int ((V.str x :: vs).length : Nat) = V.int 2) = (ds.length == 1) := by
          rw [List.length_cons, hl2]
          cases hh : (ds.length == 1) with
          | true =>
            rw [beq_iff_eq.mp hh]
            rfl
          | false =>
            have nn : ¬ ds.length = 1 := fun z => by rw [z] at hh; cases hh
            exact decide_eq_false fun z => nn (by injection z; omega)
        by_cases c1 : x = "step" ∨ x = "join"
        · refine iteD c1 ⟨_, rfl, p, _, rfl, .inr hp1, rfl, ?_⟩
          have e : decide (V.int ((V.str x :: vs).length : Nat) = V.int 1) = lcmdB (.tuple (.str x :: ds)) := by
            show _ = if x = "step" ∨ x = "join" then ds.length == 0 else _
            rw [if_pos c1, e1]
          rw [e]
          exact k _ s1
        · refine iteDF c1 ⟨_, rfl, p, _, 0, _, rfl, rfl, hp1, at0, by show 2 ≤ sizeLine; decide, fun q2 hq2 => ?_⟩
          have s2 : Same H (upd (upd H q (.lst [.str "step", .str "join"])) q2 (.lst [.str "send", .str "leave"])) := s1.then hq2
          refine ⟨q2, _, rfl, .inl (SqL.of upd_same), rfl, rfl, _, rfl, ?_⟩
          rw [str2, if_neg Bool.false_ne_true]
          by_cases c2 : x = "send" ∨ x = "leave"
          · refine iteD c2 ⟨_, rfl, p, _, rfl, .inr (Same.sqt (Same.new hq2) hp1), rfl, ?_⟩
            have e : decide (V.int ((V.str x :: vs).length : Nat) = V.int 2) = lcmdB (.tuple (.str x :: ds)) := by
              show _ = if x = "step" ∨ x = "join" then ds.length == 0 else _
              rw [if_neg c1, decide_eq_true c2, Bool.true_and, e2]
            rw [e]
            exact k _ s2
          · refine iteDF c2 ?_
            have e : false = lcmdB (.tuple (.str x :: ds)) := by
              show _ = if x = "step" ∨ x = "join" then ds.length == 0 else _
              rw [if_neg c1, decide_eq_false c2, Bool.false_and]
            rw [e]
            exact k _ s2
end K76
namespace K76
open PySem PySem.Spec PyProof.Rows L2
def sp_l_behind (K : PySem.W.Frag) : Sp := fun vs H Q _ => ∃ (a : Addr) (ws : List (List Nat)) (sv cv : V) (s : S3) (c : Cmd), vs = [.ref a, sv, cv] ∧ SqT K H a (wV ws) ∧ OkC ws ∧ Dp K H sv (s3D s) ∧ Dp K H cv (cmdD c) ∧ ValC ws c ∧ InOk ws s.ins ∧
  s.sent.length ≤ 1000 ∧ s.jo.length ≤ 6 ∧ canB s c = true ∧ ∀ v H2, Same H H2 → Dp K H2 v (s3D (bhd ws s c)) → Q v H2
abbrev Ok_l_behind (P : Program) (w : World) (K : PySem.W.Frag) (mg : Str → Option Value) (base : Heap) : Prop := Have P w K mg base CX0 "_law_behind" 1 ["_law_code_here", "_law_state", "_law_command_here"] (sp_l_behind K)
theorem ok_l_behind {P : Program} {w : World} {K : PySem.W.Frag} {mg : Str → Option Value} {base : Heap} (T : Txt K mg) : Ok_l_behind P w K mg base := by
  refine have_of T.d_l_behind (fun _ _ _ _ _ _ us hl => match us, hl with | [_, _, _], _ => rfl) sc_l_behind (fun vs H Q E h => ?_) fun f cdv A outer s H vs Q E hr h => ?_
  · obtain ⟨a, ws, sv, cv, s, c, rfl, _⟩ := h
    rfl
  have hu := hu_of hr
  have hu65 := hu65_of hr
  obtain ⟨a, ws, sv, cv, s, c, rfl, hS, ok, hs, hc, vc, io, hl, hj, can, kY⟩ := h
  refine ⟨_, (pss_cons (ps_asg (pv 1) (pg_tup rfl (pgs_cons (pg_name (i := 6) sc_l_behind.nd rfl (Or.inl rfl)) (pgs_cons (pg_name (i := 7) sc_l_behind.nd rfl (Or.inl rfl)) (pgs_cons (pg_name (i := 8) sc_l_behind.nd rfl (Or.inl rfl)) pgs_nil)))))
 (pss_cons (ps_if (pt_cmpR op_eq (pe_ix (r := rIxT K) ix_tup (pv 2) pe_int (fun _ _ => rfl)) pe_str (nomark _)) (pss_one (ps_ret (pe_tup (pa_cons (pv 6) (pa_cons (pv 7) (pa_cons (pe_op (r := rCatA K) op_catA (pv 8) (pe_tup (pa_cons (pe_callB call_len_str (by rfl) T.b_len (by decide +kernel) (pa_cons (pv 6) pa_nil)) pa_nil))) pa_nil)))))) pss_nil)
 (pss_cons (ps_if (pt_cmpR op_eq (pe_ix (r := rIxT K) ix_tup (pv 2) pe_int (fun _ _ => rfl)) pe_str (nomark _)) (pss_one (ps_ret (pe_tup (pa_cons (pv 6) (pa_cons (pv 7) (pa_cons (pe_op (r := rCatA K) op_catA (pe_slice (r := rSlA K) sl_tupA (pv 8) po_none (po_some (pe_ix (r := rIxT K) ix_tup (pv 2) pe_int (fun _ _ => rfl)))) (pe_slice (r := rSlA K) sl_tupA (pv 8) (po_some (pe_op op_add (pe_ix (r := rIxT K) ix_tup (pv 2) pe_int (fun _ _ => rfl)) pe_int)) po_none)) pa_nil)))))) pss_nil)
 (pss_cons (ps_set (i := 3) sc_l_behind.nd rfl (Or.inl rfl) (pe_ix (r := rIxT K) ix_tup (pv 2) (pe_un un_neg pe_int) (fun _ _ => rfl)))
 (pss_cons (ps_set (i := 4) sc_l_behind.nd rfl (Or.inl rfl) pe_int)
 (C8.pss_cut (ps_if (pt_cmpR op_eq (pe_ix (r := rIxT K) ix_tup (pv 2) pe_int (fun _ _ => rfl)) pe_str (nomark _)) (pss_one (ps_asg (pv 7) (pg_tup rfl (pgs_cons (pg_name (i := 3) sc_l_behind.nd rfl (Or.inl rfl)) (pgs_cons (pg_name (i := 4) sc_l_behind.nd rfl (Or.inl rfl)) pgs_nil))))) pss_nil)
 (pss_cons (ps_set (i := 5) sc_l_behind.nd rfl (Or.inl rfl) pe_non)
 (C8.pss_cut (ps_if (pt_cmpR op_lt (pe_op op_add (pv 4) pe_int) (pe_callB call_len_str (by rfl) T.b_len (by decide +kernel) (pa_cons (pe_ix (r := rIxT K) ix_tup (pv 0) (pv 3) (fun _ _ => rfl)) pa_nil)) (nomark _)) (pss_one (ps_set (i := 5) sc_l_behind.nd rfl (Or.inl rfl) (pe_tup (pa_cons (pv 3) (pa_cons (pe_op op_add (pv 4) pe_int) pa_nil))))) pss_nil)
 (pss_one (ps_ret (pe_tup (pa_cons (pe_op op_add_str (pv 6) (pe_ix ix_str (pe_ix (r := rIxT K) ix_tup (pv 0) (pv 3) (fun _ _ => rfl)) (pv 4) (fun _ _ => rfl))) (pa_cons (pv 5) (pa_cons (pv 8) pa_nil)))))))))))))), ?_⟩
  obtain ⟨p, iv, ja, rfl, hp, hi, hja⟩ := s3D_inv hs
  have jl : (nV s.jo).length = s.jo.length := List.length_map ..
  refine ⟨_, rfl, p, _, rfl, hp, rfl, _, _, rfl, _, _, rfl, _, _, rfl, rfl, ?_⟩
  cases c with
  | join =>
    obtain ⟨q, rfl, hq⟩ := cmd1 (x := "join") hc
    have at0 : atI [V.str "join"] 0 = some (.str "join") := atI_nat (j := 0) rfl
    refine ⟨_, rfl, q, _, 0, _, rfl, rfl, hq, at0, rfl, _, rfl, iteD rfl ⟨_, rfl, _, rfl, _, rfl, _, rfl, _, rfl, small (by rw [mkS_len]; omega), by show 1 ≤ sizeLine; decide, fun t ht => ?_⟩⟩
    refine catA_of (Same.sqt (Same.new ht) hja) (SqT.of upd_same) (small (by rw [jl]; show s.jo.length + 1 ≤ _; omega)) fun c H3 s3 h3 => ⟨by show 3 ≤ sizeLine; decide, fun p2 hp2 => ?_⟩
    have s4 : Same H (upd H3 p2 (.tup [.str (mkS s.sent), iv, .ref c])) := ((Same.new ht).trans s3).then hp2
    refine kY _ _ s4 (s3D_of (s := bhd ws s .join) (SqT.of upd_same) (Dp.same s4 hi) ?_)
    have e : nV (bhd ws s .join).jo = nV s.jo ++ [.int ((mkS s.sent).length : Nat)] := by
      show nV (s.jo ++ [s.sent.length]) = _
      rw [mkS_len]
      exact List.map_append ..
    rw [e]
    exact Same.sqt (Same.new hp2) h3
  | leave n =>
    obtain ⟨q, rfl, hq⟩ := cmd2 (x := "leave") (n := n) hc
    have at0 : atI [V.str "leave", V.int (n : Nat)] 0 = some (.str "leave") := atI_nat (j := 0) rfl
    have at1 : atI [V.str "leave", V.int (n : Nat)] 1 = some (.int (n : Nat)) := atI_nat (j := 1) rfl
    refine ⟨_, rfl, q, _, 0, _, rfl, rfl, hq, at0, rfl, _, rfl, iteDF (sne n_lj) ⟨_, rfl, q, _, 0, _, rfl, rfl, hq, at0, rfl, _, rfl, iteD rfl ⟨_, rfl, _, rfl, _, rfl, _, rfl, q, _, 1, _, rfl, rfl, hq, at1, _, rfl, ?_⟩⟩⟩
    refine slA_of hja fun c1 H1 s1 h1 => ?_
    rw [cutV_to] at h1
    refine ⟨_, rfl, _, rfl, q, _, 1, _, rfl, rfl, Same.sqt s1 hq, at1, _, _, rfl, rfl, _, rfl, ?_⟩
    dsimp only [tNoPart]
    refine slA_of (Same.sqt s1 hja) fun c2 H2 s2 h2 => ?_
    rw [show ((n : Nat) : Int) + 1 = ((n + 1 : Nat) : Int) by omega, cutV_from] at h2
    refine catA_of (Same.sqt s2 h1) h2 (small ?_) fun c H3 s3 h3 => ⟨by show 3 ≤ sizeLine; decide, fun p2 hp2 => ?_⟩
    · rw [List.length_take, List.length_drop, jl]
      omega
    have s4 : Same H (upd H3 p2 (.tup [.str (mkS s.sent), iv, .ref c])) := ((s1.trans s2).trans s3).then hp2
    refine kY _ _ s4 (s3D_of (s := bhd ws s (.leave n)) (SqT.of upd_same) (Dp.same s4 hi) ?_)
    have e : nV (bhd ws s (.leave n)).jo = (nV s.jo).take n ++ (nV s.jo).drop (n + 1) := by
      show nV (s.jo.take n ++ s.jo.drop (n + 1)) = _
      rw [show nV (s.jo.take n ++ s.jo.drop (n + 1)) = nV (s.jo.take n) ++ nV (s.jo.drop (n + 1)) from List.map_append .., ← List.map_take, ← List.map_drop]
    rw [e]
    exact Same.sqt (Same.new hp2) h3
  | send n =>
    obtain ⟨q, rfl, hq⟩ := cmd2 (x := "send") (n := n) hc
    have at0 : atI [V.str "send", V.int (n : Nat)] 0 = some (.str "send") := atI_nat (j := 0) rfl
    have nlast : atI [V.str "send", V.int (n : Nat)] (-1) = some (.int (n : Nat)) := atI_last [V.str "send"] _
    have n_sj : ¬ (("send" : Str)) = "join" := fun z => n_js z.symm
    have n_sl : ¬ (("send" : Str)) = "leave" := fun z => n_ls z.symm
    have n_st : ¬ (("send" : Str)) = "step" := fun z => n_ss z.symm
    refine ⟨_, rfl, q, _, 0, _, rfl, rfl, hq, at0, rfl, _, rfl, iteDF (sne n_sj) ⟨_, rfl, q, _, 0, _, rfl, rfl, hq, at0, rfl, _, rfl, iteDF (sne n_sl) ⟨_, rfl, 1, rfl, q, _, _, _, rfl, rfl, hq, nlast, ?_⟩⟩⟩
    refine ⟨fun σ H1 => H1 = H ∧ ∃ i k : Nat, σ = [some (.ref a), some (.ref p), some (.ref q), some (.int (i : Nat)), some (.int (k : Nat)), none, some (.str (mkS s.sent)), some iv, some (.ref ja)] ∧ i < ws.length ∧ k < (wd ws i).length ∧
      bhd ws s (.send n) = ⟨s.sent ++ [letterOf ws i k], adv ws i (k + 1), s.jo⟩, ?_, ?_⟩
    · exact ⟨_, rfl, q, _, 0, _, rfl, rfl, hq, at0, rfl, _, rfl, iteDF (sne n_st) ⟨rfl, n, 0, rfl, vc, by have := ok.low _ (wd_mem (show n < ws.length from vc)); omega, rfl⟩⟩
    · rintro σ H1 ⟨rfl, i, k, rfl, i1, i2, eb⟩
      have hw := mkS_len (wd ws i)
      refine ⟨fun σ H2 => ∃ lv, Same H1 H2 ∧ Dp K H2 lv (stD (adv ws i (k + 1))) ∧ σ = [some (.ref a), some (.ref p), some (.ref q), some (.int (i : Nat)), some (.int (k : Nat)), some lv, some (.str (mkS s.sent)), some iv, some (.ref ja)], ?_, ?_⟩
      · refine ⟨_, rfl, _, _, rfl, rfl, _, rfl, _, rfl, a, _, _, _, rfl, rfl, hS, atI_w i1, _, rfl, wd_len ok i1, _, _, rfl, rfl, _, rfl, ?_⟩
        by_cases cc : ((k : Int) + 1) < ((mkS (wd ws i)).length : Int)
        · have c2 : k + 1 < (wd ws i).length := by rw [hw] at cc; omega
          have e : adv ws i (k + 1) = some (i, k + 1) := if_pos c2
          refine iteD cc ⟨_, rfl, _, rfl, _, _, rfl, rfl, by show 2 ≤ sizeLine; decide, fun t ht => ⟨.ref t, Same.new ht, ?_, rfl⟩⟩
          rw [e]
          exact stD_mk (SqT.of upd_same)
        · have c2 : ¬ k + 1 < (wd ws i).length := by rw [hw] at cc; omega
          have e : adv ws i (k + 1) = none := if_neg c2
          refine iteDF cc ⟨.non, Same.refl _, ?_, rfl⟩
          rw [e]
          exact .non
      · rintro σ H2 ⟨lv, s2, hlv, rfl⟩
        refine ⟨_, rfl, _, rfl, _, rfl, a, _, _, _, rfl, rfl, Same.sqt s2 hS, atI_w i1, _, rfl, _, _, _, rfl, rfl, wd_len ok i1, atI_l i2, _, _, rfl, rfl, ?_, _, rfl, _, rfl, by show 3 ≤ sizeLine; decide, fun p2 hp2 => ?_⟩
        · rw [mkS_len]
          exact small (by show s.sent.length + 1 ≤ _; omega)
        · refine kY _ _ (s2.then hp2) ?_
          rw [eb, mkS_one, mkS_app]
          exact s3D_of (s := ⟨s.sent ++ [letterOf ws i k], adv ws i (k + 1), s.jo⟩) (SqT.of upd_same) (Dp.same (Same.new hp2) hlv) (Same.sqt (s2.then hp2) hja)
  | step =>
    obtain ⟨q, rfl, hq⟩ := cmd1 (x := "step") hc
    have at0 : atI [V.str "step"] 0 = some (.str "step") := atI_nat (j := 0) rfl
    have nlast : atI [V.str "step"] (-1) = some (.str "step") := atI_last [] _
    have n_tj : ¬ (("step" : Str)) = "join" := fun z => n_jt z.symm
    have n_tl : ¬ (("step" : Str)) = "leave" := fun z => n_lt z.symm
    have can : s.ins.isSome = true := can
    obtain ⟨i0, k0, es⟩ : ∃ i k, s.ins = some (i, k) := by
      cases e : s.ins with
      | none => rw [e] at can; cases can
      | some wk => exact ⟨wk.1, wk.2, rfl⟩
    rw [es] at hi io
    obtain ⟨ia, rfl, hia⟩ := stD_some hi
    refine ⟨_, rfl, q, _, 0, _, rfl, rfl, hq, at0, rfl, _, rfl, iteDF (sne n_tj) ⟨_, rfl, q, _, 0, _, rfl, rfl, hq, at0, rfl, _, rfl, iteDF (sne n_tl) ⟨_, rfl, 1, rfl, q, _, _, _, rfl, rfl, hq, nlast, ?_⟩⟩⟩
    refine ⟨fun σ H1 => H1 = H ∧ ∃ i k : Nat, σ = [some (.ref a), some (.ref p), some (.ref q), some (.int (i : Nat)), some (.int (k : Nat)), none, some (.str (mkS s.sent)), some (.ref ia), some (.ref ja)] ∧ i < ws.length ∧ k < (wd ws i).length ∧
      bhd ws s .step = ⟨s.sent ++ [letterOf ws i k], adv ws i (k + 1), s.jo⟩, ?_, ?_⟩
    · refine ⟨_, rfl, q, _, 0, _, rfl, rfl, hq, at0, rfl, _, rfl, iteD rfl ⟨_, rfl, ia, _, rfl, hia, rfl, _, _, rfl, _, _, rfl, rfl, rfl, i0, k0, rfl, io.1, io.2.2, ?_⟩⟩
      unfold bhd
      rw [es]
    · rintro σ H1 ⟨rfl, i, k, rfl, i1, i2, eb⟩
      have hw := mkS_len (wd ws i)
      refine ⟨fun σ H2 => ∃ lv, Same H1 H2 ∧ Dp K H2 lv (stD (adv ws i (k + 1))) ∧ σ = [some (.ref a), some (.ref p), some (.ref q), some (.int (i : Nat)), some (.int (k : Nat)), some lv, some (.str (mkS s.sent)), some (.ref ia), some (.ref ja)], ?_, ?_⟩
      · refine ⟨_, rfl, _, _, rfl, rfl, _, rfl, _, rfl, a, _, _, _, rfl, rfl, hS, atI_w i1, _, rfl, wd_len ok i1, _, _, rfl, rfl, _, rfl, ?_⟩
        by_cases cc : ((k : Int) + 1) < ((mkS (wd ws i)).length : Int)
        · have c2 : k + 1 < (wd ws i).length := by rw [hw] at cc; omega
          have e : adv ws i (k + 1) = some (i, k + 1) := if_pos c2
          refine iteD cc ⟨_, rfl, _, rfl, _, _, rfl, rfl, by show 2 ≤ sizeLine; decide, fun t ht => ⟨.ref t, Same.new ht, ?_, rfl⟩⟩
          rw [e]
          exact stD_mk (SqT.of upd_same)
        · have c2 : ¬ k + 1 < (wd ws i).length := by rw [hw] at cc; omega
          have e : adv ws i (k + 1) = none := if_neg c2
          refine iteDF cc ⟨.non, Same.refl _, ?_, rfl⟩
          rw [e]
          exact .non
      · rintro σ H2 ⟨lv, s2, hlv, rfl⟩
        refine ⟨_, rfl, _, rfl, _, rfl, a, _, _, _, rfl, rfl, Same.sqt s2 hS, atI_w i1, _, rfl, _, _, _, rfl, rfl, wd_len ok i1, atI_l i2, _, _, rfl, rfl, ?_, _, rfl, _, rfl, by show 3 ≤ sizeLine; decide, fun p2 hp2 => ?_⟩
        · rw [mkS_len]
          exact small (by show s.sent.length + 1 ≤ _; omega)
        · refine kY _ _ (s2.then hp2) ?_
          rw [eb, mkS_one, mkS_app]
          exact s3D_of (s := ⟨s.sent ++ [letterOf ws i k], adv ws i (k + 1), s.jo⟩) (SqT.of upd_same) (Dp.same (Same.new hp2) hlv) (Same.sqt (s2.then hp2) hja)
end K76
namespace K76
open PySem PySem.Spec PyProof.Rows L2
theorem SameX.ts {a l : Addr} {ns : List Int} {H H2 : Hp} (x : SameX a H H2) (st : StAt H a l ns) : TupS H H2 := by
  obtain ⟨c, k, e, _⟩ := st
  intro b xs h
  have nb : b ≠ a := fun z => by
    rw [z] at h
    rcases h with h | ⟨o, h⟩
    · rw [e] at h; cases h
    · rw [e] at h; cases h
  rcases h with h | ⟨o, h⟩
  · exact .inl (x b _ nb h)
  · exact .inr ⟨o, x b _ nb h⟩
def sp_l_command (K : PySem.W.Frag) : Sp := fun vs H Q _ => ∃ (a l b : Addr) (ns : List Int) (sv : V) (ws : List (List Nat)) (s : S3), vs = [.ref a, .ref b, sv] ∧ StAt H a l ns ∧ SqT K H b (wV ws) ∧ ws.length ≤ 4 ∧ Dp K H sv (s3D s) ∧
  ∀ v c H2, ValC ws c → SameX a H H2 → StAt H2 a l ns → Dp K H2 v (cmdD c) → Q v H2
abbrev Ok_l_command (P : Program) (w : World) (K : PySem.W.Frag) (mg : Str → Option Value) (base : Heap) : Prop := Have P w K mg base CX0 "_law_command" 2 ["_law_stream_here", "_law_code_here", "_law_state"] (sp_l_command K)
theorem ok_l_command {P : Program} {w : World} {K : PySem.W.Frag} {mg : Str → Option Value} {base : Heap} (T : Txt K mg) (h_l_next : Ok_l_next P w K mg base) : Ok_l_command P w K mg base := by
  obtain ⟨f_l_next, fd_l_next, g_l_next, kp_l_next, b_l_next, G_l_next⟩ := h_l_next
  refine have_of T.d_l_command (fun _ _ _ _ _ _ us hl => match us, hl with | [_, _, _], _ => rfl) sc_l_command (fun vs H Q E h => ?_) fun f cdv A outer s H vs Q E hr h => ?_
  · obtain ⟨a, l, b, ns, sv, ws, s, rfl, _⟩ := h
    rfl
  have hu := hu_of hr
  have hu65 := hu65_of hr
  obtain ⟨a, l, b, ns, sv, ws, s, rfl, st, hb, hl, hs, k⟩ := h
  refine ⟨_, (pss_cons (ps_asg (pv 2) (pg_tup rfl (pgs_cons (pg_name (i := 4) sc_l_command.nd rfl (Or.inl rfl)) (pgs_cons (pg_name (i := 5) sc_l_command.nd rfl (Or.inl rfl)) (pgs_cons (pg_name (i := 6) sc_l_command.nd rfl (Or.inl rfl)) pgs_nil)))))
 (pss_cons (ps_set (i := 3) sc_l_command.nd rfl (Or.inl rfl) (pe_call G_l_next (hr.mono (by decide)) (by rfl) g_l_next kp_l_next b_l_next .nil pass0 (pa_cons (pv 0) (pa_cons pe_int pa_nil))))
 (pss_cons (ps_if (pt_cmpR op_lt (pv 3) pe_int (nomark _)) (pss_one (ps_ret (pe_tup (pa_cons pe_str pa_nil)))) pss_nil)
 (pss_cons (ps_if (PW.pt (pw_and (pt_cmpR op_lt (pv 3) pe_int (nomark _)) (pw_and1 (pt_cmpR op_gt (pe_callB (r := rLenQ K) call_lenQ (by rfl) T.b_len (by decide +kernel) (pa_cons (pv 1) pa_nil)) pe_int (nomark _))))) (pss_one (ps_ret (pe_tup (pa_cons pe_str (pa_cons (pe_call G_l_next (hr.mono (by decide)) (by rfl) g_l_next kp_l_next b_l_next .nil pass0 (pa_cons (pv 0) (pa_cons (pe_callB (r := rLenQ K) call_lenQ (by rfl) T.b_len (by decide +kernel) (pa_cons (pv 1) pa_nil)) pa_nil))) pa_nil))))) pss_nil)
 (pss_cons (ps_if (pt_cmpR op_lt (pv 3) pe_int (nomark _)) (pss_one (ps_ret (pe_tup (pa_cons pe_str pa_nil)))) pss_nil)
 (pss_one (ps_ret (pe_tup (pa_cons pe_str (pa_cons (pe_call G_l_next (hr.mono (by decide)) (by rfl) g_l_next kp_l_next b_l_next .nil pass0 (pa_cons (pv 0) (pa_cons pe_int pa_nil))) pa_nil)))))))))), ?_⟩
  obtain ⟨p, iv, ja, rfl, hp, hi, hja⟩ := s3D_inv hs
  have wl : (wV ws).length = ws.length := List.length_map ..
  refine ⟨_, rfl, p, _, rfl, hp, rfl, _, _, rfl, _, _, rfl, _, _, rfl, rfl, ?_⟩
  refine ⟨_, rfl, a, l, ns, 9, rfl, st, by decide, by decide, fun d H1 hd sx1 st1 => ?_⟩
  have hb1 := TupS.sqt (sx1.ts st) hb
  refine ⟨_, rfl, _, _, rfl, rfl, _, rfl, ?_⟩
  by_cases c1 : ((d : Nat) : Int) < 3
  · refine iteD c1 ⟨by show 1 ≤ sizeLine; decide, fun t ht => ?_⟩
    exact k _ .step _ True.intro (sx1.trans (Same.x (Same.new ht))) (st1.same (Same.new ht)) (.tup (SqT.of upd_same) (.cons (.str _) .nil))
  refine iteDF c1 ⟨_, rfl, _, _, rfl, rfl, _, rfl, ?_⟩
  have fin : ∀ (Q1 : VK), (∀ v H2, (∃ c, ValC ws c ∧ SameX a H H2 ∧ StAt H2 a l ns ∧ Dp K H2 v (cmdD c)) → Q1 v H2) → True := fun _ _ => trivial
  have rest : ∀ (Qr : Prop), (((d : Nat) : Int) < 8 → Qr) → Qr ∨ True := fun _ _ => .inr trivial
  by_cases c2 : ((d : Nat) : Int) < 6
  · refine iteD c2 ⟨_, rfl, b, _, rfl, .inr hb1, _, _, rfl, rfl, _, rfl, ?_⟩
    by_cases c3 : (0 : Int) < ((wV ws).length : Int)
    · rw [wl] at c3
      refine iteD (by rw [wl]; exact c3) ⟨_, rfl, _, rfl, b, _, rfl, .inr hb1, a, l, ns, ws.length, by rw [wl]; rfl, st1, by omega, by omega, fun d2 H2 hd2 sx2 st2 => ⟨by show 2 ≤ sizeLine; decide, fun t ht => ?_⟩⟩
      exact k _ (.send d2) _ hd2 ((sx1.trans sx2).trans (Same.x (Same.new ht))) (st2.same (Same.new ht)) (.tup (SqT.of upd_same) (.cons (.str _) (.cons (.int _) .nil)))
    · refine iteDF c3 ⟨_, rfl, _, _, rfl, rfl, _, rfl, iteD (by omega) ⟨by show 1 ≤ sizeLine; decide, fun t ht => ?_⟩⟩
      exact k _ .join _ True.intro (sx1.trans (Same.x (Same.new ht))) (st1.same (Same.new ht)) (.tup (SqT.of upd_same) (.cons (.str _) .nil))
  · refine iteDF c2 ⟨_, rfl, _, _, rfl, rfl, _, rfl, ?_⟩
    by_cases c4 : ((d : Nat) : Int) < 8
    · refine iteD c4 ⟨by show 1 ≤ sizeLine; decide, fun t ht => ?_⟩
      exact k _ .join _ True.intro (sx1.trans (Same.x (Same.new ht))) (st1.same (Same.new ht)) (.tup (SqT.of upd_same) (.cons (.str _) .nil))
    · refine iteDF c4 ⟨_, rfl, a, l, ns, 6, rfl, st1, by decide, by decide, fun d2 H2 hd2 sx2 st2 => ⟨by show 2 ≤ sizeLine; decide, fun t ht => ?_⟩⟩
      exact k _ (.leave d2) _ (show d2 ≤ 5 by omega) ((sx1.trans sx2).trans (Same.x (Same.new ht))) (st2.same (Same.new ht)) (.tup (SqT.of upd_same) (.cons (.str _) (.cons (.int _) .nil)))
/-! ### the drawn history -/
def sp_l_history (K : PySem.W.Frag) : Sp := fun vs H Q _ => ∃ (a l b : Addr) (ns : List Int) (ws : List (List Nat)), vs = [.ref a, .ref b, .int 8] ∧ StAt H a l ns ∧ SqT K H b (wV ws) ∧ OkC ws ∧
  ∀ (p j q : Addr) (cv sv : List V) (cs : List Cmd) (H2 : Hp), Hist ws cs → SameX a H H2 → StAt H2 a l ns → H2 p = some (.tup [.ref j, .ref q]) → H2 j = some (.tup cv) → H2 q = some (.lst sv) → DpAll K H2 cv (cs.map cmdD) → DpAll K H2 sv ((ssOf ws cs).map s3D) → Q (.ref p) H2
abbrev Ok_l_history (P : Program) (w : World) (K : PySem.W.Frag) (mg : Str → Option Value) (base : Heap) : Prop := Have P w K mg base CX0 "_law_history" 3 ["_law_stream_here", "_law_code_here", "_law_most"] (sp_l_history K)
theorem ok_l_history {P : Program} {w : World} {K : PySem.W.Frag} {mg : Str → Option Value} {base : Heap} (T : Txt K mg) (h_l_next : Ok_l_next P w K mg base) (h_l_command : Ok_l_command P w K mg base) (h_l_why_not : Ok_l_why_not P w K mg base) (h_l_behind : Ok_l_behind P w K mg base) : Ok_l_history P w K mg base := by
  obtain ⟨f_l_next, fd_l_next, g_l_next, kp_l_next, b_l_next, G_l_next⟩ := h_l_next
  obtain ⟨f_l_command, fd_l_command, g_l_command, kp_l_command, b_l_command, G_l_command⟩ := h_l_command
  obtain ⟨f_l_why_not, fd_l_why_not, g_l_why_not, kp_l_why_not, b_l_why_not, G_l_why_not⟩ := h_l_why_not
  obtain ⟨f_l_behind, fd_l_behind, g_l_behind, kp_l_behind, b_l_behind, G_l_behind⟩ := h_l_behind
  refine have_of T.d_l_history (fun _ _ _ _ _ _ us hl => match us, hl with | [_, _, _], _ => rfl) sc_l_history (fun vs H Q E h => ?_) fun f cdv A outer s H vs Q E hr h => ?_
  · obtain ⟨a, l, b, ns, ws, rfl, _⟩ := h
    rfl
  have hu := hu_of hr
  have hu65 := hu65_of hr
  obtain ⟨a, l, b, ns, ws, rfl, st, hb, ok, k⟩ := h
  refine ⟨_, (pss_cons (ps_set (i := 3) sc_l_history.nd rfl (Or.inl rfl) (pe_lst pa_nil))
 (pss_cons (ps_set (i := 4) sc_l_history.nd rfl (Or.inl rfl) (pe_lst (pa_cons (pe_tup (pa_cons pe_str (pa_cons pe_non (pa_cons (pe_tup pa_nil) pa_nil)))) pa_nil)))
 (pss_cons (ps_for PassesOwn.never rfl (pi_range1 (by rfl) T.b_range (pa_cons (pe_call G_l_next (hr.mono (by decide)) (by rfl) g_l_next kp_l_next b_l_next .nil pass0 (pa_cons (pv 0) (pa_cons (pe_op op_add (pv 2) pe_int) pa_nil))) pa_nil)) (pg_name (i := 5) sc_l_history.nd rfl (Or.inl rfl))
 (pss_cons (ps_set (i := 6) sc_l_history.nd rfl (Or.inl rfl) (pe_call G_l_command (hr.mono (by decide)) (by rfl) g_l_command kp_l_command b_l_command .nil pass0 (pa_cons (pv 0) (pa_cons (pv 1) (pa_cons (pe_ix (r := rIxL K) ix_list (pv 4) (pe_un un_neg pe_int) (fun _ _ => rfl)) pa_nil)))))
 (pss_one (ps_if (pt_cmpR op_eq (pe_call G_l_why_not (hr.mono (by decide)) (by rfl) g_l_why_not kp_l_why_not b_l_why_not .nil pass0 (pa_cons (pe_ix (r := rIxL K) ix_list (pv 4) (pe_un un_neg pe_int) (fun _ _ => rfl)) (pa_cons (pv 6) pa_nil))) pe_str (nomark _)) (pss_cons (ps_expr (pe_bm PySem.F.plainAttrs_list PySem.F.slot_list_append PySem.F.type_list_append mt_append (pv 3) (pa_cons (pv 6) pa_nil)))
 (pss_one (ps_expr (pe_bm PySem.F.plainAttrs_list PySem.F.slot_list_append PySem.F.type_list_append mt_append (pv 4) (pa_cons (pe_call G_l_behind (hr.mono (by decide)) (by rfl) g_l_behind kp_l_behind b_l_behind .nil pass0 (pa_cons (pv 1) (pa_cons (pe_ix (r := rIxL K) ix_list (pv 4) (pe_un un_neg pe_int) (fun _ _ => rfl)) (pa_cons (pv 6) pa_nil)))) pa_nil))))) pss_nil))))
 (pss_one (ps_ret (pe_tup (pa_cons (pe_callTy (r := rTupQ K) call_tupQ (by rfl) T.b_tuple (by decide +kernel) (pa_cons (pv 3) pa_nil)) (pa_cons (pv 4) pa_nil)))))))), ?_⟩
  refine ⟨Nat.zero_le _, fun J hJ => ⟨Nat.zero_le _, fun e he => ⟨by show 3 ≤ sizeLine; decide, fun f0 hf0 => ⟨by show 1 ≤ sizeLine; decide, fun S hS => ?_⟩⟩⟩⟩
  have naJ : J ≠ a := st.ne hJ
  have nlJ : J ≠ l := st.nel hJ
  have sJ : Same H (upd H J (.lst [])) := Same.new hJ
  have hJe : e ≠ J := fun z => by rw [z, upd_same] at he; cases he
  have hS0 : H S = none := ((sJ.then he).then hf0).free hS
  have naS : S ≠ a := st.ne hS0
  have nlS : S ≠ l := st.nel hS0
  have nJS : J ≠ S := fun z => by
    rw [← z] at hS
    have q : upd (upd (upd H J (.lst [])) e (.tup [])) f0 (.tup [.str "", .non, .ref e]) J = some (.lst []) := by
      rw [upd_ne (ne_of_none (by rw [upd_ne hJe.symm, upd_same]) hf0), upd_ne hJe.symm, upd_same]
    rw [q] at hS
    cases hS
  have s1 : Same H (upd (upd (upd (upd H J (.lst [])) e (.tup [])) f0 (.tup [.str "", .non, .ref e])) S (.lst [.ref f0])) := ((sJ.then he).then hf0).then hS
  have hJ1 : (upd (upd (upd (upd H J (.lst [])) e (.tup [])) f0 (.tup [.str "", .non, .ref e])) S (.lst [.ref f0])) J = some (.lst []) := by
    rw [upd_ne nJS, upd_ne (ne_of_none (by rw [upd_ne hJe.symm, upd_same]) hf0), upd_ne hJe.symm, upd_same]
  have hd0 : Dp K (upd (upd (upd (upd H J (.lst [])) e (.tup [])) f0 (.tup [.str "", .non, .ref e])) S (.lst [.ref f0])) (.ref f0) (s3D s0) := by
    refine Dp.same (Same.new hS) ?_
    have q : Dp K (upd (upd (upd H J (.lst [])) e (.tup [])) f0 (.tup [.str "", .non, .ref e])) (.ref f0) (.tuple [.str "", .none, .tuple []]) :=
      .tup (SqT.of upd_same) (.cons (.str _) (.cons .non (.cons (.tup (Same.sqt (Same.new hf0) (SqT.of upd_same)) .nil) .nil)))
    show Dp K _ (.ref f0) (.tuple [.str (mkS []), .none, .tuple []])
    rw [mkS_nil]
    exact q
  have hS1 : (upd (upd (upd (upd H J (.lst [])) e (.tup [])) f0 (.tup [.str "", .non, .ref e])) S (.lst [.ref f0])) S = some (.lst [.ref f0]) := upd_same
  generalize (upd (upd (upd (upd H J (.lst [])) e (.tup [])) f0 (.tup [.str "", .non, .ref e])) S (.lst [.ref f0])) = HS at s1 hJ1 hS1 hd0 ⊢
  refine ⟨_, rfl, _, rfl, _, _, rfl, rfl, a, l, ns, 9, rfl, st.same s1, by decide, by decide, fun d H1 hd sx1 st1 => ⟨_, rfl, by omega, by omega, ?_⟩⟩
  have nS : ∀ cs : List Cmd, noLs ((ssOf ws cs).map s3D) = true := fun cs => noLs_map s3D s3D_noL _
  have nC : ∀ cs : List Cmd, noLs (cs.map cmdD) = true := fun cs => noLs_map cmdD cmdD_noL _
  refine for_range (lo := 0) (n := ((d : Nat) : Int).toNat) (fun i σ H2 => ∃ (x5 x6 : Option V) (cs : List Cmd) (cv sv : List V), σ = [some (.ref a), some (.ref b), some (.int 8), some (.ref J), some (.ref S), x5, x6] ∧ cs.length ≤ i ∧ Hist ws cs ∧
    H2 J = some (.lst cv) ∧ H2 S = some (.lst sv) ∧ DpAll K H2 cv (cs.map cmdD) ∧ DpAll K H2 sv ((ssOf ws cs).map s3D) ∧ SameX a H H2 ∧ StAt H2 a l ns) ?_ ?_ ?_
  · refine ⟨_, _, [], [], [.ref f0], rfl, Nat.le_refl _, hist_nil ws, sx1 _ _ naJ hJ1, sx1 _ _ naS hS1, .nil, .cons (Dp.ts (sx1.ts (st.same s1)) (s3D_noL s0) hd0) .nil, (Same.x s1).trans sx1, st1⟩
  · rintro i σ H2 hi ⟨x5, x6, cs, cv, sv, rfl, hl, hh, hJ2, hS2, hcv, hsv, sx2, st2⟩
    have hcl : cs.length < 8 := by omega
    obtain ⟨lv, hlv, hld⟩ := hsv.get (i := (ssOf ws cs).length - 1) (by rw [List.getElem?_map, ssOf_last]; rfl)
    have hsl : sv.length = (ssOf ws cs).length := by rw [hsv.length, List.length_map]
    rw [← hsl] at hlv
    have so := hist_last hh
    refine ⟨_, rfl, _, rfl, _, rfl, 1, rfl, S, sv, _, lv, rfl, rfl, SqL.of hS2, atI_last' hlv, ?_⟩
    refine ⟨a, l, b, ns, lv, ws, stAfter ws cs, rfl, st2, TupS.sqt (sx2.ts st) hb, ok.len, hld, fun cm c H3 vc sx3 st3 hcm => ?_⟩
    have t3 := sx3.ts st2
    have hJ3 := sx3 _ _ naJ hJ2
    have hS3 := sx3 _ _ naS hS2
    have hld3 := Dp.ts t3 (s3D_noL _) hld
    refine ⟨_, rfl, 1, rfl, S, sv, _, lv, rfl, rfl, SqL.of hS3, atI_last' hlv, _, rfl, lv, cm, stAfter ws cs, c, rfl, hld3, hcm, fun z H4 s4 hz => ⟨rfl, _, rfl, ?_⟩⟩
    have hJ4 := s4 _ _ hJ3
    have hS4 := s4 _ _ hS3
    have sx4 : SameX a H H4 := (sx2.trans sx3).trans (Same.x s4)
    have st4 := st3.same s4
    have hcv4 := DpAll.same s4 (DpAll.ts t3 (nC cs) hcv)
    have hsv4 := DpAll.same s4 (DpAll.ts t3 (nS cs) hsv)
    by_cases cz : z = ""
    · have can := hz.mp cz
      have dz : V.str z = V.str "" := by rw [cz]
      refine iteD dz ⟨_, rfl, .inl ⟨rfl, _, SqL.of hJ4⟩, _, rfl, J, cv, cm, rfl, rfl, hJ4, smallLt (by rw [hcv.length, List.length_map]; omega), ?_⟩
      have t5 : TupS H4 (upd H4 J (.lst (cv ++ [cm]))) := TupS.lst hJ4
      have hS5 : (upd H4 J (.lst (cv ++ [cm]))) S = some (.lst sv) := by rw [upd_ne nJS.symm]; exact hS4
      have hld5 := Dp.ts t5 (s3D_noL _) (Dp.same s4 hld3)
      have hcm5 := Dp.ts t5 (cmdD_noL c) (Dp.same s4 hcm)
      refine ⟨_, rfl, .inl ⟨rfl, _, SqL.of hS5⟩, _, rfl, _, rfl, 1, rfl, S, sv, _, lv, rfl, rfl, SqL.of hS5, atI_last' hlv, _, rfl, ?_⟩
      refine ⟨b, ws, lv, cm, stAfter ws cs, c, rfl, TupS.sqt t5 (TupS.sqt (sx4.ts st) hb), ok, hld5, hcm5, vc, so.ins, by have := so.sent; omega, so.jo, can, fun v H6 s6 h6 => ?_⟩
      have hS6 := s6 _ _ hS5
      have hJ6 := s6 _ _ (show (upd H4 J (.lst (cv ++ [cm]))) J = some (.lst (cv ++ [cm])) from upd_same)
      refine ⟨S, sv, v, rfl, rfl, hS6, smallLt (by rw [hsl, ssOf_len]; omega), ?_⟩
      have t7 : TupS H6 (upd H6 S (.lst (sv ++ [v]))) := TupS.lst hS6
      refine ⟨_, _, cs ++ [c], cv ++ [cm], sv ++ [v], rfl, by rw [List.length_append]; show cs.length + 1 ≤ i + 1; omega, hist_snoc hh hcl vc can, by rw [upd_ne nJS]; exact hJ6, upd_same, ?_, ?_, ?_, ?_⟩
      · rw [List.map_append]
        exact DpAll.ts t7 (by rw [← List.map_append]; exact nC _) (DpAll.same s6 ((DpAll.ts t5 (nC cs) hcv4).snoc hcm5))
      · rw [ssOf_snoc, List.map_append]
        exact DpAll.ts t7 (by rw [← List.map_append, ← ssOf_snoc]; exact nS _) ((DpAll.same s6 (DpAll.ts t5 (nS cs) hsv4)).snoc h6)
      · intro o u no ho
        have n1 : o ≠ J := ne_of_none ho hJ
        have n2 : o ≠ S := ne_of_none ho hS0
        rw [upd_ne n2]
        exact s6 _ _ (by rw [upd_ne n1]; exact sx4 o u no ho)
      · exact ((st4.put naJ nlJ).same s6).put naS nlS
    · have dz : ¬ V.str z = V.str "" := sne cz
      exact iteDF dz ⟨_, _, cs, cv, sv, rfl, Nat.le_succ_of_le hl, hh, hJ4, hS4, hcv4, hsv4, sx4, st4⟩
  · rintro σ H2 ⟨x5, x6, cs, cv, sv, rfl, hl, hh, hJ2, hS2, hcv, hsv, sx2, st2⟩
    refine ⟨_, rfl, J, cv, rfl, .inl ⟨SqL.of hJ2, fun j hj => ⟨_, rfl, by show 2 ≤ sizeLine; decide, fun p hp => ?_⟩⟩⟩
    have s3 : Same H2 (upd (upd H2 j (.tup cv)) p (.tup [.ref j, .ref S])) := (Same.new hj).then hp
    exact k p j S cv sv cs _ hh (sx2.trans (Same.x s3)) (st2.same s3) upd_same (Same.new hp _ _ upd_same) (s3 _ _ hS2) (DpAll.same s3 hcv) (DpAll.same s3 hsv)
end K76
namespace PySem
/-! ### a dict in which at most one entry has the sought hash -/
theorem filter_lone (n j : Nat) (h : j < n) : (List.range n).filter (fun i => decide (i = j)) = [j] := by
  induction n with
  | zero => omega
  | succ m ih =>
    rw [List.range_succ, List.filter_append]
    by_cases e : j = m
    · subst e
      have z : (List.range j).filter (fun i => decide (i = j)) = [] := List.filter_eq_nil_iff.mpr fun x hx => by
        have := List.mem_range.mp hx
        simp; omega
      rw [z]
      simp
    · rw [ih (by omega)]
      have : decide (m = j) = false := decide_eq_false (Ne.symm e)
      rw [List.filter_cons, this]
      rfl
theorem places_lone {n j : Nat} {f : Nat → Option Int} {h : Int} (hj : j < n) (e : f j = some h) (u : ∀ i, f i = some h → i = j) : placesWithHash n f h = [j] := by
  unfold placesWithHash
  rw [← filter_lone n j hj]
  refine List.filter_congr fun i _ => ?_
  by_cases q : i = j
  · subst q
    rw [e]
    simp
  · rw [decide_eq_false q]
    exact beq_eq_false_iff_ne.mpr fun z => q (u i z)
theorem places_no {n : Nat} {f : Nat → Option Int} {h : Int} (u : ∀ i, f i ≠ some h) : placesWithHash n f h = [] :=
  List.filter_eq_nil_iff.mpr fun i _ z => u i (eq_of_beq z)
section
variable {prog : Program} {w : World} {K : Type} [DecidableEq K] {knd : HeapKind prog w K} {A : Around} {E : Value → Shared → Prop} {s : Shared}
theorem find_lone {d a : Addr} {o : Obj} {es : Array DictEntry} {ep : Nat} {k : K} {Q : Option Nat → Shared → Prop} (hu : knd.room A) (hkey : knd.is s.heap k a) (ho : s.heap.get? d = some o) (hd : o.data = .dict es ep)
    (hany : ∀ e ∈ es, e.key = Value.ref a → e.hash = knd.hash k)
    (c : ((∀ (i : Nat) e, es[i]? = some e → e.hash ≠ knd.hash k) ∧ Q none s) ∨ ∃ (j : Nat) (b : Addr) (v : Value), es[j]? = some ⟨knd.hash k, .ref b, v⟩ ∧ knd.is s.heap k b ∧ (∀ (i : Nat) e, es[i]? = some e → e.hash = knd.hash k → i = j) ∧ Q (some j) s) :
    wpAny (model prog w) A (dictFind d (.ref a) (knd.hash k)) Q E s := by
  have noOld : ¬ (es.any fun e => e.key == Value.ref a && e.hash != knd.hash k) = true := by
    rw [← Array.any_toList, List.any_eq_true]
    rintro ⟨e, he, hb⟩
    rw [Bool.and_eq_true] at hb
    have q := hany e (Array.mem_toList_iff.mp he) (eq_of_beq hb.1)
    rw [q] at hb
    simp at hb
  unfold dictFind
  try with_reducible refine wpAny_holding ?_
  refine wpAny_bind (wpAny_dictEntries ho hd ?_)
  dsimp only
  rcases c with ⟨none_, q⟩ | ⟨j, b, v, hj, hb, uq, q⟩
  · have pl : placesWithHash es.size (fun i => es[i]?.map (·.hash)) (knd.hash k) = [] := places_no fun i z => by
      obtain ⟨e, h1, h2⟩ := Option.map_eq_some_iff.mp z
      exact none_ i e h1 h2
    rw [pl, if_neg (by simp [carriedByValue]), if_neg noOld]
    refine wpAny_bind (wpAny_bind (wpAny_pure ?_))
    simp [tableMayTell]
    exact wpAny_pure (wpAny_pure q)
  · have jl : j < es.size := (Array.getElem?_eq_some_iff.mp hj).1
    have pl : placesWithHash es.size (fun i => es[i]?.map (·.hash)) (knd.hash k) = [j] := places_lone jl (by rw [hj]; rfl) fun i z => by
      obtain ⟨e, h1, h2⟩ := Option.map_eq_some_iff.mp z
      exact uq i e h1 h2
    have st : [j].filterMap (fun i => es[i]?.map (·.key)) = [Value.ref b] := by
      simp [hj]
    rw [pl, st, if_neg (by simp [carriedByValue]), if_neg noOld]
    by_cases one : ([Value.ref b] == [Value.ref a]) = true
    · rw [if_pos one]
      refine wpAny_bind (wpAny_pure ?_)
      rw [if_neg (by simp), List.forIn_cons, hj]
      dsimp only
      rw [if_pos (beq_self_eq_true _)]
      refine wpAny_bind (wpAny_bind (wpAny_bind (wpAny_dictEpoch ho hd (wpAny_bind (knd.eqBool hu hb hkey (wpAny_bind (wpAny_dictEpoch ho hd ?_)))))))
      rw [if_neg (by simp), if_pos (by simp), if_neg (by simp)]
      refine wpAny_bind (wpAny_rule ?_)
      rw [if_pos (by simp)]
      exact wpAny_pure (wpAny_pure (wpAny_pure q))
    · rw [if_neg one]
      refine wpAny_bind (wpAny_tableMayTell_quiet hkey (fun v hv => ⟨k, b, List.mem_singleton.mp hv, hb⟩) ?_)
      rw [if_neg (by simp), List.forIn_cons, hj]
      dsimp only
      rw [if_pos (beq_self_eq_true _)]
      refine wpAny_bind (wpAny_bind (wpAny_bind (wpAny_dictEpoch ho hd (wpAny_bind (knd.eqBool hu hb hkey (wpAny_bind (wpAny_dictEpoch ho hd ?_)))))))
      rw [if_neg (by simp), if_pos (by simp), if_neg (by simp)]
      refine wpAny_bind (wpAny_rule ?_)
      rw [if_pos (by simp)]
      exact wpAny_pure (wpAny_pure (wpAny_pure q))
/-- d[t] where one entry has t's hash, and its key is t -/
theorem get_lone {d a b : Addr} {o : Obj} {es : Array DictEntry} {ep j : Nat} {k : K} {v : Value} {Q : Value → Shared → Prop} (hu : knd.room A.in1) (hkey : knd.is s.heap k a) (ho : s.heap.get? d = some o) (hc : o.cls = .type "dict") (hd : o.data = .dict es ep)
    (hany : ∀ e ∈ es, e.key = Value.ref a → e.hash = knd.hash k) (hj : es[j]? = some ⟨knd.hash k, .ref b, v⟩) (hb : knd.is s.heap k b) (uq : ∀ (i : Nat) e, es[i]? = some e → e.hash = knd.hash k → i = j)
    (h : Q v { s with toks := s.toks + knd.draws k }) : wpAny (model prog w) A (getItem (.ref d) (.ref a)) Q E s := by
  have ty : s.TypeIs (.ref d) "dict" := ⟨o, ho, hc⟩
  unfold getItem
  try with_reducible refine wpAny_holding ?_
  refine wpAny_bind (wpAny_sequenceKey ty (by decide) (wpAny_bind (wpAny_callSpecial?_slot (name := Str.ofString "__getitem__") ty slot_dict_getitem (wpAny_call_entry slot_dict_getitem ty entry_dict_getitem ?_ (args_dict_getitem _ _)))))
  have got : wpAny (model prog w) A.in1 (dictGet d (.ref a)) (fun r s1 => r = some v ∧ s1 = { s with toks := s.toks + knd.draws k }) (fun _ _ => False) s := by
    unfold dictGet
    try with_reducible refine wpAny_holding ?_
    refine wpAny_bind (knd.pyHash hu hkey (wpAny_bind (find_lone (s := { s with toks := s.toks + knd.draws k }) hu hkey ho hd hany (.inr ⟨j, b, v, hj, hb, uq, ?_⟩))))
    refine wpAny_bind (wpAny_dictEntries (s := { s with toks := s.toks + knd.draws k }) ho hd ?_)
    rw [hj]
    exact wpAny_pure ⟨rfl, rfl⟩
  show wpAny _ _ (dictGet d (.ref a) >>= _) _ _ s
  refine wpAny_bind (wpAny_mono got (fun r s1 hr => ?_) fun _ _ z => False.elim z)
  obtain ⟨rfl, rfl⟩ := hr
  exact wpAny_pure ⟨v, rfl, wpAny_pure h⟩
/-- d[t] = v by a comprehension where no entry has t's hash -/
theorem set_lone {d a : Addr} {o : Obj} {es : Array DictEntry} {ep : Nat} {k : K} {v : Value} {Q : Unit → Shared → Prop} (hu : knd.room A) (hkey : knd.is s.heap k a) (ho : s.heap.get? d = some o) (hc : o.ExactDict) (hd : o.data = .dict es ep) (hz : es.size ≤ sizeLine)
    (no : ∀ (i : Nat) e, es[i]? = some e → e.hash ≠ knd.hash k ∧ e.key ≠ .ref a)
    (h : ∀ h2 : Heap, (∃ o2 ep2, h2.get? d = some o2 ∧ o2.ExactDict ∧ o2.data = .dict (es.push ⟨knd.hash k, .ref a, v⟩) ep2) → Heap.SameBut d s.heap h2 → Q () { s with heap := h2, toks := s.toks + knd.draws k }) :
    wpAny (model prog w) A (dictSet d (.ref a) v) Q E s := by
  unfold dictSet
  try with_reducible refine wpAny_holding ?_
  refine wpAny_bind (knd.pyHash hu hkey ?_)
  unfold dictSetHashed
  try with_reducible refine wpAny_holding ?_
  refine wpAny_bind (find_lone (s := { s with toks := s.toks + knd.draws k }) hu hkey ho hd (fun e he z => absurd z ?_) (.inl ⟨fun i e q => (no i e q).1, ?_⟩))
  · obtain ⟨i, hi⟩ := Array.getElem?_of_mem he
    exact (no i e hi).2
  · refine wpAny_bind (wpAny_rule (wpAny_updateDictKeys (hz := hz) (s := { s with toks := s.toks + knd.draws k }) ho hd (h _ ⟨_, ep + 1, Heap.get?_update_self _ ho (Obj.isFreed_of_dict (Obj.data_mapDictKeys hd _)), hc.mapDictKeys _, Obj.data_mapDictKeys hd _⟩ (Heap.SameBut.update ..))))
end
/-- d[None] = v by a comprehension, d empty -/
theorem set_none {prog : Program} {w : World} {A : Around} {E : Value → Shared → Prop} {s : Shared} {d : Addr} {o : Obj} {ep : Nat} {v : Value} {Q : Unit → Shared → Prop} (ho : s.heap.get? d = some o) (hc : o.ExactDict) (hd : o.data = .dict #[] ep)
    (h : ∀ h2 : Heap, (∃ o2 ep2, h2.get? d = some o2 ∧ o2.ExactDict ∧ o2.data = .dict #[⟨reduceHash 0xFCA86420, .none, v⟩] ep2) → Heap.SameBut d s.heap h2 → Q () { s with heap := h2, toks := s.toks + 1 }) :
    wpAny (model prog w) A (dictSet d .none v) Q E s := by
  unfold dictSet
  try with_reducible refine wpAny_holding ?_
  refine wpAny_bind (pyHash_leaf (k := .none) rfl ?_)
  unfold dictSetHashed
  try with_reducible refine wpAny_holding ?_
  have e : (Leaf.key .none).hash w = reduceHash 0xFCA86420 := rfl
  rw [e]
  have fnd : wpAny (model prog w) A (dictFind d .none (reduceHash 0xFCA86420)) (fun r s1 => r = none ∧ s1 = { s with toks := s.toks + 1 }) (fun _ _ => False) { s with toks := s.toks + 1 } := by
    unfold dictFind
    try with_reducible refine wpAny_holding ?_
    refine wpAny_bind (wpAny_dictEntries (s := { s with toks := s.toks + 1 }) ho hd ?_)
    exact wpAny_pure ⟨rfl, rfl⟩
  refine wpAny_bind (wpAny_mono fnd (fun r s1 hr => ?_) fun _ _ z => False.elim z)
  obtain ⟨rfl, rfl⟩ := hr
  refine wpAny_bind (wpAny_rule (wpAny_updateDictKeys (hz := Nat.zero_le _) (s := { s with toks := s.toks + 1 }) ho hd (h _ ⟨_, ep + 1, Heap.get?_update_self _ ho (Obj.isFreed_of_dict (Obj.data_mapDictKeys hd _)), hc.mapDictKeys _, Obj.data_mapDictKeys hd _⟩ (Heap.SameBut.update ..))))
end PySem

namespace K76
open PySem PySem.Spec PyProof.Rows L2
/-! ### the dict of numbers: None and pairs, each with its place -/
def hS : Sta → Int
  | none => reduceHash 0xFCA86420
  | some (i, k) => reduceHash (Builtin.Tuple.tupleHashOf [hashInt i, hashInt k])
def keyW : Sta → Addr → Value
  | none, _ => .none
  | some _, b => .ref b
def kvV : Sta → Addr → V
  | none, _ => .non
  | some _, b => .ref b
def OkS : Sta → Prop
  | none => True
  | some (i, k) => i < 4 ∧ 1 ≤ k ∧ k < 4
def allS : List Sta := none :: (List.range 4).flatMap fun i => (List.range 4).map fun k => some (i, k)
theorem allS_inj : ∀ s ∈ allS, ∀ t ∈ allS, hS s = hS t → s = t := by decide +kernel
theorem mem_allS : ∀ {s : Sta}, OkS s → s ∈ allS
  | none, _ => List.mem_cons_self
  | some (i, k), h => List.mem_cons_of_mem _ (List.mem_flatMap.mpr ⟨i, List.mem_range.mpr h.1, List.mem_map.mpr ⟨k, List.mem_range.mpr h.2.2, rfl⟩⟩)
theorem hS_inj {s t : Sta} (hs : OkS s) (ht : OkS t) (e : hS s = hS t) : s = t := allS_inj s (mem_allS hs) t (mem_allS ht) e
def NumE (es : Array DictEntry) (ks : List (Sta × Addr)) : Prop := es.size = ks.length ∧ ∀ (j : Nat) (s : Sta) (b : Addr), ks[j]? = some (s, b) → ∃ t, es[j]? = some ⟨hS s, keyW s b, .int j t⟩
def NumO (d : Addr) (ks : List (Sta × Addr)) : HO := .ext fun h => ∃ (o : Obj) (es : Array DictEntry) (ep : Nat), h.get? d = some o ∧ o.ExactDict ∧ o.data = .dict es ep ∧ NumE es ks
def KeysAt (H : Hp) (ks : List (Sta × Addr)) : Prop := ∀ (s : Sta) (b : Addr), (s, b) ∈ ks → OkS s ∧ ∀ i k, s = some (i, k) → Rd H b (.tup [.int (i : Nat), .int (k : Nat)])
theorem num_new {P : Program} {w : World} {H : Hp} {h : Heap} {d : Addr} {ks : List (Sta × Addr)} (q : ∃ (o : Obj) (es : Array DictEntry) (ep : Nat), h.get? d = some o ∧ o.ExactDict ∧ o.data = .dict es ep ∧ NumE es ks) : ObjOk P w H h d (NumO d ks) :=
  ⟨q, ⟨q.choose, q.choose_spec.choose_spec.choose_spec.1⟩, fun h1 h2 ⟨o, es, ep, h3, r⟩ kp => ⟨o, es, ep, kp o h3, r⟩⟩
theorem num_keyIs {P : Program} {w : World} {H : Hp} {h : Heap} {b : Addr} {i k : Nat} (ok : HOk P w H h) (e : Rd H b (.tup [.int (i : Nat), .int (k : Nat)])) : (tupleKind (mixKind P w)).is h [Sum.inl (i : Int), Sum.inl (k : Int)] b := by
  obtain ⟨_, its, r, o, h1, h2, n, h3⟩ := (show ObjOk P w H h b (.tup ([Sum.inl (i : Int), Sum.inl (k : Int)].map kV)) from rd_of ok e)
  exact ⟨o, its.toArray, n, h1, h2, h3, by simpa using items_are r⟩
theorem num_hash {P : Program} {w : World} (i k : Nat) : (tupleKind (mixKind P w)).hash [Sum.inl (i : Int), Sum.inl (k : Int)] = hS (some (i, k)) := rfl
/-- an entry, seen from its place -/
theorem NumE.at {es : Array DictEntry} {ks : List (Sta × Addr)} (q : NumE es ks) {j : Nat} {e : DictEntry} (h : es[j]? = some e) : ∃ s b t, ks[j]? = some (s, b) ∧ e = ⟨hS s, keyW s b, .int j t⟩ := by
  have lt : j < ks.length := by
    rw [← q.1]
    exact (Array.getElem?_eq_some_iff.mp h).1
  obtain ⟨t, ht⟩ := q.2 j _ _ (List.getElem?_eq_getElem lt)
  rw [h] at ht
  exact ⟨_, _, t, List.getElem?_eq_getElem lt, Option.some.inj ht⟩
section
variable {X : Cx} {pins : List (Addr × Obj)} {σ : L2.St} {H : Hp} {s : Shared} {A : Around} {E : Value → Shared → Prop} {d b c : Addr} {ks : List (Sta × Addr)}
/-- no two keys at one place in the heap -/
theorem num_same (I : Inv X pins σ H s) (kH : KeysAt H ks) {st : Sta} {i k : Nat} (hm : (st, c) ∈ ks) (hk : keyW st c = .ref b) (hb : Rd H b (.tup [.int (i : Nat), .int (k : Nat)])) : st = some (i, k) := by
  cases st with
  | none => cases hk
  | some ik =>
    obtain ⟨i2, k2⟩ := ik
    cases hk
    have q := (kH _ _ hm).2 i2 k2 rfl
    have q : (some (HO.tup [.int (i : Nat), .int (k : Nat)])) = some (.tup [.int (i2 : Nat), .int (k2 : Nat)]) := by
      rcases q with q | ⟨o, q⟩
      · rcases hb with hb | ⟨o2, hb⟩
        · rw [← hb, q]
        · rw [hb] at q
          cases q
      · rcases hb with hb | ⟨o2, hb⟩
        · rw [hb] at q
          cases q
        · rw [hb] at q
          injection q with q
          injection q with _ q
          rw [q]
    injection q with q
    injection q with q
    injection q with q1 q2
    injection q1 with q1
    injection q2 with q2 _
    injection q2 with q2
    have e1 : i = i2 := by omega
    have e2 : k = k2 := by omega
    rw [e1, e2]
theorem num_get {Q : Value → Shared → Prop} {i k j : Nat} (hu : A.units + 1 < cLine) (I : Inv X pins σ H s) (hd : H d = some (NumO d ks)) (hb : H b = some (.tup [.int (i : Nat), .int (k : Nat)])) (kH : KeysAt H ks) (nd : (ks.map (·.1)).Nodup) (ok : OkS (some (i, k)))
    (hj : ks[j]? = some (some (i, k), c)) (h : ∀ t s', Inv X pins σ H s' → Q (.int j t) s') : wpAny (model X.prog X.w) A (getItem (.ref d) (.ref b)) Q E s := by
  obtain ⟨⟨o, es, ep, h1, h2, h3, hE⟩, _⟩ := (show ObjOk X.prog X.w H s.heap d (NumO d ks) from I.hok d _ hd)
  obtain ⟨t, ht⟩ := hE.2 j _ _ hj
  have hm := List.mem_of_getElem? hj
  refine get_lone (knd := tupleKind (mixKind X.prog X.w)) (k := [Sum.inl (i : Int), Sum.inl (k : Int)]) (b := c) (j := j) (v := .int j t) (tupleKind_room_in1 hu) (num_keyIs I.hok (.inl hb)) h1 h2.1 h3 ?_ ht (num_keyIs I.hok ((kH _ _ hm).2 i k rfl)) ?_ (h t _ (I.tok _))
  · intro e he z
    obtain ⟨i2, hi⟩ := Array.getElem?_of_mem he
    obtain ⟨st, b2, t2, hg, rfl⟩ := hE.at hi
    rw [num_same I kH (List.mem_of_getElem? hg) z (.inl hb)]
    rfl
  · intro i2 e hi z
    obtain ⟨st, b2, t2, hg, rfl⟩ := hE.at hi
    have e1 : st = some (i, k) := hS_inj (kH _ _ (List.mem_of_getElem? hg)).1 ok z
    subst e1
    have g1 : (ks.map (·.1))[i2]? = some (some (i, k)) := by rw [List.getElem?_map, hg]; rfl
    have g2 : (ks.map (·.1))[j]? = some (some (i, k)) := by rw [List.getElem?_map, hj]; rfl
    exact (List.getElem?_inj (List.getElem?_eq_some_iff.mp g1).1 nd).mp (g1.trans g2.symm)
/-- a new key -/
theorem num_set {Q : Unit → Shared → Prop} {st : Sta} {u r : Value} (hu : A.units < cLine) (I : Inv X pins σ H s) (hd : H d = some (NumO d ks)) (hz : ks.length ≤ sizeLine) (ry : RelV (kvV st b) u) (rv : RelV (.int (ks.length : Nat)) r) (kH : KeysAt H (ks ++ [(st, b)]))
    (nd : ((ks ++ [(st, b)]).map (·.1)).Nodup) (hn : st = none → ks = []) (h : ∀ s', Inv X pins σ (upd H d (NumO d (ks ++ [(st, b)]))) s' → Q () s') : wpAny (model X.prog X.w) A (dictSet d u r) Q E s := by
  obtain ⟨⟨o, es, ep, h1, h2, h3, hE⟩, _⟩ := (show ObjOk X.prog X.w H s.heap d (NumO d ks) from I.hok d _ hd)
  obtain ⟨t, rfl⟩ := (show ∃ t, r = Value.int (ks.length : Nat) t from rv)
  have grow : ∀ (h2 : Heap) (t2 : Nat), (∃ o2 ep2, h2.get? d = some o2 ∧ o2.ExactDict ∧ o2.data = .dict (es.push ⟨hS st, keyW st b, .int (ks.length : Nat) t⟩) ep2) → Heap.SameBut d s.heap h2 → Inv X pins σ (upd H d (NumO d (ks ++ [(st, b)]))) { s with heap := h2, toks := t2 } := by
    intro hp t2 ⟨o2, ep2, g1, g2, g3⟩ sb
    refine d_write I (by rw [hd]; exact True.intro) sb ⟨o2, g1⟩ (num_new ⟨o2, _, ep2, g1, g2, g3, ?_, fun j s2 b2 hj => ?_⟩)
    · rw [Array.size_push, hE.1, List.length_append]
      rfl
    · by_cases lt : j < ks.length
      · rw [List.getElem?_append_left lt] at hj
        obtain ⟨t3, h4⟩ := hE.2 j s2 b2 hj
        exact ⟨t3, by rw [Array.getElem?_push, if_neg (by rw [hE.1]; omega)]; exact h4⟩
      · have l2 := (List.getElem?_eq_some_iff.mp hj).1
        rw [List.length_append, List.length_singleton] at l2
        have e : j = ks.length := by omega
        subst e
        rw [List.getElem?_append_right (Nat.le_refl _), Nat.sub_self] at hj
        cases hj
        exact ⟨t, by rw [Array.getElem?_push, if_pos hE.1.symm]⟩
  cases st with
  | none =>
    cases hn rfl
    have e0 : es = #[] := Array.eq_empty_of_size_eq_zero hE.1
    subst e0
    cases (show u = Value.none from ry)
    exact set_none h1 h2 h3 fun h4 q sb => h _ (grow h4 _ q sb)
  | some ik =>
    obtain ⟨i, k⟩ := ik
    cases (show u = Value.ref b from ry)
    have hb := (kH _ _ (List.mem_append_right _ (List.mem_singleton.mpr rfl))).2 i k rfl
    have okb := (kH _ _ (List.mem_append_right _ (List.mem_singleton.mpr rfl))).1
    have kH1 : KeysAt H ks := fun s2 b2 m => kH s2 b2 (List.mem_append_left _ m)
    have new : ∀ (j : Nat) s2 b2, ks[j]? = some (s2, b2) → s2 ≠ some (i, k) := fun j s2 b2 hj z => by
      subst z
      rw [List.map_append, List.nodup_append] at nd
      exact nd.2.2 _ (List.mem_map.mpr ⟨_, List.mem_of_getElem? hj, rfl⟩) _ (List.mem_singleton.mpr rfl) rfl
    refine set_lone (knd := tupleKind (mixKind X.prog X.w)) (k := [Sum.inl (i : Int), Sum.inl (k : Int)]) hu (num_keyIs I.hok hb) h1 h2 h3 (by rw [hE.1]; exact hz) (fun j e he => ?_) fun h4 q sb => h _ (grow h4 _ q sb)
    obtain ⟨st2, b2, t2, hg, rfl⟩ := hE.at he
    exact ⟨fun z => new j st2 b2 hg (hS_inj (kH1 _ _ (List.mem_of_getElem? hg)).1 okb z), fun z => new j st2 b2 hg (num_same I kH1 (List.mem_of_getElem? hg) z hb)⟩
end
def tNumGet (td ti : TE) : TE := fun σ H Q => td σ H fun x H1 => ti σ H1 fun y H2 => ∃ (d b c : Addr) (ks : List (Sta × Addr)) (i k j : Nat), x = .ref d ∧ y = .ref b ∧ H2 d = some (NumO d ks) ∧ H2 b = some (.tup [.int (i : Nat), .int (k : Nat)]) ∧ KeysAt H2 ks ∧ (ks.map (·.1)).Nodup ∧
  OkS (some (i, k)) ∧ ks[j]? = some (some (i, k), c) ∧ Q (.int (j : Nat)) H2
theorem pe_numGet {X : Cx} {o i : Expr} {pos : Pos} {td ti : TE} (hu : X.A.units + 1 < cLine) (ho : PE X o td) (hi : PE X i ti) (hs : NoSl i) : PE X (.Subscript o i pos) (tNumGet td ti) := by
  refine ⟨fun pins s σ H Q I h => subD_of PySem.F.slot_dict_getitem.lookup hs (thn (ho.run pins s σ H _ I h) fun u s1 ⟨x, H1, I1, rx, q1⟩ => thn (hi.run pins s1 σ H1 _ I1 q1) fun iv s2 ⟨y, H2, I2, ry, d, b, c, ks, i, k, j, ex, ey, hd, hb, kH, nd, ok, hj, q⟩ => ?_)⟩
  subst ex ey
  cases rx
  cases ry
  obtain ⟨⟨ob, es, ep, h1, h2, h3, hE⟩, _⟩ := (show ObjOk X.prog X.w H2 s2.heap d (NumO d ks) from I2.hok d _ hd)
  exact ⟨⟨ob, h1, h2.1⟩, num_get hu I2 hd hb kH nd ok hj fun t s3 I3 => ⟨.int (j : Nat), H2, I3, ⟨t, rfl⟩, q⟩⟩
end K76
namespace K76
open PySem PySem.Spec PyProof.Rows L2
/-! ### {state: number for number, state in ..}, stored by a plain name -/
/-- one pair is put: the key's place is how many there were -/
def NumPut (D : Addr) (y z : V) (H : Hp) (Nx : Hp → Prop) : Prop :=
  ∃ (ks : List (Sta × Addr)) (st : Sta) (b : Addr), y = kvV st b ∧ z = .int (ks.length : Nat) ∧ H D = some (NumO D ks) ∧ ks.length ≤ 1000 ∧ KeysAt H (ks ++ [(st, b)]) ∧ ((ks ++ [(st, b)]).map (·.1)).Nodup ∧ (st = none → ks = []) ∧ Nx (upd H D (NumO D (ks ++ [(st, b)])))
def NumTurn (J : It) (D : Addr) (g : TG) (tt : TT) (tk tv : TE) (σ0 : L2.St) (vs : List Nat) (W : Nat → Nat → Hp → Prop) (Qd : Hp → Prop) : Prop := ∀ i m H, W i m H →
  (J.stop i H ∧ Qd H) ∨ (J.go i H ∧ ∃ Nx : Hp → Prop, (∀ H', Nx H' → ∃ m', m' < m ∧ W (i + 1) m' H') ∧ ∀ x H', J.yld i H x H' → g x σ0 H' fun σ2 H2 => wipe σ2 vs = σ0 ∧ tt σ2 H2 fun b H3 => if b = true then tk σ2 H3 fun y H4 => tv σ2 H4 fun z H5 => NumPut D y z H5 Nx else Nx H3)
def tDcN (wi : TI) (g : TG) (tt : TT) (tk tv : TE) (vs : List Nat) : TE := fun σ H Q => wi σ H fun J H1 => ∀ D, H1 D = none → ∃ W : Nat → Nat → Hp → Prop, (∃ m, W 0 m (upd H1 D (NumO D []))) ∧ NumTurn J D g tt tk tv (wipe σ vs) vs W (Q (.ref D))
theorem num_loop {B : Cx} {it D : Addr} {fp : List Addr} {tn : Nat → Heap → Prop} {J : It} {kx vx tg iter : Expr} {ifs : List Expr} {scope : Scope} {pos : Pos} {g : TG} {tt : TT} {tk tv : TE} {vs : List Nat} {σ : L2.St} {W : Nat → Nat → Hp → Prop} {Qd : Hp → Prop} {R : Result → Shared → Prop} {m0 : Nat} {H0 : Hp} {s0 : Shared}
    (hc : B.calm = true) (hx : B.xe = fun _ _ => False) (hex : B.ex = fp) (hpn : B.pn = []) (hu : B.A.units < cLine) (T : Turn B.prog B.w B.K tg J fp it tn) (pg : PG B tg g) (pt : PTs B ifs tt) (pk : PE B kx tk) (pv : PE B vx tv) (step : NumTurn J D g tt tk tv (wipe σ vs) vs W Qd)
    (fin : ∀ H2 s2, Inv B [] (wipe σ vs) H2 s2 → Qd H2 → R (.ok .next) s2) (I0 : Inv B [] (wipe σ vs) H0 s0) (t0 : tn 0 s0.heap) (n0 : ∀ b ∈ fp, H0 b = none) (w0 : W 0 m0 H0) :
    codeAny (model B.prog B.w) B.A (.compLoop (.DictComp kx vx [⟨tg, iter, ifs, 0⟩] scope pos) 0 (.ref it) (.ref D) B.env) R s0 := by
  have own : ∀ {σ1 : L2.St} {H1 : Hp} {s1 : Shared}, Inv B [] σ1 H1 s1 → (∀ b ∈ fp, H1 b = none) → ∀ b ∈ fp, FpOk B [] H1 b := by
    intro σ1 H1 s1 I1 no b hb
    have hb2 : b ∈ B.ex := by rw [hex]; exact hb
    refine ⟨no b hb, (I1.ok.exf b hb2).1, I1.ok.exfs b hb2, .inl hb2, fun x c e => (I1.ok.exf b hb2).2 x c e, fun p hp => ?_⟩
    rw [hpn] at hp
    cases hp
  refine compLoop_anyD (fun m s => ∃ i H, Inv B [] (wipe σ vs) H s ∧ tn i s.heap ∧ (∀ b ∈ fp, H b = none) ∧ W i m H) ?_ m0 ⟨0, H0, I0, t0, n0, w0⟩
  rintro m s1 ⟨i, H1, I1, t1, n1, w1⟩
  rcases step i m H1 w1 with ⟨hs, hq⟩ | ⟨hg, Nx, less, go⟩
  · refine thnF (T.done B rfl rfl rfl hc i [] s1 _ H1 (fun _ _ => False) I1 (own I1 n1) t1 hs) fun r s2 h2 => ?_
    obtain ⟨rfl, I2⟩ := h2
    exact fin H1 s2 I2 hq
  refine thnF (T.item B rfl rfl rfl hc i [] s1 _ H1 (fun _ _ => False) I1 (own I1 n1) t1 hg) fun r s2 h2 => ?_
  obtain ⟨u, rfl, h2⟩ := h2
  refine thnF h2 fun _ s3 ⟨x, H3, I3, rx, yx, t3, n3⟩ => ?_
  have J3 := I3.pinned (own I3 n3) (T.obj _ _ t3)
  have rg := pg.run _ s3 _ H3 x u _ J3 rx (go x H3 yx)
  rw [hx] at rg
  refine thnF rg fun _ s4 ⟨σ4, H4, I4, e4, q4⟩ => ?_
  have rt := pt.run _ s4 σ4 H4 _ I4 q4
  rw [hx] at rt
  refine thnF rt fun ok s5 ⟨H5, I5, q5⟩ => ?_
  have next : ∀ (s9 : Shared) (H9 : Hp), Inv B ([] ++ pinsAt fp s3.heap) σ4 H9 s9 → Nx H9 → ∃ m2, m2 < m ∧ ∃ i H, Inv B [] (wipe σ vs) H s9 ∧ tn i s9.heap ∧ (∀ b ∈ fp, H b = none) ∧ W i m2 H := by
    intro s9 H9 I9 nx
    obtain ⟨m2, lt, w2⟩ := less H9 nx
    have pin : ∀ b ∈ fp, ∀ o, s3.heap.get? b = some o → s9.heap.get? b = some o ∧ H9 b = none := fun b hb o e =>
      have z := I9.pin (b, o) (List.mem_append_right _ (List.mem_append_right _ (mem_pinsAt hb e)))
      ⟨z.1, z.2.1⟩
    have J9 : Inv B [] (wipe σ vs) H9 s9 := by
      refine (I9.unpinned (pins := [])).weak (by rw [← e4, wipe_length]) fun j v e => ?_
      rw [← e4] at e
      exact (wipe_some e).1
    refine ⟨m2, lt, i + 1, H9, J9, T.keep _ _ _ t3 fun b hb o e => (pin b hb o e).1, fun b hb => ?_, w2⟩
    obtain ⟨o, e, _⟩ := T.obj _ _ t3 b hb
    exact (pin b hb o e).2
  cases ok with
  | false => exact next s5 H5 I5 (by simpa using q5)
  | true =>
    have q5 := q5
    rw [if_pos rfl] at q5
    rw [if_pos rfl]
    have rk := pk.run _ s5 σ4 H5 _ I5 q5
    rw [hx] at rk
    refine thnF rk fun yv s6 ⟨y, H6, I6, ry, q6⟩ => ?_
    have rv := pv.run _ s6 σ4 H6 _ I6 q6
    rw [hx] at rv
    refine thnF rv fun zv s7 ⟨z, H7, I7, rz, ks, st, b, ey, ez, hD, hz, kH, nd, hn, nx⟩ => ?_
    subst ey ez
    exact num_set hu I7 hD (small (by omega)) ry rz kH nd hn fun s8 I8 => next s8 _ I8 nx
/-- holds in the comprehension's block, whatever its cells and its frame -/
abbrev InBlk (X : Cx) (scope : Scope) (T : Cx → Prop) : Prop := ∀ (s : Shared) (H : Hp) (C : Addr) (cl : List (Str × Addr)) (fp : List Addr), T (X.blk s H scope (compEnvC scope cl C X.env) fp)
theorem ps_setNum {X : Cx} {i : Nat} {y : Str} {py pos spos : Pos} {kx vx tg iter : Expr} {ifs : List Expr} {scope : Scope} {own : List (Str × Nat)} {wi : TI} {g : TG} {tt : TT} {tk tv : TE} (hu : X.A.units < cLine) (hc : X.calm = true) (hN : X.N.Nodup) (hy : X.N[i]? = some y)
    (hyl : X.env.scope.names.lookup y = some .local) (hsw : swapsWith (.DictComp kx vx [⟨tg, iter, ifs, 0⟩] scope pos) (some (.Name y py)) spos.line X.env = pure true) (hi : PI X tg iter wi) (ok : BlkOk X.N X.env.scope scope own)
    (hg : InBlk X scope fun B => PG B tg g) (ht : InBlk X scope fun B => PTs B ifs tt) (hk : InBlk X scope fun B => PE B kx tk) (hv : InBlk X scope fun B => PE B vx tv) (hs : ∀ x, foldedSetIterable iter X.env x = pure x := by intro _; rfl) :
    PS X (.Assign [.Name y py] (.DictComp kx vx [⟨tg, iter, ifs, 0⟩] scope pos) spos) (tAsg (tDcN wi g tt tk tv (own.map (·.2))) (gName i)) := by
  refine ⟨fun pins s σ H D I h => ?_⟩
  have h : tDcN wi g tt tk tv (own.map (·.2)) σ H (fun x H1 => gName i x σ H1 D.nx) := h
  rw [exec_Assign_Name_used _ _ _ _ hsw]
  refine wpAny_bind (wpAny_standAt (wpAny_bind ?_))
  have hfree : ∀ z ∈ scope.names, z.2 = .free → ∃ c, X.env.cells.lookup z.1 = some c := fun z hz e => by
    rcases ok.free z hz e with k | k
    · exact I.ok.has _ (.inl k)
    · exact I.ok.has _ (.inr k)
  have whole : wpAny (model X.prog X.w) X.A (comprehension (.DictComp kx vx [⟨tg, iter, ifs, 0⟩] scope pos) scope X.env (firstIterPos [⟨tg, iter, ifs, 0⟩] pos) newDict false (eval iter X.env) (some (assign (.Name y py) X.env))) (fun _ s' => SP X pins D .next s') X.xe s := by
    refine wpAny_comprehension_free rfl hs (closure_ok hfree) ok.kind (fun z hz e => by rw [ok.uniq z hz, e]) (thn (hi.run pins s σ H _ I h) fun xv s1 hx => thn hx fun itv s2 h2 => ?_)
    obtain ⟨it, fp, tn, J, H2, e, I2, T, st2, f2, q⟩ := h2
    subst e
    refine wpAny_newObj_type (newEnv_comp ?_)
    have nD : H2 s2.heap.objs.size = none := I2.hok.fresh (Nat.le_refl _)
    obtain ⟨W, ⟨m0, w0⟩, step⟩ := q s2.heap.objs.size nD
    have I3 : Inv X pins σ (upd H2 s2.heap.objs.size (NumO s2.heap.objs.size [])) { s2 with heap := s2.heap.push { cls := .type "dict", data := .dict #[] } } := by
      refine I2.laid (t' := s2.toks) (fun b o e => Heap.get?_push_of_some _ e) (Nat.le_refl _) (num_new ⟨_, #[], 0, Heap.get?_push_size _ rfl, ⟨rfl, rfl, rfl⟩, rfl, rfl, fun j s b z => ?_⟩)
      simp at z
    have old : ∀ b ∈ fp, b < s2.heap.objs.size := fun b hb => by
      obtain ⟨o, e, _⟩ := T.obj _ _ st2 b hb
      exact Heap.lt_size e
    have f3 : ∀ b ∈ fp, FpOk X pins (upd H2 s2.heap.objs.size (NumO s2.heap.objs.size [])) b ∧ b < (s2.heap.push { cls := .type "dict", data := .dict #[] }).objs.size := fun b hb => by
      have lt := old b hb
      refine ⟨⟨?_, (f2 b hb).2⟩, by rw [Heap.size_push]; exact Nat.lt_succ_of_lt lt⟩
      rw [upd_ne (Nat.ne_of_lt lt)]
      exact (f2 b hb).1
    have I4 := block_start I3 ok hN f3
    generalize hD : s2.heap.objs.size = d at *
    generalize hH3 : upd H2 d (NumO d []) = H3 at *
    generalize hs3 : s2.heap.push { cls := .type "dict", data := .dict #[] } = h3 at *
    have st3 : tn 0 h3 := T.keep _ _ _ st2 fun b _ o e => by rw [← hs3]; exact Heap.get?_push_of_some _ e
    have st4 : tn 0 (pushCells (h3.push { cls := .type "dict", data := .dict #[] }) scope.names) := T.keep _ _ _ st3 fun b _ o e => pushCells_keeps _ _ _ _ (Heap.get?_push_of_some _ e)
    have nf : ∀ b ∈ fp, H3 b = none := fun b hb => (f3 b hb).1.1
    have loop : codeAny (model X.prog X.w) X.A (.compLoop (.DictComp kx vx [⟨tg, iter, ifs, 0⟩] scope pos) 0 (.ref it) (.ref d) (compEnvC scope (cellsFrom (h3.objs.size + 1) scope.names (cloFrom X.env.cells scope.names [])) h3.objs.size X.env))
        (compPost (model X.prog X.w) X.A X.xe (some (assign (.Name y py) X.env)) (fun _ s' => SP X pins D .next s') (.ref d) h3.objs.size) { s2 with heap := pushCells (h3.push { cls := .type "dict", data := .dict #[] }) scope.names } := by
      refine num_loop (B := X.blk { s2 with heap := h3 } H3 scope (compEnvC scope (cellsFrom (h3.objs.size + 1) scope.names (cloFrom X.env.cells scope.names [])) h3.objs.size X.env) fp) hc rfl rfl rfl hu T (hg _ _ _ _ _) (ht _ _ _ _ _) (hk _ _ _ _ _) (hv _ _ _ _ _) step (fun H6 s6 I6 q6 => ?_) I4 st4 nf w0
      have I7 : Inv X pins σ H6 s6 := I3.call' (ch := fp) I6.os I6.base I6.hok I6.bare fun b hb => ⟨(f3 b hb).1.2.2.2.1, (f3 b hb).1.2.1, (f3 b hb).1.2.2.2.2.1, (f3 b hb).1.2.2.2.2.2⟩
      have noC : H6 h3.objs.size = none := I6.free
      obtain ⟨f0, f1, f4, f5, f6, f7⟩ := I3.fpOk (Nat.le_refl _) noC
      obtain ⟨m, ns, _⟩ := I6.loc
      have ns : s6.heap.Ns h3.objs.size m := ns
      show wpAny _ _ (assign (.Name y py) X.env (.ref d)) _ _ _
      refine wpAny_assign_Name (store_ok2 (v := V.ref d) I7 hN hy (.inl hyl) rfl (fun s8 I8 ⟨a, sb, ha⟩ => ?_) (.inr hyl))
      have away : h3.objs.size ≠ a := by
        rcases ha with z | z
        · rw [z]
          exact f1
        · exact fun e => f6 y a z e.symm
      refine ⟨m, ns.sameBut sb away, fun h9 sb9 => ⟨_, H6, ?_, q6⟩⟩
      exact I8.turned (t' := s8.toks) (fun b o hb e => (sb9.2 b hb).trans e) f0 f1 f5 f6 f7
    exact codeAny_compStart_dict loop (T.self X.A 0 _ _ _ st4 loop)
  exact wpAny_bind (thn whole fun _ s' hq => wpAny_pure (wpAny_pure hq))
end K76
namespace K76
open PySem PySem.Spec PyProof.Rows L2
/-! ### listeners' states, numbered; what a listener can know (no program here) -/
def stL (ws : List (List Nat)) : List Sta := none :: (List.range ws.length).flatMap fun i => (List.range ((wd ws i).length - 1)).map fun k => some (i, k + 1)
def nxS (ws : List (List Nat)) : Sta → Nat → List Sta
  | none, c => ((List.range ws.length).filter fun i => decide (letterOf ws i 0 = c)).map fun i => adv ws i 1
  | some (i, k), c => if letterOf ws i k = c then [adv ws i (k + 1)] else []
theorem mem_stL {ws : List (List Nat)} : ∀ {s : Sta}, s ∈ stL ws ↔ InOk ws s
  | none => ⟨fun _ => True.intro, fun _ => List.mem_cons_self⟩
  | some (i, k) => by
    constructor
    · intro h
      rcases List.mem_cons.mp h with h | h
      · cases h
      · obtain ⟨i2, hi, h⟩ := List.mem_flatMap.mp h
        obtain ⟨k2, hk, h⟩ := List.mem_map.mp h
        injection h with h
        injection h with h1 h2
        subst h1 h2
        have := List.mem_range.mp hi
        have := List.mem_range.mp hk
        exact ⟨by omega, by omega, by omega⟩
    · rintro ⟨h1, h2, h3⟩
      refine List.mem_cons_of_mem _ (List.mem_flatMap.mpr ⟨i, List.mem_range.mpr h1, List.mem_map.mpr ⟨k - 1, List.mem_range.mpr (by omega), ?_⟩⟩)
      rw [Nat.sub_add_cancel h2]
theorem stL_nodup (ws : List (List Nat)) : (stL ws).Nodup := by
  refine List.nodup_cons.mpr ⟨fun h => ?_, ?_⟩
  · obtain ⟨i, _, h⟩ := List.mem_flatMap.mp h
    obtain ⟨k, _, h⟩ := List.mem_map.mp h
    cases h
  · refine List.pairwise_flatMap.mpr ⟨fun i _ => ?_, ?_⟩
    · refine List.pairwise_map.mpr (List.Pairwise.imp (fun h e => ?_) List.nodup_range)
      injection e with e
      injection e with _ e
      exact h (Nat.succ.inj e)
    · refine List.Pairwise.imp (fun h x hx y hy e => ?_) List.nodup_range
      obtain ⟨_, _, rfl⟩ := List.mem_map.mp hx
      obtain ⟨_, _, rfl⟩ := List.mem_map.mp hy
      injection e with e
      injection e with e _
      exact h e
theorem flat_len {α : Type} (f : Nat → List α) (m : Nat) : ∀ l : List Nat, (∀ i ∈ l, (f i).length ≤ m) → (l.flatMap f).length ≤ l.length * m
  | [], _ => Nat.zero_le _
  | x :: r, h => by
    rw [List.flatMap_cons, List.length_append, List.length_cons, Nat.succ_mul]
    have h1 := h x List.mem_cons_self
    have h2 := flat_len f m r fun i hi => h i (List.mem_cons_of_mem _ hi)
    omega
theorem stL_len {ws : List (List Nat)} (ok : OkC ws) : (stL ws).length ≤ 9 := by
  unfold stL
  rw [List.length_cons]
  have h := flat_len (fun i => (List.range ((wd ws i).length - 1)).map fun k => (some (i, k + 1) : Sta)) 2 (List.range ws.length) fun i hi => by
    rw [List.length_map, List.length_range]
    have := ok.high _ (wd_mem (List.mem_range.mp hi))
    omega
  rw [List.length_range] at h
  have := ok.len
  omega
/-- the state of a number -/
def sAt (ws : List (List Nat)) (n : Nat) : Sta := (stL ws).getD n none
theorem sAt_get {ws : List (List Nat)} {n : Nat} (h : n < (stL ws).length) : (stL ws)[n]? = some (sAt ws n) := by
  unfold sAt
  rw [List.getD_eq_getElem?_getD, List.getElem?_eq_getElem h]
  rfl
theorem sAt_inj {ws : List (List Nat)} {n m : Nat} (hn : n < (stL ws).length) (hm : m < (stL ws).length) (e : sAt ws n = sAt ws m) : n = m :=
  (List.getElem?_inj hn (stL_nodup ws)).mp (by rw [sAt_get hn, sAt_get hm, e])
theorem sAt_0 (ws : List (List Nat)) : sAt ws 0 = none := rfl
theorem sAt_mem {ws : List (List Nat)} {n : Nat} (h : n < (stL ws).length) : sAt ws n ∈ stL ws := List.mem_of_getElem? (sAt_get h)
theorem num_of {ws : List (List Nat)} {s : Sta} (h : s ∈ stL ws) : ∃ n, n < (stL ws).length ∧ sAt ws n = s := by
  obtain ⟨n, hn⟩ := List.mem_iff_getElem?.mp h
  have lt := (List.getElem?_eq_some_iff.mp hn).1
  rw [sAt_get lt] at hn
  exact ⟨n, lt, Option.some.inj hn⟩
theorem stL_map (ws : List (List Nat)) : (List.range (stL ws).length).map (sAt ws) = stL ws := by
  refine List.ext_getElem? fun n => ?_
  rw [List.getElem?_map]
  by_cases h : n < (stL ws).length
  · rw [List.getElem?_range h, sAt_get h]
    rfl
  · rw [List.getElem?_eq_none (by rw [List.length_range]; omega), List.getElem?_eq_none (by omega)]
    rfl
theorem InOk.adv' {ws : List (List Nat)} {i k : Nat} (hi : i < ws.length) : InOk ws (adv ws i (k + 1)) := adv_ok hi
theorem nxS_ok {ws : List (List Nat)} {s t : Sta} {c : Nat} (h : InOk ws s) (m : t ∈ nxS ws s c) : InOk ws t := by
  cases s with
  | none =>
    obtain ⟨i, hi, rfl⟩ := List.mem_map.mp m
    exact adv_ok (List.mem_range.mp (List.mem_filter.mp hi).1)
  | some ik =>
    obtain ⟨i, k⟩ := ik
    have m : t ∈ (if letterOf ws i k = c then [adv ws i (k + 1)] else []) := m
    split at m
    · rw [List.mem_singleton.mp m]
      exact adv_ok h.1
    · cases m
/-! ### sets of states as tests -/
abbrev SetT := Sta → Bool
def ahF (ws : List (List Nat)) (A : SetT) (c : Nat) : SetT := fun t => (stL ws).any fun s => A s && decide (t ∈ nxS ws s c)
def bhF (ws : List (List Nat)) (c : Nat) (B : SetT) : SetT := fun s => (nxS ws s c).any B
def ahS (ws : List (List Nat)) (l : List Nat) : SetT := l.foldl (ahF ws) fun _ => true
def bhS (ws : List (List Nat)) (l : List Nat) : SetT := l.foldr (bhF ws) fun _ => true
def both (ws : List (List Nat)) (l : List Nat) (p : Nat) : SetT := fun s => ahS ws (l.take p) s && bhS ws (l.drop p) s
def rowN (ws : List (List Nat)) (A : SetT) : List Nat := (List.range (stL ws).length).filter fun n => A (sAt ws n)
def rowS (ws : List (List Nat)) (A : SetT) : List Sta := (stL ws).filter A
def knownS (ws : List (List Nat)) (l : List Nat) : List Nat := (List.range (l.length + 1)).filter fun p => decide (rowN ws (both ws l p) = [0])
theorem ahS_snoc (ws : List (List Nat)) (l : List Nat) (c : Nat) : ahS ws (l ++ [c]) = ahF ws (ahS ws l) c := by
  unfold ahS
  rw [List.foldl_append]
  rfl
theorem bhS_cons (ws : List (List Nat)) (l : List Nat) (c : Nat) : bhS ws (c :: l) = bhF ws c (bhS ws l) := rfl
theorem rowS_map (ws : List (List Nat)) (A : SetT) : rowS ws A = (rowN ws A).map (sAt ws) := by
  unfold rowS rowN
  conv => lhs; rw [← stL_map ws]
  rw [List.filter_map]
  rfl
theorem mem_rowN {ws : List (List Nat)} {A : SetT} {n : Nat} : n ∈ rowN ws A ↔ n < (stL ws).length ∧ A (sAt ws n) = true := by
  unfold rowN
  rw [List.mem_filter, List.mem_range]
theorem rowN_lt {ws : List (List Nat)} {A : SetT} : (rowN ws A).Pairwise (· < ·) := List.Pairwise.filter _ List.pairwise_lt_range
theorem rowN_len (ws : List (List Nat)) (A : SetT) : (rowN ws A).length ≤ (stL ws).length := by
  have := List.length_filter_le (fun n => A (sAt ws n)) (List.range (stL ws).length)
  rw [List.length_range] at this
  exact this
theorem row_one (ws : List (List Nat)) (A : SetT) : rowS ws A = [none] ↔ rowN ws A = [0] := by
  rw [rowS_map]
  constructor
  · intro h
    cases e : rowN ws A with
    | nil => rw [e] at h; cases h
    | cons n r =>
      rw [e, List.map_cons] at h
      injection h with h1 h2
      have hr : r = [] := List.map_eq_nil_iff.mp h2
      have hn : n < (stL ws).length := (mem_rowN.mp (by rw [e]; exact List.mem_cons_self)).1
      have hz : n = 0 := sAt_inj hn (Nat.succ_pos _) h1
      rw [hz, hr]
  · intro h
    rw [h]
    rfl
/-- an ascending list is told by its members -/
theorem asc_ext : ∀ {a b : List Nat}, a.Pairwise (· < ·) → b.Pairwise (· < ·) → (∀ n, n ∈ a ↔ n ∈ b) → a = b
  | [], [], _, _, _ => rfl
  | [], y :: b, _, _, h => absurd ((h y).mpr List.mem_cons_self) (by simp)
  | x :: a, [], _, _, h => absurd ((h x).mp List.mem_cons_self) (by simp)
  | x :: a, y :: b, ha, hb, h => by
    rw [List.pairwise_cons] at ha hb
    have e : x = y := by
      rcases List.mem_cons.mp ((h x).mp List.mem_cons_self) with q | q
      · exact q
      · rcases List.mem_cons.mp ((h y).mpr List.mem_cons_self) with p | p
        · exact p.symm
        · have h1 := hb.1 _ q
          have h2 := ha.1 _ p
          omega
    subst e
    have t : a = b := asc_ext ha.2 hb.2 fun n => by
      constructor
      · intro m
        rcases List.mem_cons.mp ((h n).mp (List.mem_cons_of_mem _ m)) with q | q
        · have := ha.1 _ m
          omega
        · exact q
      · intro m
        rcases List.mem_cons.mp ((h n).mpr (List.mem_cons_of_mem _ m)) with q | q
        · have := hb.1 _ m
          omega
        · exact q
    rw [t]
/-! ### a listener always hears something that some broadcast sends -/
def Obs (ws : List (List Nat)) (s : S3) : Prop := ∀ j ∈ s.jo, ahS ws (s.sent.drop j) s.ins = true
theorem ahF_hit {ws : List (List Nat)} {A : SetT} {s t : Sta} {c : Nat} (h : InOk ws s) (ha : A s = true) (m : t ∈ nxS ws s c) : ahF ws A c t = true :=
  List.any_eq_true.mpr ⟨s, mem_stL.mpr h, by rw [ha, decide_eq_true m]; rfl⟩
theorem obs_bhd {ws : List (List Nat)} {n : Nat} {s : S3} {c : Cmd} (o : StOk ws n s) (b : Obs ws s) (hv : ValC ws c) (hc : canB s c = true) : Obs ws (bhd ws s c) := by
  cases c with
  | send m =>
    intro j hj
    have hj : j ∈ s.jo := hj
    have hc : s.ins.isNone = true := hc
    have e : s.ins = none := Option.isNone_iff_eq_none.mp hc
    have q := b j hj
    rw [e] at q
    show ahS ws ((s.sent ++ [letterOf ws m 0]).drop j) (adv ws m 1) = true
    rw [List.drop_append_of_le_length (o.at_ j hj), ahS_snoc]
    exact ahF_hit (s := none) True.intro q (List.mem_map.mpr ⟨m, List.mem_filter.mpr ⟨List.mem_range.mpr hv, decide_eq_true rfl⟩, rfl⟩)
  | step =>
    have hc : s.ins.isSome = true := hc
    cases e : s.ins with
    | none => rw [e] at hc; cases hc
    | some wk =>
      obtain ⟨i, k⟩ := wk
      have q2 : bhd ws s .step = ⟨s.sent ++ [letterOf ws i k], adv ws i (k + 1), s.jo⟩ := by unfold bhd; rw [e]
      rw [q2]
      intro j hj
      have hj : j ∈ s.jo := hj
      have q := b j hj
      rw [e] at q
      show ahS ws ((s.sent ++ [letterOf ws i k]).drop j) (adv ws i (k + 1)) = true
      rw [List.drop_append_of_le_length (o.at_ j hj), ahS_snoc]
      have oi := o.ins
      rw [e] at oi
      exact ahF_hit (s := some (i, k)) oi q (by show _ ∈ (if letterOf ws i k = letterOf ws i k then [adv ws i (k + 1)] else []); rw [if_pos rfl]; exact List.mem_singleton.mpr rfl)
  | join =>
    intro j hj
    rcases List.mem_append.mp hj with hj | hj
    · exact b j hj
    · rw [List.mem_singleton.mp hj]
      show ahS ws (s.sent.drop s.sent.length) s.ins = true
      rw [List.drop_length]
      rfl
  | leave m =>
    intro j hj
    rcases List.mem_append.mp hj with hj | hj
    · exact b j (List.mem_of_mem_take hj)
    · exact b j (List.mem_of_mem_drop hj)
theorem obs_0 (ws : List (List Nat)) : Obs ws s0 := fun _ m => nomatch m
theorem hist_obs {ws : List (List Nat)} {cs : List Cmd} (h : Hist ws cs) : ∀ i, i ≤ cs.length → Obs ws (stAfter ws (cs.take i))
  | 0, _ => by rw [List.take_zero]; exact obs_0 ws
  | i + 1, hi => by
    have hx : cs[i]? = some cs[i] := List.getElem?_eq_getElem (by omega)
    have ih := hist_obs h i (by omega)
    rw [take_succ_get hx, stAfter_snoc]
    obtain ⟨hv, hc⟩ := h.ok i _ hx
    exact obs_bhd (hist_ok h i (by omega)) ih hv hc
/-- heard by someone: there is a state behind it -/
theorem obs_row {ws : List (List Nat)} {n : Nat} {s : S3} (o : StOk ws n s) (b : Obs ws s) {j : Nat} (hj : j ∈ s.jo) : rowN ws (ahS ws (s.sent.drop j)) ≠ [] := by
  obtain ⟨m, hm, e⟩ := num_of (mem_stL.mpr o.ins)
  intro z
  have q : m ∈ rowN ws (ahS ws (s.sent.drop j)) := mem_rowN.mpr ⟨hm, by rw [e]; exact b j hj⟩
  rw [z] at q
  cases q
/-- what is known to every listener of a state -/
def toldS (ws : List (List Nat)) (s : S3) : List (List Nat) := s.jo.map fun j => knownS ws (s.sent.drop j)
end K76
namespace K76
open PySem PySem.Spec PyProof.Rows L2
/-! ### listed_states -/
abbrev kvs (ks : List (Sta × Addr)) : List V := ks.map fun q => kvV q.1 q.2
theorem KeysAt.ts {H H2 : Hp} {ks : List (Sta × Addr)} (t : TupS H H2) (h : KeysAt H ks) : KeysAt H2 ks := fun s b m => ⟨(h s b m).1, fun i k e => t _ _ ((h s b m).2 i k e)⟩
theorem KeysAt.nil (H : Hp) : KeysAt H [] := fun _ _ m => nomatch m
theorem KeysAt.app {H : Hp} {ks ls : List (Sta × Addr)} (h : KeysAt H ks) (g : KeysAt H ls) : KeysAt H (ks ++ ls) := fun s b m => (List.mem_append.mp m).elim (h s b) (g s b)
theorem KeysAt.data {K : PySem.W.Frag} {H : Hp} : ∀ {ks : List (Sta × Addr)}, KeysAt H ks → DpAll K H (kvs ks) (ks.map fun q => stD q.1)
  | [], _ => .nil
  | (none, b) :: r, h => .cons .non (KeysAt.data fun s c m => h s c (List.mem_cons_of_mem _ m))
  | (some (i, k), b) :: r, h => .cons (stD_mk (.inl ((h _ _ List.mem_cons_self).2 i k rfl))) (KeysAt.data fun s c m => h s c (List.mem_cons_of_mem _ m))
def stUp (ws : List (List Nat)) (n : Nat) : List Sta := none :: (List.range n).flatMap fun i => (List.range ((wd ws i).length - 1)).map fun k => some (i, k + 1)
theorem stUp_all (ws : List (List Nat)) : stUp ws ws.length = stL ws := rfl
theorem stUp_succ (ws : List (List Nat)) (n : Nat) : stUp ws (n + 1) = stUp ws n ++ (List.range ((wd ws n).length - 1)).map fun k => some (n, k + 1) := by
  unfold stUp
  rw [List.range_succ, List.flatMap_append, List.flatMap_singleton]
  rfl
theorem stUp_len {ws : List (List Nat)} (ok : OkC ws) {n : Nat} (h : n ≤ ws.length) : (stUp ws n).length ≤ 9 := by
  unfold stUp
  rw [List.length_cons]
  have q := flat_len (fun i => (List.range ((wd ws i).length - 1)).map fun k => (some (i, k + 1) : Sta)) 2 (List.range n) fun i hi => by
    rw [List.length_map, List.length_range]
    have := ok.high _ (wd_mem (Nat.lt_of_lt_of_le (List.mem_range.mp hi) h))
    omega
  rw [List.length_range] at q
  have := ok.len
  omega
def sp_listed_states (K : PySem.W.Frag) : Sp := fun vs H Q _ => ∃ (a : Addr) (ws : List (List Nat)), vs = [.ref a] ∧ SqT K H a (wV ws) ∧ OkC ws ∧
  ∀ (p : Addr) (ks : List (Sta × Addr)) (H2 : Hp), Same H H2 → H p = none → H2 p = some (.lst (kvs ks)) → ks.map (·.1) = stL ws → KeysAt H2 ks → Q (.ref p) H2
abbrev Ok_listed_states (P : Program) (w : World) (K : PySem.W.Frag) (mg : Str → Option Value) (base : Heap) : Prop := Have P w K mg base CX0 "listed_states" 1 ["code"] (sp_listed_states K)
theorem ok_listed_states {P : Program} {w : World} {K : PySem.W.Frag} {mg : Str → Option Value} {base : Heap} (T : Txt K mg) : Ok_listed_states P w K mg base := by
  refine have_of T.d_listed_states (fun _ _ _ _ _ _ us hl => match us, hl with | [_], _ => rfl) sc_listed_states (fun vs H Q E h => ?_) fun f cdv A outer s H vs Q E hr h => ?_
  · obtain ⟨a, ws, rfl, _⟩ := h
    rfl
  have hu := hu_of hr
  have hu65 := hu65_of hr
  obtain ⟨a, ws, rfl, hS, ok, k⟩ := h
  have hlen : (wV ws).length = ws.length := List.length_map ..
  have hl := ok.len
  refine ⟨_, (pss_cons (ps_set (i := 1) sc_listed_states.nd rfl (Or.inl rfl) (pe_lst (pa_cons pe_non pa_nil)))
 (pss_cons (ps_for PassesOwn.never rfl (pi_enumT (by rfl) T.b_enumerate (pa_cons (pv 0) pa_nil)) (pg_tup rfl (pgs_cons (pg_name (i := 2) sc_listed_states.nd rfl (Or.inr rfl)) (pgs_cons (pg_name (i := 3) sc_listed_states.nd rfl (Or.inl rfl)) pgs_nil)))
 (pss_one (ps_set (i := 1) sc_listed_states.nd rfl (Or.inl rfl) (pe_op op_cat (pv 1) (pe_lc (own := [("many", 4)]) (g := gName 4) rfl sc_listed_states.nd (pi_range2 (by rfl) T.b_range (pa_cons pe_int (pa_cons (pe_callB call_len_str (by rfl) T.b_len (by decide +kernel) (pa_cons (pv 3) pa_nil)) pa_nil))) (blkOk_by (by kernel_rfl)) (fun _ _ _ _ _ => (pg_name (i := 4) sc_listed_states.nd rfl (Or.inl rfl))) (fun _ _ _ _ _ => pts_nil) (fun _ _ _ _ _ => (pe_tup (pa_cons (pv 2) (pa_cons (pv 4) pa_nil)))))))))
 (pss_one (ps_ret (pv 1))))), ?_⟩
  refine ⟨by show 1 ≤ sizeLine; decide, fun p0 hp0 => ?_⟩
  have hS1 := Same.sqt (Same.new (o := .lst [.non]) hp0) hS
  refine ⟨_, rfl, a, _, rfl, hS1, ?_⟩
  refine for_it (walk_n (n := (wV ws).length) (f := fun i => (wV ws)[i]?) (Gd := fun H => SqT K H a (wV ws))) (fun i σ H2 => ∃ (p : Addr) (x2 x3 x4 : Option V) (ks : List (Sta × Addr)), σ = [some (.ref a), some (.ref p), x2, x3, x4] ∧ H p = none ∧ Same H H2 ∧ H2 p = some (.lst (kvs ks)) ∧ ks.map (·.1) = stUp ws i ∧ KeysAt H2 ks) ?_ ?_ ?_ ?_
  · refine ⟨p0, _, _, _, [(none, 0)], rfl, hp0, Same.new hp0, upd_same, rfl, fun s b m => ?_⟩
    cases List.mem_singleton.mp m
    exact ⟨True.intro, fun i k e => nomatch e⟩
  · rintro i σ H2 hi ⟨p, x2, x3, x4, ks, rfl, hp, s2, h2, hk, kH⟩
    exact Same.sqt s2 hS
  · rintro i x σ H2 H3 hi ⟨p, x2, x3, x4, ks, rfl, hp, s2, h2, hk, kH⟩ ⟨T0, y, z, rfl, hT, rfl, e1, e2⟩
    cases e1
    obtain ⟨w, hw, rfl⟩ := wV_get' e2
    have hi2 : i < ws.length := by rw [hlen] at hi; exact hi
    have ew : w = wd ws i := by
      rw [wd_get hi2] at hw
      exact (Option.some.inj hw).symm
    subst ew
    have s3 : Same H2 (upd H2 T0 (.tup [.int (i : Nat), .str (mkS (wd ws i))])) := Same.new hT
    have wl := mkS_len (wd ws i)
    have wz := wd_len ok hi2
    have h3h := ok.high _ (wd_mem hi2)
    have h3l := ok.low _ (wd_mem hi2)
    refine ⟨T0, _, rfl, SqT.of upd_same, rfl, _, _, rfl, _, _, rfl, rfl, ⟨_, rfl, ?_⟩⟩
    refine ⟨_, rfl, _, rfl, wz, 1, _, rfl, by omega, fun D hD => ?_⟩
    refine lc_map (walk_range (lo := 1)) (by omega) hD gm_name (fun j acc H4 => ∃ ls : List (Sta × Addr), acc = kvs ls ∧ ls.map (·.1) = (List.range j).map (fun k => some (i, k + 1)) ∧ KeysAt H4 ls) ?_ ⟨[], rfl, rfl, KeysAt.nil _⟩ (fun _ _ => True.intro) ?_ ?_
    · rintro j acc H4 H5 t4 ⟨ls, e1, e2, e3⟩
      exact ⟨ls, e1, e2, e3.ts t4⟩
    · rintro j x H4 H5 acc hj s4 ⟨ls, rfl, e2, e3⟩ _ ⟨rfl, rfl⟩ Ny ky
      refine ⟨rfl, _, rfl, _, rfl, by show 2 ≤ sizeLine; decide, fun t ht => ?_⟩
      have e1 : (1 : Int) + (j : Int) = ((j + 1 : Nat) : Int) := by omega
      refine ky _ _ (Same.new ht) ⟨ls ++ [(some (i, j + 1), t)], by unfold kvs; rw [List.map_append]; rfl, by rw [List.map_append, e2, List.range_succ, List.map_append]; rfl, ?_⟩
      refine KeysAt.app (e3.ts (Same.new ht).ts) fun s b m => ?_
      cases List.mem_singleton.mp m
      refine ⟨⟨by omega, by omega, by omega⟩, fun i2 k2 e => ?_⟩
      cases e
      rw [← e1]
      exact .inl upd_same
    · rintro acc H4 s4 ⟨ls, rfl, e2, e3⟩ hd _
      have en : (((mkS (wd ws i)).length : Int) - 1).toNat = (wd ws i).length - 1 := by rw [wl]; omega
      rw [en] at e2
      have sz : (kvs ks).length + (kvs ls).length ≤ sizeLine := by
        have z1 : (kvs ks).length = (ks.map (·.1)).length := by rw [List.length_map, List.length_map]
        have z2 : (kvs ls).length = (ls.map (·.1)).length := by rw [List.length_map, List.length_map]
        rw [z1, z2, hk, e2, List.length_map, List.length_range]
        have := stUp_len ok (Nat.le_of_lt hi2)
        exact small (by omega)
      have hp4 := s4 _ _ (s3 _ _ h2)
      refine ⟨p, D, _, _, rfl, rfl, hp4, hd, sz, fun q hq => ⟨q, _, _, _, ks ++ ls, rfl, ?_, ?_, ?_, ?_, ?_⟩⟩
      · exact ((s2.trans s3).trans s4).free hq
      · exact ((s2.trans s3).trans s4).then hq
      · unfold kvs
        rw [List.map_append]
        exact upd_same
      · rw [List.map_append, hk, e2, stUp_succ]
      · exact KeysAt.app (kH.ts ((s3.trans s4).then hq).ts) (e3.ts (Same.new hq).ts)
  · rintro σ H2 ⟨p, x2, x3, x4, ks, rfl, hp, s2, h2, hk, kH⟩
    rw [hlen, stUp_all] at hk
    exact ⟨_, rfl, k p ks H2 s2 hp h2 hk kH⟩
end K76
namespace K76
open PySem PySem.Spec PyProof.Rows L2
/-! ### moves_of -/
theorem sw_dict {kx vx : Expr} {gs : List Comprehension} {scope : Scope} {pos py : Pos} {y : Str} {l : Nat} {env : Env} (hk : env.scope.kind = .function) (hy : env.scope.names.lookup y = some .local) (hl : (py.line == pos.line) = true)
    (ha : (scope.names.any fun (n, k) => n == y && (k == .local || k == .cell)) = false) : swapsWith (.DictComp kx vx gs scope pos) (some (.Name y py)) l env = pure true := by
  have k1 : env.kindOf y = some .local := hy
  have k2 : env.blockKind = .function := by unfold Env.blockKind; rw [hk]; rfl
  unfold swapsWith
  simp only [k1, k2, ha, hl, Expr.pos]
  rfl
abbrev mvK (n c : Nat) : List Key := [Sum.inl (n : Int), Sum.inr (mkS [c])]
def MvAt (H : Hp) (d : Addr) (z : Nat) (ends : Nat → Nat → List Nat) : Prop := ∃ kvs : List (List Key × V), H d = some (.dT kvs) ∧ kvs.length ≤ z ∧ ∀ n c, (ends n c).length ≤ z ∧ ((valV kvs (mvK n c) = none ∧ ends n c = []) ∨ ∃ e, valV kvs (mvK n c) = some (.ref e) ∧ H e = some (.lst (nV (ends n c))))
def src (i k : Nat) : Sta := if k = 0 then none else some (i, k)
/-- the moves of the words below i and of the letters below k of the word i -/
def Done (i k i2 k2 : Nat) : Prop := i2 < i ∨ (i2 = i ∧ k2 < k)
def MvIn (ws : List (List Nat)) (i k : Nat) (ends : Nat → Nat → List Nat) : Prop := ∀ n c e, e ∈ ends n c ↔ n < (stL ws).length ∧ e < (stL ws).length ∧ ∃ i2 k2, Done i k i2 k2 ∧ i2 < ws.length ∧ k2 < (wd ws i2).length ∧ sAt ws n = src i2 k2 ∧ letterOf ws i2 k2 = c ∧ sAt ws e = adv ws i2 (k2 + 1)
def MvOk (ws : List (List Nat)) (H : Hp) (d : Addr) : Prop := ∃ ends, MvAt H d 12 ends ∧ ∀ n c e, n < (stL ws).length → (e ∈ ends n c ↔ e < (stL ws).length ∧ sAt ws e ∈ nxS ws (sAt ws n) c)
theorem MvIn.zero (ws : List (List Nat)) : MvIn ws 0 0 fun _ _ => [] := fun n c e => by
  constructor
  · intro h; cases h
  · rintro ⟨_, _, i2, k2, h, _⟩
    rcases h with h | h <;> omega
theorem MvIn.step {ws : List (List Nat)} {i k : Nat} {ends ends' : Nat → Nat → List Nat} {n0 e0 : Nat} (h : MvIn ws i k ends) (hi : i < ws.length) (hk : k < (wd ws i).length) (hn : n0 < (stL ws).length) (he : e0 < (stL ws).length) (en : sAt ws n0 = src i k) (ee : sAt ws e0 = adv ws i (k + 1))
    (q : ∀ n c e, e ∈ ends' n c ↔ e ∈ ends n c ∨ (n = n0 ∧ c = letterOf ws i k ∧ e = e0)) : MvIn ws i (k + 1) ends' := fun n c e => by
  rw [q, h n c e]
  constructor
  · rintro (⟨h1, h2, i2, k2, d, r⟩ | ⟨rfl, rfl, rfl⟩)
    · refine ⟨h1, h2, i2, k2, ?_, r⟩
      rcases d with d | ⟨d, d2⟩
      · exact .inl d
      · exact .inr ⟨d, by omega⟩
    · exact ⟨hn, he, i, k, .inr ⟨rfl, by omega⟩, hi, hk, en, rfl, ee⟩
  · rintro ⟨h1, h2, i2, k2, d, r1, r2, r3, r4, r5⟩
    by_cases z : i2 = i ∧ k2 = k
    · obtain ⟨rfl, rfl⟩ := z
      refine .inr ⟨sAt_inj h1 hn (r3.trans en.symm), r4.symm, sAt_inj h2 he (r5.trans ee.symm)⟩
    · refine .inl ⟨h1, h2, i2, k2, ?_, r1, r2, r3, r4, r5⟩
      rcases d with d | ⟨d, d2⟩
      · exact .inl d
      · exact .inr ⟨d, by omega⟩
theorem MvIn.next {ws : List (List Nat)} {i : Nat} {ends : Nat → Nat → List Nat} (h : MvIn ws i (wd ws i).length ends) : MvIn ws (i + 1) 0 ends := fun n c e => by
  rw [h n c e]
  constructor
  · rintro ⟨h1, h2, i2, k2, d, r⟩
    exact ⟨h1, h2, i2, k2, .inl (by rcases d with d | d <;> omega), r⟩
  · rintro ⟨h1, h2, i2, k2, d, r1, r2, r⟩
    refine ⟨h1, h2, i2, k2, ?_, r1, r2, r⟩
    have d2 : i2 < i + 1 := by rcases d with d | d <;> omega
    by_cases z : i2 = i
    · subst z
      exact .inr ⟨rfl, r2⟩
    · exact .inl (by omega)
theorem MvIn.fin {ws : List (List Nat)} {ends : Nat → Nat → List Nat} (ok : OkC ws) (h : MvIn ws ws.length 0 ends) : ∀ n c e, n < (stL ws).length → (e ∈ ends n c ↔ e < (stL ws).length ∧ sAt ws e ∈ nxS ws (sAt ws n) c) := fun n c e hn => by
  rw [h n c e]
  have hin : InOk ws (sAt ws n) := mem_stL.mp (sAt_mem hn)
  constructor
  · rintro ⟨_, h2, i2, k2, _, r1, r2, r3, r4, r5⟩
    refine ⟨h2, ?_⟩
    rw [r3, r5]
    unfold src
    by_cases z : k2 = 0
    · subst z
      rw [if_pos rfl]
      exact List.mem_map.mpr ⟨i2, List.mem_filter.mpr ⟨List.mem_range.mpr r1, decide_eq_true r4⟩, rfl⟩
    · rw [if_neg z]
      show _ ∈ (if letterOf ws i2 k2 = c then [adv ws i2 (k2 + 1)] else [])
      rw [if_pos r4]
      exact List.mem_singleton.mpr rfl
  · rintro ⟨h2, h3⟩
    refine ⟨hn, h2, ?_⟩
    cases es : sAt ws n with
    | none =>
      rw [es] at h3
      obtain ⟨i, hi, e1⟩ := List.mem_map.mp h3
      have hi := List.mem_filter.mp hi
      have lt := List.mem_range.mp hi.1
      exact ⟨i, 0, .inl lt, lt, ok.low _ (wd_mem lt), rfl, of_decide_eq_true hi.2, e1.symm⟩
    | some ik =>
      obtain ⟨i, k⟩ := ik
      rw [es] at h3 hin
      obtain ⟨l1, l2, l3⟩ := hin
      have h3 : sAt ws e ∈ (if letterOf ws i k = c then [adv ws i (k + 1)] else []) := h3
      split at h3
      · rename_i q
        exact ⟨i, k, .inl l1, l1, l3, by unfold src; rw [if_neg (by omega)], q, List.mem_singleton.mp h3⟩
      · cases h3
theorem MvAt.same {H H2 : Hp} {d : Addr} {z : Nat} {ends : Nat → Nat → List Nat} (s : Same H H2) (h : MvAt H d z ends) : MvAt H2 d z ends := by
  obtain ⟨kvs, h1, h2, h3⟩ := h
  refine ⟨kvs, s _ _ h1, h2, fun n c => ⟨(h3 n c).1, ?_⟩⟩
  rcases (h3 n c).2 with q | ⟨e, q1, q2⟩
  · exact .inl q
  · exact .inr ⟨e, q1, s _ _ q2⟩
theorem MvAt.mono {H : Hp} {d : Addr} {z z2 : Nat} {ends : Nat → Nat → List Nat} (h : MvAt H d z ends) (l : z ≤ z2) : MvAt H d z2 ends := by
  obtain ⟨kvs, h1, h2, h3⟩ := h
  exact ⟨kvs, h1, by omega, fun n c => ⟨by have := (h3 n c).1; omega, (h3 n c).2⟩⟩
theorem mvK_inj {n m c d : Nat} (h : mvK n c = mvK m d) : n = m ∧ c = d := by
  injection h with h1 h2
  injection h1 with h1
  injection h2 with h2 _
  injection h2 with h2
  have q := mkS_inj h2
  injection q with q _
  exact ⟨by omega, q⟩
/-- the dict of numbers, laid and full -/
def NumAt (ws : List (List Nat)) (H : Hp) (N : Addr) : Prop := ∃ ks : List (Sta × Addr), H N = some (NumO N ks) ∧ KeysAt H ks ∧ ks.map (·.1) = stL ws
theorem NumAt.get {ws : List (List Nat)} {H : Hp} {N : Addr} (h : NumAt ws H N) (ok : OkC ws) {i m : Nat} (hi : i < ws.length) (h1 : 1 ≤ m) (h2 : m < (wd ws i).length) : ∃ (ks : List (Sta × Addr)) (n : Nat) (c : Addr), n < (stL ws).length ∧ sAt ws n = some (i, m) ∧ H N = some (NumO N ks) ∧ KeysAt H ks ∧ (ks.map (·.1)).Nodup ∧ OkS (some (i, m)) ∧ ks[n]? = some (some (i, m), c) := by
  obtain ⟨ks, hN, kH, hks⟩ := h
  obtain ⟨n, hn, es⟩ := num_of (mem_stL.mpr (show InOk ws (some (i, m)) from ⟨hi, h1, h2⟩))
  have g : (ks.map (·.1))[n]? = some (some (i, m)) := by rw [hks, sAt_get hn, es]
  rw [List.getElem?_map] at g
  obtain ⟨q, hq, eq⟩ := Option.map_eq_some_iff.mp g
  have h3 := ok.high _ (wd_mem hi)
  have hl := ok.len
  exact ⟨ks, n, q.2, hn, es, hN, kH, by rw [hks]; exact stL_nodup ws, ⟨by omega, h1, by omega⟩, by rw [hq, ← eq]⟩
theorem NumAt.put {ws : List (List Nat)} {H : Hp} {N q : Addr} {o : HO} (h : NumAt ws H N) (hq : H q = none) : NumAt ws (upd H q o) N := by
  obtain ⟨ks, hN, kH, hks⟩ := h
  exact ⟨ks, (Same.new hq) _ _ hN, kH.ts (Same.new hq).ts, hks⟩
theorem start_te {ws : List (List Nat)} {σ : L2.St} {H : Hp} {Q : VK} {N : Addr} {i j : Nat} (ok : OkC ws) (hi : i < ws.length) (hj : j < (wd ws i).length) (hN : NumAt ws H N) (e2 : σ[2]? = some (some (.ref N))) (e4 : σ[4]? = some (some (.int (i : Nat)))) (e6 : σ[6]? = some (some (.int (j : Nat))))
    (k : ∀ n H2, n < (stL ws).length → sAt ws n = src i j → Same H H2 → Q (.int (n : Nat)) H2) : tIf (tTest (tOp rEq (tVar 6) (tC (V.int 0)))) (tC (V.int 0)) (tNumGet (tVar 2) (tTup (tCons (tVar 4) (tCons (tVar 6) tNil)))) σ H Q := by
  refine ⟨_, e6, rfl, _, rfl, ?_⟩
  by_cases z : j = 0
  · subst z
    exact iteD rfl (k 0 H (Nat.succ_pos _) rfl (Same.refl H))
  · refine iteDF (fun q => z (by injection q with q; omega)) ⟨_, e2, _, e4, _, e6, by show 2 ≤ sizeLine; decide, fun t ht => ?_⟩
    obtain ⟨ks, n, c, hn, es, h1, h2, h3, h4, h5⟩ := (hN.put (o := .tup [.int (i : Nat), .int (j : Nat)]) ht).get ok hi (Nat.pos_of_ne_zero z) hj
    refine ⟨N, t, c, ks, i, j, n, rfl, rfl, h1, upd_same, h2, h3, h4, h5, k n _ hn ?_ (Same.new ht)⟩
    rw [es]
    unfold src
    rw [if_neg z]
theorem end_te {ws : List (List Nat)} {σ : L2.St} {H : Hp} {Q : VK} {N : Addr} {i j : Nat} (ok : OkC ws) (hi : i < ws.length) (hj : j < (wd ws i).length) (hN : NumAt ws H N) (e2 : σ[2]? = some (some (.ref N))) (e4 : σ[4]? = some (some (.int (i : Nat)))) (e5 : σ[5]? = some (some (.str (mkS (wd ws i))))) (e6 : σ[6]? = some (some (.int (j : Nat))))
    (k : ∀ n H2, n < (stL ws).length → sAt ws n = adv ws i (j + 1) → Same H H2 → Q (.int (n : Nat)) H2) : tIf (tTest (tOp rEq (tOp rAdd (tVar 6) (tC (V.int 1))) (tCB (fun xs H Q => ∃ z, xs = [V.str z] ∧ z.length ≤ sizeLine ∧ Q (V.int z.length) H) (tCons (tVar 5) tNil)))) (tC (V.int 0)) (tNumGet (tVar 2) (tTup (tCons (tVar 4) (tCons (tOp rAdd (tVar 6) (tC (V.int 1))) tNil)))) σ H Q := by
  have wl := mkS_len (wd ws i)
  refine ⟨_, e6, _, _, rfl, rfl, _, e5, _, rfl, wd_len ok hi, rfl, _, rfl, ?_⟩
  have ej : (j : Int) + 1 = ((j + 1 : Nat) : Int) := rfl
  by_cases z : j + 1 = (wd ws i).length
  · refine iteD (by rw [wl, ← z, ej]) (k 0 H (Nat.succ_pos _) ?_ (Same.refl H))
    unfold adv
    rw [if_neg (by omega)]
    rfl
  · refine iteDF (fun q => z (by injection q with q; rw [wl] at q; omega)) ⟨_, e2, _, e4, _, e6, _, _, rfl, rfl, by show 2 ≤ sizeLine; decide, fun t ht => ?_⟩
    obtain ⟨ks, n, c, hn, es, h1, h2, h3, h4, h5⟩ := (hN.put (o := .tup [.int (i : Nat), .int ((j : Int) + 1)]) ht).get ok hi (m := j + 1) (by omega) (by omega)
    refine ⟨N, t, c, ks, i, j + 1, n, rfl, rfl, h1, upd_same, h2, h3, h4, h5, k n _ hn ?_ (Same.new ht)⟩
    rw [es]
    unfold adv
    rw [if_pos (by omega)]
theorem inV_nat (e : Nat) : ∀ l : List Nat, inV (.int (e : Nat)) (nV l) = decide (e ∈ l)
  | [] => by simp [inV]
  | x :: r => by
    have ih := inV_nat e r
    unfold inV at ih ⊢
    rw [show nV (x :: r) = .int (x : Nat) :: nV r from rfl, List.any_cons, ih]
    show ((((x : Nat) : Int) == ((e : Nat) : Int)) || decide (e ∈ r)) = _
    by_cases z : e = x
    · subst z
      simp
    · have z2 : (((x : Nat) : Int) == ((e : Nat) : Int)) = false := beq_eq_false_iff_ne.mpr fun q => z (by omega)
      rw [z2, Bool.false_or]
      simp [z]
theorem flat_nV : ∀ l : List Nat, (nV l).all flatV = true
  | [] => rfl
  | _ :: r => by rw [show nV (_ :: r) = _ :: nV r from rfl, List.all_cons, flat_nV r]; rfl
theorem nV_int (l : List Nat) : nV l = (l.map fun (i : Nat) => (i : Int)).map V.int := by
  unfold nV
  rw [List.map_map]
  rfl
theorem perm_nat {ns : List Int} {l : List Nat} (h : ns.Perm (l.map fun (i : Nat) => (i : Int))) : ∃ m : List Nat, ns = (m.map fun (i : Nat) => (i : Int)) ∧ m.Perm l := by
  have e : ns = (ns.map Int.toNat).map fun (i : Nat) => (i : Int) := by
    rw [List.map_map]
    conv => lhs; rw [← List.map_id ns]
    refine List.map_congr_left fun x hx => ?_
    obtain ⟨i, _, rfl⟩ := List.mem_map.mp (h.mem_iff.mp hx)
    rfl
  refine ⟨ns.map Int.toNat, e, ?_⟩
  have q := h.map Int.toNat
  rw [List.map_map] at q
  have e2 : l.map (Int.toNat ∘ fun (i : Nat) => (i : Int)) = l := by
    conv => rhs; rw [← List.map_id l]
    exact List.map_congr_left fun x _ => rfl
  rw [e2] at q
  exact q
/-- one more move -/
def putEnds (ends : Nat → Nat → List Nat) (n c : Nat) (l : List Nat) : Nat → Nat → List Nat := fun m d => if m = n ∧ d = c then l else ends m d
theorem MvAt.put {H : Hp} {d e : Addr} {z n c : Nat} {ends : Nat → Nat → List Nat} {l : List Nat} {kvs : List (List Key × V)} (hd : H d = some (.dT kvs)) (hz : kvs.length ≤ z) (h : ∀ n c, (ends n c).length ≤ z ∧ ((valV kvs (mvK n c) = none ∧ ends n c = []) ∨ ∃ e, valV kvs (mvK n c) = some (.ref e) ∧ H e = some (.lst (nV (ends n c)))))
    (he : H e = some (.lst (nV l))) (hl : l.length ≤ z + 1) : MvAt (upd H d (.dT (putK kvs (mvK n c) (.ref e)))) d (z + 1) (putEnds ends n c l) := by
  refine ⟨_, upd_same, by have := length_putK kvs (mvK n c) (.ref e); omega, fun m b => ?_⟩
  have nd : ∀ {q : Addr} {xs : List V}, H q = some (.lst xs) → (upd H d (.dT (putK kvs (mvK n c) (.ref e)))) q = some (.lst xs) := by
    intro q xs hq
    rw [upd_ne]
    · exact hq
    · rintro rfl
      rw [hd] at hq
      cases hq
  rw [valV_put]
  unfold putEnds
  by_cases z1 : m = n ∧ b = c
  · obtain ⟨rfl, rfl⟩ := z1
    rw [if_pos rfl, if_pos ⟨rfl, rfl⟩]
    exact ⟨hl, .inr ⟨e, rfl, nd he⟩⟩
  · rw [if_neg fun q => z1 (mvK_inj q), if_neg z1]
    refine ⟨by have := (h m b).1; omega, ?_⟩
    rcases (h m b).2 with q | ⟨f, q1, q2⟩
    · exact .inl q
    · exact .inr ⟨f, q1, nd q2⟩
def sp_moves_of (K : PySem.W.Frag) : Sp := fun vs H Q _ => ∃ (a : Addr) (ws : List (List Nat)), vs = [.ref a] ∧ SqT K H a (wV ws) ∧ OkC ws ∧ ∀ (p : Addr) (H2 : Hp), Same H H2 → MvOk ws H2 p → Q (.ref p) H2
abbrev Ok_moves_of (P : Program) (w : World) (K : PySem.W.Frag) (mg : Str → Option Value) (base : Heap) : Prop := Have P w K mg base CX0 "moves_of" 2 ["code"] (sp_moves_of K)
theorem ok_moves_of {P : Program} {w : World} {K : PySem.W.Frag} {mg : Str → Option Value} {base : Heap} (T : Txt K mg) (h_listed_states : Ok_listed_states P w K mg base) : Ok_moves_of P w K mg base := by
  obtain ⟨f_listed_states, fd_listed_states, g_listed_states, kp_listed_states, b_listed_states, G_listed_states⟩ := h_listed_states
  refine have_of T.d_moves_of (fun _ _ _ _ _ _ us hl => match us, hl with | [_], _ => rfl) sc_moves_of (fun vs H Q E h => ?_) fun f cdv A outer s H vs Q E hr h => ?_
  · obtain ⟨a, ws, rfl, _⟩ := h
    rfl
  have hu := hu_of hr
  have hu65 := hu65_of hr
  obtain ⟨a, ws, rfl, hS, ok, k⟩ := h
  have hlen : (wV ws).length = ws.length := List.length_map ..
  have hl := ok.len
  refine ⟨_, (pss_cons (ps_set (i := 1) sc_moves_of.nd rfl (Or.inl rfl) (pe_call G_listed_states (hr.mono (by decide)) (by rfl) g_listed_states kp_listed_states b_listed_states .nil pass0 (pa_cons (pv 0) pa_nil)))
 (pss_cons (ps_setNum (i := 2) (own := [("number", 11), ("state", 12)]) (g := gTup K 2 (gCons (gName 11) (gCons (gName 12) gNil))) (Nat.lt_of_le_of_lt (Nat.le_add_right _ _) hr.units) rfl sc_moves_of.nd rfl rfl (sw_dict rfl rfl rfl (by decide +kernel)) (pi_enum (by rfl) T.b_enumerate (pa_cons (pv 1) pa_nil)) (blkOk_by (by kernel_rfl)) (fun _ _ _ _ _ => (pg_tup rfl (pgs_cons (pg_name (i := 11) sc_moves_of.nd rfl (Or.inl rfl)) (pgs_cons (pg_name (i := 12) sc_moves_of.nd rfl (Or.inl rfl)) pgs_nil)))) (fun _ _ _ _ _ => pts_nil) (fun _ _ _ _ _ => (pv 12)) (fun _ _ _ _ _ => (pv 11)))
 (pss_cons (ps_set (i := 3) sc_moves_of.nd rfl (Or.inl rfl) pe_dnewT)
 (pss_cons (ps_for PassesOwn.never rfl (pi_enumT (by rfl) T.b_enumerate (pa_cons (pv 0) pa_nil)) (pg_tup rfl (pgs_cons (pg_name (i := 4) sc_moves_of.nd rfl (Or.inl rfl)) (pgs_cons (pg_name (i := 5) sc_moves_of.nd rfl (Or.inl rfl)) pgs_nil)))
 (pss_one (ps_for PassesOwn.never rfl (pi_enumS (by rfl) T.b_enumerate (pa_cons (pv 5) pa_nil)) (pg_tup rfl (pgs_cons (pg_name (i := 6) sc_moves_of.nd rfl (Or.inl rfl)) (pgs_cons (pg_name (i := 7) sc_moves_of.nd rfl (Or.inl rfl)) pgs_nil)))
 (pss_cons (ps_set (i := 8) sc_moves_of.nd rfl (Or.inl rfl) (pe_ifExp (pt_cmpR op_eq (pv 6) pe_int (nomark _)) pe_int (pe_numGet hu (pv 2) (pe_tup (pa_cons (pv 4) (pa_cons (pv 6) pa_nil))) (fun _ _ => rfl))))
 (pss_cons (ps_set (i := 9) sc_moves_of.nd rfl (Or.inl rfl) (pe_ifExp (pt_cmpR op_eq (pe_op op_add (pv 6) pe_int) (pe_callB call_len_str (by rfl) T.b_len (by decide +kernel) (pa_cons (pv 5) pa_nil)) (nomark _)) pe_int (pe_numGet hu (pv 2) (pe_tup (pa_cons (pv 4) (pa_cons (pe_op op_add (pv 6) pe_int) pa_nil))) (fun _ _ => rfl))))
 (pss_cons (ps_set (i := 10) sc_moves_of.nd rfl (Or.inl rfl) (pe_dget2 hu (pv 3) (pe_tup (pa_cons (pv 8) (pa_cons (pv 7) pa_nil))) (pe_lst pa_nil) ⟨rfl, rfl, rfl, rfl⟩))
 (pss_one (ps_dput hu (pv 3) (pe_tup (pa_cons (pv 8) (pa_cons (pv 7) pa_nil))) (pe_ifExp (pt_cmpR (r := rIn K true) op_notIn_seq (pv 9) (pv 10) (by rfl)) (pe_callB cr_sorted (by rfl) T.b_sorted (by decide +kernel) (pa_cons (pe_op op_cat (pv 10) (pe_lst (pa_cons (pv 9) pa_nil))) pa_nil)) (pv 10)) rfl))))))))
 (pss_one (ps_ret (pv 3))))))), ?_⟩
  refine ⟨_, rfl, a, ws, rfl, hS, ok, fun p ks H1 s1 hp0 hp hks kH => ?_⟩
  have hS1 := Same.sqt s1 hS
  have nd : (ks.map (·.1)).Nodup := by rw [hks]; exact stL_nodup ws
  have hkl : ks.length = (stL ws).length := by rw [← hks, List.length_map]
  have hk9 := stL_len ok
  refine ⟨_, rfl, p, kvs ks, rfl, SqL.of hp, fun N hN => ⟨fun i m H2 => i ≤ (kvs ks).length ∧ m = (kvs ks).length - i ∧ Same H1 H2 ∧ H2 N = some (NumO N (ks.take i)), ⟨_, Nat.zero_le _, rfl, Same.new hN, upd_same⟩, ?_⟩⟩
  rintro i m H2 ⟨hi, rfl, s2, hN2⟩
  have hp2 := s2 _ _ hp
  by_cases lt : i < (kvs ks).length
  · refine .inr ⟨walk_enum.goes i H2 lt (SqL.of hp2), _, fun H3 nx => ⟨(kvs ks).length - (i + 1), by omega, nx⟩, fun x H3 y => ?_⟩
    obtain ⟨T0, y1, z1, rfl, hT, rfl, e1, e2⟩ := walk_enum.yields i H2 x H3 lt (SqL.of hp2) y
    cases e1
    have lt2 : i < ks.length := by rw [List.length_map] at lt; exact lt
    have gk : ks[i]? = some ks[i] := List.getElem?_eq_getElem lt2
    have ez : z1 = kvV ks[i].1 ks[i].2 := by
      have e2 : (kvs ks)[i]? = some z1 := e2
      rw [List.getElem?_map, gk] at e2
      exact (Option.some.inj e2).symm
    have s3 : Same H2 (upd H2 T0 (.tup [.int (i : Nat), z1])) := Same.new hT
    have tk : ks.take (i + 1) = ks.take i ++ [(ks[i].1, ks[i].2)] := by rw [List.take_succ, gk]; rfl
    have tl : (ks.take i).length = i := by rw [List.length_take]; omega
    refine ⟨T0, _, rfl, SqT.of upd_same, rfl, _, _, rfl, _, _, rfl, rfl, ⟨rfl, _, rfl, _, rfl, ks.take i, ks[i].1, ks[i].2, ez, by rw [tl], s3 _ _ hN2, by rw [tl]; omega, ?_, ?_, ?_, ?_⟩⟩
    · rw [← tk]
      exact fun s b m => (kH.ts (s2.trans s3).ts) s b (List.mem_of_mem_take m)
    · rw [← tk, List.map_take]
      exact List.Nodup.sublist (List.take_sublist _ _) nd
    · intro e0
      have g2 : (stL ws)[i]? = some none := by rw [← hks, List.getElem?_map, gk, ← e0]; rfl
      have i0 : i = 0 := (List.getElem?_inj (by omega) (stL_nodup ws)).mp (g2.trans (show some none = (stL ws)[0]? from rfl))
      rw [i0]
      rfl
    · refine ⟨by omega, rfl, ?_, by rw [tk]; exact upd_same⟩
      intro b o hb
      rw [upd_ne (ne_of_none hb hN)]
      exact s3 _ _ (s2 _ _ hb)
  · have ei : i = (kvs ks).length := by omega
    subst ei
    refine .inl ⟨walk_enum.stops H2 (SqL.of hp2), ?_⟩
    rw [List.length_map, List.take_length] at hN2
    have hS2 := Same.sqt s2 hS1
    have kH2 := kH.ts s2.ts
    refine fun F hF => ?_
    have nNF : N ≠ F := ne_of_none hN2 hF
    have kH6 : ∀ {H6 : Hp}, SameX F H2 H6 → KeysAt H6 ks := by
      intro H6 sx s b m
      refine ⟨(kH2 s b m).1, fun i k e => ?_⟩
      rcases (kH2 s b m).2 i k e with q | ⟨o, q⟩
      · exact .inl (sx _ _ (ne_of_none q hF) q)
      · exact .inr ⟨o, sx _ _ (ne_of_none q hF) q⟩
    have sF : Same H2 (upd H2 F (.dT [])) := Same.new hF
    refine ⟨_, rfl, a, _, rfl, Same.sqt sF hS2, ?_⟩
    refine for_it (walk_n (n := (wV ws).length) (f := fun i => (wV ws)[i]?) (Gd := fun H => SqT K H a (wV ws))) (fun i σ H3 => ∃ (x4 x5 x6 x7 x8 x9 x10 x11 x12 : Option V) (ends : Nat → Nat → List Nat), σ = [some (.ref a), some (.ref p), some (.ref N), some (.ref F), x4, x5, x6, x7, x8, x9, x10, x11, x12] ∧ SameX F H2 H3 ∧ MvAt H3 F (3 * i) ends ∧ MvIn ws i 0 ends) ?_ ?_ ?_ ?_
    · exact ⟨_, _, _, _, _, _, _, _, _, _, rfl, Same.x sF, ⟨[], upd_same, Nat.le_refl _, fun n c => ⟨Nat.le_refl _, .inl ⟨rfl, rfl⟩⟩⟩, MvIn.zero ws⟩
    · rintro i σ H3 hi ⟨x4, x5, x6, x7, x8, x9, x10, x11, x12, ends, rfl, sx, mv, mi⟩
      rcases hS2 with (q | ⟨o, q⟩) | q
      · exact .inl (.inl (sx _ _ (ne_of_none q hF) q))
      · exact .inl (.inr ⟨o, sx _ _ (ne_of_none q hF) q⟩)
      · exact .inr q
    · rintro i x σ H3 H4 hi ⟨x4, x5, x6, x7, x8, x9, x10, x11, x12, ends, rfl, sx, mv, mi⟩ ⟨T0, y, z, rfl, hT, rfl, e1, e2⟩
      cases e1
      obtain ⟨w, hw, rfl⟩ := wV_get' e2
      have hi2 : i < ws.length := by rw [hlen] at hi; exact hi
      have ew : w = wd ws i := by
        rw [wd_get hi2] at hw
        exact (Option.some.inj hw).symm
      subst ew
      have wl := mkS_len (wd ws i)
      have wz := wd_len ok hi2
      have h3h := ok.high _ (wd_mem hi2)
      have s4 : Same H3 (upd H3 T0 (.tup [.int (i : Nat), .str (mkS (wd ws i))])) := Same.new hT
      refine ⟨T0, _, rfl, SqT.of upd_same, rfl, _, _, rfl, _, _, rfl, rfl, _, rfl, _, rfl, ?_⟩
      refine for_it (walk_n (n := (mkS (wd ws i)).cps.size) (f := fun j => ((mkS (wd ws i)).cps[j]?).map fun c => .str ⟨#[c]⟩) (Gd := fun _ => True)) (fun k σ H5 => ∃ (x6 x7 x8 x9 x10 x11 x12 : Option V) (ends : Nat → Nat → List Nat), σ = [some (.ref a), some (.ref p), some (.ref N), some (.ref F), some (.int (i : Nat)), some (.str (mkS (wd ws i))), x6, x7, x8, x9, x10, x11, x12] ∧ SameX F H2 H5 ∧ MvAt H5 F (3 * i + k) ends ∧ MvIn ws i k ends) ?_ ?_ ?_ ?_
      · exact ⟨_, _, _, _, _, _, _, ends, rfl, sx.trans (Same.x s4), mv.same s4, mi⟩
      · intros; exact True.intro
      · rintro j x σ H5 H6 hk ⟨x6, x7, x8, x9, x10, x11, x12, ends, rfl, sx, mv, mi⟩ ⟨T1, y, z, rfl, hT1, rfl, e1, e2⟩
        cases e1
        have hk2 : j < (wd ws i).length := hk
        obtain ⟨c, hc, rfl⟩ : ∃ c, (wd ws i)[j]? = some c ∧ z = .str (mkS [c]) := by
          obtain ⟨c, h1, h2⟩ := Option.map_eq_some_iff.mp (show ((mkS (wd ws i)).cps[j]?).map (fun c => V.str ⟨#[c]⟩) = some z from e2)
          exact ⟨c, by rw [← Array.getElem?_toList] at h1; exact h1, h2.symm⟩
        have hcl : c = letterOf ws i j := by
          rw [letter_get hk2] at hc
          exact (Option.some.inj hc).symm
        have s6 : Same H5 (upd H5 T1 (.tup [.int (j : Nat), .str (mkS [c])])) := Same.new hT1
        have sx6 := sx.trans (Same.x s6)
        have mv6 := mv.same s6
        refine ⟨T1, _, rfl, SqT.of upd_same, rfl, _, _, rfl, _, _, rfl, rfl, ?_⟩
        generalize upd H5 T1 (.tup [.int (j : Nat), .str (mkS [c])]) = H6 at sx6 mv6 ⊢
        refine start_te ok hi2 hk2 ⟨ks, sx6 _ _ nNF hN2, kH6 sx6, hks⟩ rfl rfl rfl fun n0 H7 hn0 en0 s7 => ?_
        have sx7 := sx6.trans (Same.x s7)
        refine end_te ok hi2 hk2 ⟨ks, sx7 _ _ nNF hN2, kH6 sx7, hks⟩ rfl rfl rfl rfl fun e0 H8 he0 ee0 s8 => ?_
        have sx8 := sx7.trans (Same.x s8)
        obtain ⟨kvs, hF8, hz, hmv⟩ := (mv6.same s7).same s8
        refine ⟨_, rfl, F, rfl, .inr ⟨_, .inl hF8⟩, _, rfl, _, rfl, by show 2 ≤ sizeLine; decide, fun t1 ht1 => ⟨Nat.zero_le _, fun l1 hl1 => ?_⟩⟩
        have st1 : Same H8 (upd (upd H8 t1 (.tup [.int (n0 : Nat), .str (mkS [c])])) l1 (.lst [])) := (Same.new ht1).then hl1
        refine ⟨_, DGet.t (st1 _ _ hF8) (k := mvK n0 c) (by rw [upd_ne (ne_of_none upd_same hl1)]; exact upd_same), ?_⟩
        have hl1s : (upd (upd H8 t1 (.tup [.int (n0 : Nat), .str (mkS [c])])) l1 (.lst [])) l1 = some (.lst []) := upd_same
        generalize upd (upd H8 t1 (.tup [.int (n0 : Nat), .str (mkS [c])])) l1 (.lst []) = H9 at st1 hl1s ⊢
        obtain ⟨E, eE, hE⟩ : ∃ E, (valV kvs (mvK n0 c)).getD (.ref l1) = .ref E ∧ H9 E = some (.lst (nV (ends n0 c))) := by
          rcases (hmv n0 c).2 with ⟨q1, q2⟩ | ⟨e, q1, q2⟩
          · exact ⟨l1, by rw [q1]; rfl, by rw [q2]; exact hl1s⟩
          · exact ⟨e, by rw [q1]; rfl, st1 _ _ q2⟩
        have hF9 := st1 _ _ hF8
        have sx9 := sx8.trans (Same.x st1)
        have hmv9 : ∀ n c, (ends n c).length ≤ 3 * i + j ∧ ((valV kvs (mvK n c) = none ∧ ends n c = []) ∨ ∃ e, valV kvs (mvK n c) = some (.ref e) ∧ H9 e = some (.lst (nV (ends n c)))) := fun n c => ⟨(hmv n c).1, (hmv n c).2.imp id fun ⟨e, q1, q2⟩ => ⟨e, q1, st1 _ _ q2⟩⟩
        have hln := (hmv n0 c).1
        rw [eE]
        have fin : ∀ (H10 : Hp) (G : Addr) (l : List Nat), Same H9 H10 → H10 G = some (.lst (nV l)) → l.length ≤ (ends n0 c).length + 1 → (∀ e, e ∈ l ↔ e ∈ ends n0 c ∨ e = e0) → ∃ (ends' : Nat → Nat → List Nat), SameX F H2 (upd H10 F (.dT (putK kvs (mvK n0 c) (.ref G)))) ∧ MvAt (upd H10 F (.dT (putK kvs (mvK n0 c) (.ref G)))) F (3 * i + (j + 1)) ends' ∧ MvIn ws i (j + 1) ends' := by
          intro H10 G l s10 hG hlG hm
          refine ⟨putEnds ends n0 c l, (sx9.trans (Same.x s10)).upd _, MvAt.put (z := 3 * i + j) (s10 _ _ hF9) hz (fun n c => ⟨(hmv9 n c).1, (hmv9 n c).2.imp id fun ⟨e, q1, q2⟩ => ⟨e, q1, s10 _ _ q2⟩⟩) hG (by omega), mi.step hi2 hk2 hn0 he0 en0 ee0 fun n b e => ?_⟩
          unfold putEnds
          by_cases z : n = n0 ∧ b = c
          · obtain ⟨rfl, rfl⟩ := z
            rw [if_pos ⟨rfl, rfl⟩, hm e]
            exact ⟨fun q => q.imp id fun q => ⟨rfl, hcl, q⟩, fun q => q.imp id fun q => q.2.2⟩
          · rw [if_neg z]
            exact ⟨.inl, fun q => q.elim id fun q => absurd ⟨q.1, q.2.1.trans hcl.symm⟩ z⟩
        have put : ∀ (H10 : Hp) (G : Addr) (l : List Nat), Same H9 H10 → H10 G = some (.lst (nV l)) → l.length ≤ (ends n0 c).length + 1 → (∀ e, e ∈ l ↔ e ∈ ends n0 c ∨ e = e0) → ∀ t2, H10 t2 = none → ∃ H11 : Hp, DPut (upd H10 t2 (.tup [.int (n0 : Nat), .str (mkS [c])])) F (.ref t2) (.ref G) H11 ∧ ∃ (ends' : Nat → Nat → List Nat), SameX F H2 H11 ∧ MvAt H11 F (3 * i + (j + 1)) ends' ∧ MvIn ws i (j + 1) ends' := by
          intro H10 G l s10 hG hlG hm t2 ht2
          have s11 : Same H9 (upd H10 t2 (.tup [.int (n0 : Nat), .str (mkS [c])])) := s10.then ht2
          exact ⟨_, DPut.t (k := mvK n0 c) (s11 _ _ hF9) upd_same (smallLt (by omega)), fin _ G l s11 ((Same.new ht2) _ _ hG) hlG hm⟩
        refine ⟨_, rfl, _, rfl, E, _, rfl, .inl (SqL.of hE), rfl, flat_nV _, _, rfl, ?_⟩
        rw [if_pos rfl, inV_nat]
        by_cases m : e0 ∈ ends n0 c
        · rw [decide_eq_true m]
          refine iteF ⟨_, rfl, _, rfl, _, rfl, _, rfl, by show 2 ≤ sizeLine; decide, fun t2 ht2 => ?_⟩
          obtain ⟨H11, hp11, ends', r1, r2, r3⟩ := put H9 E _ (Same.refl H9) hE (Nat.le_succ _) (fun e => ⟨.inl, fun q => q.elim id fun q => by rw [q]; exact m⟩) t2 ht2
          exact ⟨F, H11, rfl, hp11, _, _, _, _, _, _, _, ends', rfl, r1, r2, r3⟩
        · rw [decide_eq_false m]
          refine iteT ⟨_, rfl, _, rfl, by show 1 ≤ sizeLine; decide, fun l2 hl2 => ?_⟩
          have s10 : Same H9 (upd H9 l2 (.lst [.int (e0 : Nat)])) := Same.new hl2
          refine ⟨E, l2, _, _, rfl, rfl, s10 _ _ hE, upd_same, ?_, fun l3 hl3 => ?_⟩
          · rw [List.length_map]
            exact small (by show (ends n0 c).length + 1 ≤ _; omega)
          have s11 := s10.then (o := .lst (nV (ends n0 c) ++ [.int (e0 : Nat)])) hl3
          have e3 : nV (ends n0 c) ++ [V.int (e0 : Nat)] = ((ends n0 c ++ [e0]).map fun (i : Nat) => (i : Int)).map V.int := by
            rw [← nV_int]
            unfold nV
            rw [List.map_append]
            rfl
          refine ⟨l3, _, rfl, SqL.of (by rw [← e3]; exact upd_same), by rw [List.length_map, List.length_append]; show (ends n0 c).length + 1 < 64; omega, fun ns l4 pm _ hl4 => ?_⟩
          obtain ⟨ms, rfl, pm2⟩ := perm_nat pm
          rw [← nV_int]
          have s12 := s11.then (o := .lst (nV ms)) hl4
          refine ⟨_, rfl, _, rfl, _, rfl, by show 2 ≤ sizeLine; decide, fun t2 ht2 => ?_⟩
          obtain ⟨H11, hp11, ends', r1, r2, r3⟩ := put _ l4 ms s12 upd_same (by rw [pm2.length_eq, List.length_append]; exact Nat.le_refl _) (fun e => by rw [pm2.mem_iff, List.mem_append, List.mem_singleton]) t2 ht2
          exact ⟨F, H11, rfl, hp11, _, _, _, _, _, _, _, ends', rfl, r1, r2, r3⟩
      · rintro σ H5 ⟨x6, x7, x8, x9, x10, x11, x12, ends, rfl, sx, mv, mi⟩
        have ez : (mkS (wd ws i)).cps.size = (wd ws i).length := rfl
        rw [ez] at mv mi
        exact ⟨_, _, _, _, _, _, _, _, _, ends, rfl, sx, mv.mono (by omega), mi.next⟩
    · rintro σ H3 ⟨x4, x5, x6, x7, x8, x9, x10, x11, x12, ends, rfl, sx, mv, mi⟩
      rw [hlen] at mv mi
      refine ⟨_, rfl, k F H3 (fun b o e => ?_) ⟨ends, mv.mono (by omega), mi.fin ok⟩⟩
      have e2 := s2 _ _ (s1 _ _ e)
      exact sx _ _ (ne_of_none e2 hF) e2
end K76
namespace K76
open PySem PySem.Spec PyProof.Rows L2
/-! ### led_to, led_from -/
def addN (es : List Nat) (e : Nat) : List Nat := if e ∈ es then es else es ++ [e]
abbrev tb (es : List Nat) : List (Key × V) := es.map fun (e : Nat) => (Sum.inl (e : Int), V.bl true)
theorem mem_addN {es : List Nat} {e x : Nat} : x ∈ addN es e ↔ x ∈ es ∨ x = e := by
  unfold addN
  split
  · rename_i h
    exact ⟨.inl, fun q => q.elim id fun q => by rw [q]; exact h⟩
  · rw [List.mem_append, List.mem_singleton]
theorem nd_addN {es : List Nat} {e : Nat} (h : es.Nodup) : (addN es e).Nodup := by
  unfold addN
  split
  · exact h
  · rename_i q
    exact nd_snoc h q
theorem mem_addAll {x : Nat} : ∀ {fs es : List Nat}, x ∈ fs.foldl addN es ↔ x ∈ es ∨ x ∈ fs
  | [], es => ⟨.inl, fun q => q.elim id fun q => nomatch q⟩
  | f :: fs, es => by
    rw [List.foldl_cons, mem_addAll, mem_addN, List.mem_cons, or_assoc]
theorem nd_addAll : ∀ {fs es : List Nat}, es.Nodup → (fs.foldl addN es).Nodup
  | [], _, h => h
  | f :: fs, es, h => by
    rw [List.foldl_cons]
    exact nd_addAll (nd_addN h)
theorem len_addAll : ∀ (fs es : List Nat), (fs.foldl addN es).length ≤ es.length + fs.length
  | [], es => Nat.le_refl _
  | f :: r, es => by
    rw [List.foldl_cons]
    have h5 := len_addAll r (addN es f)
    have h6 : (addN es f).length ≤ es.length + 1 := by
      unfold addN
      split
      · omega
      · rw [List.length_append]
        exact Nat.le_refl _
    rw [List.length_cons]
    omega
theorem addAll_0 (fs : List Nat) (e : Nat) : e ∈ fs.foldl addN [] ↔ e ∈ fs := by
  rw [mem_addAll]
  exact ⟨fun q => q.elim (fun q => nomatch q) id, .inr⟩
theorem putK_tb (es : List Nat) (e : Nat) : putK (tb es) (Sum.inl (e : Int)) (.bl true) = tb (addN es e) := by
  unfold putK addN
  by_cases m : e ∈ es
  · have a : ((tb es).any fun kv => decide (kv.1 = (Sum.inl (e : Int) : Key))) = true := List.any_eq_true.mpr ⟨_, List.mem_map.mpr ⟨e, m, rfl⟩, decide_eq_true rfl⟩
    rw [if_pos a, if_pos m]
    conv => rhs; rw [← List.map_id (tb es)]
    refine List.map_congr_left fun p hp => ?_
    obtain ⟨x, _, rfl⟩ := List.mem_map.mp hp
    split <;> rfl
  · have a : ¬ ((tb es).any fun kv => decide (kv.1 = (Sum.inl (e : Int) : Key))) = true := fun q => by
      obtain ⟨p, hp, q⟩ := List.any_eq_true.mp q
      obtain ⟨x, hx, rfl⟩ := List.mem_map.mp hp
      have q := Sum.inl.inj (of_decide_eq_true q)
      exact m (by rw [show e = x by omega]; exact hx)
    rw [if_neg a, if_neg m]
    unfold tb
    rw [List.map_append]
    rfl
theorem mergeK_tb : ∀ (fs es : List Nat), mergeK (tb es) (tb fs) = tb (fs.foldl addN es)
  | [], _ => rfl
  | f :: fs, es => by
    have ih := mergeK_tb fs (addN es f)
    unfold mergeK at ih ⊢
    rw [show tb (f :: fs) = (Sum.inl (f : Int), V.bl true) :: tb fs from rfl, List.foldl_cons, putK_tb, ih, List.foldl_cons]
theorem nodup_lt : ∀ (n : Nat) (l : List Nat), l.Nodup → (∀ x ∈ l, x < n) → l.length ≤ n
  | 0, [], _, _ => Nat.le_refl _
  | 0, x :: _, _, h => absurd (h x List.mem_cons_self) (Nat.not_lt_zero _)
  | n + 1, l, nd, h => by
    have q := nodup_lt n (l.erase n) (nd.erase n) fun x hx => by
      have z := (nd.mem_erase_iff).mp hx
      have := h x z.2
      have := z.1
      omega
    by_cases m : n ∈ l
    · rw [List.length_erase_of_mem m] at q
      omega
    · rw [List.erase_of_not_mem m] at q
      omega
/-- ascending, each once -/
theorem asc_of {l m : List Nat} (p : (l.map fun (i : Nat) => (i : Int)).Pairwise (· ≤ ·)) (q : l.Perm m) (nd : m.Nodup) : l.Pairwise (· < ·) := by
  have nl : l.Nodup := q.nodup_iff.mpr nd
  have p2 : l.Pairwise (fun a b => ((a : Nat) : Int) ≤ (b : Int)) := List.pairwise_map.mp p
  exact (p2.and nl).imp fun ⟨h1, h2⟩ => by omega
theorem MvOk.same {ws : List (List Nat)} {H H2 : Hp} {d : Addr} (s : Same H H2) (h : MvOk ws H d) : MvOk ws H2 d := by
  obtain ⟨ends, h1, h2⟩ := h
  exact ⟨ends, h1.same s, h2⟩
theorem tb_keys (es : List Nat) : (tb es).map (·.1) = (es.map fun (i : Nat) => (i : Int)).map Sum.inl := by
  unfold tb
  rw [List.map_map, List.map_map]
  rfl
def sp_led_to (K : PySem.W.Frag) : Sp := fun vs H Q _ => ∃ (d a : Addr) (c : Nat) (ws : List (List Nat)) (S : SetT), vs = [.ref d, .ref a, .str (mkS [c])] ∧ MvOk ws H d ∧ SqT K H a (nV (rowN ws S)) ∧ OkC ws ∧
  ∀ (p : Addr) (H2 : Hp), Same H H2 → SqT K H2 p (nV (rowN ws (ahF ws S c))) → Q (.ref p) H2
abbrev Ok_led_to (P : Program) (w : World) (K : PySem.W.Frag) (mg : Str → Option Value) (base : Heap) : Prop := Have P w K mg base CX0 "led_to" 1 ["moves", "states", "letter"] (sp_led_to K)
theorem ok_led_to {P : Program} {w : World} {K : PySem.W.Frag} {mg : Str → Option Value} {base : Heap} (T : Txt K mg) : Ok_led_to P w K mg base := by
  refine have_of T.d_led_to (fun _ _ _ _ _ _ us hl => match us, hl with | [_, _, _], _ => rfl) sc_led_to (fun vs H Q E h => ?_) fun f cdv A outer s H vs Q E hr h => ?_
  · obtain ⟨d, a, c, ws, S, rfl, _⟩ := h
    rfl
  have hu := hu_of hr
  have hu65 := hu65_of hr
  obtain ⟨d, a, c, ws, S, rfl, ⟨ends, mv, hm⟩, hS, ok, k⟩ := h
  have hk9 := stL_len ok
  refine ⟨_, (pss_cons (ps_set (i := 3) sc_led_to.nd rfl (Or.inl rfl) pe_dnewK)
 (pss_cons (ps_for PassesOwn.never rfl (pi_tupK (K := K) rfl (pv 1)) (pg_name (i := 4) sc_led_to.nd rfl (Or.inl rfl))
 (pss_one (ps_expr (pe_dupd (pv 3) (pe_dc (own := [("end", 5)]) (g := gName 5) rfl sc_led_to.nd (pi_listK (K := K) rfl (pe_dget2 hu (pv 0) (pe_tup (pa_cons (pv 4) (pa_cons (pv 2) pa_nil))) (pe_lst pa_nil) ⟨rfl, rfl, rfl, rfl⟩)) (blkOk_by (by kernel_rfl)) (fun _ _ _ _ _ => (pg_name (i := 5) sc_led_to.nd rfl (Or.inl rfl))) (fun _ _ _ _ _ => pts_nil) (fun _ _ _ _ _ => (pv 5)) (fun _ _ _ _ _ => pe_bl)) ⟨rfl, rfl, rfl, rfl⟩))))
 (pss_one (ps_ret (pe_callTy (r := rTupQ K) call_tupQ (by rfl) T.b_tuple (by decide +kernel) (pa_cons (pe_callB (call_sortedDI rfl) (by rfl) T.b_sorted (by decide +kernel) (pa_cons (pv 3) pa_nil)) pa_nil)))))), ?_⟩
  refine fun G hG => ?_
  have s1 : Same H (upd H G (.dK [])) := Same.new hG
  refine ⟨_, rfl, a, rfl, ⟨_, Same.sqt s1 hS⟩, ?_⟩
  refine for_tup (xs := nV (rowN ws S)) (fun i σ H2 => ∃ (x4 x5 : Option V) (es : List Nat), σ = [some (.ref d), some (.ref a), some (.str (mkS [c])), some (.ref G), x4, x5] ∧ Same H H2 ∧ H2 G = some (.dK (tb es)) ∧ es.Nodup ∧ ∀ e, e ∈ es ↔ ∃ n ∈ (rowN ws S).take i, e ∈ ends n c) ?_ ?_ ?_ ?_
  · exact ⟨_, _, [], rfl, s1, upd_same, List.nodup_nil, fun e => ⟨fun q => (nomatch q), fun ⟨n, q, _⟩ => by simp at q⟩⟩
  · rintro i σ H2 hi ⟨x4, x5, es, rfl, s2, h2, nd, hes⟩
    exact Same.sqt s2 hS
  · rintro i x σ H2 hx ⟨x4, x5, es, rfl, s2, h2, nd, hes⟩
    obtain ⟨n, hn, rfl⟩ : ∃ n, (rowN ws S)[i]? = some n ∧ x = .int (n : Nat) := by
      rw [List.getElem?_map] at hx
      obtain ⟨n, h1, h3⟩ := Option.map_eq_some_iff.mp hx
      exact ⟨n, h1, h3.symm⟩
    obtain ⟨kvs, hd2, hz, hmv⟩ := mv.same s2
    refine ⟨_, rfl, G, rfl, .inl ⟨_, .inl h2⟩, ?_⟩
    refine ⟨_, rfl, d, rfl, .inr ⟨_, .inl hd2⟩, _, rfl, _, rfl, by show 2 ≤ sizeLine; decide, fun t1 ht1 => ⟨Nat.zero_le _, fun l1 hl1 => ?_⟩⟩
    have st1 : Same H2 (upd (upd H2 t1 (.tup [.int (n : Nat), .str (mkS [c])])) l1 (.lst [])) := (Same.new ht1).then hl1
    refine ⟨_, DGet.t (st1 _ _ hd2) (k := mvK n c) (by rw [upd_ne (ne_of_none upd_same hl1)]; exact upd_same), ?_⟩
    have hl1s : (upd (upd H2 t1 (.tup [.int (n : Nat), .str (mkS [c])])) l1 (.lst [])) l1 = some (.lst []) := upd_same
    generalize upd (upd H2 t1 (.tup [.int (n : Nat), .str (mkS [c])])) l1 (.lst []) = H3 at st1 hl1s ⊢
    obtain ⟨E, eE, hE⟩ : ∃ E, (valV kvs (mvK n c)).getD (.ref l1) = .ref E ∧ H3 E = some (.lst (nV (ends n c))) := by
      rcases (hmv n c).2 with ⟨q1, q2⟩ | ⟨e, q1, q2⟩
      · exact ⟨l1, by rw [q1]; rfl, by rw [q2]; exact hl1s⟩
      · exact ⟨e, by rw [q1]; rfl, st1 _ _ q2⟩
    have h3 := st1 _ _ h2
    have hln := (hmv n c).1
    rw [eE]
    refine ⟨E, rfl, ⟨_, SqL.of hE⟩, fun D hD => ⟨fun j m H4 => j ≤ (nV (ends n c)).length ∧ m = (nV (ends n c)).length - j ∧ Same H3 H4 ∧ H4 D = some (.dK (tb (((ends n c).take j).foldl addN []))), ⟨_, Nat.zero_le _, rfl, Same.new hD, upd_same⟩, ?_⟩⟩
    rintro j m H4 ⟨hj, rfl, s4, hD4⟩
    have hE4 := SqL.of (K := K) (s4 _ _ hE)
    by_cases lt : j < (nV (ends n c)).length
    · refine .inr ⟨walk_list.goes j H4 lt hE4, _, fun H5 nx => ⟨(nV (ends n c)).length - (j + 1), by omega, nx⟩, fun x H5 y => ?_⟩
      obtain ⟨rfl, hx2⟩ := walk_list.yields j H4 x H5 lt hE4 y
      have hx2 : (nV (ends n c))[j]? = some x := hx2
      rw [List.getElem?_map] at hx2
      obtain ⟨e, he, rfl⟩ := Option.map_eq_some_iff.mp hx2
      refine ⟨rfl, _, rfl, tb (((ends n c).take j).foldl addN []), Sum.inl (e : Int), rfl, hD4, ?_, by omega, rfl, s4.mut hD, ?_⟩
      · have q1 := len_addAll ((ends n c).take j) []
        rw [List.length_take, show ([] : List Nat).length = 0 from rfl] at q1
        rw [List.length_map] at lt
        rw [List.length_map]
        exact smallLt (by omega)
      · rw [putK_tb, List.take_succ, he]
        rw [List.foldl_append]
        exact upd_same
    · have ej : j = (nV (ends n c)).length := by omega
      subst ej
      rw [List.length_map, List.take_length] at hD4
      have hG4 := s4 _ _ h3
      have esl : es.length ≤ 9 := Nat.le_trans (nodup_lt _ es nd fun e m => by
        obtain ⟨n2, m2, m3⟩ := (hes e).mp m
        have z := mem_rowN.mp (List.mem_of_mem_take m2)
        exact ((hm n2 c e z.1).mp m3).1) hk9
      refine .inl ⟨walk_list.stops H4 hE4, D, _, _, rfl, hG4, hD4, ne_of_none h3 hD, ?_, ?_⟩
      · have q1 := len_addAll (ends n c) []
        rw [List.length_map, List.length_map]
        exact small (by rw [show ([] : List Nat).length = 0 from rfl] at q1; omega)
      · refine ⟨_, _, ((ends n c).foldl addN []).foldl addN es, rfl, ((s2.trans st1).trans s4).mut hG, by rw [mergeK_tb]; exact upd_same, nd_addAll nd, fun e => ?_⟩
        rw [mem_addAll, addAll_0, hes e, List.take_succ, hn]
        constructor
        · rintro (⟨n2, m2, m3⟩ | m3)
          · exact ⟨n2, List.mem_append_left _ m2, m3⟩
          · exact ⟨n, List.mem_append_right _ (List.mem_singleton.mpr rfl), m3⟩
        · rintro ⟨n2, m2, m3⟩
          rcases List.mem_append.mp m2 with m2 | m2
          · exact .inl ⟨n2, m2, m3⟩
          · rw [List.mem_singleton.mp m2] at m3
            exact .inr m3
  · rintro σ H2 ⟨x4, x5, es, rfl, s2, h2, nd, hes⟩
    rw [List.length_map, List.take_length] at hes
    have hlt : ∀ e ∈ es, e < (stL ws).length := fun e m => by
      obtain ⟨n2, m2, m3⟩ := (hes e).mp m
      exact ((hm n2 c e (mem_rowN.mp m2).1).mp m3).1
    have esl : es.length ≤ 9 := Nat.le_trans (nodup_lt _ es nd hlt) hk9
    refine ⟨_, rfl, G, _, _, rfl, .inl h2, tb_keys es, by rw [List.length_map]; omega, fun ys p pm pw hp => ?_⟩
    obtain ⟨ms, rfl, pm2⟩ := perm_nat pm
    rw [← nV_int]
    refine ⟨p, _, rfl, .inl ⟨SqL.of upd_same, fun q hq => ?_⟩⟩
    have e1 : ms = rowN ws (ahF ws S c) := by
      refine asc_ext (asc_of pw pm2 nd) rowN_lt fun e => ?_
      rw [pm2.mem_iff, hes e, mem_rowN]
      constructor
      · rintro ⟨n2, m2, m3⟩
        have z := mem_rowN.mp m2
        have z2 := (hm n2 c e z.1).mp m3
        exact ⟨z2.1, ahF_hit (mem_stL.mp (sAt_mem z.1)) z.2 z2.2⟩
      · rintro ⟨h1, h3⟩
        obtain ⟨st, m1, m2⟩ := List.any_eq_true.mp h3
        rw [Bool.and_eq_true] at m2
        obtain ⟨n2, hn2, rfl⟩ := num_of m1
        exact ⟨n2, mem_rowN.mpr ⟨hn2, m2.1⟩, (hm n2 c e hn2).mpr ⟨h1, of_decide_eq_true m2.2⟩⟩
    rw [← e1] at k
    exact k q _ ((s2.trans (Same.new hp)).then hq) (SqT.of upd_same)
theorem any_bh {ws : List (List Nat)} {B : SetT} {n c : Nat} {l : List Nat} (hn : n < (stL ws).length) (hm : ∀ e, e ∈ l ↔ e < (stL ws).length ∧ sAt ws e ∈ nxS ws (sAt ws n) c) : (l.any fun e => decide (e ∈ rowN ws B)) = bhF ws c B (sAt ws n) := by
  unfold bhF
  have iff : (l.any fun e => decide (e ∈ rowN ws B)) = true ↔ ((nxS ws (sAt ws n) c).any B) = true := by
    rw [List.any_eq_true, List.any_eq_true]
    constructor
    · rintro ⟨e, h1, h2⟩
      exact ⟨_, ((hm e).mp h1).2, (mem_rowN.mp (of_decide_eq_true h2)).2⟩
    · rintro ⟨t, h1, h2⟩
      obtain ⟨e, he, rfl⟩ := num_of (mem_stL.mpr (nxS_ok (mem_stL.mp (sAt_mem hn)) h1))
      exact ⟨e, (hm e).mpr ⟨he, h1⟩, decide_eq_true (mem_rowN.mpr ⟨he, h2⟩)⟩
  exact Bool.eq_iff_iff.mpr iff
def sp_led_from (K : PySem.W.Frag) : Sp := fun vs H Q _ => ∃ (d a : Addr) (c : Nat) (ws : List (List Nat)) (B : SetT), vs = [.ref d, .int ((stL ws).length : Nat), .ref a, .str (mkS [c])] ∧ MvOk ws H d ∧ SqT K H a (nV (rowN ws B)) ∧ OkC ws ∧
  ∀ (p : Addr) (H2 : Hp), Same H H2 → SqT K H2 p (nV (rowN ws (bhF ws c B))) → Q (.ref p) H2
abbrev Ok_led_from (P : Program) (w : World) (K : PySem.W.Frag) (mg : Str → Option Value) (base : Heap) : Prop := Have P w K mg base CX0 "led_from" 1 ["moves", "many", "states", "letter"] (sp_led_from K)
theorem ok_led_from {P : Program} {w : World} {K : PySem.W.Frag} {mg : Str → Option Value} {base : Heap} (T : Txt K mg) : Ok_led_from P w K mg base := by
  refine have_of T.d_led_from (fun _ _ _ _ _ _ us hl => match us, hl with | [_, _, _, _], _ => rfl) sc_led_from (fun vs H Q E h => ?_) fun f cdv A outer s H vs Q E hr h => ?_
  · obtain ⟨d, a, c, ws, B, rfl, _⟩ := h
    rfl
  have hu := hu_of hr
  have hu65 := hu65_of hr
  obtain ⟨d, a, c, ws, B, rfl, ⟨ends, mv, hm⟩, hB, ok, k⟩ := h
  have hk9 := stL_len ok
  refine ⟨_, (pss_cons (ps_set (i := 4) sc_led_from.nd rfl (Or.inl rfl) (pe_lst pa_nil))
 (pss_cons (ps_for PassesOwn.never rfl (pi_range1 (by rfl) T.b_range (pa_cons (pv 1) pa_nil)) (pg_name (i := 5) sc_led_from.nd rfl (Or.inl rfl))
 (pss_one (ps_if (pt_val (pe_callB (r := rAny K) (cr_any rfl) (by rfl) T.b_any (by decide +kernel) (pa_cons (pe_lc (own := [("end", 6)]) (g := gName 6) rfl sc_led_from.nd (pi_listK (K := K) rfl (pe_dget2 hu (pv 0) (pe_tup (pa_cons (pv 5) (pa_cons (pv 3) pa_nil))) (pe_lst pa_nil) ⟨rfl, rfl, rfl, rfl⟩)) (blkOk_by (by kernel_rfl)) (fun _ _ _ _ _ => (pg_name (i := 6) sc_led_from.nd rfl (Or.inl rfl))) (fun _ _ _ _ _ => pts_nil) (fun _ _ _ _ _ => (pe_cmpR (r := rIn K false) op_in_seq (pv 6) (pv 2) (by rfl)))) pa_nil))) (pss_one (ps_expr (pe_bm PySem.F.plainAttrs_list PySem.F.slot_list_append PySem.F.type_list_append mt_append (pv 4) (pa_cons (pv 5) pa_nil)))) pss_nil)))
 (pss_one (ps_ret (pe_callTy (r := rTupQ K) call_tupQ (by rfl) T.b_tuple (by decide +kernel) (pa_cons (pv 4) pa_nil)))))), ?_⟩
  refine ⟨Nat.zero_le _, fun G hG => ?_⟩
  have s1 : Same H (upd H G (.lst [])) := Same.new hG
  refine ⟨_, rfl, _, rfl, by omega, by omega, ?_⟩
  have en : (((stL ws).length : Nat) : Int).toNat = (stL ws).length := by omega
  refine for_range (lo := 0) (n := (((stL ws).length : Nat) : Int).toNat) (fun i σ H2 => ∃ (x5 x6 : Option V), σ = [some (.ref d), some (.int ((stL ws).length : Nat)), some (.ref a), some (.str (mkS [c])), some (.ref G), x5, x6] ∧ Same H H2 ∧ H2 G = some (.lst (nV ((List.range i).filter fun n => bhF ws c B (sAt ws n))))) ?_ ?_ ?_
  · exact ⟨_, _, rfl, s1, upd_same⟩
  · rintro n σ H2 hi ⟨x5, x6, rfl, s2, h2⟩
    rw [en] at hi
    obtain ⟨kvs, hd2, hz, hmv⟩ := mv.same s2
    have hB2 := Same.sqt s2 hB
    have e0 : (0 : Int) + (n : Int) = (n : Int) := by omega
    rw [e0]
    refine ⟨_, rfl, d, rfl, .inr ⟨_, .inl hd2⟩, _, rfl, _, rfl, by show 2 ≤ sizeLine; decide, fun t1 ht1 => ⟨Nat.zero_le _, fun l1 hl1 => ?_⟩⟩
    have st1 : Same H2 (upd (upd H2 t1 (.tup [.int (n : Nat), .str (mkS [c])])) l1 (.lst [])) := (Same.new ht1).then hl1
    refine ⟨_, DGet.t (st1 _ _ hd2) (k := mvK n c) (by rw [upd_ne (ne_of_none upd_same hl1)]; exact upd_same), ?_⟩
    have hl1s : (upd (upd H2 t1 (.tup [.int (n : Nat), .str (mkS [c])])) l1 (.lst [])) l1 = some (.lst []) := upd_same
    generalize upd (upd H2 t1 (.tup [.int (n : Nat), .str (mkS [c])])) l1 (.lst []) = H3 at st1 hl1s ⊢
    obtain ⟨E, eE, hE⟩ : ∃ E, (valV kvs (mvK n c)).getD (.ref l1) = .ref E ∧ H3 E = some (.lst (nV (ends n c))) := by
      rcases (hmv n c).2 with ⟨q1, q2⟩ | ⟨e, q1, q2⟩
      · exact ⟨l1, by rw [q1]; rfl, by rw [q2]; exact hl1s⟩
      · exact ⟨e, by rw [q1]; rfl, st1 _ _ q2⟩
    have h3 := st1 _ _ h2
    have hln := (hmv n c).1
    rw [eE]
    have hB3 := Same.sqt st1 hB2
    have hE3 := SqL.of (K := K) hE
    refine ⟨E, rfl, ⟨_, hE3⟩, fun D hD => lc_map (walk_list (a := E) (xs := nV (ends n c))) (by rw [List.length_map]; omega) hD gm_name (fun i acc _ => acc = (((ends n c).take i).map fun e => decide (e ∈ rowN ws B)).map V.bl) (fun _ _ _ _ _ r => r) rfl (fun H4 s4 => s4.seq hE3) ?_ ?_⟩
    · rintro i x H4 H5 acc hi s4 rfl _ ⟨rfl, hx⟩ Ny ky
      have hx : (nV (ends n c))[i]? = some x := hx
      rw [List.getElem?_map] at hx
      obtain ⟨e, he, rfl⟩ := Option.map_eq_some_iff.mp hx
      refine ⟨rfl, _, rfl, _, rfl, a, _, rfl, .inr (Same.sqt s4 hB3), rfl, flat_nV _, ?_⟩
      rw [if_neg Bool.false_ne_true, inV_nat]
      refine ky _ _ (Same.refl _) ?_
      rw [List.take_succ, he, List.map_append, List.map_append]
      rfl
    · rintro acc H4 s4 rfl hdd _
      rw [List.length_map, List.take_length] at hdd
      have ea : (((ends n c).map fun e => decide (e ∈ rowN ws B)).any id) = bhF ws c B (sAt ws n) := by
        rw [List.any_map, ← any_bh hi (hm n c · hi)]
        rfl
      refine ⟨D, _, rfl, SqL.of hdd, _, rfl, ?_⟩
      rw [ea]
      have h4 := s4 _ _ h3
      have row : (List.range (n + 1)).filter (fun n => bhF ws c B (sAt ws n)) = (List.range n).filter (fun n => bhF ws c B (sAt ws n)) ++ if bhF ws c B (sAt ws n) = true then [n] else [] := by
        rw [List.range_succ, List.filter_append]
        congr 1
        show (match bhF ws c B (sAt ws n) with | true => [n] | false => []) = _
        cases bhF ws c B (sAt ws n) <;> rfl
      rw [row]
      refine bool2 (fun q => ?_) fun q => ?_
      · rw [if_pos q]
        have lf := List.length_filter_le (fun n => bhF ws c B (sAt ws n)) (List.range n)
        rw [List.length_range] at lf
        refine ⟨_, rfl, .inl ⟨rfl, _, SqL.of h4⟩, _, rfl, G, _, _, rfl, rfl, h4, smallLt (by rw [List.length_map]; omega), ?_⟩
        refine ⟨_, _, rfl, ((s2.trans st1).trans s4).mut hG, ?_⟩
        unfold nV
        rw [List.map_append]
        exact upd_same
      · rw [q, if_neg Bool.false_ne_true, List.append_nil]
        exact ⟨_, _, rfl, (s2.trans st1).trans s4, h4⟩
  · rintro σ H2 ⟨x5, x6, rfl, s2, h2⟩
    rw [en] at h2
    refine ⟨_, rfl, G, _, rfl, .inl ⟨SqL.of h2, fun q hq => ?_⟩⟩
    exact k q _ (s2.then hq) (SqT.of upd_same)
end K76
namespace K76
open PySem PySem.Spec PyProof.Rows L2
/-! ### sets_ahead, sets_behind, runs_sets -/
theorem ints_noL (l : List Nat) : noL (intsD l) = true := noLs_map _ (fun _ => rfl) l
theorem rows_noL (r : List (List Nat)) : noLs (r.map intsD) = true := noLs_map _ ints_noL r
def rowsA (ws : List (List Nat)) (l : List Nat) (n : Nat) : List (List Nat) := (List.range n).map fun p => rowN ws (ahS ws (l.take p))
def rowsB (ws : List (List Nat)) (l : List Nat) (n : Nat) : List (List Nat) := (List.range n).map fun p => rowN ws (bhS ws (l.drop (l.length - p)))
theorem row_all (ws : List (List Nat)) : rowN ws (fun _ => true) = List.range (stL ws).length := by
  unfold rowN
  rw [List.filter_eq_self]
  intros
  rfl
theorem rgV_nat (n : Nat) : rgV 0 (n : Int) = nV (List.range n) := by
  unfold rgV nV
  have e : ((n : Int) - 0).toNat = n := by omega
  rw [e]
  refine List.map_congr_left fun i _ => ?_
  rw [Int.zero_add]
theorem rgOk_nat {n : Nat} (h : n ≤ 1000) : RgOk 0 (n : Int) := RgOk.of_le (by omega) (by omega) (by omega) (by omega)
theorem MvOk.sx {ws : List (List Nat)} {H H2 : Hp} {d R : Addr} (h : MvOk ws H d) (hR : H R = none) (s : SameX R H H2) : MvOk ws H2 d := by
  obtain ⟨ends, ⟨kvs, h1, h2, h3⟩, h4⟩ := h
  refine ⟨ends, ⟨kvs, s _ _ (ne_of_none h1 hR) h1, h2, fun n c => ⟨(h3 n c).1, ?_⟩⟩, h4⟩
  rcases (h3 n c).2 with q | ⟨e, q1, q2⟩
  · exact .inl q
  · exact .inr ⟨e, q1, s _ _ (ne_of_none q2 hR) q2⟩
theorem SameX.sqt {K : PySem.W.Frag} {H H2 : Hp} {R a : Addr} {xs : List V} (s : SameX R H H2) (hR : H R = none) (h : SqT K H a xs) : SqT K H2 a xs := by
  rcases h with (q | ⟨o, q⟩) | q
  · exact .inl (.inl (s _ _ (ne_of_none q hR) q))
  · exact .inl (.inr ⟨o, s _ _ (ne_of_none q hR) q⟩)
  · exact .inr q
theorem SameX.back {H H2 : Hp} {R : Addr} (s : SameX R H H2) (hR : H R = none) : Same H H2 := fun b o e => s b o (ne_of_none e hR) e
theorem rowsA_succ (ws : List (List Nat)) (l : List Nat) (n : Nat) : rowsA ws l (n + 1) = rowsA ws l n ++ [rowN ws (ahS ws (l.take n))] := by
  unfold rowsA
  rw [List.range_succ, List.map_append]
  rfl
theorem rowsB_succ (ws : List (List Nat)) (l : List Nat) (n : Nat) : rowsB ws l (n + 1) = rowsB ws l n ++ [rowN ws (bhS ws (l.drop (l.length - n)))] := by
  unfold rowsB
  rw [List.range_succ, List.map_append]
  rfl
theorem rowsA_len (ws : List (List Nat)) (l : List Nat) (n : Nat) : (rowsA ws l n).length = n := by unfold rowsA; rw [List.length_map, List.length_range]
theorem rowsB_len (ws : List (List Nat)) (l : List Nat) (n : Nat) : (rowsB ws l n).length = n := by unfold rowsB; rw [List.length_map, List.length_range]
theorem rowsA_get {ws : List (List Nat)} {l : List Nat} {n i : Nat} (h : i < n) : ((rowsA ws l n).map intsD)[i]? = some (intsD (rowN ws (ahS ws (l.take i)))) := by
  unfold rowsA
  rw [List.getElem?_map, List.getElem?_map, List.getElem?_range h]
  rfl
theorem rowsB_get {ws : List (List Nat)} {l : List Nat} {n i : Nat} (h : i < n) : ((rowsB ws l n).map intsD)[i]? = some (intsD (rowN ws (bhS ws (l.drop (l.length - i))))) := by
  unfold rowsB
  rw [List.getElem?_map, List.getElem?_map, List.getElem?_range h]
  rfl
def sp_sets_ahead (K : PySem.W.Frag) : Sp := fun vs H Q _ => ∃ (a : Addr) (ws : List (List Nat)) (l : List Nat), vs = [.ref a, .str (mkS l)] ∧ SqT K H a (wV ws) ∧ OkC ws ∧ l.length ≤ 1000 ∧
  ∀ (p : Addr) (xs : List V) (H2 : Hp), H p = none → Same H H2 → H2 p = some (.lst xs) → DpAll K H2 xs ((rowsA ws l (l.length + 1)).map intsD) → Q (.ref p) H2
abbrev Ok_sets_ahead (P : Program) (w : World) (K : PySem.W.Frag) (mg : Str → Option Value) (base : Heap) : Prop := Have P w K mg base CX0 "sets_ahead" 3 ["code", "string"] (sp_sets_ahead K)
theorem ok_sets_ahead {P : Program} {w : World} {K : PySem.W.Frag} {mg : Str → Option Value} {base : Heap} (T : Txt K mg) (h_moves_of : Ok_moves_of P w K mg base) (h_listed_states : Ok_listed_states P w K mg base) (h_led_to : Ok_led_to P w K mg base) : Ok_sets_ahead P w K mg base := by
  obtain ⟨f_moves_of, fd_moves_of, g_moves_of, kp_moves_of, b_moves_of, G_moves_of⟩ := h_moves_of
  obtain ⟨f_listed_states, fd_listed_states, g_listed_states, kp_listed_states, b_listed_states, G_listed_states⟩ := h_listed_states
  obtain ⟨f_led_to, fd_led_to, g_led_to, kp_led_to, b_led_to, G_led_to⟩ := h_led_to
  refine have_of T.d_sets_ahead (fun _ _ _ _ _ _ us hl => match us, hl with | [_, _], _ => rfl) sc_sets_ahead (fun vs H Q E h => ?_) fun f cdv A outer s H vs Q E hr h => ?_
  · obtain ⟨a, ws, l, rfl, _⟩ := h
    rfl
  have hu := hu_of hr
  have hu65 := hu65_of hr
  obtain ⟨a, ws, l, rfl, hS, ok, hl, k⟩ := h
  have hk9 := stL_len ok
  refine ⟨_, (pss_cons (ps_set (i := 2) sc_sets_ahead.nd rfl (Or.inl rfl) (pe_call G_moves_of (hr.mono (by decide)) (by rfl) g_moves_of kp_moves_of b_moves_of .nil pass0 (pa_cons (pv 0) pa_nil)))
 (pss_cons (ps_set (i := 3) sc_sets_ahead.nd rfl (Or.inl rfl) (pe_lst (pa_cons (pe_tupRg rfl (by rfl) T.b_tuple (prg_1 (by rfl) T.b_range (pe_callB (r := rLenQ K) call_lenQ (by rfl) T.b_len (by decide +kernel) (pa_cons (pe_call G_listed_states (hr.mono (by decide)) (by rfl) g_listed_states kp_listed_states b_listed_states .nil pass0 (pa_cons (pv 0) pa_nil)) pa_nil)))) pa_nil)))
 (pss_cons (ps_for PassesOwn.never rfl (pi_str (pv 1)) (pg_name (i := 4) sc_sets_ahead.nd rfl (Or.inl rfl))
 (pss_one (ps_expr (pe_bm PySem.F.plainAttrs_list PySem.F.slot_list_append PySem.F.type_list_append mt_append (pv 3) (pa_cons (pe_call G_led_to (hr.mono (by decide)) (by rfl) g_led_to kp_led_to b_led_to .nil pass0 (pa_cons (pv 2) (pa_cons (pe_ix (r := rIxL K) ix_list (pv 3) (pe_un un_neg pe_int) (fun _ _ => rfl)) (pa_cons (pv 4) pa_nil)))) pa_nil)))))
 (pss_one (ps_ret (pv 3)))))), ?_⟩
  refine ⟨_, rfl, a, ws, rfl, hS, ok, fun d H1 s1 mv => ?_⟩
  have hS1 := Same.sqt s1 hS
  refine ⟨_, rfl, a, ws, rfl, hS1, ok, fun p0 ks H2 s2 _ hp0 hks kH => ?_⟩
  have hkl : (kvs ks).length = (stL ws).length := by rw [← hks, List.length_map, List.length_map]
  refine ⟨p0, _, rfl, .inl (SqL.of hp0), ?_⟩
  rw [hkl]
  refine ⟨_, rfl, rgOk_nat (by omega), fun q hq => ⟨by show 1 ≤ sizeLine; decide, fun R hR => ?_⟩⟩
  rw [rgV_nat] at hR ⊢
  have s3 : Same H2 (upd H2 q (.tup (nV (List.range (stL ws).length)))) := Same.new hq
  have mv3 := (mv.same s2).same s3
  have hq3 : (upd H2 q (.tup (nV (List.range (stL ws).length)))) q = some (.tup (nV (List.range (stL ws).length))) := upd_same
  have s03 := (s1.trans s2).trans s3
  generalize upd H2 q (.tup (nV (List.range (stL ws).length))) = H3 at mv3 hR hq3 s03 ⊢
  refine ⟨_, rfl, _, rfl, ?_⟩
  refine for_it (walk_str (z := mkS l)) (fun i σ H4 => ∃ (x4 : Option V) (xs : List V), σ = [some (.ref a), some (.str (mkS l)), some (.ref d), some (.ref R), x4] ∧ SameX R H3 H4 ∧ H4 R = some (.lst xs) ∧ DpAll K H4 xs ((rowsA ws l (i + 1)).map intsD)) ?_ (fun _ _ _ _ _ => True.intro) ?_ ?_
  · refine ⟨_, _, rfl, Same.x (Same.new hR), upd_same, ?_⟩
    refine .cons ?_ .nil
    show Dp K _ (.ref q) (intsD (rowN ws (fun _ => true)))
    rw [row_all]
    exact intsD_of (SqT.of ((Same.new hR) _ _ hq3))
  · rintro i x σ H4 H5 hi ⟨x4, xs, rfl, sx, h4, hx⟩ ⟨rfl, c, hc, rfl⟩
    have hi : i < l.length := hi
    have hc : l[i]? = some c := by
      rw [← Array.getElem?_toList] at hc
      exact hc
    have xl : xs.length = i + 1 := by rw [hx.length, List.length_map, rowsA_len]
    obtain ⟨v, hv, hvd⟩ := hx.get (rowsA_get (ws := ws) (l := l) (Nat.lt_succ_self i))
    obtain ⟨t, rfl, ht⟩ := intsD_inv hvd
    have hlast : xs[xs.length - 1]? = some (.ref t) := by rw [xl, Nat.add_sub_cancel]; exact hv
    refine ⟨_, rfl, .inl ⟨rfl, _, SqL.of h4⟩, _, rfl, _, rfl, 1, rfl, R, xs, _, _, rfl, rfl, SqL.of h4, atI_last' hlast, _, rfl, ?_⟩
    refine ⟨d, t, c, ws, ahS ws (l.take i), rfl, mv3.sx hR sx, ht, ok, fun p H6 s6 h6 => ?_⟩
    refine ⟨R, xs, _, rfl, rfl, s6 _ _ h4, smallLt (by omega), ?_⟩
    refine ⟨_, _, rfl, (sx.trans (Same.x s6)).upd _, upd_same, ?_⟩
    have tsu : TupS H6 (upd H6 R (.lst (xs ++ [.ref p]))) := TupS.lst (s6 _ _ h4)
    rw [rowsA_succ, List.map_append]
    refine DpAll.append (DpAll.ts tsu (rows_noL _) (hx.same s6)) (.cons ?_ .nil)
    rw [List.take_succ, hc]
    show Dp K _ (.ref p) (intsD (rowN ws (ahS ws (l.take i ++ [c]))))
    rw [ahS_snoc]
    exact intsD_of (TupS.sqt tsu h6)
  · rintro σ H4 ⟨x4, xs, rfl, sx, h4, hx⟩
    exact ⟨_, rfl, k R xs H4 (s03.free hR) (s03.trans (sx.back hR)) h4 hx⟩
def sp_sets_behind (K : PySem.W.Frag) : Sp := fun vs H Q _ => ∃ (a : Addr) (ws : List (List Nat)) (l : List Nat), vs = [.ref a, .str (mkS l)] ∧ SqT K H a (wV ws) ∧ OkC ws ∧ l.length ≤ 1000 ∧
  ∀ (p : Addr) (xs : List V) (H2 : Hp), H p = none → Same H H2 → H2 p = some (.lst xs.reverse) → DpAll K H2 xs ((rowsB ws l (l.length + 1)).map intsD) → Q (.ref p) H2
abbrev Ok_sets_behind (P : Program) (w : World) (K : PySem.W.Frag) (mg : Str → Option Value) (base : Heap) : Prop := Have P w K mg base CX0 "sets_behind" 3 ["code", "string"] (sp_sets_behind K)
theorem ok_sets_behind {P : Program} {w : World} {K : PySem.W.Frag} {mg : Str → Option Value} {base : Heap} (T : Txt K mg) (h_moves_of : Ok_moves_of P w K mg base) (h_listed_states : Ok_listed_states P w K mg base) (h_led_from : Ok_led_from P w K mg base) : Ok_sets_behind P w K mg base := by
  obtain ⟨f_moves_of, fd_moves_of, g_moves_of, kp_moves_of, b_moves_of, G_moves_of⟩ := h_moves_of
  obtain ⟨f_listed_states, fd_listed_states, g_listed_states, kp_listed_states, b_listed_states, G_listed_states⟩ := h_listed_states
  obtain ⟨f_led_from, fd_led_from, g_led_from, kp_led_from, b_led_from, G_led_from⟩ := h_led_from
  refine have_of T.d_sets_behind (fun _ _ _ _ _ _ us hl => match us, hl with | [_, _], _ => rfl) sc_sets_behind (fun vs H Q E h => ?_) fun f cdv A outer s H vs Q E hr h => ?_
  · obtain ⟨a, ws, l, rfl, _⟩ := h
    rfl
  have hu := hu_of hr
  have hu65 := hu65_of hr
  obtain ⟨a, ws, l, rfl, hS, ok, hl, k⟩ := h
  have hk9 := stL_len ok
  refine ⟨_, (pss_cons (ps_set (i := 2) sc_sets_behind.nd rfl (Or.inl rfl) (pe_call G_moves_of (hr.mono (by decide)) (by rfl) g_moves_of kp_moves_of b_moves_of .nil pass0 (pa_cons (pv 0) pa_nil)))
 (pss_cons (ps_set (i := 3) sc_sets_behind.nd rfl (Or.inl rfl) (pe_callB (r := rLenQ K) call_lenQ (by rfl) T.b_len (by decide +kernel) (pa_cons (pe_call G_listed_states (hr.mono (by decide)) (by rfl) g_listed_states kp_listed_states b_listed_states .nil pass0 (pa_cons (pv 0) pa_nil)) pa_nil)))
 (pss_cons (ps_set (i := 4) sc_sets_behind.nd rfl (Or.inl rfl) (pe_lst (pa_cons (pe_tupRg rfl (by rfl) T.b_tuple (prg_1 (by rfl) T.b_range (pv 3))) pa_nil)))
 (pss_cons (ps_for PassesOwn.never rfl (pi_str (pe_revS (pv 1))) (pg_name (i := 5) sc_sets_behind.nd rfl (Or.inl rfl))
 (pss_one (ps_expr (pe_bm PySem.F.plainAttrs_list PySem.F.slot_list_append PySem.F.type_list_append mt_append (pv 4) (pa_cons (pe_call G_led_from (hr.mono (by decide)) (by rfl) g_led_from kp_led_from b_led_from .nil pass0 (pa_cons (pv 2) (pa_cons (pv 3) (pa_cons (pe_ix (r := rIxL K) ix_list (pv 4) (pe_un un_neg pe_int) (fun _ _ => rfl)) (pa_cons (pv 5) pa_nil))))) pa_nil)))))
 (pss_one (ps_ret (pe_revL (pv 4)))))))), ?_⟩
  refine ⟨_, rfl, a, ws, rfl, hS, ok, fun d H1 s1 mv => ?_⟩
  have hS1 := Same.sqt s1 hS
  refine ⟨_, rfl, a, ws, rfl, hS1, ok, fun p0 ks H2 s2 _ hp0 hks kH => ?_⟩
  have hkl : (kvs ks).length = (stL ws).length := by rw [← hks, List.length_map, List.length_map]
  refine ⟨p0, _, rfl, .inl (SqL.of hp0), ?_⟩
  rw [hkl]
  refine ⟨_, rfl, _, rfl, rgOk_nat (by omega), fun q hq => ⟨by show 1 ≤ sizeLine; decide, fun R hR => ?_⟩⟩
  rw [rgV_nat] at hR ⊢
  have s3 : Same H2 (upd H2 q (.tup (nV (List.range (stL ws).length)))) := Same.new hq
  have mv3 := (mv.same s2).same s3
  have hq3 : (upd H2 q (.tup (nV (List.range (stL ws).length)))) q = some (.tup (nV (List.range (stL ws).length))) := upd_same
  have s03 := (s1.trans s2).trans s3
  generalize upd H2 q (.tup (nV (List.range (stL ws).length))) = H3 at mv3 hR hq3 s03 ⊢
  refine ⟨_, rfl, _, rfl, by rw [mkS_len]; exact small (by omega), ?_⟩
  refine ⟨_, rfl, ?_⟩
  have er : revS (mkS l) = mkS l.reverse := rfl
  rw [er]
  refine for_it (walk_str (z := mkS l.reverse)) (fun i σ H4 => ∃ (x5 : Option V) (xs : List V), σ = [some (.ref a), some (.str (mkS l)), some (.ref d), some (.int ((stL ws).length : Nat)), some (.ref R), x5] ∧ SameX R H3 H4 ∧ H4 R = some (.lst xs) ∧ DpAll K H4 xs ((rowsB ws l (i + 1)).map intsD)) ?_ (fun _ _ _ _ _ => True.intro) ?_ ?_
  · refine ⟨_, _, rfl, Same.x (Same.new hR), upd_same, ?_⟩
    refine .cons ?_ .nil
    show Dp K _ (.ref q) (intsD (rowN ws (bhS ws (l.drop (l.length - 0)))))
    rw [Nat.sub_zero, List.drop_length]
    show Dp K _ (.ref q) (intsD (rowN ws (fun _ => true)))
    rw [row_all]
    exact intsD_of (SqT.of ((Same.new hR) _ _ hq3))
  · rintro i x σ H4 H5 hi ⟨x5, xs, rfl, sx, h4, hx⟩ ⟨rfl, c, hc, rfl⟩
    have hi : i < l.reverse.length := hi
    rw [List.length_reverse] at hi
    have hc : l.reverse[i]? = some c := by
      rw [← Array.getElem?_toList] at hc
      exact hc
    rw [List.getElem?_reverse hi] at hc
    have xl : xs.length = i + 1 := by rw [hx.length, List.length_map, rowsB_len]
    obtain ⟨v, hv, hvd⟩ := hx.get (rowsB_get (ws := ws) (l := l) (Nat.lt_succ_self i))
    obtain ⟨t, rfl, ht⟩ := intsD_inv hvd
    have hlast : xs[xs.length - 1]? = some (.ref t) := by rw [xl, Nat.add_sub_cancel]; exact hv
    refine ⟨_, rfl, .inl ⟨rfl, _, SqL.of h4⟩, _, rfl, _, rfl, _, rfl, 1, rfl, R, xs, _, _, rfl, rfl, SqL.of h4, atI_last' hlast, _, rfl, ?_⟩
    refine ⟨d, t, c, ws, bhS ws (l.drop (l.length - i)), rfl, mv3.sx hR sx, ht, ok, fun p H6 s6 h6 => ?_⟩
    refine ⟨R, xs, _, rfl, rfl, s6 _ _ h4, smallLt (by omega), ?_⟩
    refine ⟨_, _, rfl, (sx.trans (Same.x s6)).upd _, upd_same, ?_⟩
    have tsu : TupS H6 (upd H6 R (.lst (xs ++ [.ref p]))) := TupS.lst (s6 _ _ h4)
    rw [rowsB_succ, List.map_append]
    refine DpAll.append (DpAll.ts tsu (rows_noL _) (hx.same s6)) (.cons ?_ .nil)
    have ed : l.drop (l.length - (i + 1)) = c :: l.drop (l.length - i) := by
      have lt : l.length - (i + 1) < l.length := by omega
      have e1 : l.length - 1 - i = l.length - (i + 1) := by omega
      rw [e1] at hc
      rw [List.drop_eq_getElem_cons lt]
      rw [List.getElem?_eq_getElem lt] at hc
      rw [Option.some.inj hc]
      congr 2
      omega
    rw [ed]
    show Dp K _ (.ref p) (intsD (rowN ws (bhF ws c (bhS ws (l.drop (l.length - i))))))
    exact intsD_of (TupS.sqt tsu h6)
  · rintro σ H4 ⟨x5, xs, rfl, sx, h4, hx⟩
    have el : (mkS l.reverse).cps.size = l.length := by
      show l.reverse.toArray.size = _
      rw [List.size_toArray, List.length_reverse]
    rw [el] at hx
    refine ⟨_, rfl, R, _, rfl, SqL.of h4, fun q2 hq2 => ?_⟩
    exact k q2 xs _ ((s03.trans (sx.back hR)).free hq2) ((s03.trans (sx.back hR)).then hq2) upd_same (hx.same (Same.new hq2))
end K76
namespace K76
open PySem PySem.Spec PyProof.Rows L2
/-! ### data that may be compared; what == of them says -/
def Sh (n : Nat) (d : PyData) : Prop := d.canLay0 = true ∧ d.depth ≤ n
theorem Sh.shaped {n : Nat} {d : PyData} (h : Sh n d) (hn : n ≤ 64) : SeqAt.shaped d = true := by
  unfold SeqAt.shaped
  rw [h.1, Bool.true_and]
  exact decide_eq_true (Nat.le_trans h.2 hn)
theorem Sh.mono {n m : Nat} {d : PyData} (h : Sh n d) (hn : n ≤ m) : Sh m d := ⟨h.1, Nat.le_trans h.2 hn⟩
theorem sh_all {n : Nat} : ∀ {ds : List PyData}, (∀ d ∈ ds, Sh n d) → PyData.canLayAll0 ds = true ∧ PyData.depthAll ds ≤ n
  | [], _ => ⟨rfl, Nat.zero_le _⟩
  | d :: r, h => by
    have h1 := h d List.mem_cons_self
    have h2 := sh_all fun e m => h e (List.mem_cons_of_mem _ m)
    refine ⟨?_, ?_⟩
    · rw [PyData.canLayAll0, h1.1, h2.1]
      rfl
    · rw [PyData.depthAll]
      exact Nat.max_le.mpr ⟨h1.2, h2.2⟩
theorem Sh.tup {n : Nat} {ds : List PyData} (h : ∀ d ∈ ds, Sh n d) : Sh (n + 1) (.tuple ds) := by
  have q := sh_all h
  refine ⟨?_, ?_⟩
  · rw [PyData.canLay0]; exact q.1
  · rw [PyData.depth]; exact Nat.succ_le_succ q.2
theorem Sh.lst {n : Nat} {ds : List PyData} (h : ∀ d ∈ ds, Sh n d) : Sh (n + 1) (.list ds) := by
  have q := sh_all h
  refine ⟨?_, ?_⟩
  · rw [PyData.canLay0]; exact q.1
  · rw [PyData.depth]; exact Nat.succ_le_succ q.2
theorem Sh.int (n : Nat) (i : Int) : Sh n (.int i) := ⟨by rw [PyData.canLay0], by rw [PyData.depth]; exact Nat.zero_le _⟩
theorem Sh.non (n : Nat) : Sh n .none := ⟨by rw [PyData.canLay0], by rw [PyData.depth]; exact Nat.zero_le _⟩
theorem sh_ints (l : List Nat) : Sh 1 (intsD l) := Sh.tup fun d m => by
  obtain ⟨i, _, rfl⟩ := List.mem_map.mp m
  exact Sh.int 0 _
theorem sh_rows (r : List (List Nat)) : Sh 2 (rowsD r) := Sh.tup fun d m => by
  obtain ⟨i, _, rfl⟩ := List.mem_map.mp m
  exact sh_ints i
theorem sh_st : ∀ s : Sta, Sh 1 (stD s)
  | none => Sh.non 1
  | some (i, k) => Sh.tup fun d m => by
    rcases List.mem_cons.mp m with rfl | m
    · exact Sh.int 0 _
    · rw [List.mem_singleton.mp m]
      exact Sh.int 0 _
theorem sh_sts (l : List Sta) : Sh 2 (.list (l.map stD)) := Sh.lst fun d m => by
  obtain ⟨i, _, rfl⟩ := List.mem_map.mp m
  exact sh_st i
theorem eqvAll_map {α : Type} [DecidableEq α] {f : α → PyData} (h : ∀ x y, PyData.eqv (f x) (f y) = decide (x = y)) : ∀ xs ys : List α, PyData.eqvAll (xs.map f) (ys.map f) = decide (xs = ys)
  | [], [] => rfl
  | [], _ :: _ => by rw [decide_eq_false (by simp)]; rfl
  | _ :: _, [] => by rw [decide_eq_false (by simp)]; rfl
  | x :: xs, y :: ys => by
    rw [List.map_cons, List.map_cons, PyData.eqvAll, h, eqvAll_map h xs ys]
    by_cases e : x = y
    · subst e
      by_cases e2 : xs = ys
      · subst e2; simp
      · rw [decide_eq_false e2, decide_eq_false (show ¬ (x :: xs = x :: ys) from fun z => e2 (List.cons.inj z).2), Bool.and_false]
    · rw [decide_eq_false e, decide_eq_false (show ¬ (x :: xs = y :: ys) from fun z => e (List.cons.inj z).1), Bool.false_and]
theorem eqv_int (i j : Nat) : PyData.eqv (.int (i : Nat)) (.int (j : Nat)) = decide (i = j) := by
  rw [PyData.eqv]
  by_cases e : i = j
  · subst e; simp
  · rw [decide_eq_false e, beq_eq_false_iff_ne]
    omega
theorem eqv_ints (a b : List Nat) : PyData.eqv (intsD a) (intsD b) = decide (a = b) := by
  unfold intsD
  rw [PyData.eqv]
  exact eqvAll_map eqv_int a b
theorem eqv_rows (a b : List (List Nat)) : PyData.eqv (rowsD a) (rowsD b) = decide (a = b) := by
  unfold rowsD
  rw [PyData.eqv]
  exact eqvAll_map eqv_ints a b
theorem eqv_st : ∀ s t : Sta, PyData.eqv (stD s) (stD t) = decide (s = t)
  | none, none => rfl
  | none, some (i, k) => rfl
  | some (i, k), none => rfl
  | some (i, k), some (j, m) => by
    show PyData.eqv (.tuple [.int i, .int k]) (.tuple [.int j, .int m]) = _
    rw [PyData.eqv, PyData.eqvAll, PyData.eqvAll, PyData.eqvAll, eqv_int, eqv_int, Bool.and_true]
    by_cases e : i = j
    · subst e
      by_cases e2 : k = m
      · subst e2; simp
      · rw [decide_eq_false e2, decide_eq_false (show ¬ (some (i, k) = some (i, m)) from fun z => e2 (by injection z with z; injection z)), Bool.and_false]
    · rw [decide_eq_false e, decide_eq_false (show ¬ (some (i, k) = some (j, m)) from fun z => e (by injection z with z; injection z)), Bool.false_and]
theorem eqv_sts (a b : List Sta) : PyData.eqv (.list (a.map stD)) (.list (b.map stD)) = decide (a = b) := by
  rw [PyData.eqv]
  exact eqvAll_map eqv_st a b
theorem any_st (l : List Sta) (s : Sta) : ((l.map stD).any fun z => PyData.eqv z (stD s)) = decide (s ∈ l) := by
  induction l with
  | nil => rfl
  | cons x r ih =>
    rw [List.map_cons, List.any_cons, ih, eqv_st]
    by_cases e : s = x
    · subst e; simp
    · rw [decide_eq_false (Ne.symm e), Bool.false_or]
      simp [e]
end K76
namespace K76
open PySem PySem.Spec PyProof.Rows L2
/-! ### runs_sets, observable, known_in, known_to -/
def rowsR (ws : List (List Nat)) (l : List Nat) (n : Nat) : List (List Nat) := (List.range n).map fun p => rowN ws (both ws l p)
theorem rowsR_succ (ws : List (List Nat)) (l : List Nat) (n : Nat) : rowsR ws l (n + 1) = rowsR ws l n ++ [rowN ws (both ws l n)] := by
  unfold rowsR
  rw [List.range_succ, List.map_append]
  rfl
theorem rowsR_len (ws : List (List Nat)) (l : List Nat) (n : Nat) : (rowsR ws l n).length = n := by unfold rowsR; rw [List.length_map, List.length_range]
theorem rowsR_get {ws : List (List Nat)} {l : List Nat} {n i : Nat} (h : i < n) : ((rowsR ws l n).map intsD)[i]? = some (intsD (rowN ws (both ws l i))) := by
  unfold rowsR
  rw [List.getElem?_map, List.getElem?_map, List.getElem?_range h]
  rfl
theorem row_both (ws : List (List Nat)) (A B : SetT) : (rowN ws A).filter (fun n => decide (n ∈ rowN ws B)) = rowN ws fun s => A s && B s := by
  unfold rowN
  rw [List.filter_filter]
  refine List.filter_congr fun n hn => ?_
  rw [Bool.and_comm]
  congr 1
  have e : n ∈ (List.range (stL ws).length).filter (fun n => B (sAt ws n)) ↔ B (sAt ws n) = true := by
    rw [List.mem_filter]
    exact ⟨And.right, fun q => ⟨hn, q⟩⟩
  by_cases q : B (sAt ws n) = true
  · rw [q]
    exact decide_eq_true (e.mpr q)
  · rw [Bool.eq_false_iff.mpr q]
    exact decide_eq_false fun z => q (e.mp z)
def sp_runs_sets (K : PySem.W.Frag) : Sp := fun vs H Q _ => ∃ (a : Addr) (ws : List (List Nat)) (l : List Nat), vs = [.ref a, .str (mkS l)] ∧ SqT K H a (wV ws) ∧ OkC ws ∧ l.length ≤ 1000 ∧
  ∀ (p : Addr) (xs : List V) (H2 : Hp), Same H H2 → H2 p = some (.lst xs) → DpAll K H2 xs ((rowsR ws l (l.length + 1)).map intsD) → Q (.ref p) H2
abbrev Ok_runs_sets (P : Program) (w : World) (K : PySem.W.Frag) (mg : Str → Option Value) (base : Heap) : Prop := Have P w K mg base CX0 "runs_sets" 4 ["code", "string"] (sp_runs_sets K)
theorem ok_runs_sets {P : Program} {w : World} {K : PySem.W.Frag} {mg : Str → Option Value} {base : Heap} (T : Txt K mg) (h_sets_behind : Ok_sets_behind P w K mg base) (h_sets_ahead : Ok_sets_ahead P w K mg base) : Ok_runs_sets P w K mg base := by
  obtain ⟨f_sets_behind, fd_sets_behind, g_sets_behind, kp_sets_behind, b_sets_behind, G_sets_behind⟩ := h_sets_behind
  obtain ⟨f_sets_ahead, fd_sets_ahead, g_sets_ahead, kp_sets_ahead, b_sets_ahead, G_sets_ahead⟩ := h_sets_ahead
  refine have_of T.d_runs_sets (fun _ _ _ _ _ _ us hl => match us, hl with | [_, _], _ => rfl) sc_runs_sets (fun vs H Q E h => ?_) fun f cdv A outer s H vs Q E hr h => ?_
  · obtain ⟨a, ws, l, rfl, _⟩ := h
    rfl
  have hu := hu_of hr
  have hu65 := hu65_of hr
  obtain ⟨a, ws, l, rfl, hS, ok, hl, k⟩ := h
  have hk9 := stL_len ok
  refine ⟨_, (pss_cons (ps_set (i := 2) sc_runs_sets.nd rfl (Or.inl rfl) (pe_lst pa_nil))
 (pss_cons (ps_for PassesOwn.never rfl (pi_zip (by rfl) T.b_zip (pa_cons (pe_call G_sets_ahead (hr.mono (by decide)) (by rfl) g_sets_ahead kp_sets_ahead b_sets_ahead .nil pass0 (pa_cons (pv 0) (pa_cons (pv 1) pa_nil))) (pa_cons (pe_call G_sets_behind (hr.mono (by decide)) (by rfl) g_sets_behind kp_sets_behind b_sets_behind .nil pass0 (pa_cons (pv 0) (pa_cons (pv 1) pa_nil))) pa_nil))) (pg_tup rfl (pgs_cons (pg_name (i := 3) sc_runs_sets.nd rfl (Or.inl rfl)) (pgs_cons (pg_name (i := 4) sc_runs_sets.nd rfl (Or.inr rfl)) pgs_nil)))
 (pss_one (ps_expr (pe_bm PySem.F.plainAttrs_list PySem.F.slot_list_append PySem.F.type_list_append mt_append (pv 2) (pa_cons (pe_callTy (r := rTupQ K) call_tupQ (by rfl) T.b_tuple (by decide +kernel) (pa_cons (pe_lc (own := [("state", 5)]) (g := gName 5) rfl sc_runs_sets.nd (pi_tupK (K := K) rfl (pv 3)) (blkOk_by (by kernel_rfl)) (fun _ _ _ _ _ => (pg_name (i := 5) sc_runs_sets.nd rfl (Or.inl rfl))) (fun _ _ _ _ _ => (pts_one (pt_cmpR (r := rIn K false) op_in_seq (pv 5) (pv 4) (by rfl)))) (fun _ _ _ _ _ => (pv 5))) pa_nil)) pa_nil)))))
 (pss_one (ps_ret (pv 2))))), ?_⟩
  refine ⟨Nat.zero_le _, fun R hR => ?_⟩
  have s1 : Same H (upd H R (.lst [])) := Same.new hR
  refine ⟨_, rfl, _, rfl, a, ws, l, rfl, Same.sqt s1 hS, ok, hl, fun p xs H2 np s2 hp hx => ?_⟩
  have hS2 := Same.sqt s2 (Same.sqt s1 hS)
  refine ⟨_, rfl, _, rfl, a, ws, l, rfl, hS2, ok, hl, fun q ys H3 nq s3 hq hy => ?_⟩
  have hp3 := s3 _ _ hp
  have hx3 := hx.same s3
  refine ⟨p, q, _, _, rfl, SqL.of hp3, SqL.of hq, ?_⟩
  have xl : xs.length = l.length + 1 := by rw [hx.length, List.length_map, rowsA_len]
  have yl : ys.length = l.length + 1 := by rw [hy.length, List.length_map, rowsB_len]
  have hR3 : H3 R = some (.lst []) := s3 _ _ (s2 _ _ upd_same)
  have nRp : p ≠ R := fun z => by rw [z, upd_same] at np; cases np
  have nRq : q ≠ R := fun z => by rw [z, s2 _ _ upd_same] at nq; cases nq
  have en : l.length + 1 = min xs.length ys.reverse.length := by rw [List.length_reverse, xl, yl]; omega
  have s03 := (s1.trans s2).trans s3
  have t3 : ∀ {H4 : Hp}, SameX R H3 H4 → TupS H3 H4 := by
    intro H4 sx b us h
    rcases h with h | ⟨o, h⟩
    · exact .inl (sx _ _ (fun z => by rw [z, hR3] at h; cases h) h)
    · exact .inr ⟨o, sx _ _ (fun z => by rw [z, hR3] at h; cases h) h⟩
  refine for_it (walk_zip (xs := xs) (ys := ys.reverse) (a := p) (b := q) en) (fun i σ H4 => ∃ (x3 x4 x5 : Option V) (zs : List V), σ = [some (.ref a), some (.str (mkS l)), some (.ref R), x3, x4, x5] ∧ SameX R H3 H4 ∧ H4 R = some (.lst zs) ∧ DpAll K H4 zs ((rowsR ws l i).map intsD)) ?_ ?_ ?_ ?_
  · exact ⟨_, _, _, [], rfl, SameX.refl _ _, hR3, .nil⟩
  · rintro i σ H4 hi ⟨x3, x4, x5, zs, rfl, sx, h4, hz⟩
    exact ⟨SqL.of (sx _ _ nRp hp3), SqL.of (sx _ _ nRq hq)⟩
  · rintro i x σ H4 H5 hi ⟨x3, x4, x5, zs, rfl, sx, h4, hz⟩ ⟨T0, v1, v2, rfl, hT, rfl, e1, e2⟩
    have d1 := DpAll.ts (t3 sx) (rows_noL _) hx3
    have d2 := DpAll.ts (t3 sx) (rows_noL _) hy
    obtain ⟨w1, hw1, dw1⟩ := d1.get (rowsA_get (ws := ws) (l := l) hi)
    have e1 : xs[i]? = some v1 := e1
    rw [hw1] at e1
    cases e1
    have e2 : ys.reverse[i]? = some v2 := e2
    rw [List.getElem?_reverse (by omega), yl] at e2
    have ei : l.length + 1 - 1 - i < l.length + 1 := by omega
    obtain ⟨w2, hw2, dw2⟩ := d2.get (rowsB_get (ws := ws) (l := l) ei)
    rw [hw2] at e2
    cases e2
    have eb : l.length - (l.length + 1 - 1 - i) = i := by omega
    rw [eb] at dw2
    obtain ⟨a1, rfl, ha1⟩ := intsD_inv dw1
    obtain ⟨a2, rfl, ha2⟩ := intsD_inv dw2
    have s5 : Same H4 (upd H4 T0 (.tup [.ref a1, .ref a2])) := Same.new hT
    refine ⟨T0, _, rfl, SqT.of upd_same, rfl, _, _, rfl, _, _, rfl, rfl, ⟨_, rfl, .inl ⟨rfl, _, SqL.of (s5 _ _ h4)⟩, ?_⟩⟩
    have hb1 := Same.sqt s5 ha1
    have hb2 := Same.sqt s5 ha2
    have l1 := rowN_len ws (ahS ws (l.take i))
    refine ⟨_, rfl, a1, rfl, ⟨_, hb1⟩, fun D hD => lc_gen (walk_tup (a := a1) (xs := nV (rowN ws (ahS ws (l.take i))))) (by rw [List.length_map]; omega) hD (fun j acc _ => acc = nV (((rowN ws (ahS ws (l.take i))).take j).filter fun n => decide (n ∈ rowN ws (bhS ws (l.drop i))))) (fun _ _ _ _ _ r => r) rfl (fun H6 s6 => Same.sqt s6 hb1) ?_ ?_⟩
    · rintro j x H6 H7 acc hj s6 rfl ⟨rfl, hxj⟩ Nx Ny kx ky
      have hxj : (nV (rowN ws (ahS ws (l.take i))))[j]? = some x := hxj
      rw [List.getElem?_map] at hxj
      obtain ⟨n, hn, rfl⟩ := Option.map_eq_some_iff.mp hxj
      have row : ((rowN ws (ahS ws (l.take i))).take (j + 1)).filter (fun n => decide (n ∈ rowN ws (bhS ws (l.drop i)))) = ((rowN ws (ahS ws (l.take i))).take j).filter (fun n => decide (n ∈ rowN ws (bhS ws (l.drop i)))) ++ if n ∈ rowN ws (bhS ws (l.drop i)) then [n] else [] := by
        rw [List.take_succ, hn, List.filter_append]
        congr 1
        show (match decide (n ∈ rowN ws (bhS ws (l.drop i))) with | true => [n] | false => []) = _
        by_cases q : n ∈ rowN ws (bhS ws (l.drop i))
        · rw [decide_eq_true q, if_pos q]
        · rw [decide_eq_false q, if_neg q]
      refine ⟨rfl, _, rfl, _, rfl, a2, _, rfl, .inr (Same.sqt s6 hb2), rfl, flat_nV _, _, rfl, ?_⟩
      rw [if_neg Bool.false_ne_true, inV_nat]
      by_cases q : n ∈ rowN ws (bhS ws (l.drop i))
      · refine iteD q ⟨_, rfl, ky _ _ (Same.refl _) ?_⟩
        rw [row, if_pos q]
        unfold nV
        rw [List.map_append]
        rfl
      · refine iteDF q (kx _ (Same.refl _) ?_)
        rw [row, if_neg q, List.append_nil]
    · rintro acc H6 s6 rfl hdd hdl
      rw [List.length_map, List.take_length, row_both] at hdd
      dsimp only [tNil]
      refine ⟨D, _, rfl, .inl ⟨SqL.of hdd, fun q2 hq2 => ?_⟩⟩
      have s7 : Same H4 (upd H6 q2 (.tup (nV (rowN ws fun s => ahS ws (l.take i) s && bhS ws (l.drop i) s)))) := (s5.trans s6).then hq2
      have zl : zs.length = i := by rw [hz.length, List.length_map, rowsR_len]
      refine ⟨R, zs, _, rfl, rfl, s7 _ _ h4, smallLt (by omega), ?_⟩
      refine ⟨_, _, _, _, rfl, (sx.trans (Same.x s7)).upd _, upd_same, ?_⟩
      have tsu := TupS.lst (o := .lst (zs ++ [.ref q2])) (s7 _ _ h4)
      rw [rowsR_succ, List.map_append]
      exact DpAll.append (DpAll.ts tsu (rows_noL _) (hz.same s7)) (.cons (intsD_of (TupS.sqt tsu (SqT.of upd_same))) .nil)
  · rintro σ H4 ⟨x3, x4, x5, zs, rfl, sx, h4, hz⟩
    refine ⟨_, rfl, k R zs H4 (fun b o e => ?_) h4 hz⟩
    exact sx _ _ (ne_of_none e hR) (s03 _ _ e)
def sp_observable (K : PySem.W.Frag) : Sp := fun vs H Q _ => ∃ (a : Addr) (ws : List (List Nat)) (l : List Nat), vs = [.ref a, .str (mkS l)] ∧ SqT K H a (wV ws) ∧ OkC ws ∧ l.length ≤ 1000 ∧ rowN ws (ahS ws l) ≠ [] ∧ ∀ (H2 : Hp), Same H H2 → Q (.bl true) H2
abbrev Ok_observable (P : Program) (w : World) (K : PySem.W.Frag) (mg : Str → Option Value) (base : Heap) : Prop := Have P w K mg base CX0 "observable" 4 ["code", "string"] (sp_observable K)
theorem ok_observable {P : Program} {w : World} {K : PySem.W.Frag} {mg : Str → Option Value} {base : Heap} (T : Txt K mg) (h_sets_ahead : Ok_sets_ahead P w K mg base) : Ok_observable P w K mg base := by
  obtain ⟨f_sets_ahead, fd_sets_ahead, g_sets_ahead, kp_sets_ahead, b_sets_ahead, G_sets_ahead⟩ := h_sets_ahead
  refine have_of T.d_observable (fun _ _ _ _ _ _ us hl => match us, hl with | [_, _], _ => rfl) sc_observable (fun vs H Q E h => ?_) fun f cdv A outer s H vs Q E hr h => ?_
  · obtain ⟨a, ws, l, rfl, _⟩ := h
    rfl
  have hu := hu_of hr
  have hu65 := hu65_of hr
  obtain ⟨a, ws, l, rfl, hS, ok, hl, ne, k⟩ := h
  refine ⟨_, (pss_one (ps_ret (pe_cmpR (r := rNeD K) (op_neD hr.units) (pe_ix (r := rIxL K) ix_list (pe_call G_sets_ahead (hr.mono (by decide)) (by rfl) g_sets_ahead kp_sets_ahead b_sets_ahead .nil pass0 (pa_cons (pv 0) (pa_cons (pv 1) pa_nil))) (pe_un un_neg pe_int) (fun _ _ => rfl)) (pe_tup pa_nil) (nomark _)))), ?_⟩
  refine ⟨_, rfl, _, rfl, a, ws, l, rfl, hS, ok, hl, fun p xs H2 np s2 hp hx => ?_⟩
  have xl : xs.length = l.length + 1 := by rw [hx.length, List.length_map, rowsA_len]
  obtain ⟨v, hv, hvd⟩ := hx.get (rowsA_get (ws := ws) (l := l) (Nat.lt_succ_self l.length))
  have hlast : xs[xs.length - 1]? = some v := by rw [xl, Nat.add_sub_cancel]; exact hv
  refine ⟨1, rfl, p, xs, _, v, rfl, rfl, SqL.of hp, atI_last' hlast, ?_⟩
  refine ⟨Nat.zero_le _, fun e he => ?_⟩
  have s3 : Same H2 (upd H2 e (.tup [])) := Same.new he
  rw [List.take_length] at hvd
  refine ⟨_, _, Dp.same s3 hvd, intsD_of (l := []) (SqT.of upd_same), (sh_ints _).shaped (by decide), (sh_ints _).shaped (by decide), ?_⟩
  rw [eqv_ints, decide_eq_false ne]
  exact k _ (s2.trans s3)
def sp_known_in (K : PySem.W.Frag) : Sp := fun vs H Q _ => ∃ (a : Addr) (ws : List (List Nat)) (l : List Nat), vs = [.ref a, .str (mkS l)] ∧ SqT K H a (wV ws) ∧ OkC ws ∧ l.length ≤ 1000 ∧ rowN ws (ahS ws l) ≠ [] ∧
  ∀ (p : Addr) (H2 : Hp), Same H H2 → SqT K H2 p (nV (knownS ws l)) → Q (.ref p) H2
abbrev Ok_known_in (P : Program) (w : World) (K : PySem.W.Frag) (mg : Str → Option Value) (base : Heap) : Prop := Have P w K mg base CX0 "known_in" 5 ["code", "string"] (sp_known_in K)
theorem ok_known_in {P : Program} {w : World} {K : PySem.W.Frag} {mg : Str → Option Value} {base : Heap} (T : Txt K mg) (h_observable : Ok_observable P w K mg base) (h_runs_sets : Ok_runs_sets P w K mg base) : Ok_known_in P w K mg base := by
  obtain ⟨f_observable, fd_observable, g_observable, kp_observable, b_observable, G_observable⟩ := h_observable
  obtain ⟨f_runs_sets, fd_runs_sets, g_runs_sets, kp_runs_sets, b_runs_sets, G_runs_sets⟩ := h_runs_sets
  refine have_of T.d_known_in (fun _ _ _ _ _ _ us hl => match us, hl with | [_, _], _ => rfl) sc_known_in (fun vs H Q E h => ?_) fun f cdv A outer s H vs Q E hr h => ?_
  · obtain ⟨a, ws, l, rfl, _⟩ := h
    rfl
  have hu := hu_of hr
  have hu65 := hu65_of hr
  obtain ⟨a, ws, l, rfl, hS, ok, hl, ne, k⟩ := h
  refine ⟨_, (pss_cons (ps_if (pt_not (pt_val (pe_call G_observable (hr.mono (by decide)) (by rfl) g_observable kp_observable b_observable .nil pass0 (pa_cons (pv 0) (pa_cons (pv 1) pa_nil))))) (pss_one (ps_ret pe_non)) pss_nil)
 (pss_one (ps_ret (pe_callTy (r := rTupQ K) call_tupQ (by rfl) T.b_tuple (by decide +kernel) (pa_cons (pe_lc (own := [("place", 2), ("states", 3)]) (g := gTup K 2 (gCons (gName 2) (gCons (gName 3) gNil))) rfl sc_known_in.nd (pi_enum (by rfl) T.b_enumerate (pa_cons (pe_call G_runs_sets (hr.mono (by decide)) (by rfl) g_runs_sets kp_runs_sets b_runs_sets .nil pass0 (pa_cons (pv 0) (pa_cons (pv 1) pa_nil))) pa_nil)) (blkOk_by (by kernel_rfl)) (fun _ _ _ _ _ => (pg_tup rfl (pgs_cons (pg_name (i := 2) sc_known_in.nd rfl (Or.inl rfl)) (pgs_cons (pg_name (i := 3) sc_known_in.nd rfl (Or.inl rfl)) pgs_nil)))) (fun _ _ _ _ _ => (pts_one (pt_cmpR (r := rEqD K) (op_eqD hr.units) (pv 3) (pe_tup (pa_cons pe_int pa_nil)) (nomark _)))) (fun _ _ _ _ _ => (pv 2))) pa_nil))))), ?_⟩
  refine ⟨_, rfl, _, rfl, a, ws, l, rfl, hS, ok, hl, ne, fun H1 s1 => ⟨true, rfl, ?_⟩⟩
  refine ⟨_, rfl, _, rfl, a, ws, l, rfl, Same.sqt s1 hS, ok, hl, fun p xs H2 s2 hp hx => ?_⟩
  have xl : xs.length = l.length + 1 := by rw [hx.length, List.length_map, rowsR_len]
  have hp2 := SqL.of (K := K) hp
  refine ⟨p, xs, rfl, hp2, fun D hD => lc_gen (walk_enum (a := p) (xs := xs)) (by omega) hD (fun j acc _ => acc = nV ((List.range j).filter fun p => decide (rowN ws (both ws l p) = [0]))) (fun _ _ _ _ _ r => r) rfl (fun H4 s4 => s4.seq hp2) ?_ ?_⟩
  · rintro j x H4 H5 acc hj s4 rfl ⟨T0, y, z, rfl, hT, rfl, e1, e2⟩ Nx Ny kx ky
    cases e1
    have hz : xs[j]? = some z := e2
    obtain ⟨v, hv, hvd⟩ := hx.get (rowsR_get (ws := ws) (l := l) (show j < l.length + 1 by omega))
    rw [hz] at hv
    cases hv
    have s5 : Same H4 (upd H4 T0 (.tup [.int (j : Nat), z])) := Same.new hT
    have hz5 := Dp.same s5 (Dp.same s4 hvd)
    refine ⟨T0, _, rfl, SqT.of upd_same, rfl, _, _, rfl, _, _, rfl, rfl, ⟨rfl, ?_⟩⟩
    have row : (List.range (j + 1)).filter (fun p => decide (rowN ws (both ws l p) = [0])) = (List.range j).filter (fun p => decide (rowN ws (both ws l p) = [0])) ++ if rowN ws (both ws l j) = [0] then [j] else [] := by
      rw [List.range_succ, List.filter_append]
      congr 1
      show (match decide (rowN ws (both ws l j) = [0]) with | true => [j] | false => []) = _
      by_cases q : rowN ws (both ws l j) = [0]
      · rw [decide_eq_true q, if_pos q]
      · rw [decide_eq_false q, if_neg q]
    refine ⟨_, rfl, by show 1 ≤ sizeLine; decide, fun t ht => ?_⟩
    have s6 : Same (upd H4 T0 (.tup [.int (j : Nat), z])) (upd (upd H4 T0 (.tup [.int (j : Nat), z])) t (.tup [.int 0])) := Same.new ht
    refine ⟨_, _, Dp.same s6 hz5, intsD_of (l := [0]) (SqT.of upd_same), (sh_ints _).shaped (by decide), (sh_ints _).shaped (by decide), _, rfl, ?_⟩
    rw [eqv_ints]
    by_cases q : rowN ws (both ws l j) = [0]
    · refine iteD q ⟨_, rfl, ky _ _ (s5.trans s6) ?_⟩
      rw [row, if_pos q]
      unfold nV
      rw [List.map_append]
      rfl
    · refine iteDF q (kx _ (s5.trans s6) ?_)
      rw [row, if_neg q, List.append_nil]
  · rintro acc H4 s4 rfl hdd hdl
    rw [xl] at hdd
    dsimp only [tNil]
    exact ⟨D, _, rfl, .inl ⟨SqL.of hdd, fun q hq => k q _ (((s1.trans s2).trans s4).then hq) (SqT.of upd_same)⟩⟩
theorem cutS_from {l : List Nat} {j : Nat} (h : j ≤ l.length) : cutS (mkS l) (some (j : Int)) none = mkS (l.drop j) := by
  unfold cutS
  rw [HT.sIx_none, HT.sIx_nat, mkS_len, Nat.min_eq_left h]
  show (⟨((l.drop j).take (l.length - j)).toArray⟩ : Str) = _
  rw [List.take_of_length_le (by rw [List.length_drop]; omega)]
  rfl
def sp_known_to (K : PySem.W.Frag) : Sp := fun vs H Q _ => ∃ (a : Addr) (v : V) (ws : List (List Nat)) (s : S3) (n : Nat), vs = [.ref a, v] ∧ SqT K H a (wV ws) ∧ OkC ws ∧ Dp K H v (s3D s) ∧ StOk ws n s ∧ n ≤ 1000 ∧ Obs ws s ∧
  ∀ (w : V) (H2 : Hp), Same H H2 → Dp K H2 w (rowsD (toldS ws s)) → Q w H2
abbrev Ok_known_to (P : Program) (w : World) (K : PySem.W.Frag) (mg : Str → Option Value) (base : Heap) : Prop := Have P w K mg base CX0 "known_to" 6 ["code", "state"] (sp_known_to K)
theorem ok_known_to {P : Program} {w : World} {K : PySem.W.Frag} {mg : Str → Option Value} {base : Heap} (T : Txt K mg) (h_known_in : Ok_known_in P w K mg base) : Ok_known_to P w K mg base := by
  obtain ⟨f_known_in, fd_known_in, g_known_in, kp_known_in, b_known_in, G_known_in⟩ := h_known_in
  refine have_of T.d_known_to (fun _ _ _ _ _ _ us hl => match us, hl with | [_, _], _ => rfl) sc_known_to (fun vs H Q E h => ?_) fun f cdv A outer s H vs Q E hr h => ?_
  · obtain ⟨a, v, ws, s, n, rfl, _⟩ := h
    rfl
  have hu := hu_of hr
  have hu65 := hu65_of hr
  obtain ⟨a, v, ws, s3, n, rfl, hS, ok, hd, so, hn, ob, k⟩ := h
  obtain ⟨p, iv, ja, rfl, hp, hi, hj⟩ := s3D_inv hd
  refine ⟨_, (pss_cons (ps_asg (pv 1) (pg_tup rfl (pgs_cons (pg_name (i := 2) sc_known_to.nd rfl (Or.inr rfl)) (pgs_cons (pg_name (i := 3) sc_known_to.nd rfl (Or.inl rfl)) (pgs_cons (pg_name (i := 4) sc_known_to.nd rfl (Or.inl rfl)) pgs_nil)))))
 (pss_one (ps_ret (pe_callTy (r := rTupQ K) call_tupQ (by rfl) T.b_tuple (by decide +kernel) (pa_cons (pe_lc (own := [("start", 5)]) (g := gName 5) rfl sc_known_to.nd (pi_tupK (K := K) rfl (pv 4)) (blkOk_by (by kernel_rfl)) (fun _ _ _ _ _ => (pg_name (i := 5) sc_known_to.nd rfl (Or.inl rfl))) (fun _ _ _ _ _ => pts_nil) (fun _ _ _ _ _ => (pe_call G_known_in (hr.mono (by decide)) (by rfl) g_known_in kp_known_in b_known_in .nil pass0 (pa_cons (pv 0) (pa_cons (pe_slice sl_str (pv 2) (po_some (pv 5)) po_none) pa_nil))))) pa_nil))))), ?_⟩
  refine ⟨_, rfl, p, _, rfl, hp, rfl, _, _, rfl, _, _, rfl, _, _, rfl, rfl, ?_⟩
  have jl := so.jo
  have sl := so.sent
  refine ⟨_, rfl, ja, rfl, ⟨_, hj⟩, fun D hD => lc_map (walk_tup (a := ja) (xs := nV s3.jo)) (by rw [List.length_map]; omega) hD gm_name (fun i acc H4 => DpAll K H4 acc (((s3.jo.take i).map fun j => knownS ws (s3.sent.drop j)).map intsD)) (fun i acc H4 H5 t4 r => DpAll.ts t4 (rows_noL _) r) .nil (fun H4 s4 => Same.sqt s4 hj) ?_ ?_⟩
  · rintro i x H4 H5 acc hi s4 r _ ⟨rfl, hx⟩ Ny ky
    have hx : (nV s3.jo)[i]? = some x := hx
    rw [List.getElem?_map] at hx
    obtain ⟨j, hj2, rfl⟩ := Option.map_eq_some_iff.mp hx
    have mj := List.mem_of_getElem? hj2
    have lj := so.at_ j mj
    refine ⟨rfl, _, rfl, _, rfl, _, rfl, _, rfl, ?_⟩
    dsimp only [tNoPart]
    refine ⟨_, rfl, by rw [mkS_len]; exact small (by omega), ?_⟩
    rw [cutS_from lj]
    refine ⟨a, ws, s3.sent.drop j, rfl, Same.sqt s4 hS, ok, by rw [List.length_drop]; omega, obs_row so ob mj, fun p5 H6 s6 h6 => ky _ _ s6 ?_⟩
    rw [List.take_succ, hj2, List.map_append, List.map_append]
    exact DpAll.append (r.same s6) (.cons (intsD_of h6) .nil)
  · rintro acc H4 s4 r hdd hdl
    rw [List.length_map, List.take_length] at r
    dsimp only [tNil]
    exact ⟨D, _, rfl, .inl ⟨SqL.of hdd, fun q hq => k _ _ (s4.then hq) (.tup (SqT.of upd_same) (r.same (Same.new hq)))⟩⟩
end K76
namespace K76
open PySem PySem.Spec PyProof.Rows L2
/-! ### the law's states, next states -/
theorem sts_noL (l : List Sta) : noLs (l.map stD) = true := noLs_map _ stD_noL l
def sp_l_states (K : PySem.W.Frag) : Sp := fun vs H Q _ => ∃ (a : Addr) (ws : List (List Nat)), vs = [.ref a] ∧ SqT K H a (wV ws) ∧ OkC ws ∧
  ∀ (p : Addr) (xs : List V) (H2 : Hp), Same H H2 → H p = none → H2 p = some (.lst xs) → DpAll K H2 xs ((stL ws).map stD) → Q (.ref p) H2
abbrev Ok_l_states (P : Program) (w : World) (K : PySem.W.Frag) (mg : Str → Option Value) (base : Heap) : Prop := Have P w K mg base CX0 "_law_states" 1 ["_law_code_here"] (sp_l_states K)
theorem ok_l_states {P : Program} {w : World} {K : PySem.W.Frag} {mg : Str → Option Value} {base : Heap} (T : Txt K mg) : Ok_l_states P w K mg base := by
  refine have_of T.d_l_states (fun _ _ _ _ _ _ us hl => match us, hl with | [_], _ => rfl) sc_l_states (fun vs H Q E h => ?_) fun f cdv A outer s H vs Q E hr h => ?_
  · obtain ⟨a, ws, rfl, _⟩ := h
    rfl
  have hu := hu_of hr
  have hu65 := hu65_of hr
  obtain ⟨a, ws, rfl, hS, ok, k⟩ := h
  have hlen : (wV ws).length = ws.length := List.length_map ..
  have hl := ok.len
  refine ⟨_, (pss_cons (ps_set (i := 1) sc_l_states.nd rfl (Or.inl rfl) (pe_lst (pa_cons pe_non pa_nil)))
 (pss_cons (ps_for PassesOwn.never rfl (pi_range1 (by rfl) T.b_range (pa_cons (pe_callB (r := rLenQ K) call_lenQ (by rfl) T.b_len (by decide +kernel) (pa_cons (pv 0) pa_nil)) pa_nil)) (pg_name (i := 2) sc_l_states.nd rfl (Or.inr rfl))
 (pss_one (ps_set (i := 1) sc_l_states.nd rfl (Or.inl rfl) (pe_op op_cat (pv 1) (pe_lc (own := [("_law_many", 3)]) (g := gName 3) rfl sc_l_states.nd (pi_range2 (by rfl) T.b_range (pa_cons pe_int (pa_cons (pe_callB call_len_str (by rfl) T.b_len (by decide +kernel) (pa_cons (pe_ix (r := rIxT K) ix_tup (pv 0) (pv 2) (fun _ _ => rfl)) pa_nil)) pa_nil))) (blkOk_by (by kernel_rfl)) (fun _ _ _ _ _ => (pg_name (i := 3) sc_l_states.nd rfl (Or.inl rfl))) (fun _ _ _ _ _ => pts_nil) (fun _ _ _ _ _ => (pe_tup (pa_cons (pv 2) (pa_cons (pv 3) pa_nil)))))))))
 (pss_one (ps_ret (pv 1))))), ?_⟩
  refine ⟨by show 1 ≤ sizeLine; decide, fun p0 hp0 => ?_⟩
  have hS1 := Same.sqt (Same.new (o := .lst [.non]) hp0) hS
  refine ⟨_, rfl, a, _, rfl, .inr hS1, _, rfl, by omega, by omega, ?_⟩
  have en : (((wV ws).length : Nat) : Int).toNat = ws.length := by omega
  refine for_range (lo := 0) (n := (((wV ws).length : Nat) : Int).toNat) (fun i σ H2 => ∃ (p : Addr) (x2 x3 : Option V) (xs : List V), σ = [some (.ref a), some (.ref p), x2, x3] ∧ H p = none ∧ Same H H2 ∧ H2 p = some (.lst xs) ∧ DpAll K H2 xs ((stUp ws i).map stD)) ?_ ?_ ?_
  · exact ⟨p0, _, _, [.non], rfl, hp0, Same.new hp0, upd_same, .cons .non .nil⟩
  · rintro i σ H2 hi ⟨p, x2, x3, xs, rfl, hp, s2, h2, hx⟩
    rw [en] at hi
    have hS2 := Same.sqt s2 hS
    have wl := mkS_len (wd ws i)
    have wz := wd_len ok hi
    have h3h := ok.high _ (wd_mem hi)
    have h3l := ok.low _ (wd_mem hi)
    have e0 : (0 : Int) + (i : Int) = (i : Int) := by omega
    rw [e0]
    refine ⟨_, rfl, ?_⟩
    refine ⟨_, rfl, _, rfl, a, _, _, _, rfl, rfl, hS2, atI_w hi, _, rfl, wz, 1, _, rfl, by omega, fun D hD => ?_⟩
    refine lc_map (walk_range (lo := 1)) (by omega) hD gm_name (fun j acc H4 => DpAll K H4 acc (((List.range j).map fun k => (some (i, k + 1) : Sta)).map stD)) (fun j acc H4 H5 t4 r => DpAll.ts t4 (sts_noL _) r) .nil (fun _ _ => True.intro) ?_ ?_
    · rintro j x H4 H5 acc hj s4 r _ ⟨rfl, rfl⟩ Ny ky
      refine ⟨rfl, _, rfl, _, rfl, by show 2 ≤ sizeLine; decide, fun t ht => ?_⟩
      have e1 : (1 : Int) + (j : Int) = ((j + 1 : Nat) : Int) := by omega
      refine ky _ _ (Same.new ht) ?_
      rw [List.range_succ, List.map_append, List.map_append]
      refine DpAll.append (r.same (Same.new ht)) (.cons ?_ .nil)
      show Dp K (upd H5 t (.tup [.int (i : Nat), .int (1 + (j : Int))])) (.ref t) (stD (some (i, j + 1)))
      rw [e1]
      exact stD_mk (SqT.of upd_same)
    · rintro acc H4 s4 r hd _
      have en2 : (((mkS (wd ws i)).length : Int) - 1).toNat = (wd ws i).length - 1 := by rw [wl]; omega
      rw [en2] at r
      have z1 := hx.length
      have z2 := r.length
      have z3 := stUp_len ok (Nat.le_of_lt hi)
      rw [List.length_map] at z1
      rw [List.length_map, List.length_map, List.length_range] at z2
      refine ⟨p, D, _, _, rfl, rfl, s4 _ _ h2, hd, small (by omega), fun q hq => ⟨q, _, _, _, rfl, (s2.trans s4).free hq, (s2.trans s4).then hq, upd_same, ?_⟩⟩
      rw [stUp_succ, List.map_append]
      exact DpAll.append (hx.same (s4.then hq)) (r.same (Same.new hq))
  · rintro σ H2 ⟨p, x2, x3, xs, rfl, hp, s2, h2, hx⟩
    rw [en, stUp_all] at hx
    exact ⟨_, rfl, k p xs H2 s2 hp h2 hx⟩
theorem iteNT {c A B : Prop} [Decidable c] (hc : c) (h : B) : if (!decide c) = true then A else B := by
  rw [decide_eq_true hc]
  exact iteF h
theorem pick_ix (t : Addr) (k : Bool) : atI [V.non, V.ref t] (if k = true then 1 else 0) = some (if k = true then .ref t else .non) := by
  cases k with
  | true => exact atI_nat (j := 1) rfl
  | false => exact atI_nat (j := 0) rfl
def sp_l_next_states (K : PySem.W.Frag) : Sp := fun vs H Q _ => ∃ (a : Addr) (v : V) (ws : List (List Nat)) (s : Sta) (c : Nat), vs = [.ref a, v, .str (mkS [c])] ∧ SqT K H a (wV ws) ∧ OkC ws ∧ Dp K H v (stD s) ∧ InOk ws s ∧
  ∀ (p : Addr) (xs : List V) (H2 : Hp), Same H H2 → H p = none → H2 p = some (.lst xs) → DpAll K H2 xs ((nxS ws s c).map stD) → Q (.ref p) H2
abbrev Ok_l_next_states (P : Program) (w : World) (K : PySem.W.Frag) (mg : Str → Option Value) (base : Heap) : Prop := Have P w K mg base CX0 "_law_next_states" 1 ["_law_code_here", "_law_state", "_law_letter"] (sp_l_next_states K)
theorem ok_l_next_states {P : Program} {w : World} {K : PySem.W.Frag} {mg : Str → Option Value} {base : Heap} (T : Txt K mg) : Ok_l_next_states P w K mg base := by
  refine have_of T.d_l_next_states (fun _ _ _ _ _ _ us hl => match us, hl with | [_, _, _], _ => rfl) sc_l_next_states (fun vs H Q E h => ?_) fun f cdv A outer s H vs Q E hr h => ?_
  · obtain ⟨a, v, ws, s, c, rfl, _⟩ := h
    rfl
  have hu := hu_of hr
  have hu65 := hu65_of hr
  obtain ⟨a, v, ws, s, c, rfl, hS, ok, hv, hs, k⟩ := h
  have hlen : (wV ws).length = ws.length := List.length_map ..
  have hl := ok.len
  refine ⟨_, (pss_cons (ps_set (i := 3) sc_l_next_states.nd rfl (Or.inl rfl) (pe_lst pa_nil))
 (pss_cons (ps_for PassesOwn.never rfl (pi_range1 (by rfl) T.b_range (pa_cons (pe_callB (r := rLenQ K) call_lenQ (by rfl) T.b_len (by decide +kernel) (pa_cons (pv 0) pa_nil)) pa_nil)) (pg_name (i := 4) sc_l_next_states.nd rfl (Or.inl rfl))
 (pss_one (ps_if (PW.pt (pw_and (pt_cmpR op_isN (pv 1) pe_non (nomark _)) (pw_and1 (pt_cmpR op_eq (pe_ix ix_str (pe_ix (r := rIxT K) ix_tup (pv 0) (pv 4) (fun _ _ => rfl)) pe_int (fun _ _ => rfl)) (pv 2) (nomark _))))) (pss_one (ps_expr (pe_bm PySem.F.plainAttrs_list PySem.F.slot_list_append PySem.F.type_list_append mt_append (pv 3) (pa_cons (pe_ix (r := rIxL K) ix_list (pe_lst (pa_cons pe_non (pa_cons (pe_tup (pa_cons (pv 4) (pa_cons pe_int pa_nil))) pa_nil))) (pe_callTy call_int1 (by rfl) T.b_int (by decide +kernel) (pa_cons (pe_cmpR op_gt (pe_callB call_len_str (by rfl) T.b_len (by decide +kernel) (pa_cons (pe_ix (r := rIxT K) ix_tup (pv 0) (pv 4) (fun _ _ => rfl)) pa_nil)) pe_int (nomark _)) pa_nil)) (fun _ _ => rfl)) pa_nil)))) pss_nil)))
 (pss_cons (ps_if (pt_cmpR op_notN (pv 1) pe_non (nomark _)) (pss_cons (ps_asg (pv 1) (pg_tup rfl (pgs_cons (pg_name (i := 4) sc_l_next_states.nd rfl (Or.inl rfl)) (pgs_cons (pg_name (i := 5) sc_l_next_states.nd rfl (Or.inl rfl)) pgs_nil))))
 (pss_one (ps_if (pt_cmpR op_eq (pe_ix ix_str (pe_ix (r := rIxT K) ix_tup (pv 0) (pv 4) (fun _ _ => rfl)) (pv 5) (fun _ _ => rfl)) (pv 2) (nomark _)) (pss_one (ps_expr (pe_bm PySem.F.plainAttrs_list PySem.F.slot_list_append PySem.F.type_list_append mt_append (pv 3) (pa_cons (pe_ix (r := rIxL K) ix_list (pe_lst (pa_cons pe_non (pa_cons (pe_tup (pa_cons (pv 4) (pa_cons (pe_op op_add (pv 5) pe_int) pa_nil))) pa_nil))) (pe_callTy call_int1 (by rfl) T.b_int (by decide +kernel) (pa_cons (pe_cmpR op_gt (pe_callB call_len_str (by rfl) T.b_len (by decide +kernel) (pa_cons (pe_ix (r := rIxT K) ix_tup (pv 0) (pv 4) (fun _ _ => rfl)) pa_nil)) (pe_op op_add (pv 5) pe_int) (nomark _)) pa_nil)) (fun _ _ => rfl)) pa_nil)))) pss_nil))) pss_nil)
 (pss_one (ps_ret (pv 3)))))), ?_⟩
  refine ⟨Nat.zero_le _, fun G hG => ?_⟩
  have s1 : Same H (upd H G (.lst [])) := Same.new hG
  refine ⟨_, rfl, a, _, rfl, .inr (Same.sqt s1 hS), _, rfl, by omega, by omega, ?_⟩
  have en : (((wV ws).length : Nat) : Int).toNat = ws.length := by omega
  have l0 : ∀ i, i < ws.length → 0 < (wd ws i).length := fun i h => ok.low _ (wd_mem h)
  cases s with
  | none =>
    cases hv.nonI
    refine for_range (lo := 0) (n := (((wV ws).length : Nat) : Int).toNat) (fun i σ H2 => ∃ (x4 x5 : Option V) (xs : List V), σ = [some (.ref a), some .non, some (.str (mkS [c])), some (.ref G), x4, x5] ∧ Same H H2 ∧ H2 G = some (.lst xs) ∧ DpAll K H2 xs ((((List.range i).filter fun i => decide (letterOf ws i 0 = c)).map fun i => adv ws i 1).map stD)) ?_ ?_ ?_
    · exact ⟨_, _, [], rfl, s1, upd_same, .nil⟩
    · rintro i σ H2 hi ⟨x4, x5, xs, rfl, s2, h2, hx⟩
      rw [en] at hi
      have hS2 := Same.sqt s2 hS
      have wz := wd_len ok hi
      have wl := mkS_len (wd ws i)
      have e0 : (0 : Int) + (i : Int) = (i : Int) := by omega
      rw [e0]
      have row : (List.range (i + 1)).filter (fun i => decide (letterOf ws i 0 = c)) = (List.range i).filter (fun i => decide (letterOf ws i 0 = c)) ++ if letterOf ws i 0 = c then [i] else [] := by
        rw [List.range_succ, List.filter_append]
        congr 1
        show (match decide (letterOf ws i 0 = c) with | true => [i] | false => []) = _
        by_cases q : letterOf ws i 0 = c
        · rw [decide_eq_true q, if_pos q]
        · rw [decide_eq_false q, if_neg q]
      rw [row]
      refine ⟨_, rfl, rfl, _, rfl, iteD rfl ?_⟩
      refine ⟨_, rfl, _, rfl, a, _, _, _, rfl, rfl, hS2, atI_w hi, _, 0, _, rfl, rfl, wz, atI_l (k := 0) (l0 i hi), _, rfl, rfl, _, rfl, ?_⟩
      have eq : V.str ⟨#[letterOf ws i 0]⟩ = V.str (mkS [c]) ↔ letterOf ws i 0 = c := by
        constructor
        · intro q
          injection q with q
          have q := mkS_inj (a := [letterOf ws i 0]) (b := [c]) q
          injection q
        · intro q
          rw [q]
          rfl
      by_cases q : letterOf ws i 0 = c
      · rw [if_pos q]
        refine iteD (eq.mpr q) ?_
        refine ⟨_, rfl, .inl ⟨rfl, _, SqL.of h2⟩, _, rfl, by show 2 ≤ sizeLine; decide, fun t ht => ⟨by show 2 ≤ sizeLine; decide, fun u hu => ?_⟩⟩
        have s3 : Same H2 (upd (upd H2 t (.tup [.int (i : Nat), .int 1])) u (.lst [.non, .ref t])) := (Same.new ht).then hu
        have ht3 : (upd (upd H2 t (.tup [.int (i : Nat), .int 1])) u (.lst [.non, .ref t])) t = some (.tup [.int (i : Nat), .int 1]) := (Same.new hu) _ _ upd_same
        refine ⟨_, rfl, _, rfl, a, _, _, _, rfl, rfl, Same.sqt s3 hS2, atI_w hi, _, rfl, wz, _, _, rfl, rfl, .inr ⟨_, rfl, u, _, _, _, rfl, rfl, SqL.of upd_same, pick_ix _ _, ?_⟩⟩
        have zl : xs.length ≤ 4 := by
          have z1 := hx.length
          have z2 := List.length_filter_le (fun i => decide (letterOf ws i 0 = c)) (List.range i)
          rw [List.length_map, List.length_map] at z1
          rw [List.length_range] at z2
          omega
        refine ⟨G, xs, _, rfl, rfl, s3 _ _ h2, smallLt (by omega), ?_⟩
        refine ⟨_, _, _, rfl, (s2.trans s3).mut hG, upd_same, ?_⟩
        have tsu := TupS.lst (o := .lst (xs ++ [if decide ((1 : Int) < ((mkS (wd ws i)).length : Int)) = true then V.ref t else V.non])) (s3 _ _ h2)
        rw [List.map_append, List.map_append]
        refine DpAll.append (DpAll.ts tsu (sts_noL _) (hx.same s3)) (.cons ?_ .nil)
        refine Dp.ts tsu (stD_noL _) ?_
        show Dp K _ _ (stD (adv ws i 1))
        unfold adv
        by_cases g : 1 < (wd ws i).length
        · rw [if_pos g, if_pos (decide_eq_true (by rw [wl]; omega))]
          exact stD_mk (SqT.of ht3)
        · rw [if_neg g, if_neg (by rw [decide_eq_true_eq, wl]; omega)]
          exact .non
      · rw [if_neg q, List.append_nil]
        exact iteDF (fun z => q (eq.mp z)) ⟨_, _, xs, rfl, s2, h2, hx⟩
    · rintro σ H2 ⟨x4, x5, xs, rfl, s2, h2, hx⟩
      rw [en] at hx
      exact ⟨_, rfl, rfl, _, rfl, iteNT rfl ⟨_, rfl, k G xs H2 s2 hG h2 hx⟩⟩
  | some ik =>
    obtain ⟨i, m⟩ := ik
    obtain ⟨b, rfl, hb⟩ := stD_some hv
    obtain ⟨hi, hm1, hm⟩ := hs
    refine for_range (lo := 0) (n := (((wV ws).length : Nat) : Int).toNat) (fun i σ H2 => ∃ (x4 x5 : Option V), σ = [some (.ref a), some (.ref b), some (.str (mkS [c])), some (.ref G), x4, x5] ∧ Same H H2 ∧ H2 G = some (.lst [])) ?_ ?_ ?_
    · exact ⟨_, _, rfl, s1, upd_same⟩
    · rintro i σ H2 hi ⟨x4, x5, rfl, s2, h2⟩
      exact ⟨_, rfl, rfl, _, rfl, iteDF (rne b) ⟨_, _, rfl, s2, h2⟩⟩
    · rintro σ H2 ⟨x4, x5, rfl, s2, h2⟩
      refine ⟨_, rfl, rfl, _, rfl, iteDN (rne b) ?_⟩
      refine ⟨_, rfl, b, _, rfl, Same.sqt s2 hb, rfl, _, _, rfl, _, _, rfl, rfl, ?_⟩
      have hS2 := Same.sqt s2 hS
      have wz := wd_len ok hi
      have wl := mkS_len (wd ws i)
      have eq : V.str ⟨#[letterOf ws i m]⟩ = V.str (mkS [c]) ↔ letterOf ws i m = c := by
        constructor
        · intro q
          injection q with q
          have q := mkS_inj (a := [letterOf ws i m]) (b := [c]) q
          injection q
        · intro q
          rw [q]
          rfl
      have nx : nxS ws (some (i, m)) c = if letterOf ws i m = c then [adv ws i (m + 1)] else [] := rfl
      rw [nx] at k
      refine ⟨_, rfl, _, rfl, a, _, _, _, rfl, rfl, hS2, atI_w hi, _, rfl, _, _, _, rfl, rfl, wz, atI_l hm, _, rfl, rfl, _, rfl, ?_⟩
      by_cases q : letterOf ws i m = c
      · rw [if_pos q] at k
        refine iteD (eq.mpr q) ?_
        refine ⟨_, rfl, .inl ⟨rfl, _, SqL.of h2⟩, _, rfl, _, rfl, _, _, rfl, rfl, by show 2 ≤ sizeLine; decide, fun t ht => ⟨by show 2 ≤ sizeLine; decide, fun u hu => ?_⟩⟩
        have s3 : Same H2 (upd (upd H2 t (.tup [.int (i : Nat), .int ((m : Nat) + 1)])) u (.lst [.non, .ref t])) := (Same.new ht).then hu
        have ht3 : (upd (upd H2 t (.tup [.int (i : Nat), .int ((m : Nat) + 1)])) u (.lst [.non, .ref t])) t = some (.tup [.int (i : Nat), .int ((m : Nat) + 1)]) := (Same.new hu) _ _ upd_same
        refine ⟨_, rfl, _, rfl, a, _, _, _, rfl, rfl, Same.sqt s3 hS2, atI_w hi, _, rfl, wz, _, rfl, _, _, rfl, rfl, _, _, rfl, rfl, .inr ⟨_, rfl, u, _, _, _, rfl, rfl, SqL.of upd_same, pick_ix _ _, ?_⟩⟩
        refine ⟨G, [], _, rfl, rfl, s3 _ _ h2, smallLt (by decide), ?_⟩
        refine ⟨_, rfl, k G _ _ ((s2.trans s3).mut hG) hG upd_same (.cons ?_ .nil)⟩
        refine Dp.ts (TupS.lst (s3 _ _ h2)) (stD_noL _) ?_
        unfold adv
        by_cases g : m + 1 < (wd ws i).length
        · rw [if_pos g, if_pos (decide_eq_true (by rw [wl]; omega))]
          exact stD_mk (SqT.of ht3)
        · rw [if_neg g, if_neg (by rw [decide_eq_true_eq, wl]; omega)]
          exact .non
      · rw [if_neg q] at k
        exact iteDF (fun z => q (eq.mp z)) ⟨_, rfl, k G [] H2 s2 hG h2 .nil⟩
end K76
namespace K76
open PySem PySem.Spec PyProof.Rows L2
/-! ### the law's knowledge -/
/-- a list of lists of states -/
def LL (K : PySem.W.Frag) (H : Hp) (A : Addr) (rows : Nat → List Sta) (n : Nat) : Prop := ∃ bs : List Addr, H A = some (.lst (bs.map V.ref)) ∧ bs.length = n ∧ ∀ i b, bs[i]? = some b → b ≠ A ∧ ∃ xs, H b = some (.lst xs) ∧ DpAll K H xs ((rows i).map stD)
section
variable {K : PySem.W.Frag} {H H2 : Hp} {A : Addr} {rows : Nat → List Sta} {n : Nat}
theorem LL.same (h : LL K H A rows n) (s : Same H H2) : LL K H2 A rows n := by
  obtain ⟨bs, h1, h2, h3⟩ := h
  refine ⟨bs, s _ _ h1, h2, fun i b hb => ?_⟩
  obtain ⟨ne, xs, h4, h5⟩ := h3 i b hb
  exact ⟨ne, xs, s _ _ h4, h5.same s⟩
/-- xs.append(list) -/
theorem LL.push {b : Addr} {xs : List V} (h : LL K H A rows n) (hb : H b = some (.lst xs)) (nb : b ≠ A) (hx : DpAll K H xs ((rows n).map stD)) : ∃ vs, H A = some (.lst vs) ∧ vs.length = n ∧ LL K (upd H A (.lst (vs ++ [.ref b]))) A rows (n + 1) := by
  obtain ⟨bs, h1, h2, h3⟩ := h
  have tsu := TupS.lst (o := .lst (bs.map V.ref ++ [.ref b])) h1
  refine ⟨_, h1, by rw [List.length_map, h2], bs ++ [b], ?_, by rw [List.length_append, h2]; rfl, fun i c hc => ?_⟩
  · rw [List.map_append]
    exact upd_same
  · by_cases lt : i < bs.length
    · rw [List.getElem?_append_left lt] at hc
      obtain ⟨ne, ys, h4, h5⟩ := h3 i c hc
      exact ⟨ne, ys, by rw [upd_ne ne]; exact h4, DpAll.ts tsu (sts_noL _) h5⟩
    · have l2 := (List.getElem?_eq_some_iff.mp hc).1
      rw [List.length_append, List.length_singleton] at l2
      have e : i = bs.length := by omega
      subst e
      rw [List.getElem?_append_right (Nat.le_refl _), Nat.sub_self] at hc
      cases hc
      rw [h2]
      exact ⟨nb, xs, by rw [upd_ne nb]; exact hb, DpAll.ts tsu (sts_noL _) hx⟩
theorem LL.get (h : LL K H A rows n) {i : Nat} (hi : i < n) : ∃ vs b xs, H A = some (.lst vs) ∧ vs.length = n ∧ vs[i]? = some (.ref b) ∧ H b = some (.lst xs) ∧ b ≠ A ∧ DpAll K H xs ((rows i).map stD) := by
  obtain ⟨bs, h1, h2, h3⟩ := h
  have g : bs[i]? = some bs[i] := List.getElem?_eq_getElem (by omega)
  obtain ⟨ne, xs, h4, h5⟩ := h3 i _ g
  exact ⟨_, _, xs, h1, by rw [List.length_map, h2], by rw [List.getElem?_map, g]; rfl, h4, ne, h5⟩
theorem LL.one {b : Addr} {xs : List V} (hA : H A = none) (hb : H b = some (.lst xs)) (hx : DpAll K H xs ((rows 0).map stD)) : LL K (upd H A (.lst [.ref b])) A rows 1 := by
  refine ⟨[b], upd_same, rfl, fun i c hc => ?_⟩
  cases i with
  | zero =>
    cases hc
    exact ⟨ne_of_none hb hA, xs, (Same.new hA) _ _ hb, hx.same (Same.new hA)⟩
  | succ i => cases hc
end
def aRow (ws : List (List Nat)) (l : List Nat) (i : Nat) : List Sta := rowS ws (ahS ws (l.take i))
def bRow (ws : List (List Nat)) (l : List Nat) (i : Nat) : List Sta := rowS ws (bhS ws (l.drop (l.length - i)))
theorem rowS_all (ws : List (List Nat)) : rowS ws (fun _ => true) = stL ws := List.filter_eq_self.mpr fun _ _ => rfl
theorem aRow_0 (ws : List (List Nat)) (l : List Nat) : aRow ws l 0 = stL ws := by
  unfold aRow
  rw [List.take_zero]
  exact rowS_all ws
theorem bRow_0 (ws : List (List Nat)) (l : List Nat) : bRow ws l 0 = stL ws := by
  unfold bRow
  rw [Nat.sub_zero, List.drop_length]
  exact rowS_all ws
theorem aRow_succ {ws : List (List Nat)} {l : List Nat} {i c : Nat} (h : l[i]? = some c) : (stL ws).filter (fun t => decide (t ∈ (aRow ws l i).flatMap fun s => nxS ws s c)) = aRow ws l (i + 1) := by
  unfold aRow
  rw [List.take_succ, h]
  show _ = rowS ws (ahS ws (l.take i ++ [c]))
  rw [ahS_snoc]
  unfold rowS
  refine List.filter_congr fun t _ => ?_
  unfold ahF
  refine Bool.eq_iff_iff.mpr ?_
  rw [decide_eq_true_eq, List.mem_flatMap, List.any_eq_true]
  constructor
  · rintro ⟨s, h1, h2⟩
    obtain ⟨h3, h4⟩ := List.mem_filter.mp h1
    exact ⟨s, h3, by rw [h4, decide_eq_true h2]; rfl⟩
  · rintro ⟨s, h1, h2⟩
    rw [Bool.and_eq_true, decide_eq_true_eq] at h2
    exact ⟨s, List.mem_filter.mpr ⟨h1, h2.1⟩, h2.2⟩
theorem bRow_succ {ws : List (List Nat)} {l : List Nat} {i c : Nat} (hi : i < l.length) (h : l.reverse[i]? = some c) : (stL ws).filter (fun s => (nxS ws s c).any fun t => decide (t ∈ bRow ws l i)) = bRow ws l (i + 1) := by
  have ed : l.drop (l.length - (i + 1)) = c :: l.drop (l.length - i) := by
    rw [List.getElem?_reverse hi] at h
    have lt : l.length - (i + 1) < l.length := by omega
    have e1 : l.length - 1 - i = l.length - (i + 1) := by omega
    rw [e1] at h
    rw [List.drop_eq_getElem_cons lt]
    rw [List.getElem?_eq_getElem lt] at h
    rw [Option.some.inj h]
    congr 2
    omega
  unfold bRow
  rw [ed]
  show _ = rowS ws (bhF ws c (bhS ws (l.drop (l.length - i))))
  unfold rowS
  refine List.filter_congr fun s hs => ?_
  unfold bhF
  refine Bool.eq_iff_iff.mpr ?_
  rw [List.any_eq_true, List.any_eq_true]
  constructor
  · rintro ⟨t, h1, h2⟩
    exact ⟨t, h1, (List.mem_filter.mp (of_decide_eq_true h2)).2⟩
  · rintro ⟨t, h1, h2⟩
    exact ⟨t, h1, decide_eq_true (List.mem_filter.mpr ⟨mem_stL.mpr (nxS_ok (mem_stL.mp hs) h1), h2⟩)⟩
theorem know_row {ws : List (List Nat)} {l : List Nat} {p : Nat} (h : p ≤ l.length) : (aRow ws l p).filter (fun s => decide (s ∈ bRow ws l (l.length - p))) = rowS ws (both ws l p) := by
  unfold aRow bRow rowS
  rw [List.filter_filter]
  refine List.filter_congr fun s hs => ?_
  have e : l.length - (l.length - p) = p := by omega
  rw [e]
  unfold both
  rw [Bool.and_comm]
  congr 1
  refine Bool.eq_iff_iff.mpr ?_
  rw [decide_eq_true_eq, List.mem_filter]
  exact ⟨fun q => q.2, fun q => ⟨hs, q⟩⟩
theorem nxS_len {ws : List (List Nat)} (ok : OkC ws) (s : Sta) (c : Nat) : (nxS ws s c).length ≤ 4 := by
  cases s with
  | none =>
    show (((List.range ws.length).filter fun i => decide (letterOf ws i 0 = c)).map fun i => adv ws i 1).length ≤ 4
    rw [List.length_map]
    have := List.length_filter_le (fun i => decide (letterOf ws i 0 = c)) (List.range ws.length)
    rw [List.length_range] at this
    have := ok.len
    omega
  | some ik =>
    obtain ⟨i, k⟩ := ik
    show (if letterOf ws i k = c then [adv ws i (k + 1)] else []).length ≤ 4
    split
    · show 1 ≤ 4
      omega
    · show 0 ≤ 4
      omega
theorem filter_snoc {α : Type} {l : List α} {j : Nat} {x : α} (p : α → Bool) (h : l[j]? = some x) : (l.take (j + 1)).filter p = (l.take j).filter p ++ if p x = true then [x] else [] := by
  rw [List.take_succ, h, List.filter_append]
  congr 1
  show (match p x with | true => [x] | false => []) = _
  cases p x <;> rfl
def sp_l_known (K : PySem.W.Frag) : Sp := fun vs H Q _ => ∃ (a : Addr) (ws : List (List Nat)) (l : List Nat), vs = [.ref a, .str (mkS l)] ∧ SqT K H a (wV ws) ∧ OkC ws ∧ l.length ≤ 1000 ∧
  ∀ (p : Addr) (H2 : Hp), Same H H2 → SqT K H2 p (nV (knownS ws l)) → Q (.ref p) H2
abbrev Ok_l_known (P : Program) (w : World) (K : PySem.W.Frag) (mg : Str → Option Value) (base : Heap) : Prop := Have P w K mg base CX0 "_law_known" 2 ["_law_code_here", "_law_string_here"] (sp_l_known K)
theorem ok_l_known {P : Program} {w : World} {K : PySem.W.Frag} {mg : Str → Option Value} {base : Heap} (T : Txt K mg) (h_l_states : Ok_l_states P w K mg base) (h_l_next_states : Ok_l_next_states P w K mg base) : Ok_l_known P w K mg base := by
  obtain ⟨f_l_states, fd_l_states, g_l_states, kp_l_states, b_l_states, G_l_states⟩ := h_l_states
  obtain ⟨f_l_next_states, fd_l_next_states, g_l_next_states, kp_l_next_states, b_l_next_states, G_l_next_states⟩ := h_l_next_states
  refine have_of T.d_l_known (fun _ _ _ _ _ _ us hl => match us, hl with | [_, _], _ => rfl) sc_l_known (fun vs H Q E h => ?_) fun f cdv A outer s H vs Q E hr h => ?_
  · obtain ⟨a, ws, l, rfl, _⟩ := h
    rfl
  have hu := hu_of hr
  have hu65 := hu65_of hr
  obtain ⟨a, ws, l, rfl, hS, ok, hl, k⟩ := h
  have hk9 := stL_len ok
  refine ⟨_, (pss_cons (ps_set (i := 2) sc_l_known.nd rfl (Or.inl rfl) (pe_call G_l_states (hr.mono (by decide)) (by rfl) g_l_states kp_l_states b_l_states .nil pass0 (pa_cons (pv 0) pa_nil)))
 (pss_cons (ps_set (i := 3) sc_l_known.nd rfl (Or.inl rfl) (pe_lst (pa_cons (pv 2) pa_nil)))
 (pss_cons (ps_for PassesOwn.never rfl (pi_str (pv 1)) (pg_name (i := 4) sc_l_known.nd rfl (Or.inr rfl))
 (pss_cons (ps_set (i := 8) sc_l_known.nd rfl (Or.inr rfl) (pe_lst pa_nil))
 (pss_cons (ps_for PassesOwn.never rfl (pi_listK (K := K) rfl (pe_ix (r := rIxL K) ix_list (pv 3) (pe_un un_neg pe_int) (fun _ _ => rfl))) (pg_name (i := 9) sc_l_known.nd rfl (Or.inl rfl))
 (pss_one (ps_set (i := 8) sc_l_known.nd rfl (Or.inr rfl) (pe_op op_cat (pv 8) (pe_call G_l_next_states (hr.mono (by decide)) (by rfl) g_l_next_states kp_l_next_states b_l_next_states .nil pass0 (pa_cons (pv 0) (pa_cons (pv 9) (pa_cons (pv 4) pa_nil))))))))
 (pss_one (ps_expr (pe_bm PySem.F.plainAttrs_list PySem.F.slot_list_append PySem.F.type_list_append mt_append (pv 3) (pa_cons (pe_lc (own := [("_law_state", 9)]) (g := gName 9) rfl sc_l_known.nd (pi_listK (K := K) rfl (pv 2)) (blkOk_by (by kernel_rfl)) (fun _ _ _ _ _ => (pg_name (i := 9) sc_l_known.nd rfl (Or.inl rfl))) (fun _ _ _ _ _ => (pts_one (pt_cmpR (r := rInD K) (op_inD hu65) (pv 9) (pv 8) (by rfl)))) (fun _ _ _ _ _ => (pv 9))) pa_nil)))))))
 (pss_cons (ps_set (i := 5) sc_l_known.nd rfl (Or.inr rfl) (pe_lst (pa_cons (pv 2) pa_nil)))
 (pss_cons (ps_for PassesOwn.never rfl (pi_str (pe_revS (pv 1))) (pg_name (i := 4) sc_l_known.nd rfl (Or.inr rfl))
 (pss_one (ps_expr (pe_bm PySem.F.plainAttrs_list PySem.F.slot_list_append PySem.F.type_list_append mt_append (pv 5) (pa_cons (pe_lc (own := [("_law_state", 9)]) (g := gName 9) rfl sc_l_known.nd (pi_listK (K := K) rfl (pv 2)) (blkOk_by (by kernel_rfl)) (fun _ _ _ _ _ => (pg_name (i := 9) sc_l_known.nd rfl (Or.inl rfl))) (fun _ _ _ _ _ => (pts_one (pt_val (pe_callB (r := rAny K) (cr_any rfl) (by rfl) T.b_any (by decide +kernel) (pa_cons (pe_lc (own := [("_law_end", 11)]) (g := gName 11) rfl sc_l_known.nd (pi_listK (K := K) rfl (pe_call G_l_next_states (hr.mono (by decide)) (by rfl) g_l_next_states kp_l_next_states b_l_next_states .nil pass0 (pa_cons (pv 0) (pa_cons (pv 9) (pa_cons (pv 4) pa_nil))))) (blkOk_by (by kernel_rfl)) (fun _ _ _ _ _ => (pg_name (i := 11) sc_l_known.nd rfl (Or.inl rfl))) (fun _ _ _ _ _ => pts_nil) (fun _ _ _ _ _ => (pe_cmpR (r := rInD K) (op_inD hu65) (pv 11) (pe_ix (r := rIxL K) ix_list (pv 5) (pe_un un_neg pe_int) (fun _ _ => rfl)) (by rfl)))) pa_nil))))) (fun _ _ _ _ _ => (pv 9))) pa_nil)))))
 (pss_cons (ps_set (i := 6) sc_l_known.nd rfl (Or.inl rfl) (pe_lst pa_nil))
 (pss_cons (ps_for PassesOwn.never rfl (pi_range1 (by rfl) T.b_range (pa_cons (pe_op op_add (pe_callB call_len_str (by rfl) T.b_len (by decide +kernel) (pa_cons (pv 1) pa_nil)) pe_int) pa_nil)) (pg_name (i := 7) sc_l_known.nd rfl (Or.inr rfl))
 (pss_cons (ps_setLc (i := 10) (own := [("_law_state", 9)]) (g := gName 9) rfl sc_l_known.nd rfl rfl (sw_true rfl rfl rfl (by decide +kernel)) (pi_listK (K := K) rfl (pe_ix (r := rIxL K) ix_list (pv 3) (pv 7) (fun _ _ => rfl))) (blkOk_by (by kernel_rfl)) (fun _ _ _ _ _ => (pg_name (i := 9) sc_l_known.nd rfl (Or.inl rfl))) (fun _ _ _ _ _ => (pts_one (pt_cmpR (r := rInD K) (op_inD hu65) (pv 9) (pe_ix (r := rIxL K) ix_list (pv 5) (pe_op op_sub (pe_callB call_len_str (by rfl) T.b_len (by decide +kernel) (pa_cons (pv 1) pa_nil)) (pv 7)) (fun _ _ => rfl)) (by rfl)))) (fun _ _ _ _ _ => (pv 9)))
 (pss_one (ps_if (pt_cmpR (r := rEqD K) (op_eqD hr.units) (pv 10) (pe_lst (pa_cons pe_non pa_nil)) (nomark _)) (pss_one (ps_expr (pe_bm PySem.F.plainAttrs_list PySem.F.slot_list_append PySem.F.type_list_append mt_append (pv 6) (pa_cons (pv 7) pa_nil)))) pss_nil))))
 (pss_one (ps_ret (pe_callTy (r := rTupQ K) call_tupQ (by rfl) T.b_tuple (by decide +kernel) (pa_cons (pv 6) pa_nil))))))))))), ?_⟩
  refine ⟨_, rfl, a, ws, rfl, hS, ok, fun L sv H1 s1 nL hL hsv => ?_⟩
  refine ⟨_, rfl, by show 1 ≤ sizeLine; decide, fun A hA => ?_⟩
  have hLA : L ≠ A := ne_of_none hL hA
  have svl : sv.length = (stL ws).length := by rw [hsv.length, List.length_map]
  have ll0 : LL K (upd H1 A (.lst [.ref L])) A (aRow ws l) 1 := LL.one hA hL (by rw [aRow_0]; exact hsv)
  refine ⟨_, rfl, _, rfl, ?_⟩
  refine for_it (walk_str (z := mkS l)) (fun i σ H2 => ∃ (x4 x5 x6 x7 x8 x9 x10 x11 : Option V), σ = [some (.ref a), some (.str (mkS l)), some (.ref L), some (.ref A), x4, x5, x6, x7, x8, x9, x10, x11] ∧ SameX A H1 H2 ∧ LL K H2 A (aRow ws l) (i + 1)) ?_ (fun _ _ _ _ _ => True.intro) ?_ ?_
  · exact ⟨_, _, _, _, _, _, _, _, rfl, Same.x (Same.new hA), ll0⟩
  · rintro i x σ H3 H2 hi ⟨x4, x5, x6, x7, x8, x9, x10, x11, rfl, sx, ll⟩ ⟨rfl, c, hc, rfl⟩
    have hi : i < l.length := hi
    have hc : l[i]? = some c := by
      rw [← Array.getElem?_toList] at hc
      exact hc
    refine ⟨Nat.zero_le _, fun F hF => ?_⟩
    have sF : Same H2 (upd H2 F (.lst [])) := Same.new hF
    have llF := ll.same sF
    obtain ⟨vs, B, ys, hA2, vl, hvs, hB, nBA, hy⟩ := llF.get (Nat.lt_succ_self i)
    have hlast : vs[vs.length - 1]? = some (.ref B) := by rw [vl, Nat.add_sub_cancel]; exact hvs
    refine ⟨_, rfl, 1, rfl, A, vs, _, _, rfl, rfl, SqL.of hA2, atI_last' hlast, B, rfl, ⟨_, SqL.of hB⟩, ?_⟩
    have yl : ys.length = (aRow ws l i).length := by rw [hy.length, List.length_map]
    have al : (aRow ws l i).length ≤ 9 := Nat.le_trans (List.length_filter_le _ _) hk9
    refine for_list (xs := ys) (fun j σ H4 => ∃ (Fp : Addr) (x9 : Option V) (fs : List V), σ = [some (.ref a), some (.str (mkS l)), some (.ref L), some (.ref A), some (.str (mkS [c])), x5, x6, x7, some (.ref Fp), x9, x10, x11] ∧ Same (upd H2 F (.lst [])) H4 ∧ H4 Fp = some (.lst fs) ∧ fs.length ≤ 4 * j ∧ DpAll K H4 fs ((((aRow ws l i).take j).flatMap fun s => nxS ws s c).map stD)) ?_ ?_ ?_ ?_
    · exact ⟨F, _, [], rfl, Same.refl _, upd_same, Nat.le_refl _, .nil⟩
    · rintro j σ H4 hj ⟨Fp, x9, fs, rfl, s4, h4, fl, hf⟩
      exact SqL.of (s4 _ _ hB)
    · rintro j x σ H4 hx ⟨Fp, x9, fs, rfl, s4, h4, fl, hf⟩
      obtain ⟨d, hd, hxd⟩ := hy.get' hx
      rw [List.getElem?_map] at hd
      obtain ⟨st, hst, rfl⟩ := Option.map_eq_some_iff.mp hd
      have mst : st ∈ stL ws := (List.mem_filter.mp (List.mem_of_getElem? hst)).1
      have hS4 := Same.sqt s4 (Same.sqt sF (SameX.sqt sx hA (Same.sqt s1 hS)))
      refine ⟨_, rfl, _, rfl, _, rfl, _, rfl, a, x, ws, st, c, rfl, hS4, ok, hxd.same s4, mem_stL.mp mst, fun p ps H5 s5 np hp hps => ?_⟩
      have jl : j < ys.length := (List.getElem?_eq_some_iff.mp hx).1
      have z1 := hps.length
      have z2 := nxS_len ok st c
      rw [List.length_map] at z1
      refine ⟨Fp, p, _, _, rfl, rfl, s5 _ _ h4, hp, small (by omega), fun q hq => ⟨q, _, _, rfl, (s4.trans s5).then hq, upd_same, by rw [List.length_append]; omega, ?_⟩⟩
      rw [List.take_succ, hst, List.flatMap_append, List.map_append]
      refine DpAll.append ((hf.same s5).same (Same.new hq)) ?_
      show DpAll K _ ps (List.map stD (nxS ws st c ++ []))
      rw [List.append_nil]
      exact hps.same (Same.new hq)
    · rintro σ H4 ⟨Fp, x9, fs, rfl, s4, h4, fl, hf⟩
      rw [yl, List.take_length] at hf
      have s24 := sF.trans s4
      have hL4 : H4 L = some (.lst sv) := s24 _ _ (sx _ _ hLA hL)
      have hsv4 : DpAll K H4 sv ((stL ws).map stD) := (hsv.same (sx.back hA)).same s24
      have hA4 := s4 _ _ hA2
      refine ⟨_, rfl, .inl ⟨rfl, _, SqL.of hA4⟩, ?_⟩
      refine ⟨_, rfl, L, rfl, ⟨_, SqL.of hL4⟩, fun D hD => lc_gen (walk_list (a := L) (xs := sv)) (by omega) hD (fun j acc H5 => DpAll K H5 acc ((((stL ws).take j).filter fun t => decide (t ∈ (aRow ws l i).flatMap fun s => nxS ws s c)).map stD)) (fun j acc H5 H6 t r => DpAll.ts t (sts_noL _) r) .nil (fun H5 s5 => SqL.of (s5 _ _ hL4)) ?_ ?_⟩
      · rintro j x H5 H6 acc hj s5 r ⟨rfl, hx⟩ Nx Ny kx ky
        have hx : sv[j]? = some x := hx
        obtain ⟨d, hd, hxd⟩ := hsv4.get' hx
        rw [List.getElem?_map] at hd
        obtain ⟨st, hst, rfl⟩ := Option.map_eq_some_iff.mp hd
        refine ⟨rfl, _, rfl, _, rfl, _, _, hxd.same s5, .lst (SqL.of (s5 _ _ h4)) (hf.same s5), (sh_st st).shaped (by decide), (sh_sts _).shaped (by decide), _, rfl, ?_⟩
        rw [any_st]
        have row := filter_snoc (fun t => decide (t ∈ (aRow ws l i).flatMap fun s => nxS ws s c)) hst
        by_cases q : st ∈ (aRow ws l i).flatMap fun s => nxS ws s c
        · refine iteD q ⟨_, rfl, ky _ _ (Same.refl _) ?_⟩
          rw [row, if_pos (decide_eq_true q), List.map_append]
          exact DpAll.append r (.cons (hxd.same s5) .nil)
        · refine iteDF q (kx _ (Same.refl _) ?_)
          rw [row, if_neg (by rw [decide_eq_false q]; exact Bool.false_ne_true), List.append_nil]
          exact r
      · rintro acc H5 s5 r hdd hdl
        rw [svl, List.take_length, aRow_succ hc] at r
        have ll5 := (llF.same s4).same s5
        obtain ⟨vs2, h6, h7, h8⟩ := ll5.push hdd (fun z => by rw [z] at hD; rw [hA4] at hD; cases hD) r
        dsimp only [tNil]
        exact ⟨A, vs2, _, rfl, rfl, h6, smallLt (by omega), _, _, _, _, _, _, _, _, rfl, (sx.trans (Same.x (s24.trans s5))).upd _, h8⟩
  · rintro σ H2 ⟨x4, x5, x6, x7, x8, x9, x10, x11, rfl, sx, ll⟩
    have s2 := sx.back hA
    have elen : (mkS l).cps.size = l.length := rfl
    rw [elen] at ll
    have hL2 := s2 _ _ hL
    have hsv2 := hsv.same s2
    refine ⟨_, rfl, by show 1 ≤ sizeLine; decide, fun B hB => ?_⟩
    have llB : LL K (upd H2 B (.lst [.ref L])) B (bRow ws l) 1 := LL.one hB hL2 (by rw [bRow_0]; exact hsv2)
    refine ⟨_, rfl, _, rfl, by rw [mkS_len]; exact small (by omega), ?_⟩
    have er : revS (mkS l) = mkS l.reverse := rfl
    rw [er]
    refine ⟨_, rfl, ?_⟩
    refine for_it (walk_str (z := mkS l.reverse)) (fun i σ H3 => ∃ (x4 x6 x7 x8 x9 x10 x11 : Option V), σ = [some (.ref a), some (.str (mkS l)), some (.ref L), some (.ref A), x4, some (.ref B), x6, x7, x8, x9, x10, x11] ∧ SameX B H2 H3 ∧ LL K H3 B (bRow ws l) (i + 1)) ?_ (fun _ _ _ _ _ => True.intro) ?_ ?_
    · exact ⟨_, _, _, _, _, _, _, rfl, Same.x (Same.new hB), llB⟩
    · rintro i x σ H4 H3 hi ⟨x4, x6, x7, x8, x9, x10, x11, rfl, sxB, llb⟩ ⟨rfl, c, hc, rfl⟩
      have hi : i < l.reverse.length := hi
      rw [List.length_reverse] at hi
      have hc : l.reverse[i]? = some c := by
        rw [← Array.getElem?_toList] at hc
        exact hc
      obtain ⟨vs, C, ys, hB3, vl, hvs, hC, nCB, hy⟩ := llb.get (Nat.lt_succ_self i)
      have hlast : vs[vs.length - 1]? = some (.ref C) := by rw [vl, Nat.add_sub_cancel]; exact hvs
      have s23 := sxB.back hB
      have hL3 := s23 _ _ hL2
      have hsv3 := hsv2.same s23
      have hS3 := Same.sqt s23 (Same.sqt s2 (Same.sqt s1 hS))
      refine ⟨_, rfl, .inl ⟨rfl, _, SqL.of hB3⟩, ?_⟩
      refine ⟨_, rfl, L, rfl, ⟨_, SqL.of hL3⟩, fun D hD => lc_gen (walk_list (a := L) (xs := sv)) (by omega) hD (fun j acc H5 => DpAll K H5 acc ((((stL ws).take j).filter fun s => (nxS ws s c).any fun t => decide (t ∈ bRow ws l i)).map stD)) (fun j acc H5 H6 t r => DpAll.ts t (sts_noL _) r) .nil (fun H5 s5 => SqL.of (s5 _ _ hL3)) ?_ ?_⟩
      · rintro j x H6 H5 acc hj s5 r ⟨rfl, hx⟩ Nx Ny kx ky
        have hx : sv[j]? = some x := hx
        obtain ⟨d, hd, hxd⟩ := hsv3.get' hx
        rw [List.getElem?_map] at hd
        obtain ⟨st, hst, rfl⟩ := Option.map_eq_some_iff.mp hd
        have mst : st ∈ stL ws := List.mem_of_getElem? hst
        refine ⟨rfl, _, rfl, _, rfl, _, rfl, a, x, ws, st, c, rfl, Same.sqt s5 hS3, ok, hxd.same s5, mem_stL.mp mst, fun p ps H7 s7 np hp hps => ?_⟩
        have z1 := hps.length
        have z2 := nxS_len ok st c
        rw [List.length_map] at z1
        have hp7 := SqL.of (K := K) hp
        refine ⟨p, rfl, ⟨_, hp7⟩, fun D2 hD2 => lc_map (walk_list (a := p) (xs := ps)) (by omega) hD2 gm_name (fun j acc _ => acc = (((nxS ws st c).take j).map fun t => decide (t ∈ bRow ws l i)).map V.bl) (fun _ _ _ _ _ r => r) rfl (fun H8 s8 => s8.seq hp7) ?_ ?_⟩
        · rintro j2 x2 H9 H8 acc2 hj2 s8 rfl _ ⟨rfl, hx2⟩ Ny2 ky2
          have hx2 : ps[j2]? = some x2 := hx2
          obtain ⟨d2, hd2, hxd2⟩ := hps.get' hx2
          rw [List.getElem?_map] at hd2
          obtain ⟨t2, ht2, rfl⟩ := Option.map_eq_some_iff.mp hd2
          have s38 := (s5.trans s7).trans s8
          refine ⟨rfl, _, rfl, _, rfl, 1, rfl, B, vs, _, _, rfl, rfl, SqL.of (s38 _ _ hB3), atI_last' hlast, _, _, hxd2.same s8, .lst (SqL.of (s38 _ _ hC)) (hy.same s38), (sh_st t2).shaped (by decide), (sh_sts _).shaped (by decide), ?_⟩
          rw [any_st]
          refine ky2 _ _ (Same.refl _) ?_
          rw [List.take_succ, ht2, List.map_append, List.map_append]
          rfl
        · rintro acc2 H8 s8 rfl hdd2 _
          rw [z1, List.take_length] at hdd2
          have ea : (((nxS ws st c).map fun t => decide (t ∈ bRow ws l i)).any id) = ((nxS ws st c).any fun t => decide (t ∈ bRow ws l i)) := by
            rw [List.any_map]
            rfl
          refine ⟨D2, _, rfl, SqL.of hdd2, _, rfl, ?_⟩
          rw [ea]
          have s58 := s7.trans s8
          have row := filter_snoc (fun s => (nxS ws s c).any fun t => decide (t ∈ bRow ws l i)) hst
          refine bool2 (fun q => ⟨_, rfl, ky _ _ s58 ?_⟩) fun q => kx _ s58 ?_
          · rw [row, if_pos q, List.map_append]
            exact DpAll.append (r.same s58) (.cons ((hxd.same s5).same s58) .nil)
          · rw [row, q, if_neg Bool.false_ne_true, List.append_nil]
            exact r.same s58
      · rintro acc H5 s5 r hdd hdl
        rw [svl, List.take_length, bRow_succ hi hc] at r
        obtain ⟨vs2, h6, h7, h8⟩ := (llb.same s5).push hdd (fun z => by rw [z] at hD; rw [hB3] at hD; cases hD) r
        dsimp only [tNil]
        exact ⟨B, vs2, _, rfl, rfl, h6, smallLt (by omega), _, _, _, _, _, _, _, rfl, (sxB.trans (Same.x s5)).upd _, h8⟩
    · rintro σ H3 ⟨x4, x6, x7, x8, x9, x10, x11, rfl, sxB, llb⟩
      have eln2 : (mkS l.reverse).cps.size = l.length := by
        show l.reverse.toArray.size = _
        rw [List.size_toArray, List.length_reverse]
      rw [eln2] at llb
      have s23 := sxB.back hB
      have ll3 := ll.same s23
      have s03 := (s1.trans s2).trans s23
      refine ⟨Nat.zero_le _, fun N hN => ?_⟩
      have sN : Same H3 (upd H3 N (.lst [])) := Same.new hN
      refine ⟨_, rfl, _, rfl, by rw [mkS_len]; exact small (by omega), _, _, rfl, rfl, _, rfl, by rw [mkS_len]; omega, by rw [mkS_len]; omega, ?_⟩
      have en : (((mkS l).length : Nat) + 1 : Int).toNat = l.length + 1 := by rw [mkS_len]; omega
      refine for_range (lo := 0) (n := (((mkS l).length : Nat) + 1 : Int).toNat) (fun i σ H4 => ∃ (x4 x7 x8 x9 x10 x11 : Option V), σ = [some (.ref a), some (.str (mkS l)), some (.ref L), some (.ref A), x4, some (.ref B), some (.ref N), x7, x8, x9, x10, x11] ∧ SameX N H3 H4 ∧ H4 N = some (.lst (nV ((List.range i).filter fun p => decide (rowN ws (both ws l p) = [0]))))) ?_ ?_ ?_
      · exact ⟨_, _, _, _, _, _, rfl, Same.x sN, upd_same⟩
      · rintro i σ H4 hi ⟨x4, x7, x8, x9, x10, x11, rfl, sx4, h4⟩
        rw [en] at hi
        have s34 := sx4.back hN
        have e0 : (0 : Int) + (i : Int) = (i : Int) := by omega
        rw [e0]
        obtain ⟨vs, C, ys, hA4, vl, hvs, hC, nCA, hy⟩ := (ll3.same s34).get hi
        obtain ⟨us, E2, zs, hB4, ul, hus, hE2, nEB, hz⟩ := (llb.same s34).get (show l.length - i < l.length + 1 by omega)
        have yl : ys.length = (aRow ws l i).length := by rw [hy.length, List.length_map]
        have al : (aRow ws l i).length ≤ 9 := Nat.le_trans (List.length_filter_le _ _) hk9
        have hC4 := SqL.of (K := K) hC
        refine ⟨_, rfl, _, rfl, A, vs, _, _, rfl, rfl, SqL.of hA4, atI_nat hvs, C, rfl, ⟨_, hC4⟩, fun D hD => lc_gen (walk_list (a := C) (xs := ys)) (by omega) hD (fun j acc H5 => DpAll K H5 acc ((((aRow ws l i).take j).filter fun s => decide (s ∈ bRow ws l (l.length - i))).map stD)) (fun j acc H5 H6 t r => DpAll.ts t (sts_noL _) r) .nil (fun H5 s5 => s5.seq hC4) ?_ ?_⟩
        · rintro j x H6 H5 acc hj s5 r ⟨rfl, hx⟩ Nx Ny kx ky
          have hx : ys[j]? = some x := hx
          obtain ⟨d, hd, hxd⟩ := hy.get' hx
          rw [List.getElem?_map] at hd
          obtain ⟨st, hst, rfl⟩ := Option.map_eq_some_iff.mp hd
          have es : ((mkS l).length : Int) - (i : Int) = ((l.length - i : Nat) : Int) := by rw [mkS_len]; omega
          refine ⟨rfl, _, rfl, _, rfl, _, rfl, _, rfl, by rw [mkS_len]; exact small (by omega), _, rfl, _, _, rfl, rfl, ?_⟩
          have ea : atI us (((mkS l).length : Int) - (i : Int)) = some (.ref E2) := by
            rw [es]
            exact atI_nat hus
          refine ⟨B, us, _, _, rfl, rfl, SqL.of (s5 _ _ hB4), ea, _, _, hxd.same s5, .lst (SqL.of (s5 _ _ hE2)) (hz.same s5), (sh_st st).shaped (by decide), (sh_sts _).shaped (by decide), _, rfl, ?_⟩
          rw [any_st]
          have row := filter_snoc (fun s => decide (s ∈ bRow ws l (l.length - i))) hst
          by_cases q : st ∈ bRow ws l (l.length - i)
          · refine iteD q ⟨_, rfl, ky _ _ (Same.refl _) ?_⟩
            rw [row, if_pos (decide_eq_true q), List.map_append]
            exact DpAll.append r (.cons (hxd.same s5) .nil)
          · refine iteDF q (kx _ (Same.refl _) ?_)
            rw [row, if_neg (by rw [decide_eq_false q]; exact Bool.false_ne_true), List.append_nil]
            exact r
        · rintro acc H5 s5 r hdd hdl
          rw [yl, List.take_length, know_row (by omega)] at r
          have h5 := s5 _ _ h4
          refine ⟨_, rfl, by show 1 ≤ sizeLine; decide, fun u hu => ?_⟩
          have s6 : Same H5 (upd H5 u (.lst [.non])) := Same.new hu
          have du : Dp K (upd H5 u (.lst [.non])) (.ref u) (.list ([none].map stD)) := .lst (SqL.of upd_same) (.cons .non .nil)
          refine ⟨_, _, .lst (SqL.of (s6 _ _ hdd)) (r.same s6), du, (sh_sts _).shaped (by decide), (sh_sts [none]).shaped (by decide), _, rfl, ?_⟩
          rw [eqv_sts]
          have row : (List.range (i + 1)).filter (fun p => decide (rowN ws (both ws l p) = [0])) = (List.range i).filter (fun p => decide (rowN ws (both ws l p) = [0])) ++ if rowN ws (both ws l i) = [0] then [i] else [] := by
            rw [List.range_succ, List.filter_append]
            congr 1
            show (match decide (rowN ws (both ws l i) = [0]) with | true => [i] | false => []) = _
            by_cases q : rowN ws (both ws l i) = [0]
            · rw [decide_eq_true q, if_pos q]
            · rw [decide_eq_false q, if_neg q]
          rw [row]
          have h6 := s6 _ _ h5
          have lf := List.length_filter_le (fun p => decide (rowN ws (both ws l p) = [0])) (List.range i)
          rw [List.length_range] at lf
          by_cases q : rowS ws (both ws l i) = [none]
          · rw [if_pos ((row_one ws _).mp q)]
            refine iteD q ⟨_, rfl, .inl ⟨rfl, _, SqL.of h6⟩, _, rfl, N, _, _, rfl, rfl, h6, smallLt (by rw [List.length_map]; omega), ?_⟩
            refine ⟨_, _, _, _, _, _, rfl, (sx4.trans (Same.x (s5.trans s6))).upd _, ?_⟩
            unfold nV
            rw [List.map_append]
            exact upd_same
          · rw [if_neg fun z => q ((row_one ws _).mpr z), List.append_nil]
            exact iteDF q ⟨_, _, _, _, _, _, rfl, sx4.trans (Same.x (s5.trans s6)), h6⟩
      · rintro σ H4 ⟨x4, x7, x8, x9, x10, x11, rfl, sx4, h4⟩
        rw [en] at h4
        refine ⟨_, rfl, N, _, rfl, .inl ⟨SqL.of h4, fun q hq => ?_⟩⟩
        exact k q _ ((s03.trans (sx4.back hN)).then hq) (SqT.of upd_same)
end K76
namespace K76
open PySem PySem.Spec PyProof.Rows L2
/-! ### what the law tells to all -/
def sp_l_told_all (K : PySem.W.Frag) : Sp := fun vs H Q _ => ∃ (a : Addr) (v : V) (ws : List (List Nat)) (s : S3) (n : Nat), vs = [.ref a, v] ∧ SqT K H a (wV ws) ∧ OkC ws ∧ Dp K H v (s3D s) ∧ StOk ws n s ∧ n ≤ 1000 ∧
  ∀ (w : V) (H2 : Hp), Same H H2 → Dp K H2 w (rowsD (toldS ws s)) → Q w H2
abbrev Ok_l_told_all (P : Program) (w : World) (K : PySem.W.Frag) (mg : Str → Option Value) (base : Heap) : Prop := Have P w K mg base CX0 "_law_told_all" 3 ["_law_code_here", "_law_state"] (sp_l_told_all K)
theorem ok_l_told_all {P : Program} {w : World} {K : PySem.W.Frag} {mg : Str → Option Value} {base : Heap} (T : Txt K mg) (h_l_known : Ok_l_known P w K mg base) : Ok_l_told_all P w K mg base := by
  obtain ⟨f_l_known, fd_l_known, g_l_known, kp_l_known, b_l_known, G_l_known⟩ := h_l_known
  refine have_of T.d_l_told_all (fun _ _ _ _ _ _ us hl => match us, hl with | [_, _], _ => rfl) sc_l_told_all (fun vs H Q E h => ?_) fun f cdv A outer s H vs Q E hr h => ?_
  · obtain ⟨a, v, ws, s, n, rfl, _⟩ := h
    rfl
  have hu := hu_of hr
  have hu65 := hu65_of hr
  obtain ⟨a, v, ws, s3, n, rfl, hS, ok, hd, so, hn, k⟩ := h
  obtain ⟨p, iv, ja, rfl, hp, hi, hj⟩ := s3D_inv hd
  have at0 : atI [V.str (mkS s3.sent), iv, V.ref ja] 0 = some (.str (mkS s3.sent)) := atI_nat (j := 0) rfl
  have at2 : atI [V.str (mkS s3.sent), iv, V.ref ja] 2 = some (.ref ja) := atI_nat (j := 2) rfl
  refine ⟨_, (pss_one (ps_ret (pe_callTy (r := rTupQ K) call_tupQ (by rfl) T.b_tuple (by decide +kernel) (pa_cons (pe_lc (own := [("_law_start", 2)]) (g := gName 2) rfl sc_l_told_all.nd (pi_tupK (K := K) rfl (pe_ix (r := rIxT K) ix_tup (pv 1) pe_int (fun _ _ => rfl))) (blkOk_by (by kernel_rfl)) (fun _ _ _ _ _ => (pg_name (i := 2) sc_l_told_all.nd rfl (Or.inl rfl))) (fun _ _ _ _ _ => pts_nil) (fun _ _ _ _ _ => (pe_call G_l_known (hr.mono (by decide)) (by rfl) g_l_known kp_l_known b_l_known .nil pass0 (pa_cons (pv 0) (pa_cons (pe_slice sl_str (pe_ix (r := rIxT K) ix_tup (pv 1) pe_int (fun _ _ => rfl)) (po_some (pv 2)) po_none) pa_nil))))) pa_nil)))), ?_⟩
  have jl := so.jo
  have sl := so.sent
  refine ⟨_, rfl, p, _, 2, _, rfl, rfl, hp, at2, ja, rfl, ⟨_, hj⟩, fun D hD => lc_map (walk_tup (a := ja) (xs := nV s3.jo)) (by rw [List.length_map]; omega) hD gm_name (fun i acc H4 => DpAll K H4 acc (((s3.jo.take i).map fun j => knownS ws (s3.sent.drop j)).map intsD)) (fun i acc H4 H5 t4 r => DpAll.ts t4 (rows_noL _) r) .nil (fun H4 s4 => Same.sqt s4 hj) ?_ ?_⟩
  · rintro i x H5 H4 acc hi s4 r _ ⟨rfl, hx⟩ Ny ky
    have hx : (nV s3.jo)[i]? = some x := hx
    rw [List.getElem?_map] at hx
    obtain ⟨j, hj2, rfl⟩ := Option.map_eq_some_iff.mp hx
    have mj := List.mem_of_getElem? hj2
    have lj := so.at_ j mj
    refine ⟨rfl, _, rfl, _, rfl, p, _, 0, _, rfl, rfl, Same.sqt s4 hp, at0, _, rfl, _, rfl, ?_⟩
    dsimp only [tNoPart]
    refine ⟨_, rfl, by rw [mkS_len]; exact small (by omega), ?_⟩
    rw [cutS_from lj]
    refine ⟨a, ws, s3.sent.drop j, rfl, Same.sqt s4 hS, ok, by rw [List.length_drop]; omega, fun p5 H6 s6 h6 => ky _ _ s6 ?_⟩
    rw [List.take_succ, hj2, List.map_append, List.map_append]
    exact DpAll.append (r.same s6) (.cons (intsD_of h6) .nil)
  · rintro acc H4 s4 r hdd hdl
    rw [List.length_map, List.take_length] at r
    dsimp only [tNil]
    exact ⟨D, _, rfl, .inl ⟨SqL.of hdd, fun q hq => k _ _ (s4.then hq) (.tup (SqT.of upd_same) (r.same (Same.new hq)))⟩⟩
/-! ### law_is_integer, law_equal -/
def sp_l_is_integer (K : PySem.W.Frag) : Sp := fun vs H Q _ => ∃ (v : V) (d : PyData), vs = [v] ∧ Dp K H v d ∧ Q (.bl (isInt d && !isBool d)) H
abbrev Ok_l_is_integer (P : Program) (w : World) (K : PySem.W.Frag) (mg : Str → Option Value) (base : Heap) : Prop := Have P w K mg base CX0 "_law_is_integer" 1 ["_law_actual"] (sp_l_is_integer K)
theorem ok_l_is_integer {P : Program} {w : World} {K : PySem.W.Frag} {mg : Str → Option Value} {base : Heap} (T : Txt K mg) : Ok_l_is_integer P w K mg base := by
  refine have_of T.d_l_is_integer (fun _ _ _ _ _ _ us hl => match us, hl with | [_], _ => rfl) sc_l_is_integer (fun vs H Q E h => ?_) fun f cdv A outer s H vs Q E hr h => ?_
  · obtain ⟨v, d, rfl, _⟩ := h
    rfl
  have hu := hu_of hr
  have hu65 := hu65_of hr
  obtain ⟨v, d, rfl, hd, k⟩ := h
  refine ⟨_, (pss_one (ps_ret (pe_and (pe_callB (r := rIsi K) call_isi (by rfl) T.b_isinstance (by decide +kernel) (pa_cons (pv 0) (pa_cons (pe_bltn (v := .ty "int") (by rfl) T.b_int (by decide +kernel) rfl) pa_nil))) (pe_one (pe_not (pe_callB (r := rIsi K) call_isi (by rfl) T.b_isinstance (by decide +kernel) (pa_cons (pv 0) (pa_cons (pe_bltn (v := .ty "bool") (by rfl) T.b_bool (by decide +kernel) rfl) pa_nil)))))))), ?_⟩
  refine ⟨_, rfl, _, _, _, _, _, rfl, .ty _, hd.ty, kit_ty (kit_int d), _, rfl, ?_⟩
  cases d with
  | int i => exact ⟨_, rfl, _, _, _, _, _, rfl, .ty _, hd.ty, kit_ty (kit_bool (.int i)), _, rfl, k⟩
  | bool b => exact ⟨_, rfl, _, _, _, _, _, rfl, .ty _, hd.ty, kit_ty (kit_bool (.bool b)), _, rfl, k⟩
  | none => exact k
  | str x => exact k
  | list xs => exact k
  | tuple xs => exact k
  | dict kvs => exact k
mutual
/-- the law's own equality: of what came, of what is due -/
def leq : PyData → PyData → Bool
  | .none, .none => true
  | .bool a, .bool b => decide (a = b)
  | .int i, .int j => decide (i = j)
  | .str x, .str y => decide (x = y)
  | .list xs, .list ys => leqs xs ys
  | .tuple xs, .tuple ys => leqs xs ys
  | _, _ => false
def leqs : List PyData → List PyData → Bool
  | [], [] => true
  | x :: xs, y :: ys => leq x y && leqs xs ys
  | _, _ => false
end
theorem iteND {c A B : Prop} [Decidable c] (hc : c) (h : B) : if (!decide c) = true then A else B := by
  rw [decide_eq_true hc]
  exact iteF h
theorem iteNDF {c A B : Prop} [Decidable c] (hc : ¬ c) (h : A) : if (!decide c) = true then A else B := by
  rw [decide_eq_false hc]
  exact iteT h
theorem dec_bl (a b : Bool) : decide (V.bl a = V.bl b) = decide (a = b) := by cases a <;> cases b <;> rfl
theorem dec_in (a b : Int) : decide (V.int a = V.int b) = decide (a = b) := by
  by_cases h : a = b
  · subst h
    rw [decide_eq_true rfl, decide_eq_true rfl]
  · rw [decide_eq_false h, decide_eq_false fun z => h (by injection z)]
theorem dec_st (a b : Str) : decide (V.str a = V.str b) = decide (a = b) := by
  by_cases h : a = b
  · subst h
    rw [decide_eq_true rfl, decide_eq_true rfl]
  · rw [decide_eq_false h, decide_eq_false fun z => h (by injection z)]
theorem leqs_snoc {x y : PyData} : ∀ {xs ys : List PyData}, xs.length = ys.length → leqs (xs ++ [x]) (ys ++ [y]) = (leqs xs ys && leq x y)
  | [], [], _ => by
    show (leq x y && leqs [] []) = _
    rw [leqs, Bool.and_true, Bool.true_and]
  | a :: xs, b :: ys, h => by
    show (leq a b && leqs (xs ++ [x]) (ys ++ [y])) = (leqs (a :: xs) (b :: ys) && leq x y)
    rw [leqs_snoc (Nat.succ.inj h), leqs, Bool.and_assoc]
theorem leqs_len : ∀ {xs ys : List PyData}, xs.length ≠ ys.length → leqs xs ys = false
  | [], [], h => absurd rfl h
  | [], _ :: _, _ => by rw [leqs]
                        all_goals (intros; simp_all)
  | _ :: _, [], _ => by rw [leqs]
                        all_goals (intros; simp_all)
  | x :: xs, y :: ys, h => by
    rw [leqs, leqs_len fun q => h (by rw [List.length_cons, List.length_cons, q]), Bool.and_false]
/-- due data: at most n deep, no list of more than 1000 -/
def Due : Nat → PyData → Prop
  | 0, _ => False
  | n + 1, .list xs => xs.length ≤ 1000 ∧ ∀ x ∈ xs, Due n x
  | n + 1, .tuple xs => xs.length ≤ 1000 ∧ ∀ x ∈ xs, Due n x
  | _ + 1, _ => True
def sp_leq (K : PySem.W.Frag) (n : Nat) : Sp := fun vs H Q _ => ∃ (u v : V) (x d : PyData), vs = [u, v] ∧ Dp K H u x ∧ Dp K H v d ∧ Due n d ∧ ∀ H2, Same H H2 → Q (.bl (leq x d)) H2
abbrev Ok_leq (P : Program) (w : World) (K : PySem.W.Frag) (mg : Str → Option Value) (base : Heap) (n : Nat) : Prop := Have P w K mg base CX0 "_law_equal" (n + 2) ["_law_actual", "_law_due"] (sp_leq K n)
theorem ok_leq {P : Program} {w : World} {K : PySem.W.Frag} {mg : Str → Option Value} {base : Heap} (T : Txt K mg) (h_l_is_integer : Ok_l_is_integer P w K mg base) : ∀ n, Ok_leq P w K mg base n
  | 0 => by
    refine have_of T.d_l_equal (fun _ _ _ _ _ _ us hl => match us, hl with | [_, _], _ => rfl) sc_l_equal (fun vs H Q E h => ?_) fun f cdv A outer s H vs Q E hr h => ?_
    · obtain ⟨u, v, x, d, rfl, _, _, lt, _⟩ := h
      exact lt.elim
    · obtain ⟨u, v, x, d, rfl, _, _, lt, _⟩ := h
      exact lt.elim
  | n + 1 => by
    obtain ⟨f_l_is_integer, fd_l_is_integer, g_l_is_integer, kp_l_is_integer, b_l_is_integer, G_l_is_integer⟩ := h_l_is_integer
    obtain ⟨f_l_equal, fd_l_equal, g_l_equal, kp_l_equal, b_l_equal, G_l_equal⟩ := ok_leq T ⟨f_l_is_integer, fd_l_is_integer, g_l_is_integer, kp_l_is_integer, b_l_is_integer, G_l_is_integer⟩ n
    refine have_of T.d_l_equal (fun _ _ _ _ _ _ us hl => match us, hl with | [_, _], _ => rfl) sc_l_equal (fun vs H Q E h => ?_) fun f cdv A outer s H vs Q E hr h => ?_
    · obtain ⟨u, v, x, d, rfl, _⟩ := h
      rfl
    obtain ⟨u, v, x, d, rfl, hu2, hd, lt, k⟩ := h
    have hu := hu_of hr
    refine ⟨_, (pss_cons (ps_if (pt_cmpR op_isN (pv 1) pe_non (nomark _)) (pss_one (ps_ret (pe_cmpR op_isN (pv 0) pe_non (nomark _)))) pss_nil)
 (pss_cons (ps_if (pt_val (pe_callB (r := rIsi K) call_isi (by rfl) T.b_isinstance (by decide +kernel) (pa_cons (pv 1) (pa_cons (pe_bltn (v := .ty "bool") (by rfl) T.b_bool (by decide +kernel) rfl) pa_nil)))) (pss_one (ps_ret (pe_and (pe_callB (r := rIsi K) call_isi (by rfl) T.b_isinstance (by decide +kernel) (pa_cons (pv 0) (pa_cons (pe_bltn (v := .ty "bool") (by rfl) T.b_bool (by decide +kernel) rfl) pa_nil))) (pe_one (pe_cmpR op_eq (pv 0) (pv 1) (nomark _)))))) pss_nil)
 (pss_cons (ps_if (pt_val (pe_callB (r := rIsi K) call_isi (by rfl) T.b_isinstance (by decide +kernel) (pa_cons (pv 1) (pa_cons (pe_bltn (v := .ty "int") (by rfl) T.b_int (by decide +kernel) rfl) pa_nil)))) (pss_one (ps_ret (pe_and (pe_call G_l_is_integer (hr.mono (by omega)) (by rfl) g_l_is_integer kp_l_is_integer b_l_is_integer .nil pass0 (pa_cons (pv 0) pa_nil)) (pe_one (pe_cmpR op_eq (pv 0) (pv 1) (nomark _)))))) pss_nil)
 (pss_cons (ps_if (pt_val (pe_callB (r := rIsi K) call_isi (by rfl) T.b_isinstance (by decide +kernel) (pa_cons (pv 1) (pa_cons (pe_bltn (v := .ty "str") (by rfl) T.b_str (by decide +kernel) rfl) pa_nil)))) (pss_one (ps_ret (pe_and (pe_callB (r := rIsi K) call_isi (by rfl) T.b_isinstance (by decide +kernel) (pa_cons (pv 0) (pa_cons (pe_bltn (v := .ty "str") (by rfl) T.b_str (by decide +kernel) rfl) pa_nil))) (pe_one (pe_cmpR op_eq (pv 0) (pv 1) (nomark _)))))) pss_nil)
 (pss_cons (ps_if (PW.pt (pw_and (pt_val (pe_callB (r := rIsi K) call_isi (by rfl) T.b_isinstance (by decide +kernel) (pa_cons (pv 1) (pa_cons (pe_bltn (v := .ty "tuple") (by rfl) T.b_tuple (by decide +kernel) rfl) pa_nil)))) (pw_and1 (pt_not (pt_val (pe_callB (r := rIsi K) call_isi (by rfl) T.b_isinstance (by decide +kernel) (pa_cons (pv 0) (pa_cons (pe_bltn (v := .ty "tuple") (by rfl) T.b_tuple (by decide +kernel) rfl) pa_nil)))))))) (pss_one (ps_ret pe_bl)) pss_nil)
 (pss_cons (ps_if (PW.pt (pw_and (pt_val (pe_callB (r := rIsi K) call_isi (by rfl) T.b_isinstance (by decide +kernel) (pa_cons (pv 1) (pa_cons (pe_bltn (v := .ty "list") (by rfl) T.b_list (by decide +kernel) rfl) pa_nil)))) (pw_and1 (pt_not (pt_val (pe_callB (r := rIsi K) call_isi (by rfl) T.b_isinstance (by decide +kernel) (pa_cons (pv 0) (pa_cons (pe_bltn (v := .ty "list") (by rfl) T.b_list (by decide +kernel) rfl) pa_nil)))))))) (pss_one (ps_ret pe_bl)) pss_nil)
 (pss_cons (ps_if (pt_cmpR op_ne (pe_callB (r := rLenQ K) call_lenQ (by rfl) T.b_len (by decide +kernel) (pa_cons (pv 0) pa_nil)) (pe_callB (r := rLenQ K) call_lenQ (by rfl) T.b_len (by decide +kernel) (pa_cons (pv 1) pa_nil)) (nomark _)) (pss_one (ps_ret pe_bl)) pss_nil)
 (pss_one (ps_ret (pe_callB (r := rAll K) (cr_all rfl) (by rfl) T.b_all (by decide +kernel) (pa_cons (pe_lc (own := [("_law_at", 2)]) (g := gName 2) rfl sc_l_equal.nd (pi_range1 (by rfl) T.b_range (pa_cons (pe_callB (r := rLenQ K) call_lenQ (by rfl) T.b_len (by decide +kernel) (pa_cons (pv 1) pa_nil)) pa_nil)) (blkOk_by (by kernel_rfl)) (fun _ _ _ _ _ => (pg_name (i := 2) sc_l_equal.nd rfl (Or.inl rfl))) (fun _ _ _ _ _ => pts_nil) (fun _ _ _ _ _ => (pe_call G_l_equal (hr.mono (by omega)) (by rfl) g_l_equal kp_l_equal b_l_equal .nil pass0 (pa_cons (pe_ix (r := rIx K) ix_seq (pv 0) (pv 2) (fun _ _ => rfl)) (pa_cons (pe_ix (r := rIx K) ix_seq (pv 1) (pv 2) (fun _ _ => rfl)) pa_nil))))) pa_nil))))))))))), ?_⟩
    cases hd with
    | non =>
      refine ⟨_, rfl, rfl, _, rfl, iteD rfl ⟨_, rfl, rfl, ?_⟩⟩
      cases hu2 with
      | non => exact k H (Same.refl H)
      | bl b => exact k H (Same.refl H)
      | int i => exact k H (Same.refl H)
      | str z => exact k H (Same.refl H)
      | lst h1 h2 => exact k H (Same.refl H)
      | tup h1 h2 => exact k H (Same.refl H)
    | bl b =>
      refine ⟨_, rfl, rfl, _, rfl, iteDF (fun z => nomatch z) ⟨_, rfl, _, _, _, _, _, rfl, .ty _, Dp.ty (.bl b), kit_ty (kit_bool (.bool b)), _, rfl, ⟨_, rfl, _, _, _, _, _, rfl, .ty _, hu2.ty, kit_ty (kit_bool x), _, rfl, ?_⟩⟩⟩
      cases hu2 with
      | non => exact k H (Same.refl H)
      | bl a =>
        refine ⟨_, rfl, _, rfl, rfl, ?_⟩
        rw [dec_bl]
        exact k H (Same.refl H)
      | int i => exact k H (Same.refl H)
      | str z => exact k H (Same.refl H)
      | lst h1 h2 => exact k H (Same.refl H)
      | tup h1 h2 => exact k H (Same.refl H)
    | int j =>
      refine ⟨_, rfl, rfl, _, rfl, iteDF (fun z => nomatch z) ⟨_, rfl, _, _, _, _, _, rfl, .ty _, Dp.ty (.int j), kit_ty (kit_bool (.int j)), _, rfl, ⟨_, rfl, _, _, _, _, _, rfl, .ty _, Dp.ty (.int j), kit_ty (kit_int (.int j)), _, rfl, ⟨_, rfl, u, x, rfl, hu2, _, rfl, ?_⟩⟩⟩⟩
      cases hu2 with
      | non => exact k H (Same.refl H)
      | bl a => exact k H (Same.refl H)
      | int i =>
        refine ⟨_, rfl, _, rfl, rfl, ?_⟩
        rw [dec_in]
        exact k H (Same.refl H)
      | str z => exact k H (Same.refl H)
      | lst h1 h2 => exact k H (Same.refl H)
      | tup h1 h2 => exact k H (Same.refl H)
    | str y =>
      refine ⟨_, rfl, rfl, _, rfl, iteDF (fun z => nomatch z) ⟨_, rfl, _, _, _, _, _, rfl, .ty _, Dp.ty (.str y), kit_ty (kit_bool (.str y)), _, rfl, ⟨_, rfl, _, _, _, _, _, rfl, .ty _, Dp.ty (.str y), kit_ty (kit_int (.str y)), _, rfl, ⟨_, rfl, _, _, _, _, _, rfl, .ty _, Dp.ty (.str y), kit_ty (kit_str (.str y)), _, rfl, ⟨_, rfl, _, _, _, _, _, rfl, .ty _, hu2.ty, kit_ty (kit_str x), _, rfl, ?_⟩⟩⟩⟩⟩
      cases hu2 with
      | non => exact k H (Same.refl H)
      | bl a => exact k H (Same.refl H)
      | int i => exact k H (Same.refl H)
      | str z =>
        refine ⟨_, rfl, _, rfl, rfl, ?_⟩
        rw [dec_st]
        exact k H (Same.refl H)
      | lst h1 h2 => exact k H (Same.refl H)
      | tup h1 h2 => exact k H (Same.refl H)
    | @tup p ps ds hp hda =>
      have hd : Dp K H (.ref p) (.tuple ds) := .tup hp hda
      refine ⟨_, rfl, rfl, _, rfl, iteDF (rne p) ⟨_, rfl, _, _, _, _, _, rfl, .ty _, hd.ty, kit_ty (kit_bool (.tuple ds)), _, rfl, ⟨_, rfl, _, _, _, _, _, rfl, .ty _, hd.ty, kit_ty (kit_int (.tuple ds)), _, rfl, ⟨_, rfl, _, _, _, _, _, rfl, .ty _, hd.ty, kit_ty (kit_str (.tuple ds)), _, rfl, ⟨_, rfl, _, _, _, _, _, rfl, .ty _, hd.ty, kit_ty (kit_tuple (.tuple ds)), _, rfl, ⟨_, rfl, _, _, _, _, _, rfl, .ty _, hu2.ty, kit_ty (kit_tuple x), _, rfl, ?_⟩⟩⟩⟩⟩⟩
      cases hu2 with
      | non => exact k H (Same.refl H)
      | bl a => exact k H (Same.refl H)
      | int i => exact k H (Same.refl H)
      | str z => exact k H (Same.refl H)
      | lst h1 h2 => exact k H (Same.refl H)
      | @tup q us as hq ha =>
          refine ⟨_, rfl, _, _, _, _, _, rfl, .ty _, hd.ty, kit_ty (kit_list (.tuple ds)), _, rfl, ?_⟩
          have z1 := ha.length
          have z2 := hda.length
          have hz : ds.length ≤ 1000 ∧ ∀ x ∈ ds, Due n x := lt
          refine ⟨_, rfl, q, _, rfl, .inr hq, _, rfl, p, _, rfl, .inr hp, rfl, _, rfl, ?_⟩
          by_cases c : us.length = ps.length
          · refine iteND (by rw [c]) ?_
            refine ⟨_, rfl, p, _, rfl, .inr hp, _, rfl, by omega, by omega, fun D hD => ?_⟩
            have en : ((ps.length : Nat) : Int).toNat = ps.length := by omega
            refine lc_map (walk_range (lo := 0)) (by omega) hD gm_name (fun j acc _ => ∃ bs : List Bool, acc = bs.map V.bl ∧ bs.all id = leqs (as.take j) (ds.take j)) (fun _ _ _ _ _ r => r) ⟨[], rfl, rfl⟩ (fun _ _ => True.intro) ?_ ?_
            · rintro j y H5 H4 acc hj s4 ⟨bs, rfl, hb⟩ _ ⟨rfl, rfl⟩ Ny ky
              rw [en] at hj
              have e0 : (0 : Int) + (j : Int) = (j : Int) := by omega
              have g1 : us[j]? = some us[j] := List.getElem?_eq_getElem (by omega)
              have g2 : ps[j]? = some ps[j] := List.getElem?_eq_getElem hj
              obtain ⟨d1, hd1, dd1⟩ := ha.get' g1
              obtain ⟨d2, hd2, dd2⟩ := hda.get' g2
              have at1 : atI us (0 + (j : Int)) = some us[j] := by rw [e0]; exact atI_nat g1
              have at2 : atI ps (0 + (j : Int)) = some ps[j] := by rw [e0]; exact atI_nat g2
              refine ⟨rfl, _, rfl, _, rfl, .inr (.inl ⟨q, us, _, _, rfl, rfl, Same.sqt s4 hq, at1, _, rfl, _, rfl, .inr (.inl ⟨p, ps, _, _, rfl, rfl, Same.sqt s4 hp, at2, ?_⟩)⟩)⟩
              refine ⟨_, _, d1, d2, rfl, dd1.same s4, dd2.same s4, hz.2 _ (List.mem_of_getElem? hd2), fun H6 s6 => ky _ _ s6 ⟨bs ++ [leq d1 d2], by rw [List.map_append]; rfl, ?_⟩⟩
              rw [List.take_succ, List.take_succ, hd1, hd2]
              show _ = leqs (as.take j ++ [d1]) (ds.take j ++ [d2])
              rw [leqs_snoc (by rw [List.length_take, List.length_take]; omega), List.all_append, hb, List.all_cons, List.all_nil, Bool.and_true]
              rfl
            · rintro acc H4 s4 ⟨bs, rfl, hb⟩ hdd _
              rw [en, List.take_of_length_le (by omega), List.take_of_length_le (by omega)] at hb
              refine ⟨D, bs, rfl, SqL.of hdd, ?_⟩
              rw [hb]
              have e : leq (.tuple as) (.tuple ds) = leqs as ds := by rw [leq]
              have k2 := k H4 s4
              rw [e] at k2
              exact k2
          · refine iteNDF (fun z => c (by injection z with z; omega)) ?_
            have e : leq (.tuple as) (.tuple ds) = false := by
              rw [leq]
              exact leqs_len (by omega)
            have k2 := k H (Same.refl H)
            rw [e] at k2
            exact k2
    | @lst p ps ds hp hda =>
      have hd : Dp K H (.ref p) (.list ds) := .lst hp hda
      refine ⟨_, rfl, rfl, _, rfl, iteDF (rne p) ⟨_, rfl, _, _, _, _, _, rfl, .ty _, hd.ty, kit_ty (kit_bool (.list ds)), _, rfl, ⟨_, rfl, _, _, _, _, _, rfl, .ty _, hd.ty, kit_ty (kit_int (.list ds)), _, rfl, ⟨_, rfl, _, _, _, _, _, rfl, .ty _, hd.ty, kit_ty (kit_str (.list ds)), _, rfl, ⟨_, rfl, _, _, _, _, _, rfl, .ty _, hd.ty, kit_ty (kit_tuple (.list ds)), _, rfl, ⟨_, rfl, _, _, _, _, _, rfl, .ty _, hd.ty, kit_ty (kit_list (.list ds)), _, rfl, ⟨_, rfl, _, _, _, _, _, rfl, .ty _, hu2.ty, kit_ty (kit_list x), _, rfl, ?_⟩⟩⟩⟩⟩⟩⟩
      cases hu2 with
      | non => exact k H (Same.refl H)
      | bl a => exact k H (Same.refl H)
      | int i => exact k H (Same.refl H)
      | str z => exact k H (Same.refl H)
      | tup h1 h2 => exact k H (Same.refl H)
      | @lst q us as hq ha =>
          have z1 := ha.length
          have z2 := hda.length
          have hz : ds.length ≤ 1000 ∧ ∀ x ∈ ds, Due n x := lt
          refine ⟨_, rfl, q, _, rfl, .inl hq, _, rfl, p, _, rfl, .inl hp, rfl, _, rfl, ?_⟩
          by_cases c : us.length = ps.length
          · refine iteND (by rw [c]) ?_
            refine ⟨_, rfl, p, _, rfl, .inl hp, _, rfl, by omega, by omega, fun D hD => ?_⟩
            have en : ((ps.length : Nat) : Int).toNat = ps.length := by omega
            refine lc_map (walk_range (lo := 0)) (by omega) hD gm_name (fun j acc _ => ∃ bs : List Bool, acc = bs.map V.bl ∧ bs.all id = leqs (as.take j) (ds.take j)) (fun _ _ _ _ _ r => r) ⟨[], rfl, rfl⟩ (fun _ _ => True.intro) ?_ ?_
            · rintro j y H5 H4 acc hj s4 ⟨bs, rfl, hb⟩ _ ⟨rfl, rfl⟩ Ny ky
              rw [en] at hj
              have e0 : (0 : Int) + (j : Int) = (j : Int) := by omega
              have g1 : us[j]? = some us[j] := List.getElem?_eq_getElem (by omega)
              have g2 : ps[j]? = some ps[j] := List.getElem?_eq_getElem hj
              obtain ⟨d1, hd1, dd1⟩ := ha.get' g1
              obtain ⟨d2, hd2, dd2⟩ := hda.get' g2
              have at1 : atI us (0 + (j : Int)) = some us[j] := by rw [e0]; exact atI_nat g1
              have at2 : atI ps (0 + (j : Int)) = some ps[j] := by rw [e0]; exact atI_nat g2
              refine ⟨rfl, _, rfl, _, rfl, .inl ⟨q, us, _, _, rfl, rfl, Same.seq s4 hq, at1, _, rfl, _, rfl, .inl ⟨p, ps, _, _, rfl, rfl, Same.seq s4 hp, at2, ?_⟩⟩⟩
              refine ⟨_, _, d1, d2, rfl, dd1.same s4, dd2.same s4, hz.2 _ (List.mem_of_getElem? hd2), fun H6 s6 => ky _ _ s6 ⟨bs ++ [leq d1 d2], by rw [List.map_append]; rfl, ?_⟩⟩
              rw [List.take_succ, List.take_succ, hd1, hd2]
              show _ = leqs (as.take j ++ [d1]) (ds.take j ++ [d2])
              rw [leqs_snoc (by rw [List.length_take, List.length_take]; omega), List.all_append, hb, List.all_cons, List.all_nil, Bool.and_true]
              rfl
            · rintro acc H4 s4 ⟨bs, rfl, hb⟩ hdd _
              rw [en, List.take_of_length_le (by omega), List.take_of_length_le (by omega)] at hb
              refine ⟨D, bs, rfl, SqL.of hdd, ?_⟩
              rw [hb]
              have e : leq (.list as) (.list ds) = leqs as ds := by rw [leq]
              have k2 := k H4 s4
              rw [e] at k2
              exact k2
          · refine iteNDF (fun z => c (by injection z with z; omega)) ?_
            have e : leq (.list as) (.list ds) = false := by
              rw [leq]
              exact leqs_len (by omega)
            have k2 := k H (Same.refl H)
            rw [e] at k2
            exact k2
end K76
namespace K76
open PySem PySem.Spec PyProof.Rows L2
/-! ### are_rows -/
def isRow : PyData → Bool
  | .tuple xs => xs.all fun x => isW x 0 20
  | _ => false
def areRows : PyData → Bool
  | .tuple ds => ds.all isTup && ds.all isRow
  | _ => false
def sp_are_rows (K : PySem.W.Frag) : Sp := fun vs H Q _ => ∃ (v : V) (d : PyData), vs = [v] ∧ Dp K H v d ∧ (∀ ds, d = .tuple ds → ds.length ≤ 1000 ∧ ∀ es, .tuple es ∈ ds → es.length ≤ 1000) ∧ ∀ H2, Same H H2 → Q (.bl (areRows d)) H2
abbrev Ok_are_rows (P : Program) (w : World) (K : PySem.W.Frag) (mg : Str → Option Value) (base : Heap) : Prop := Have P w K mg base CX0 "are_rows" 2 ["value"] (sp_are_rows K)
theorem ok_are_rows {P : Program} {w : World} {K : PySem.W.Frag} {mg : Str → Option Value} {base : Heap} (T : Txt K mg) (h_is_whole : Ok_is_whole P w K mg base) : Ok_are_rows P w K mg base := by
  obtain ⟨f_is_whole, fd_is_whole, g_is_whole, kp_is_whole, b_is_whole, G_is_whole⟩ := h_is_whole
  obtain ⟨t_MOST_COMMANDS, c_MOST_COMMANDS⟩ := T.c_MOST_COMMANDS
  refine have_of T.d_are_rows (fun _ _ _ _ _ _ us hl => match us, hl with | [_], _ => rfl) sc_are_rows (fun vs H Q E h => ?_) fun f cdv A outer s H vs Q E hr h => ?_
  · obtain ⟨v, d, rfl, _⟩ := h
    rfl
  have hu := hu_of hr
  have hu65 := hu65_of hr
  obtain ⟨v, d, rfl, hd, hz, k⟩ := h
  refine ⟨_, (pss_cons (ps_if (PW.pt (pw_or (pt_not (pt_val (pe_callB (r := rIsi K) call_isi (by rfl) T.b_isinstance (by decide +kernel) (pa_cons (pv 0) (pa_cons (pe_bltn (v := .ty "tuple") (by rfl) T.b_tuple (by decide +kernel) rfl) pa_nil))))) (pw_or1 (pt_not (pt_val (pe_callB (r := rAll K) (cr_all rfl) (by rfl) T.b_all (by decide +kernel) (pa_cons (pe_lc (own := [("row", 1)]) (g := gName 1) rfl sc_are_rows.nd (pi_tupK (K := K) rfl (pv 0)) (blkOk_by (by kernel_rfl)) (fun _ _ _ _ _ => (pg_name (i := 1) sc_are_rows.nd rfl (Or.inl rfl))) (fun _ _ _ _ _ => pts_nil) (fun _ _ _ _ _ => (pe_callB (r := rIsi K) call_isi (by rfl) T.b_isinstance (by decide +kernel) (pa_cons (pv 1) (pa_cons (pe_bltn (v := .ty "tuple") (by rfl) T.b_tuple (by decide +kernel) rfl) pa_nil))))) pa_nil))))))) (pss_one (ps_ret pe_bl)) pss_nil)
 (pss_one (ps_ret (pe_callB (r := rAll K) (cr_all rfl) (by rfl) T.b_all (by decide +kernel) (pa_cons (pe_lc (own := [("row", 1)]) (g := gName 1) rfl sc_are_rows.nd (pi_tupK (K := K) rfl (pv 0)) (blkOk_by (by kernel_rfl)) (fun _ _ _ _ _ => (pg_name (i := 1) sc_are_rows.nd rfl (Or.inl rfl))) (fun _ _ _ _ _ => pts_nil) (fun _ _ _ _ _ => (pe_callB (r := rAll K) (cr_all rfl) (by rfl) T.b_all (by decide +kernel) (pa_cons (pe_lc (own := [("one", 2)]) (g := gName 2) rfl sc_are_rows.nd (pi_tupK (K := K) rfl (pv 1)) (blkOk_by (by kernel_rfl)) (fun _ _ _ _ _ => (pg_name (i := 2) sc_are_rows.nd rfl (Or.inl rfl))) (fun _ _ _ _ _ => pts_nil) (fun _ _ _ _ _ => (pe_call G_is_whole (hr.mono (by decide)) (by rfl) g_is_whole kp_is_whole b_is_whole .nil pass0 (pa_cons (pv 2) (pa_cons pe_int (pa_cons (pe_glob (v := .int 20) (by rfl) c_MOST_COMMANDS ⟨_, rfl⟩) pa_nil)))))) pa_nil)))) pa_nil))))), ?_⟩
  refine ⟨_, rfl, _, _, _, _, _, rfl, .ty _, hd.ty, kit_ty (kit_tuple d), _, rfl, ?_⟩
  cases hd with
  | non => exact k H (Same.refl H)
  | bl b => exact k H (Same.refl H)
  | int i => exact k H (Same.refl H)
  | str z => exact k H (Same.refl H)
  | lst h1 h2 => exact k H (Same.refl H)
  | @tup p ps ds hp ha =>
    obtain ⟨hz1, hz2⟩ := hz ds rfl
    have pl := ha.length
    refine ⟨_, rfl, p, rfl, ⟨_, hp⟩, fun D hD => lc_map (walk_tup (a := p) (xs := ps)) (by omega) hD gm_name (fun i acc _ => acc = ((ds.take i).map isTup).map V.bl) (fun _ _ _ _ _ r => r) rfl (fun H2 s => Same.sqt s hp) ?_ ?_⟩
    · rintro i x H3 H2 acc hi s2 rfl _ ⟨rfl, hx⟩ Ny ky
      obtain ⟨d, hd, dx⟩ := ha.get' hx
      refine ⟨rfl, _, rfl, _, _, _, _, _, rfl, .ty _, (dx.same s2).ty, kit_ty (kit_tuple d), ky _ _ (Same.refl _) ?_⟩
      rw [List.take_succ, hd, List.map_append, List.map_append]
      rfl
    rintro acc H2 s2 rfl hdd _
    rw [pl, List.take_length] at hdd
    refine ⟨D, _, rfl, SqL.of hdd, _, rfl, ?_⟩
    have e1 : (ds.map isTup).all id = ds.all isTup := by rw [List.all_map]; rfl
    rw [e1]
    have e2 : areRows (.tuple ds) = (ds.all isTup && ds.all isRow) := rfl
    rw [e2] at k
    refine bool2 (fun q => ?_) fun q => ?_
    · have q : ds.all isTup = false := by simpa using q
      rw [q, Bool.false_and] at k
      exact k _ s2
    · have q : ds.all isTup = true := by simpa using q
      rw [q, Bool.true_and] at k
      have hp2 := Same.sqt s2 hp
      refine ⟨_, rfl, p, rfl, ⟨_, hp2⟩, fun D2 hD2 => lc_map (walk_tup (a := p) (xs := ps)) (by omega) hD2 gm_name (fun i acc _ => acc = ((ds.take i).map isRow).map V.bl) (fun _ _ _ _ _ r => r) rfl (fun H3 s => Same.sqt s hp2) ?_ ?_⟩
      · rintro i x H4 H3 acc hi s3 rfl _ ⟨rfl, hx⟩ Ny ky
        obtain ⟨d, hd, dx⟩ := ha.get' hx
        have dx3 := (dx.same s2).same s3
        have ht := List.all_eq_true.mp q d (List.mem_of_getElem? hd)
        cases d with
        | tuple es =>
          obtain ⟨r, xs, rfl, hr2, hxs⟩ := dx3.tupI
          have el := hz2 es (List.mem_of_getElem? hd)
          have xl := hxs.length
          refine ⟨rfl, _, rfl, r, rfl, ⟨_, hr2⟩, fun D4 hD4 => lc_map (walk_tup (a := r) (xs := xs)) (by omega) hD4 gm_name (fun j acc2 _ => acc2 = ((es.take j).map fun e => isW e 0 20).map V.bl) (fun _ _ _ _ _ r => r) rfl (fun H5 s => Same.sqt s hr2) ?_ ?_⟩
          · rintro j y H6 H5 acc2 hj s5 rfl _ ⟨rfl, hy⟩ Ny2 ky2
            obtain ⟨e, he, dy⟩ := hxs.get' hy
            refine ⟨rfl, _, rfl, y, e, 0, 20, rfl, dy.same s5, ky2 _ _ (Same.refl _) ?_⟩
            rw [List.take_succ, he, List.map_append, List.map_append]
            rfl
          · rintro acc2 H5 s5 rfl hdd2 _
            rw [xl, List.take_length] at hdd2
            refine ⟨D4, _, rfl, SqL.of hdd2, ky _ _ s5 ?_⟩
            have e3 : ((es.map fun e => isW e 0 20).all id) = isRow (.tuple es) := by rw [List.all_map]; rfl
            rw [e3, List.take_succ, hd, List.map_append, List.map_append]
            rfl
        | _ => cases ht
      · rintro acc H3 s3 rfl hdd3 _
        rw [pl, List.take_length] at hdd3
        refine ⟨D2, _, rfl, SqL.of hdd3, ?_⟩
        have e3 : (ds.map isRow).all id = ds.all isRow := by rw [List.all_map]; rfl
        rw [e3]
        exact k _ (s2.trans s3)
end K76
namespace K76
open PySem PySem.Spec PyProof.Rows L2
/-! ### records that are right (no program here) -/
def recD (ws : List (List Nat)) (s : S3) (c : Cmd) : PyData := .tuple [cmdD c, rowsD (toldS ws (bhd ws s c))]
def RecOk (ws : List (List Nat)) (s : S3) (c : Cmd) (d : PyData) : Prop := d = recD ws s c ∧ ValC ws c ∧ canB s c = true
def RightP (ws : List (List Nat)) : S3 → List PyData → Prop
  | _, [] => True
  | s, d :: r => ∃ c, RecOk ws s c d ∧ RightP ws (bhd ws s c) r
def Bd (d : PyData) : Prop := ∀ ds, d = .tuple ds → ds.length ≤ 1000 ∧ ∀ es, .tuple es ∈ ds → es.length ≤ 1000
def RecBd (d : PyData) : Prop := ∀ c t, d = .tuple [c, t] → Bd t
theorem isW_nat {d : PyData} {lo hi : Int} (h : isW d lo hi = true) (h0 : 0 ≤ lo) : ∃ i : Nat, d = .int (i : Nat) ∧ (i : Int) ≤ hi ∧ lo ≤ (i : Int) := by
  cases d with
  | int i =>
    have h : (decide (lo ≤ i) && decide (i ≤ hi)) = true := h
    rw [Bool.and_eq_true, decide_eq_true_eq, decide_eq_true_eq] at h
    refine ⟨i.toNat, ?_, by omega, by omega⟩
    have e : ((i.toNat : Nat) : Int) = i := by omega
    rw [e]
  | _ => cases h
theorem cmdB_one {n : Nat} {x : Str} {r : List PyData} (c : x = "step" ∨ x = "join") : cmdB n (.tuple (.str x :: r)) = (r.length == 0) := if_pos c
theorem cmdB_two {n : Nat} {x : Str} {d : PyData} (c : ¬ (x = "step" ∨ x = "join")) : cmdB n (.tuple [.str x, d]) = if x = "send" then isW d 0 ((n : Int) - 1) else decide (x = "leave") && isW d 0 5 := if_neg c
theorem cmdB_0 {n : Nat} {x : Str} (c : ¬ (x = "step" ∨ x = "join")) : cmdB n (.tuple [.str x]) = false := if_neg c
theorem cmdB_3 {n : Nat} {x : Str} {d e : PyData} {r : List PyData} (c : ¬ (x = "step" ∨ x = "join")) : cmdB n (.tuple (.str x :: d :: e :: r)) = false := if_neg c
theorem lcmdB_one {x : Str} {r : List PyData} (c : x = "step" ∨ x = "join") : lcmdB (.tuple (.str x :: r)) = (r.length == 0) := if_pos c
theorem lcmdB_two {x : Str} {r : List PyData} (c : ¬ (x = "step" ∨ x = "join")) : lcmdB (.tuple (.str x :: r)) = (decide (x = "send" ∨ x = "leave") && r.length == 1) := if_neg c
theorem cmd_of {n : Nat} {ws : List (List Nat)} (hn : n = ws.length) {d : PyData} (h : cmdB n d = true) : ∃ c, d = cmdD c ∧ ValC ws c := by
  subst hn
  cases d with
  | tuple ds =>
    cases ds with
    | nil => cases h
    | cons x r =>
      cases x with
      | str x =>
        by_cases c1 : x = "step" ∨ x = "join"
        · rw [cmdB_one c1] at h
          have hr : r = [] := List.eq_nil_of_length_eq_zero (beq_iff_eq.mp h)
          subst hr
          rcases c1 with rfl | rfl
          · exact ⟨.step, rfl, True.intro⟩
          · exact ⟨.join, rfl, True.intro⟩
        · cases r with
          | nil => rw [cmdB_0 c1] at h; cases h
          | cons d r =>
            cases r with
            | cons e r => rw [cmdB_3 c1] at h; cases h
            | nil =>
              rw [cmdB_two c1] at h
              by_cases c2 : x = "send"
              · rw [if_pos c2] at h
                obtain ⟨i, rfl, h1, h2⟩ := isW_nat h (Int.le_refl 0)
                subst c2
                exact ⟨.send i, rfl, show i < ws.length by omega⟩
              · rw [if_neg c2, Bool.and_eq_true, decide_eq_true_eq] at h
                obtain ⟨rfl, h⟩ := h
                obtain ⟨i, rfl, h1, h2⟩ := isW_nat h (Int.le_refl 0)
                exact ⟨.leave i, rfl, show i ≤ 5 by omega⟩
      | _ => cases h
  | _ => cases h
theorem not_sj : ¬ (("send" : Str) = "step" ∨ ("send" : Str) = "join") := by
  rintro (z | z)
  · exact n_ss z.symm
  · exact n_js z.symm
theorem not_lj : ¬ (("leave" : Str) = "step" ∨ ("leave" : Str) = "join") := by
  rintro (z | z)
  · exact n_lt z
  · exact n_lj z
theorem isW_of {i : Nat} {lo hi : Int} (h1 : lo ≤ i) (h2 : (i : Int) ≤ hi) : isW (.int (i : Nat)) lo hi = true := by
  show (decide (lo ≤ (i : Int)) && decide ((i : Int) ≤ hi)) = true
  rw [decide_eq_true h1, decide_eq_true h2]
  rfl
theorem cmd_is {ws : List (List Nat)} {c : Cmd} (h : ValC ws c) : cmdB ws.length (cmdD c) = true := by
  cases c with
  | send n =>
    have h : n < ws.length := h
    refine (cmdB_two not_sj).trans ?_
    rw [if_pos rfl]
    exact isW_of (by omega) (by omega)
  | step => exact cmdB_one (.inl rfl)
  | join => exact cmdB_one (.inr rfl)
  | leave n =>
    have h : n ≤ 5 := h
    refine (cmdB_two not_lj).trans ?_
    rw [if_neg n_ls, decide_eq_true rfl, Bool.true_and]
    exact isW_of (by omega) (by omega)
theorem cmd_l : ∀ c : Cmd, lcmdB (cmdD c) = true
  | .send n => by
    refine (lcmdB_two not_sj).trans ?_
    rw [decide_eq_true (.inl rfl)]
    rfl
  | .step => lcmdB_one (.inl rfl)
  | .join => lcmdB_one (.inr rfl)
  | .leave n => by
    refine (lcmdB_two not_lj).trans ?_
    rw [decide_eq_true (.inr rfl)]
    rfl
theorem row_nat {d : PyData} (h : isRow d = true) : ∃ l : List Nat, d = intsD l := by
  cases d with
  | tuple xs =>
    have h : (xs.all fun x => isW x 0 20) = true := h
    have go : ∀ xs : List PyData, (xs.all fun x => isW x 0 20) = true → ∃ l : List Nat, xs = l.map fun (i : Nat) => PyData.int i := by
      intro xs
      induction xs with
      | nil => intro _; exact ⟨[], rfl⟩
      | cons x r ih =>
        intro h
        rw [List.all_cons, Bool.and_eq_true] at h
        obtain ⟨i, rfl, _⟩ := isW_nat h.1 (Int.le_refl 0)
        obtain ⟨l, rfl⟩ := ih h.2
        exact ⟨i :: l, rfl⟩
    obtain ⟨l, rfl⟩ := go xs h
    exact ⟨l, rfl⟩
  | _ => cases h
theorem rows_nat {d : PyData} (h : areRows d = true) : ∃ r : List (List Nat), d = rowsD r := by
  cases d with
  | tuple ds =>
    have h : (ds.all isTup && ds.all isRow) = true := h
    rw [Bool.and_eq_true] at h
    have go : ∀ ds : List PyData, ds.all isRow = true → ∃ r : List (List Nat), ds = r.map intsD := by
      intro ds
      induction ds with
      | nil => intro _; exact ⟨[], rfl⟩
      | cons x r ih =>
        intro h
        rw [List.all_cons, Bool.and_eq_true] at h
        obtain ⟨l, rfl⟩ := row_nat h.1
        obtain ⟨q, rfl⟩ := ih h.2
        exact ⟨l :: q, rfl⟩
    obtain ⟨r, rfl⟩ := go ds h.2
    exact ⟨r, rfl⟩
  | _ => cases h
theorem rows_are {r : List (List Nat)} (h : ∀ l ∈ r, ∀ i ∈ l, i ≤ 20) : areRows (rowsD r) = true := by
  show ((r.map intsD).all isTup && (r.map intsD).all isRow) = true
  rw [Bool.and_eq_true, List.all_eq_true, List.all_eq_true]
  constructor
  · intro d hd
    obtain ⟨l, _, rfl⟩ := List.mem_map.mp hd
    rfl
  · intro d hd
    obtain ⟨l, hl, rfl⟩ := List.mem_map.mp hd
    show ((l.map fun (i : Nat) => PyData.int i).all fun x => isW x 0 20) = true
    rw [List.all_eq_true]
    intro x hx
    obtain ⟨i, hi, rfl⟩ := List.mem_map.mp hx
    have := h l hl i hi
    exact isW_of (by omega) (by omega)
theorem told_20 {ws : List (List Nat)} {n : Nat} {s : S3} (o : StOk ws n s) (hn : n ≤ 20) : ∀ l ∈ toldS ws s, ∀ i ∈ l, i ≤ 20 := by
  intro l hl i hi
  obtain ⟨j, hj, rfl⟩ := List.mem_map.mp hl
  have h1 := List.mem_range.mp (List.mem_filter.mp hi).1
  rw [List.length_drop] at h1
  have := o.sent
  omega
theorem n_sl : ¬ (("send" : Str)) = "leave" := by decide +kernel
theorem n_tj : ¬ (("step" : Str)) = "join" := by decide +kernel
theorem two_inj {x y : Str} {n m : Nat} (h : PyData.tuple [.str x, .int n] = .tuple [.str y, .int m]) : x = y ∧ n = m := by
  injection h with h
  injection h with h1 h2
  injection h1 with h1
  injection h2 with h2 _
  injection h2 with h2
  exact ⟨h1, by omega⟩
theorem one_inj {x y : Str} (h : PyData.tuple [.str x] = .tuple [.str y]) : x = y := by
  injection h with h
  injection h with h1 _
  injection h1
theorem one_two {x y : Str} {d : PyData} (h : PyData.tuple [.str x] = .tuple [.str y, d]) : False := by
  injection h with h
  injection h with _ h2
  cases h2
theorem cmdD_inj : ∀ {c e : Cmd}, cmdD c = cmdD e → c = e
  | .send n, .send m, h => by rw [(two_inj h).2]
  | .send n, .leave m, h => absurd (two_inj h).1 n_sl
  | .leave n, .send m, h => absurd (two_inj h).1.symm n_sl
  | .leave n, .leave m, h => by rw [(two_inj h).2]
  | .step, .step, _ => rfl
  | .join, .join, _ => rfl
  | .step, .join, h => absurd (one_inj h) n_tj
  | .join, .step, h => absurd (one_inj h).symm n_tj
  | .step, .send _, h => (one_two h).elim
  | .step, .leave _, h => (one_two h).elim
  | .join, .send _, h => (one_two h).elim
  | .join, .leave _, h => (one_two h).elim
  | .send _, .step, h => (one_two h.symm).elim
  | .leave _, .step, h => (one_two h.symm).elim
  | .send _, .join, h => (one_two h.symm).elim
  | .leave _, .join, h => (one_two h.symm).elim
theorem rowsD_inj {a b : List (List Nat)} (h : rowsD a = rowsD b) : a = b := by
  have q := eqv_rows a b
  rw [h, eqv_rows, decide_eq_true rfl] at q
  exact of_decide_eq_true q.symm
theorem recD_inj {ws : List (List Nat)} {s : S3} {c e : Cmd} {d : PyData} (h : PyData.tuple [cmdD c, d] = recD ws s e) : c = e ∧ d = rowsD (toldS ws (bhd ws s c)) := by
  injection h with h
  injection h with h1 h2
  injection h2 with h2 _
  have q := cmdD_inj h1
  subst q
  exact ⟨rfl, h2⟩
def sp_state_behind (K : PySem.W.Frag) : Sp := fun vs H Q _ => ∃ (a : Addr) (sv rv : V) (ws : List (List Nat)) (s : S3) (n : Nat) (d : PyData), vs = [.ref a, sv, rv] ∧ SqT K H a (wV ws) ∧ OkC ws ∧ Dp K H sv (s3D s) ∧ StOk ws n s ∧ n < 20 ∧ Obs ws s ∧ Dp K H rv d ∧ RecBd d ∧
  (∀ c, RecOk ws s c d → ∀ v H2, Same H H2 → Dp K H2 v (s3D (bhd ws s c)) → Q v H2) ∧ ((¬ ∃ c, RecOk ws s c d) → ∀ H2, Same H H2 → Q .non H2)
abbrev Ok_state_behind (P : Program) (w : World) (K : PySem.W.Frag) (mg : Str → Option Value) (base : Heap) : Prop := Have P w K mg base CX0 "state_behind" 7 ["code", "state", "record"] (sp_state_behind K)
theorem ok_state_behind {P : Program} {w : World} {K : PySem.W.Frag} {mg : Str → Option Value} {base : Heap} (T : Txt K mg) (h_is_command : Ok_is_command P w K mg base) (h_behind : Ok_behind P w K mg base) (h_known_to : Ok_known_to P w K mg base) (h_are_rows : Ok_are_rows P w K mg base) : Ok_state_behind P w K mg base := by
  obtain ⟨f_is_command, fd_is_command, g_is_command, kp_is_command, b_is_command, G_is_command⟩ := h_is_command
  obtain ⟨C, fI, fd, NP, f_behind, fd_behind, g_behind, kp_behind, b_behind, G_behind⟩ := h_behind
  obtain ⟨f_known_to, fd_known_to, g_known_to, kp_known_to, b_known_to, G_known_to⟩ := h_known_to
  obtain ⟨f_are_rows, fd_are_rows, g_are_rows, kp_are_rows, b_are_rows, G_are_rows⟩ := h_are_rows
  refine have_of T.d_state_behind (fun _ _ _ _ _ _ us hl => match us, hl with | [_, _, _], _ => rfl) sc_state_behind (fun vs H Q E h => ?_) fun f cdv A outer s0 H vs Q E hr h => ?_
  · obtain ⟨a, sv, rv, ws, s, n, d, rfl, _⟩ := h
    rfl
  have hu := hu_of hr
  have hu65 := hu65_of hr
  obtain ⟨a, sv, rv, ws, s, n, d, rfl, hS, ok, hs, so, hn, ob, hd, bd, kY, kN⟩ := h
  refine ⟨_, (pss_cons (ps_if (PW.pt (pw_or (pt_not (pt_val (pe_callB (r := rIsi K) call_isi (by rfl) T.b_isinstance (by decide +kernel) (pa_cons (pv 2) (pa_cons (pe_bltn (v := .ty "tuple") (by rfl) T.b_tuple (by decide +kernel) rfl) pa_nil))))) (pw_or (pt_cmpR op_ne (pe_callB (r := rLenQ K) call_lenQ (by rfl) T.b_len (by decide +kernel) (pa_cons (pv 2) pa_nil)) pe_int (nomark _)) (pw_or1 (pt_not (pt_val (pe_call G_is_command (hr.mono (by decide)) (by rfl) g_is_command kp_is_command b_is_command .nil pass0 (pa_cons (pe_ix (r := rIxT K) ix_tup (pv 2) pe_int (fun _ _ => rfl)) (pa_cons (pv 0) pa_nil))))))))) (pss_one (ps_ret pe_non)) pss_nil)
 (pss_cons (ps_try_only (Wout := fun _ _ _ _ => False) rfl rfl ⟨rfl, by decide, Or.inl NP.g⟩ takes0 (fun W pn xe tk _ => (pss_one (ps_set (i := 3) sc_state_behind.nd rfl (Or.inl rfl) (pe_callS G_behind (hr.mono (by decide)) (by rfl) g_behind kp_behind b_behind (fun σ => passAt tk σ) (pa_cons (pv 0) (pa_cons (pv 1) (pa_cons (pe_ix (r := rIxT K) ix_tup (pv 2) pe_int (fun _ _ => rfl)) pa_nil))))))) (fun _ _ _ _ _ _ _ => (pss_one (ps_ret pe_non))))
 (pss_one (ps_ret (pe_ifExp (PW.pt (pw_and (pt_val (pe_call G_are_rows (hr.mono (by decide)) (by rfl) g_are_rows kp_are_rows b_are_rows .nil pass0 (pa_cons (pe_ix (r := rIxT K) ix_tup (pv 2) pe_int (fun _ _ => rfl)) pa_nil))) (pw_and1 (pt_cmpR (r := rEqD K) (op_eqD hr.units) (pe_ix (r := rIxT K) ix_tup (pv 2) pe_int (fun _ _ => rfl)) (pe_call G_known_to (hr.mono (by decide)) (by rfl) g_known_to kp_known_to b_known_to .nil pass0 (pa_cons (pv 0) (pa_cons (pv 3) pa_nil))) (nomark _))))) (pv 3) pe_non))))), ?_⟩
  refine ⟨_, rfl, _, _, _, _, _, rfl, .ty _, hd.ty, kit_ty (kit_tuple d), _, rfl, ?_⟩
  cases d with
  | none => exact kN (fun ⟨c, hc, _⟩ => by cases hc) H (Same.refl H)
  | bool b => exact kN (fun ⟨c, hc, _⟩ => by cases hc) H (Same.refl H)
  | int i => exact kN (fun ⟨c, hc, _⟩ => by cases hc) H (Same.refl H)
  | str z => exact kN (fun ⟨c, hc, _⟩ => by cases hc) H (Same.refl H)
  | list xs => exact kN (fun ⟨c, hc, _⟩ => by cases hc) H (Same.refl H)
  | dict kvs => exact kN (fun ⟨c, hc, _⟩ => by cases hc) H (Same.refl H)
  | tuple ds =>
    obtain ⟨p, xs, rfl, hp, ha⟩ := hd.tupI
    have xl := ha.length
    refine ⟨_, rfl, p, _, rfl, .inr hp, rfl, _, rfl, ?_⟩
    by_cases c2 : xs.length = 2
    · refine iteND (by rw [c2]; rfl) ?_
      obtain ⟨cd, td, rfl⟩ : ∃ cd td, ds = [cd, td] := by
        rw [xl] at c2
        match ds, c2 with
        | [x, y], _ => exact ⟨x, y, rfl⟩
      obtain ⟨cv, r1, rfl, dcv, ha⟩ := ha.consI
      obtain ⟨tv, r2, rfl, dtv, ha⟩ := ha.consI
      cases ha
      have at0 : atI [cv, tv] 0 = some cv := atI_nat (j := 0) rfl
      have at1 : atI [cv, tv] 1 = some tv := atI_nat (j := 1) rfl
      refine ⟨_, rfl, p, _, 0, _, rfl, rfl, hp, at0, _, rfl, cv, cd, a, ws, rfl, dcv, hS, fun H1 s1 => ⟨_, rfl, ?_⟩⟩
      refine bool2 (fun q => ?_) fun q => ?_
      · have q : cmdB ws.length cd = false := by simpa using q
        refine kN (fun ⟨c, hc, hv, _⟩ => ?_) H1 s1
        injection hc with hc
        injection hc with hc _
        rw [hc, cmd_is hv] at q
        cases q
      · have q : cmdB ws.length cd = true := by simpa using q
        obtain ⟨c, rfl, vc⟩ := cmd_of rfl q
        have hs1 := hs.same s1
        have hS1 := Same.sqt s1 hS
        have hp1 := Same.sqt s1 hp
        refine ⟨_, rfl, _, rfl, _, rfl, p, _, 0, _, rfl, rfl, hp1, at0, ?_⟩
        refine ⟨a, ws, sv, cv, s, c, rfl, hS1, ok, hs1, dcv.same s1, vc, so.ins, by have := so.sent; omega, so.jo, fun can v H2 s2 hv => ?_, fun can d2 H2 s2 => ⟨true, NP.te, fun _ _ _ => ?_, fun z => nomatch z⟩⟩
        · have so2 := stOk_bhd so vc can
          have ob2 := obs_bhd so ob vc can
          have s12 := s1.trans s2
          have hp2 := Same.sqt s12 hp
          have dt2 := dtv.same s12
          refine ⟨_, rfl, p, _, 1, _, rfl, rfl, hp2, at1, tv, td, rfl, dt2, bd _ _ rfl, fun H3 s3 => ⟨_, rfl, ?_⟩⟩
          have s13 := s12.trans s3
          refine bool2 (fun ar => ?_) fun ar => ?_
          · obtain ⟨r, rfl⟩ := rows_nat ar
            refine ⟨_, rfl, p, _, 1, _, rfl, rfl, Same.sqt s3 hp2, at1, _, rfl, _, rfl, a, v, ws, bhd ws s c, n + 1, rfl, Same.sqt s13 hS, ok, hv.same s3, so2, by omega, ob2, fun w2 H4 s4 hw => ?_⟩
            refine ⟨_, _, (dt2.same s3).same s4, hw, (sh_rows r).shaped (by decide), (sh_rows _).shaped (by decide), _, rfl, ?_⟩
            rw [eqv_rows]
            by_cases e : r = toldS ws (bhd ws s c)
            · subst e
              exact iteD rfl ⟨_, rfl, kY c ⟨rfl, vc, can⟩ _ _ (s13.trans s4) ((hv.same s3).same s4)⟩
            · refine iteDF e (kN (fun ⟨c3, hc3, _⟩ => ?_) _ (s13.trans s4))
              exact e (rowsD_inj (recD_inj hc3).2)
          · refine kN (fun ⟨c3, hc3, _⟩ => ?_) _ s13
            obtain ⟨rfl, e⟩ := recD_inj hc3
            rw [e, rows_are (told_20 so2 (by omega))] at ar
            cases ar
        · refine kN (fun ⟨c3, hc3, _, can3⟩ => ?_) _ (s1.trans s2)
          obtain ⟨rfl, e⟩ := recD_inj hc3
          rw [can] at can3
          cases can3
    · refine iteNDF (fun z => c2 (by injection z with z; omega)) ?_
      refine kN (fun ⟨c, hc, _⟩ => ?_) H (Same.refl H)
      injection hc with hc
      rw [xl, hc] at c2
      exact c2 rfl
def sp_are_right (K : PySem.W.Frag) : Sp := fun vs H Q _ => ∃ (a : Addr) (rv : V) (ws : List (List Nat)) (d : PyData), vs = [.ref a, rv] ∧ SqT K H a (wV ws) ∧ OkC ws ∧ Dp K H rv d ∧ (∀ ds, d = .tuple ds → ds.length ≤ 20 ∧ ∀ e ∈ ds, RecBd e) ∧
  ((∃ ds, d = .tuple ds ∧ RightP ws s0 ds) → ∀ H2, Same H H2 → Q (.bl true) H2) ∧ ((¬ ∃ ds, d = .tuple ds ∧ RightP ws s0 ds) → ∀ H2, Same H H2 → Q (.bl false) H2)
abbrev Ok_are_right (P : Program) (w : World) (K : PySem.W.Frag) (mg : Str → Option Value) (base : Heap) : Prop := Have P w K mg base CX0 "are_right" 8 ["code", "records"] (sp_are_right K)
theorem ok_are_right {P : Program} {w : World} {K : PySem.W.Frag} {mg : Str → Option Value} {base : Heap} (T : Txt K mg) (h_check_code : Ok_check_code P w K mg base) (h_state_behind : Ok_state_behind P w K mg base) : Ok_are_right P w K mg base := by
  obtain ⟨f_check_code, fd_check_code, g_check_code, kp_check_code, b_check_code, G_check_code⟩ := h_check_code
  obtain ⟨f_state_behind, fd_state_behind, g_state_behind, kp_state_behind, b_state_behind, G_state_behind⟩ := h_state_behind
  obtain ⟨t_MOST_COMMANDS, c_MOST_COMMANDS⟩ := T.c_MOST_COMMANDS
  refine have_of T.d_are_right (fun _ _ _ _ _ _ us hl => match us, hl with | [_, _], _ => rfl) sc_are_right (fun vs H Q E h => ?_) fun f cdv A outer s H vs Q E hr h => ?_
  · obtain ⟨a, rv, ws, d, rfl, _⟩ := h
    rfl
  have hu := hu_of hr
  have hu65 := hu65_of hr
  obtain ⟨a, rv, ws, d, rfl, hS, ok, hd, hz, kY, kN⟩ := h
  refine ⟨_, (pss_cons (ps_expr (pe_call G_check_code (hr.mono (by decide)) (by rfl) g_check_code kp_check_code b_check_code .nil pass0 (pa_cons (pv 0) pa_nil)))
 (pss_cons (ps_if (PW.pt (pw_or (pt_not (pt_val (pe_callB (r := rIsi K) call_isi (by rfl) T.b_isinstance (by decide +kernel) (pa_cons (pv 1) (pa_cons (pe_bltn (v := .ty "tuple") (by rfl) T.b_tuple (by decide +kernel) rfl) pa_nil))))) (pw_or1 (pt_cmpR op_gt (pe_callB (r := rLenQ K) call_lenQ (by rfl) T.b_len (by decide +kernel) (pa_cons (pv 1) pa_nil)) (pe_glob (v := .int 20) (by rfl) c_MOST_COMMANDS ⟨_, rfl⟩) (nomark _))))) (pss_one (ps_ret pe_bl)) pss_nil)
 (pss_cons (ps_set (i := 2) sc_are_right.nd rfl (Or.inl rfl) (pe_tup (pa_cons pe_str (pa_cons pe_non (pa_cons (pe_tup pa_nil) pa_nil)))))
 (pss_cons (ps_for PassesOwn.never rfl (pi_tupK (K := K) rfl (pv 1)) (pg_name (i := 3) sc_are_right.nd rfl (Or.inl rfl))
 (pss_cons (ps_set (i := 2) sc_are_right.nd rfl (Or.inl rfl) (pe_call G_state_behind (hr.mono (by decide)) (by rfl) g_state_behind kp_state_behind b_state_behind .nil pass0 (pa_cons (pv 0) (pa_cons (pv 2) (pa_cons (pv 3) pa_nil)))))
 (pss_one (ps_if (pt_cmpR op_isN (pv 2) pe_non (nomark _)) (pss_one (ps_ret pe_bl)) pss_nil))))
 (pss_one (ps_ret pe_bl)))))), ?_⟩
  refine ⟨_, rfl, a, ws, rfl, hS, ok, fun H1 s1 => ?_⟩
  have hd1 := hd.same s1
  refine ⟨_, rfl, _, _, _, _, _, rfl, .ty _, hd1.ty, kit_ty (kit_tuple d), _, rfl, ?_⟩
  cases d with
  | none => exact kN (fun ⟨c, hc, _⟩ => by cases hc) _ s1
  | bool b => exact kN (fun ⟨c, hc, _⟩ => by cases hc) _ s1
  | int i => exact kN (fun ⟨c, hc, _⟩ => by cases hc) _ s1
  | str z => exact kN (fun ⟨c, hc, _⟩ => by cases hc) _ s1
  | list xs => exact kN (fun ⟨c, hc, _⟩ => by cases hc) _ s1
  | dict kvs => exact kN (fun ⟨c, hc, _⟩ => by cases hc) _ s1
  | tuple ds =>
    obtain ⟨p, xs, rfl, hp, ha⟩ := hd1.tupI
    obtain ⟨hz1, hz2⟩ := hz ds rfl
    have xl := ha.length
    refine ⟨_, rfl, p, _, rfl, .inr hp, _, _, rfl, rfl, _, rfl, iteDF (by omega) ?_⟩
    refine ⟨Nat.zero_le _, fun e he => ⟨by show 3 ≤ sizeLine; decide, fun f0 hf0 => ?_⟩⟩
    have s2 : Same H1 (upd (upd H1 e (.tup [])) f0 (.tup [.str "", .non, .ref e])) := (Same.new he).then hf0
    have hd0 : Dp K (upd (upd H1 e (.tup [])) f0 (.tup [.str "", .non, .ref e])) (.ref f0) (s3D s0) := by
      show Dp K _ (.ref f0) (.tuple [.str (mkS []), .none, .tuple []])
      rw [mkS_nil]
      exact .tup (SqT.of upd_same) (.cons (.str _) (.cons .non (.cons (.tup (Same.sqt (Same.new hf0) (SqT.of upd_same)) .nil) .nil)))
    generalize upd (upd H1 e (.tup [])) f0 (.tup [.str "", .non, .ref e]) = H2 at s2 hd0 ⊢
    have hp2 := Same.sqt s2 hp
    have s02 := s1.trans s2
    refine ⟨_, rfl, p, rfl, ⟨_, hp2⟩, ?_⟩
    refine for_it (walk_tup (a := p) (xs := xs)) (fun i σ H3 => ∃ (sv : V) (x3 : Option V) (s : S3), σ = [some (.ref a), some (.ref p), some sv, x3] ∧ Same H2 H3 ∧ Dp K H3 sv (s3D s) ∧ StOk ws i s ∧ Obs ws s ∧ (RightP ws s0 ds ↔ RightP ws s (ds.drop i))) ?_ ?_ ?_ ?_
    · exact ⟨.ref f0, _, s0, rfl, Same.refl _, hd0, stOk_0 ws, obs_0 ws, Iff.rfl⟩
    · rintro i σ H3 hi ⟨sv, x3, s, rfl, s3, hs, so, ob, ri⟩
      exact Same.sqt s3 hp2
    · rintro i x σ H4 H3 hi ⟨sv, x3, s, rfl, s3, hs, so, ob, ri⟩ ⟨rfl, hx⟩
      obtain ⟨d, hd3, dx⟩ := ha.get' hx
      have md := List.mem_of_getElem? hd3
      have s03 := s02.trans s3
      have drop : ds.drop i = d :: ds.drop (i + 1) := by
        have lt := (List.getElem?_eq_some_iff.mp hd3).1
        rw [List.drop_eq_getElem_cons lt, (List.getElem?_eq_some_iff.mp hd3).2]
      refine ⟨_, rfl, _, rfl, _, rfl, a, sv, x, ws, s, i, d, rfl, Same.sqt s03 hS, ok, hs, so, by omega, ob, (dx.same s2).same s3, hz2 d md, fun c rc v H5 s5 hv => ?_, fun no H5 s5 => ?_⟩
      · obtain ⟨va, vxs, rfl, _⟩ := hv.tupI (ds := [.str (mkS (bhd ws s c).sent), stD (bhd ws s c).ins, intsD (bhd ws s c).jo])
        refine ⟨_, rfl, rfl, _, rfl, iteDF (rne va) ⟨_, _, bhd ws s c, rfl, s3.trans s5, hv, stOk_bhd so rc.2.1 rc.2.2, obs_bhd so ob rc.2.1 rc.2.2, ri.trans ?_⟩⟩
        rw [drop]
        constructor
        · rintro ⟨c2, r2, q⟩
          obtain ⟨rfl, _⟩ := recD_inj (ws := ws) (s := s) (rc.1.symm.trans r2.1)
          exact q
        · exact fun q => ⟨c, rc, q⟩
      · refine ⟨_, rfl, rfl, _, rfl, iteD rfl (kN (fun ⟨ds2, e2, q⟩ => ?_) _ (s03.trans s5))⟩
        injection e2 with e2
        subst e2
        have q := ri.mp q
        rw [drop] at q
        obtain ⟨c, rc, _⟩ := q
        exact no ⟨c, rc⟩
    · rintro σ H3 ⟨sv, x3, s, rfl, s3, hs, so, ob, ri⟩
      refine kY ⟨ds, rfl, ri.mpr ?_⟩ _ (s02.trans s3)
      rw [xl, List.drop_length]
      exact True.intro
end K76
namespace K76
open PySem PySem.Spec PyProof.Rows L2
/-! ### the law's are_right -/
theorem leq_int {x : PyData} {i : Nat} : leq x (.int (i : Nat)) = true ↔ x = .int (i : Nat) := by
  cases x with
  | int j =>
    rw [leq, decide_eq_true_eq]
    exact ⟨fun h => by rw [h], fun h => by injection h⟩
  | _ => exact ⟨fun h => by simp [leq] at h, fun h => by cases h⟩
theorem leqs_map {α : Type} {f : α → PyData} (h : ∀ x a, leq x (f a) = true ↔ x = f a) : ∀ (xs : List PyData) (l : List α), leqs xs (l.map f) = true ↔ xs = l.map f
  | [], [] => by simp [leqs]
  | [], _ :: _ => by simp [leqs]
  | _ :: _, [] => by simp [leqs]
  | x :: xs, a :: l => by
    rw [List.map_cons, leqs, Bool.and_eq_true, h, leqs_map h xs l]
    exact ⟨fun q => by rw [q.1, q.2], fun q => by injection q with q1 q2; exact ⟨q1, q2⟩⟩
theorem leq_tup {xs ys : List PyData} : leq (.tuple xs) (.tuple ys) = leqs xs ys := by rw [leq]
theorem leq_tuple {x : PyData} {ys : List PyData} (h : ∀ xs, leqs xs ys = true ↔ xs = ys) : leq x (.tuple ys) = true ↔ x = .tuple ys := by
  cases x with
  | tuple xs =>
    rw [leq_tup, h]
    exact ⟨fun q => by rw [q], fun q => by injection q⟩
  | _ => exact ⟨fun h => by simp [leq] at h, fun h => by cases h⟩
theorem leq_ints {x : PyData} (l : List Nat) : leq x (intsD l) = true ↔ x = intsD l := leq_tuple fun xs => leqs_map (fun x a => leq_int) xs l
theorem leq_rows {x : PyData} (r : List (List Nat)) : leq x (rowsD r) = true ↔ x = rowsD r := leq_tuple fun xs => leqs_map (fun x a => leq_ints a) xs r
theorem due_ints {n : Nat} {l : List Nat} (h : l.length ≤ 1000) : Due (n + 2) (intsD l) := by
  refine ⟨by rw [List.length_map]; exact h, fun x hx => ?_⟩
  obtain ⟨i, _, rfl⟩ := List.mem_map.mp hx
  exact True.intro
theorem due_rows {n : Nat} {r : List (List Nat)} (h : r.length ≤ 1000) (g : ∀ l ∈ r, l.length ≤ 1000) : Due (n + 3) (rowsD r) := by
  refine ⟨by rw [List.length_map]; exact h, fun x hx => ?_⟩
  obtain ⟨l, hl, rfl⟩ := List.mem_map.mp hx
  exact due_ints (g l hl)
theorem told_len {ws : List (List Nat)} {n : Nat} {s : S3} (o : StOk ws n s) (hn : n ≤ 20) : (toldS ws s).length ≤ 6 ∧ ∀ l ∈ toldS ws s, l.length ≤ 21 := by
  refine ⟨by unfold toldS; rw [List.length_map]; exact o.jo, fun l hl => ?_⟩
  obtain ⟨j, hj, rfl⟩ := List.mem_map.mp hl
  unfold knownS
  have h1 := List.length_filter_le (fun p => decide (rowN ws (both ws (s.sent.drop j) p) = [0])) (List.range ((s.sent.drop j).length + 1))
  rw [List.length_range, List.length_drop] at h1
  have := o.sent
  rw [List.length_drop]
  omega
abbrev Ok_l_equal (P : Program) (w : World) (K : PySem.W.Frag) (mg : Str → Option Value) (base : Heap) : Prop := Ok_leq P w K mg base 5
def CmdFine (ws : List (List Nat)) (e : PyData) : Prop := ∀ c t, e = .tuple [c, t] → lcmdB c = true → ∃ cc, c = cmdD cc ∧ ValC ws cc
def sp_l_are_right (K : PySem.W.Frag) : Sp := fun vs H Q _ => ∃ (a : Addr) (rv : V) (ws : List (List Nat)) (d : PyData), vs = [.ref a, rv] ∧ SqT K H a (wV ws) ∧ OkC ws ∧ Dp K H rv d ∧ (∀ ds, d = .tuple ds → ds.length ≤ 20 ∧ ∀ e ∈ ds, CmdFine ws e) ∧
  ((∃ ds, d = .tuple ds ∧ RightP ws s0 ds) → ∀ H2, Same H H2 → Q (.bl true) H2) ∧ ((¬ ∃ ds, d = .tuple ds ∧ RightP ws s0 ds) → ∀ H2, Same H H2 → Q (.bl false) H2)
abbrev Ok_l_are_right (P : Program) (w : World) (K : PySem.W.Frag) (mg : Str → Option Value) (base : Heap) : Prop := Have P w K mg base CX0 "_law_are_right" 8 ["_law_code_here", "_law_records"] (sp_l_are_right K)
theorem ok_l_are_right {P : Program} {w : World} {K : PySem.W.Frag} {mg : Str → Option Value} {base : Heap} (T : Txt K mg) (h_l_is_command : Ok_l_is_command P w K mg base) (h_l_why_not : Ok_l_why_not P w K mg base) (h_l_behind : Ok_l_behind P w K mg base) (h_l_equal : Ok_l_equal P w K mg base) (h_l_told_all : Ok_l_told_all P w K mg base) : Ok_l_are_right P w K mg base := by
  obtain ⟨f_l_is_command, fd_l_is_command, g_l_is_command, kp_l_is_command, b_l_is_command, G_l_is_command⟩ := h_l_is_command
  obtain ⟨f_l_why_not, fd_l_why_not, g_l_why_not, kp_l_why_not, b_l_why_not, G_l_why_not⟩ := h_l_why_not
  obtain ⟨f_l_behind, fd_l_behind, g_l_behind, kp_l_behind, b_l_behind, G_l_behind⟩ := h_l_behind
  obtain ⟨f_l_equal, fd_l_equal, g_l_equal, kp_l_equal, b_l_equal, G_l_equal⟩ := h_l_equal
  obtain ⟨f_l_told_all, fd_l_told_all, g_l_told_all, kp_l_told_all, b_l_told_all, G_l_told_all⟩ := h_l_told_all
  refine have_of T.d_l_are_right (fun _ _ _ _ _ _ us hl => match us, hl with | [_, _], _ => rfl) sc_l_are_right (fun vs H Q E h => ?_) fun f cdv A outer s H vs Q E hr h => ?_
  · obtain ⟨a, rv, ws, d, rfl, _⟩ := h
    rfl
  have hu := hu_of hr
  have hu65 := hu65_of hr
  obtain ⟨a, rv, ws, d, rfl, hS, ok, hd, hz, kY, kN⟩ := h
  refine ⟨_, (pss_cons (ps_if (pt_not (pt_val (pe_callB (r := rIsi K) call_isi (by rfl) T.b_isinstance (by decide +kernel) (pa_cons (pv 1) (pa_cons (pe_bltn (v := .ty "tuple") (by rfl) T.b_tuple (by decide +kernel) rfl) pa_nil))))) (pss_one (ps_ret pe_bl)) pss_nil)
 (pss_cons (ps_set (i := 2) sc_l_are_right.nd rfl (Or.inl rfl) (pe_tup (pa_cons pe_str (pa_cons pe_non (pa_cons (pe_tup pa_nil) pa_nil)))))
 (pss_cons (ps_for PassesOwn.never rfl (pi_tupK (K := K) rfl (pv 1)) (pg_name (i := 3) sc_l_are_right.nd rfl (Or.inl rfl))
 (pss_cons (ps_if (PW.pt (pw_or (pt_not (pt_val (pe_callB (r := rIsi K) call_isi (by rfl) T.b_isinstance (by decide +kernel) (pa_cons (pv 3) (pa_cons (pe_bltn (v := .ty "tuple") (by rfl) T.b_tuple (by decide +kernel) rfl) pa_nil))))) (pw_or (pt_cmpR op_ne (pe_callB (r := rLenQ K) call_lenQ (by rfl) T.b_len (by decide +kernel) (pa_cons (pv 3) pa_nil)) pe_int (nomark _)) (pw_or1 (pt_not (pt_val (pe_call G_l_is_command (hr.mono (by decide)) (by rfl) g_l_is_command kp_l_is_command b_l_is_command .nil pass0 (pa_cons (pv 0) (pa_cons (pe_ix (r := rIxT K) ix_tup (pv 3) pe_int (fun _ _ => rfl)) pa_nil))))))))) (pss_one (ps_ret pe_bl)) pss_nil)
 (pss_cons (ps_if (pt_cmpR op_ne (pe_call G_l_why_not (hr.mono (by decide)) (by rfl) g_l_why_not kp_l_why_not b_l_why_not .nil pass0 (pa_cons (pv 2) (pa_cons (pe_ix (r := rIxT K) ix_tup (pv 3) pe_int (fun _ _ => rfl)) pa_nil))) pe_str (nomark _)) (pss_one (ps_ret pe_bl)) pss_nil)
 (pss_cons (ps_set (i := 2) sc_l_are_right.nd rfl (Or.inl rfl) (pe_call G_l_behind (hr.mono (by decide)) (by rfl) g_l_behind kp_l_behind b_l_behind .nil pass0 (pa_cons (pv 0) (pa_cons (pv 2) (pa_cons (pe_ix (r := rIxT K) ix_tup (pv 3) pe_int (fun _ _ => rfl)) pa_nil)))))
 (pss_one (ps_if (pt_not (pt_val (pe_call G_l_equal (hr.mono (by decide)) (by rfl) g_l_equal kp_l_equal b_l_equal .nil pass0 (pa_cons (pe_ix (r := rIxT K) ix_tup (pv 3) pe_int (fun _ _ => rfl)) (pa_cons (pe_call G_l_told_all (hr.mono (by decide)) (by rfl) g_l_told_all kp_l_told_all b_l_told_all .nil pass0 (pa_cons (pv 0) (pa_cons (pv 2) pa_nil))) pa_nil))))) (pss_one (ps_ret pe_bl)) pss_nil))))))
 (pss_one (ps_ret pe_bl))))), ?_⟩
  refine ⟨_, rfl, _, _, _, _, _, rfl, .ty _, hd.ty, kit_ty (kit_tuple d), _, rfl, ?_⟩
  cases d with
  | none => exact kN (fun ⟨c, hc, _⟩ => by cases hc) _ (Same.refl H)
  | bool b => exact kN (fun ⟨c, hc, _⟩ => by cases hc) _ (Same.refl H)
  | int i => exact kN (fun ⟨c, hc, _⟩ => by cases hc) _ (Same.refl H)
  | str z => exact kN (fun ⟨c, hc, _⟩ => by cases hc) _ (Same.refl H)
  | list xs => exact kN (fun ⟨c, hc, _⟩ => by cases hc) _ (Same.refl H)
  | dict kvs => exact kN (fun ⟨c, hc, _⟩ => by cases hc) _ (Same.refl H)
  | tuple ds =>
    obtain ⟨p, xs, rfl, hp, ha⟩ := hd.tupI
    obtain ⟨hz1, hz2⟩ := hz ds rfl
    have xl := ha.length
    refine ⟨Nat.zero_le _, fun e he => ⟨by show 3 ≤ sizeLine; decide, fun f0 hf0 => ?_⟩⟩
    have s2 : Same H (upd (upd H e (.tup [])) f0 (.tup [.str "", .non, .ref e])) := (Same.new he).then hf0
    have hd0 : Dp K (upd (upd H e (.tup [])) f0 (.tup [.str "", .non, .ref e])) (.ref f0) (s3D s0) := by
      show Dp K _ (.ref f0) (.tuple [.str (mkS []), .none, .tuple []])
      rw [mkS_nil]
      exact .tup (SqT.of upd_same) (.cons (.str _) (.cons .non (.cons (.tup (Same.sqt (Same.new hf0) (SqT.of upd_same)) .nil) .nil)))
    generalize upd (upd H e (.tup [])) f0 (.tup [.str "", .non, .ref e]) = H2 at s2 hd0 ⊢
    have hp2 := Same.sqt s2 hp
    refine ⟨_, rfl, p, rfl, ⟨_, hp2⟩, ?_⟩
    refine for_it (walk_tup (a := p) (xs := xs)) (fun i σ H3 => ∃ (sv : V) (x3 : Option V) (s : S3), σ = [some (.ref a), some (.ref p), some sv, x3] ∧ Same H2 H3 ∧ Dp K H3 sv (s3D s) ∧ StOk ws i s ∧ Obs ws s ∧ (RightP ws s0 ds ↔ RightP ws s (ds.drop i))) ?_ ?_ ?_ ?_
    · exact ⟨.ref f0, _, s0, rfl, Same.refl _, hd0, stOk_0 ws, obs_0 ws, Iff.rfl⟩
    · rintro i σ H3 hi ⟨sv, x3, s, rfl, s3, hs, so, ob, ri⟩
      exact Same.sqt s3 hp2
    · rintro i x σ H4 H3 hi ⟨sv, x3, s, rfl, s3, hs, so, ob, ri⟩ ⟨rfl, hx⟩
      obtain ⟨d, hd3, dx⟩ := ha.get' hx
      have md := List.mem_of_getElem? hd3
      have s03 := s2.trans s3
      have dx3 := dx.same s03
      have drop : ds.drop i = d :: ds.drop (i + 1) := by
        have lt := (List.getElem?_eq_some_iff.mp hd3).1
        rw [List.drop_eq_getElem_cons lt, (List.getElem?_eq_some_iff.mp hd3).2]
      have out : (¬ ∃ c, RecOk ws s c d) → ∀ H5, Same H3 H5 → Q (.bl false) H5 := fun no H5 s5 => kN (fun ⟨ds2, e2, q⟩ => by
        injection e2 with e2
        subst e2
        have q := ri.mp q
        rw [drop] at q
        obtain ⟨c, rc, _⟩ := q
        exact no ⟨c, rc⟩) _ (s03.trans s5)
      refine ⟨_, rfl, _, _, _, _, _, rfl, .ty _, dx3.ty, kit_ty (kit_tuple d), _, rfl, ?_⟩
      cases d with
      | none => exact out (fun ⟨c, hc, _⟩ => by cases hc) _ (Same.refl _)
      | bool b => exact out (fun ⟨c, hc, _⟩ => by cases hc) _ (Same.refl _)
      | int i => exact out (fun ⟨c, hc, _⟩ => by cases hc) _ (Same.refl _)
      | str z => exact out (fun ⟨c, hc, _⟩ => by cases hc) _ (Same.refl _)
      | list xs => exact out (fun ⟨c, hc, _⟩ => by cases hc) _ (Same.refl _)
      | dict kvs => exact out (fun ⟨c, hc, _⟩ => by cases hc) _ (Same.refl _)
      | tuple es =>
        obtain ⟨r, ys, rfl, hr3, hy⟩ := dx3.tupI
        have yl := hy.length
        refine ⟨_, rfl, r, _, rfl, .inr hr3, rfl, _, rfl, ?_⟩
        by_cases c2 : ys.length = 2
        · refine iteND (by rw [c2]; rfl) ?_
          obtain ⟨cd, td, rfl⟩ : ∃ cd td, es = [cd, td] := by
            rw [yl] at c2
            match es, c2 with
            | [x, y], _ => exact ⟨x, y, rfl⟩
          obtain ⟨cv, r1, rfl, dcv, hy⟩ := hy.consI
          obtain ⟨tv, r2, rfl, dtv, hy⟩ := hy.consI
          cases hy
          have at0 : atI [cv, tv] 0 = some cv := atI_nat (j := 0) rfl
          have at1 : atI [cv, tv] 1 = some tv := atI_nat (j := 1) rfl
          refine ⟨_, rfl, _, rfl, r, _, 0, _, rfl, rfl, hr3, at0, .ref a, cv, cd, rfl, dcv, fun H5 s5 => ⟨_, rfl, ?_⟩⟩
          refine bool2 (fun q => ?_) fun q => ?_
          · have q : lcmdB cd = false := by simpa using q
            refine out (fun ⟨c, hc, _⟩ => ?_) _ s5
            injection hc with hc
            injection hc with hc _
            rw [hc, cmd_l] at q
            cases q
          · have q : lcmdB cd = true := by simpa using q
            obtain ⟨c, rfl, vc⟩ := hz2 _ md _ _ rfl q
            have hr5 := Same.sqt s5 hr3
            refine ⟨_, rfl, _, rfl, r, _, 0, _, rfl, rfl, hr5, at0, sv, cv, s, c, rfl, hs.same s5, dcv.same s5, fun z H6 s6 hz6 => ⟨rfl, _, rfl, ?_⟩⟩
            have s56 := s5.trans s6
            by_cases cz : z = ""
            · have can := hz6.mp cz
              refine iteND (by rw [cz]) ?_
              have hS6 := Same.sqt (s03.trans s56) hS
              refine ⟨_, rfl, _, rfl, _, rfl, r, _, 0, _, rfl, rfl, Same.sqt s56 hr3, at0, a, ws, sv, cv, s, c, rfl, hS6, ok, hs.same s56, dcv.same s56, vc, so.ins, by have := so.sent; omega, so.jo, can, fun v H7 s7 hv => ?_⟩
              have so2 := stOk_bhd so vc can
              have ob2 := obs_bhd so ob vc can
              have s57 := s56.trans s7
              obtain ⟨tl1, tl2⟩ := told_len so2 (by omega)
              refine ⟨_, rfl, r, _, 1, _, rfl, rfl, Same.sqt s57 hr3, at1, _, rfl, _, rfl, a, v, ws, bhd ws s c, i + 1, rfl, Same.sqt s7 hS6, ok, hv, so2, by omega, fun w2 H8 s8 hw => ?_⟩
              refine ⟨tv, w2, td, _, rfl, (dtv.same s57).same s8, hw, due_rows (by omega) (fun l hl => by have := tl2 l hl; omega), fun H9 s9 => ⟨_, rfl, ?_⟩⟩
              have s59 := (s57.trans s8).trans s9
              refine bool2 (fun q2 => ?_) fun q2 => ?_
              · have q2 : leq td (rowsD (toldS ws (bhd ws s c))) = false := by simpa using q2
                refine out (fun ⟨c3, hc3, _⟩ => ?_) _ s59
                obtain ⟨rfl, e⟩ := recD_inj hc3
                rw [(leq_rows _).mpr e] at q2
                cases q2
              · have q2 : leq td (rowsD (toldS ws (bhd ws s c))) = true := by simpa using q2
                have e := (leq_rows _).mp q2
                subst e
                refine ⟨_, _, bhd ws s c, rfl, s3.trans s59, (hv.same s8).same s9, so2, ob2, ri.trans ?_⟩
                rw [drop]
                constructor
                · rintro ⟨c3, r3, q3⟩
                  obtain ⟨rfl, _⟩ := recD_inj (ws := ws) (s := s) r3.1
                  exact q3
                · exact fun q3 => ⟨c, ⟨rfl, vc, can⟩, q3⟩
            · refine iteNDF (fun y => cz (by injection y)) ?_
              refine out (fun ⟨c3, hc3, _, can3⟩ => ?_) _ s56
              obtain ⟨rfl, _⟩ := recD_inj hc3
              exact cz (hz6.mpr can3)
        · refine iteNDF (fun z => c2 (by injection z with z; omega)) ?_
          refine out (fun ⟨c, hc, _⟩ => ?_) _ (Same.refl _)
          injection hc with hc
          rw [yl, hc] at c2
          exact c2 rfl
    · rintro σ H3 ⟨sv, x3, s, rfl, s3, hs, so, ob, ri⟩
      refine kY ⟨ds, rfl, ri.mpr ?_⟩ _ (s2.trans s3)
      rw [xl, List.drop_length]
      exact True.intro
end K76
namespace K76
open PySem PySem.Spec PyProof.Rows L2
/-! ### Broadcast -/
theorem n_sc : ¬ (("states" : Str)) = "code" := by decide +kernel
theorem n_cs : ¬ (("code" : Str)) = "states" := by decide +kernel
theorem n_mc : ¬ (("commands" : Str)) = "code" := by decide +kernel
theorem n_cm : ¬ (("code" : Str)) = "commands" := by decide +kernel
theorem n_sm : ¬ (("states" : Str)) = "commands" := by decide +kernel
theorem n_ms : ¬ (("commands" : Str)) = "states" := by decide +kernel
theorem n_ac : ¬ (("act" : Str)) = "code" := by decide +kernel
theorem n_as : ¬ (("act" : Str)) = "states" := by decide +kernel
theorem n_am : ¬ (("act" : Str)) = "commands" := by decide +kernel
theorem n_rc : ¬ (("records" : Str)) = "code" := by decide +kernel
theorem n_rs : ¬ (("records" : Str)) = "states" := by decide +kernel
theorem n_rm : ¬ (("records" : Str)) = "commands" := by decide +kernel
theorem passE0 {P : Program} {w : World} {X : Cx} : Passes (L2.CX P w) X E0 := fun _ _ _ _ _ _ _ ⟨_, _, _, _, _, _, _, _, _, _, _, _, h⟩ => h.elim
def bfl (ca st cm : Addr) : List (Str × V) := [("code", .ref ca), ("states", .ref st), ("commands", .ref cm)]
theorem bfl_code (ca st cm : Addr) : (bfl ca st cm).lookup ("code" : Str) = some (.ref ca) := by
  unfold bfl
  rw [List.lookup_cons, beq_self_eq_true]
theorem bfl_states (ca st cm : Addr) : (bfl ca st cm).lookup ("states" : Str) = some (.ref st) := by
  unfold bfl
  rw [List.lookup_cons, beq_eq_false_iff_ne.mpr n_sc]
  show List.lookup _ _ = _
  rw [List.lookup_cons, beq_self_eq_true]
theorem bfl_commands (ca st cm : Addr) : (bfl ca st cm).lookup ("commands" : Str) = some (.ref cm) := by
  unfold bfl
  rw [List.lookup_cons, beq_eq_false_iff_ne.mpr n_mc]
  show List.lookup _ _ = _
  rw [List.lookup_cons, beq_eq_false_iff_ne.mpr n_ms]
  show List.lookup _ _ = _
  rw [List.lookup_cons, beq_self_eq_true]
theorem bfl_no {ca st cm : Addr} {m : Str} (h1 : ¬ m = "code") (h2 : ¬ m = "states") (h3 : ¬ m = "commands") : (bfl ca st cm).lookup m = none := by
  unfold bfl
  rw [List.lookup_cons, beq_eq_false_iff_ne.mpr h1]
  show List.lookup _ _ = _
  rw [List.lookup_cons, beq_eq_false_iff_ne.mpr h2]
  show List.lookup _ _ = _
  rw [List.lookup_cons, beq_eq_false_iff_ne.mpr h3]
  rfl
theorem bfl_made (ca st cm : Addr) : putF "commands" (.ref cm) (putF "states" (.ref st) (putF "code" (.ref ca) [])) = bfl ca st cm := by
  show putF "commands" (.ref cm) (if ("code" : Str) = "states" then _ else [(("code" : Str), V.ref ca), ("states", V.ref st)]) = _
  rw [if_neg n_cs]
  show (if ("code" : Str) = "commands" then _ else (("code" : Str), V.ref ca) :: (if ("states" : Str) = "commands" then _ else [(("states" : Str), V.ref st), ("commands", V.ref cm)])) = _
  rw [if_neg n_cm, if_neg n_sm]
  rfl
theorem bfl_put (ca st cm c2 : Addr) : putF "commands" (.ref c2) (bfl ca st cm) = bfl ca st c2 := by
  show (if ("code" : Str) = "commands" then _ else (("code" : Str), V.ref ca) :: (if ("states" : Str) = "commands" then _ else (("states" : Str), V.ref st) :: (if ("commands" : Str) = "commands" then [(("commands" : Str), V.ref c2)] else _))) = _
  rw [if_neg n_cm, if_neg n_sm, if_pos rfl]
  rfl
/-- a Broadcast stands at p -/
structure BAt (K : PySem.W.Frag) (C : Addr) (H : Hp) (p ca st : Addr) (ws : List (List Nat)) (cs : List Cmd) : Prop where
  ob : ∃ (dx cm : Addr) (cv : List V), H p = some (.ins C dx (bfl ca st cm)) ∧ SqT K H cm cv ∧ DpAll K H cv (cs.map cmdD)
  code : SqT K H ca (wV ws)
  sts : ∃ sv : List V, H st = some (.lst sv) ∧ DpAll K H sv ((ssOf ws cs).map s3D)
def sp_B_init (K : PySem.W.Frag) (C : Addr) : Sp := fun vs H Q _ => ∃ (p dx ca : Addr) (ws : List (List Nat)), vs = [.ref p, .ref ca] ∧ H p = some (.ins C dx []) ∧ SqT K H ca (wV ws) ∧ OkC ws ∧
  ∀ (st : Addr) (H2 : Hp), H st = none → BAt K C H2 p ca st ws [] → (∀ b o, H b = some o → b ≠ p → H2 b = some o) → Q .non H2
theorem ok_B_init {P : Program} {w : World} {K : PySem.W.Frag} {mg : Str → Option Value} {base : Heap} {C fI fA fR : Addr} {fdI fdA fdR : FuncData} (BC : BCt K mg C fI fA fR fdI fdA fdR) (h_check_code : Ok_check_code P w K mg base) : FnOk P w K mg base CX0 4 fI fdI ["self", "code"] (sp_B_init K C) := by
  obtain ⟨f_check_code, fd_check_code, g_check_code, kp_check_code, b_check_code, G_check_code⟩ := h_check_code
  refine BC.FI.ok sc_B_init (fun vs H Q E h => ?_) (fun cdv A outer s H vs Q E hr h => ?_)
  · obtain ⟨p, dx, ca, ws, rfl, _⟩ := h
    rfl
  have hu := hu_of hr
  have hu65 := hu65_of hr
  obtain ⟨p, dx, ca, ws, rfl, hp, hS, ok, k⟩ := h
  refine ⟨_, (pss_cons (ps_expr (pe_call G_check_code (hr.mono (by decide)) (by rfl) g_check_code kp_check_code b_check_code .nil pass0 (pa_cons (pv 1) pa_nil)))
 (pss_cons (ps_fld (pv 0) (pv 1) rfl)
 (pss_cons (ps_fld (pv 0) (pe_lst (pa_cons (pe_tup (pa_cons pe_str (pa_cons pe_non (pa_cons (pe_tup pa_nil) pa_nil)))) pa_nil)) rfl)
 (pss_one (ps_fld (pv 0) (pe_tup pa_nil) rfl))))), ?_⟩
  refine ⟨_, rfl, ca, ws, rfl, hS, ok, fun H1 s1 => ?_⟩
  have hp1 := s1 _ _ hp
  refine ⟨_, rfl, _, rfl, p, C, dx, [], rfl, hp1, BC.cl, BC.nC, by decide, ?_⟩
  generalize hA : upd H1 p (.ins C dx (putF "code" (.ref ca) [])) = HA
  have hpA : HA p = some (.ins C dx (putF "code" (.ref ca) [])) := by rw [← hA]; exact upd_same
  refine ⟨Nat.zero_le _, fun e he => ⟨by show 3 ≤ sizeLine; decide, fun f0 hf0 => ⟨by show 1 ≤ sizeLine; decide, fun st hst => ?_⟩⟩⟩
  have sA : Same HA (upd (upd (upd HA e (.tup [])) f0 (.tup [.str "", .non, .ref e])) st (.lst [.ref f0])) := ((Same.new he).then hf0).then hst
  have hd0 : Dp K (upd (upd (upd HA e (.tup [])) f0 (.tup [.str "", .non, .ref e])) st (.lst [.ref f0])) (.ref f0) (s3D s0) := by
    refine Dp.same (Same.new hst) ?_
    show Dp K _ (.ref f0) (.tuple [.str (mkS []), .none, .tuple []])
    rw [mkS_nil]
    exact .tup (SqT.of upd_same) (.cons (.str _) (.cons .non (.cons (.tup (Same.sqt (Same.new hf0) (SqT.of upd_same)) .nil) .nil)))
  have hstA : HA st = none := ((Same.new he).then hf0).free hst
  have hst2 : (upd (upd (upd HA e (.tup [])) f0 (.tup [.str "", .non, .ref e])) st (.lst [.ref f0])) st = some (.lst [.ref f0]) := upd_same
  generalize upd (upd (upd HA e (.tup [])) f0 (.tup [.str "", .non, .ref e])) st (.lst [.ref f0]) = HB at sA hd0 hst2 ⊢
  have hpB := sA _ _ hpA
  refine ⟨_, rfl, p, C, dx, _, rfl, hpB, BC.cl, BC.nS, by show 1 < 1000; decide, Nat.zero_le _, fun cm hcm => ?_⟩
  have npst : p ≠ st := fun z => by rw [z, hst2] at hpB; cases hpB
  have hpC : (upd (upd HB p (.ins C dx (putF "states" (.ref st) (putF "code" (.ref ca) [])))) cm (.tup [])) p = some (.ins C dx (putF "states" (.ref st) (putF "code" (.ref ca) []))) := (Same.new hcm) _ _ upd_same
  have ncp : cm ≠ p := fun z => by rw [z, upd_same] at hcm; cases hcm
  refine ⟨_, rfl, p, C, dx, _, rfl, hpC, BC.cl, BC.nM, ?_, ?_⟩
  · show (putF "states" (.ref st) [(("code" : Str), V.ref ca)]).length < 1000
    show (if ("code" : Str) = "states" then _ else [(("code" : Str), V.ref ca), ("states", V.ref st)]).length < 1000
    rw [if_neg n_cs]
    show 2 < 1000
    decide
  rw [bfl_made]
  have fr : ∀ b o, HB b = some o → b ≠ p → (upd (upd (upd HB p (.ins C dx (putF "states" (.ref st) (putF "code" (.ref ca) [])))) cm (.tup [])) p (.ins C dx (bfl ca st cm))) b = some o := fun b o hb nb => by
    rw [upd_ne nb]
    refine (Same.new hcm) _ _ ?_
    rw [upd_ne nb]
    exact hb
  have ts : TupS HB (upd (upd (upd HB p (.ins C dx (putF "states" (.ref st) (putF "code" (.ref ca) [])))) cm (.tup [])) p (.ins C dx (bfl ca st cm))) := by
    intro b us h
    rcases h with h | ⟨o, h⟩
    · exact .inl (fr _ _ h fun z => by rw [z, hpB] at h; cases h)
    · exact .inr ⟨o, fr _ _ h fun z => by rw [z, hpB] at h; cases h⟩
  have nA : ∀ b o, H b = some o → b ≠ p → HA b = some o := fun b o hb nb => by rw [← hA, upd_ne nb]; exact s1 _ _ hb
  have hSA : SqT K HA ca (wV ws) := by
    rcases hS with (h | ⟨o, h⟩) | h
    · exact .inl (.inl (nA _ _ h fun z => by rw [z, hp] at h; cases h))
    · exact .inl (.inr ⟨o, nA _ _ h fun z => by rw [z, hp] at h; cases h⟩)
    · exact .inr h
  have hst0 : H st = none := by
    cases e : H st with
    | none => rfl
    | some o =>
      have q := nA _ _ e (fun z => npst z.symm)
      rw [hstA] at q
      cases q
  refine k st _ hst0 ⟨⟨dx, cm, [], upd_same, .inl (.inl ?_), .nil⟩, TupS.sqt ts (Same.sqt sA hSA), [.ref f0], fr _ _ hst2 (Ne.symm npst), .cons ?_ .nil⟩ fun b o hb nb => fr _ _ (sA _ _ (nA _ _ hb nb)) nb
  · rw [upd_ne ncp]
    exact upd_same
  · exact Dp.ts ts (s3D_noL s0) hd0
/-- all but p and st stands -/
def But2 (p st : Addr) (H H2 : Hp) : Prop := ∀ b o, H b = some o → b ≠ p → b ≠ st → H2 b = some o
theorem But2.ts {p st : Addr} {H H2 : Hp} (f : But2 p st H H2) (hp : ∀ us, ¬ Rd H p (.tup us)) (hs : ∀ us, ¬ Rd H st (.tup us)) : TupS H H2 := by
  intro b us h
  have n1 : b ≠ p := fun z => hp us (z ▸ h)
  have n2 : b ≠ st := fun z => hs us (z ▸ h)
  rcases h with h | ⟨o, h⟩
  · exact .inl (f _ _ h n1 n2)
  · exact .inr ⟨o, f _ _ h n1 n2⟩
theorem rd_ins {H : Hp} {p C dx : Addr} {fs : List (Str × V)} (h : H p = some (.ins C dx fs)) (us : List V) : ¬ Rd H p (.tup us) := by
  rintro (q | ⟨o, q⟩)
  · rw [h] at q; cases q
  · rw [h] at q; cases q
theorem rd_lst {H : Hp} {p : Addr} {xs : List V} (h : H p = some (.lst xs)) (us : List V) : ¬ Rd H p (.tup us) := by
  rintro (q | ⟨o, q⟩)
  · rw [h] at q; cases q
  · rw [h] at q; cases q
theorem sts_nl (ws : List (List Nat)) (cs : List Cmd) : noLs ((ssOf ws cs).map s3D) = true := noLs_map s3D s3D_noL _
theorem cms_nl (cs : List Cmd) : noLs (cs.map cmdD) = true := noLs_map cmdD cmdD_noL _
def sp_B_act (K : PySem.W.Frag) (C : Addr) : Sp := fun vs H Q _ => ∃ (p ca st : Addr) (cv : V) (ws : List (List Nat)) (cs : List Cmd) (c : Cmd), vs = [.ref p, cv] ∧ BAt K C H p ca st ws cs ∧ OkC ws ∧ Dp K H cv (cmdD c) ∧ Hist ws cs ∧ cs.length < 8 ∧ ValC ws c ∧ canB (stAfter ws cs) c = true ∧
  ∀ (n : Int) (H2 : Hp), BAt K C H2 p ca st ws (cs ++ [c]) → But2 p st H H2 → Q (.int n) H2
theorem ok_B_act {P : Program} {w : World} {K : PySem.W.Frag} {mg : Str → Option Value} {base : Heap} {C fI fA fR : Addr} {fdI fdA fdR : FuncData} (T : Txt K mg) (BC : BCt K mg C fI fA fR fdI fdA fdR) (h_is_command : Ok_is_command P w K mg base) (h_behind : Ok_behind P w K mg base) : FnOk P w K mg base CX0 4 fA fdA ["self", "command"] (sp_B_act K C) := by
  obtain ⟨f_is_command, fd_is_command, g_is_command, kp_is_command, b_is_command, G_is_command⟩ := h_is_command
  obtain ⟨C2, fI2, fd2, NP, f_behind, fd_behind, g_behind, kp_behind, b_behind, G_behind⟩ := h_behind
  obtain ⟨t_MOST_COMMANDS, c_MOST_COMMANDS⟩ := T.c_MOST_COMMANDS
  refine BC.FA.ok sc_B_act (fun vs H Q E h => ?_) (fun cdv A outer s H vs Q E hr h => ?_)
  · obtain ⟨p, ca, st, cv, ws, cs, c, rfl, _⟩ := h
    rfl
  have hu := hu_of hr
  have hu65 := hu65_of hr
  obtain ⟨p, ca, st, cv, ws, cs, c, rfl, B, ok, hc, hh, h8, vc, can, k⟩ := h
  refine ⟨_, (pss_cons (ps_if (pt_not (pt_val (pe_call G_is_command (hr.mono (by decide)) (by rfl) g_is_command kp_is_command b_is_command .nil pass0 (pa_cons (pv 1) (pa_cons (pe_fld (pv 0) rfl) pa_nil))))) (pss_one ps_never) pss_nil)
 (pss_cons (ps_set (i := 2) sc_B_act.nd rfl (Or.inl rfl) (pe_call G_behind (hr.mono (by decide)) (by rfl) g_behind kp_behind b_behind .nil passE0 (pa_cons (pe_fld (pv 0) rfl) (pa_cons (pe_ix (r := rIxL K) ix_list (pe_fld (pv 0) rfl) (pe_un un_neg pe_int) (fun _ _ => rfl)) (pa_cons (pv 1) pa_nil)))))
 (pss_cons (ps_if (pt_cmpR op_ge (pe_callB (r := rLenQ K) call_lenQ (by rfl) T.b_len (by decide +kernel) (pa_cons (pe_fld (pv 0) rfl) pa_nil)) (pe_glob (v := .int 20) (by rfl) c_MOST_COMMANDS ⟨_, rfl⟩) (nomark _)) (pss_one ps_never) pss_nil)
 (pss_cons (ps_expr (pe_bm PySem.F.plainAttrs_list PySem.F.slot_list_append PySem.F.type_list_append mt_append (pe_fld (pv 0) rfl) (pa_cons (pv 2) pa_nil)))
 (pss_cons (ps_fld (pv 0) (pe_op (r := rCatA K) op_catA (pe_fld (pv 0) rfl) (pe_tup (pa_cons (pv 1) pa_nil))) rfl)
 (pss_one (ps_ret (pe_callB (r := rLenQ K) call_lenQ (by rfl) T.b_len (by decide +kernel) (pa_cons (pe_fld (pv 0) rfl) pa_nil))))))))), ?_⟩
  obtain ⟨⟨dx, cm, cmv, hp, hcm, dcm⟩, hS, sv, hst, dsv⟩ := B
  have so := hist_last hh
  obtain ⟨lv, hlv, hld⟩ := dsv.get (i := (ssOf ws cs).length - 1) (by rw [List.getElem?_map, ssOf_last]; rfl)
  have hsl : sv.length = (ssOf ws cs).length := by rw [dsv.length, List.length_map]
  rw [← hsl] at hlv
  refine ⟨_, rfl, _, rfl, p, C, dx, _, _, rfl, hp, BC.cl, BC.nC, bfl_code _ _ _, cv, cmdD c, ca, ws, rfl, hc, hS, fun H1 s1 => ⟨_, rfl, ?_⟩⟩
  rw [cmd_is vc]
  refine iteF ?_
  have hp1 := s1 _ _ hp
  have hst1 := s1 _ _ hst
  refine ⟨_, rfl, p, C, dx, _, _, rfl, hp1, BC.cl, BC.nC, bfl_code _ _ _, _, rfl, p, C, dx, _, _, rfl, hp1, BC.cl, BC.nS, bfl_states _ _ _, 1, rfl, st, sv, _, lv, rfl, rfl, SqL.of hst1, atI_last' hlv, _, rfl, ca, ws, lv, cv, stAfter ws cs, c, rfl, Same.sqt s1 hS, ok, hld.same s1, hc.same s1, vc, so.ins, by have := so.sent; omega, so.jo, fun _ v H2 s2 hv => ?_, fun cf => absurd (can.symm.trans cf) (by decide)⟩
  have hp2 := s2 _ _ hp1
  have hst2 := s2 _ _ hst1
  have s12 := s1.trans s2
  have hcm2 := Same.sqt s12 hcm
  have cl : cmv.length = cs.length := by rw [dcm.length, List.length_map]
  refine ⟨_, rfl, p, C, dx, _, _, rfl, hp2, BC.cl, BC.nM, bfl_commands _ _ _, cm, _, rfl, .inr hcm2, _, _, rfl, rfl, _, rfl, iteDF (by omega) ?_⟩
  refine ⟨_, rfl, p, C, dx, _, _, rfl, hp2, BC.cl, BC.nS, bfl_states _ _ _, .inl ⟨rfl, _, SqL.of hst2⟩, _, rfl, st, sv, v, rfl, rfl, hst2, smallLt (by rw [hsl, ssOf_len]; omega), ?_⟩
  have npst : p ≠ st := fun z => by rw [z, hst2] at hp2; cases hp2
  have t3 := TupS.lst (o := .lst (sv ++ [v])) hst2
  have hp3 : (upd H2 st (.lst (sv ++ [v]))) p = some (.ins C dx (bfl ca st cm)) := by rw [upd_ne npst]; exact hp2
  have hcm3 := TupS.sqt t3 hcm2
  refine ⟨_, rfl, p, C, dx, _, _, rfl, hp3, BC.cl, BC.nM, bfl_commands _ _ _, _, rfl, by show 1 ≤ sizeLine; decide, fun t ht => ?_⟩
  have s4 : Same (upd H2 st (.lst (sv ++ [v]))) (upd (upd H2 st (.lst (sv ++ [v]))) t (.tup [cv])) := Same.new ht
  refine catA_of (Same.sqt s4 hcm3) (SqT.of upd_same) (small (by show cmv.length + 1 ≤ _; omega)) fun c2 H5 s5 h5 => ?_
  have s45 := s4.trans s5
  have hp5 := s45 _ _ hp3
  refine ⟨_, rfl, p, C, dx, _, rfl, hp5, BC.cl, BC.nM, by show 3 < 1000; decide, ?_⟩
  rw [bfl_put]
  have b6 : But2 p st H (upd H5 p (.ins C dx (bfl ca st c2))) := by
    intro b o hb n1 n2
    rw [upd_ne n1]
    refine s45 _ _ ?_
    rw [upd_ne n2]
    exact s12 _ _ hb
  have b56 : But2 p st H5 (upd H5 p (.ins C dx (bfl ca st c2))) := fun b o hb n1 n2 => by
    rw [upd_ne n1]
    exact hb
  have hst5 : H5 st = some (.lst (sv ++ [v])) := s45 _ _ upd_same
  have t6 : TupS H (upd H5 p (.ins C dx (bfl ca st c2))) := b6.ts (rd_ins hp) (rd_lst hst)
  have t56 : TupS H5 (upd H5 p (.ins C dx (bfl ca st c2))) := b56.ts (rd_ins hp5) (rd_lst hst5)
  have t26 : TupS H2 (upd H5 p (.ins C dx (bfl ca st c2))) := (t3.trans s45.ts).trans t56
  have h6 := TupS.sqt t56 h5
  refine ⟨_, rfl, p, C, dx, _, _, rfl, upd_same, BC.cl, BC.nM, bfl_commands _ _ _, c2, _, rfl, .inr h6, k _ _ ⟨⟨dx, c2, _, upd_same, h6, ?_⟩, TupS.sqt t6 hS, sv ++ [v], ?_, ?_⟩ b6⟩
  · rw [List.map_append]
    exact DpAll.append (DpAll.ts t6 (cms_nl cs) dcm) (.cons (Dp.ts t6 (cmdD_noL c) hc) .nil)
  · rw [upd_ne npst.symm]
    exact hst5
  · rw [ssOf_snoc, List.map_append]
    exact DpAll.append (DpAll.ts t6 (sts_nl ws cs) dsv) (.cons (Dp.ts t26 (s3D_noL _) hv) .nil)
/-! ### records -/
def recI (ws : List (List Nat)) (cs : List Cmd) (i : Nat) : PyData := recD ws (stAfter ws (cs.take i)) (cs.getD i .step)
def recL (ws : List (List Nat)) (cs : List Cmd) : List PyData := (List.range cs.length).map (recI ws cs)
theorem recL_len (ws : List (List Nat)) (cs : List Cmd) : (recL ws cs).length = cs.length := by unfold recL; rw [List.length_map, List.length_range]
theorem recL_get {ws : List (List Nat)} {cs : List Cmd} {i : Nat} {c : Cmd} (h : cs[i]? = some c) : (recL ws cs)[i]? = some (recD ws (stAfter ws (cs.take i)) c) := by
  have lt := (List.getElem?_eq_some_iff.mp h).1
  unfold recL recI
  rw [List.getElem?_map, List.getElem?_range lt]
  show some (recD ws (stAfter ws (cs.take i)) (cs.getD i .step)) = _
  rw [List.getD_eq_getElem?_getD, h]
  rfl
theorem told_nl (ws : List (List Nat)) (s : S3) : noL (rowsD (toldS ws s)) = true := rows_noL _
theorem recD_nl (ws : List (List Nat)) (s : S3) (c : Cmd) : noL (recD ws s c) = true := by
  show (noL (cmdD c) && (noL (rowsD (toldS ws (bhd ws s c))) && true)) = true
  rw [cmdD_noL, told_nl]
  rfl
theorem stAfter_succ {ws : List (List Nat)} {cs : List Cmd} {i : Nat} {c : Cmd} (h : cs[i]? = some c) : stAfter ws (cs.take (i + 1)) = bhd ws (stAfter ws (cs.take i)) c := by
  rw [take_succ_get h, stAfter_snoc]
theorem recL_right {ws : List (List Nat)} {cs : List Cmd} (h : Hist ws cs) : RightP ws s0 (recL ws cs) := by
  have go : ∀ k, k ≤ cs.length → RightP ws (stAfter ws (cs.take (cs.length - k))) ((recL ws cs).drop (cs.length - k)) := by
    intro k
    induction k with
    | zero =>
      intro _
      rw [Nat.sub_zero, List.drop_of_length_le (by rw [recL_len]; exact Nat.le_refl _)]
      exact True.intro
    | succ k ih =>
      intro hk
      have ih := ih (by omega)
      have lt : cs.length - (k + 1) < cs.length := by omega
      have g : cs[cs.length - (k + 1)]? = some cs[cs.length - (k + 1)] := List.getElem?_eq_getElem lt
      have e1 : cs.length - (k + 1) + 1 = cs.length - k := by omega
      have lt2 : cs.length - (k + 1) < (recL ws cs).length := by rw [recL_len]; exact lt
      have gr := recL_get (ws := ws) g
      rw [List.getElem?_eq_getElem lt2] at gr
      rw [List.drop_eq_getElem_cons lt2, Option.some.inj gr, e1]
      obtain ⟨vc, can⟩ := h.ok _ _ g
      refine ⟨_, ⟨rfl, vc, can⟩, ?_⟩
      rw [← stAfter_succ g, e1]
      exact ih
  have q := go cs.length (Nat.le_refl _)
  rw [Nat.sub_self, List.take_zero, List.drop_zero] at q
  exact q
def sp_B_records (K : PySem.W.Frag) (C : Addr) : Sp := fun vs H Q _ => ∃ (p ca st : Addr) (ws : List (List Nat)) (cs : List Cmd), vs = [.ref p] ∧ BAt K C H p ca st ws cs ∧ OkC ws ∧ Hist ws cs ∧
  ∀ (w : V) (H2 : Hp), Same H H2 → Dp K H2 w (.tuple (recL ws cs)) → Q w H2
theorem ok_B_records {P : Program} {w : World} {K : PySem.W.Frag} {mg : Str → Option Value} {base : Heap} {C fI fA fR : Addr} {fdI fdA fdR : FuncData} (T : Txt K mg) (BC : BCt K mg C fI fA fR fdI fdA fdR) (h_known_to : Ok_known_to P w K mg base) : FnOk P w K mg base CX0 7 fR fdR ["self"] (sp_B_records K C) := by
  obtain ⟨f_known_to, fd_known_to, g_known_to, kp_known_to, b_known_to, G_known_to⟩ := h_known_to
  refine BC.FR.ok sc_B_records (fun vs H Q E h => ?_) (fun cdv A outer s H vs Q E hr h => ?_)
  · obtain ⟨p, ca, st, ws, cs, rfl, _⟩ := h
    rfl
  have hu := hu_of hr
  have hu65 := hu65_of hr
  obtain ⟨p, ca, st, ws, cs, rfl, B, ok, hh, k⟩ := h
  refine ⟨_, (pss_cons (ps_set (i := 1) sc_B_records.nd rfl (Or.inl rfl) (pe_lst pa_nil))
 (pss_cons (ps_for PassesOwn.never rfl (pi_enumT (by rfl) T.b_enumerate (pa_cons (pe_fld (pv 0) rfl) pa_nil)) (pg_tup rfl (pgs_cons (pg_name (i := 2) sc_B_records.nd rfl (Or.inl rfl)) (pgs_cons (pg_name (i := 3) sc_B_records.nd rfl (Or.inl rfl)) pgs_nil)))
 (pss_one (ps_expr (pe_bm PySem.F.plainAttrs_list PySem.F.slot_list_append PySem.F.type_list_append mt_append (pv 1) (pa_cons (pe_tup (pa_cons (pv 3) (pa_cons (pe_call G_known_to (hr.mono (by decide)) (by rfl) g_known_to kp_known_to b_known_to .nil pass0 (pa_cons (pe_fld (pv 0) rfl) (pa_cons (pe_ix (r := rIxL K) ix_list (pe_fld (pv 0) rfl) (pe_op op_add (pv 2) pe_int) (fun _ _ => rfl)) pa_nil))) pa_nil))) pa_nil)))))
 (pss_one (ps_ret (pe_callTy (r := rTupQ K) call_tupQ (by rfl) T.b_tuple (by decide +kernel) (pa_cons (pv 1) pa_nil)))))), ?_⟩
  obtain ⟨⟨dx, cm, cmv, hp, hcm, dcm⟩, hS, sv, hst, dsv⟩ := B
  have cl : cmv.length = cs.length := by rw [dcm.length, List.length_map]
  have h8 := hh.len
  refine ⟨Nat.zero_le _, fun F hF => ?_⟩
  have s1 : Same H (upd H F (.lst [])) := Same.new hF
  refine ⟨_, rfl, p, C, dx, _, _, rfl, s1 _ _ hp, BC.cl, BC.nM, bfl_commands _ _ _, cm, _, rfl, Same.sqt s1 hcm, ?_⟩
  refine for_it (walk_n (n := cmv.length) (f := fun i => cmv[i]?) (Gd := fun H => SqT K H cm cmv)) (fun i σ H2 => ∃ (x2 x3 : Option V) (xs : List V), σ = [some (.ref p), some (.ref F), x2, x3] ∧ SameX F H H2 ∧ H2 F = some (.lst xs) ∧ DpAll K H2 xs ((List.range i).map (recI ws cs))) ?_ ?_ ?_ ?_
  · exact ⟨_, _, [], rfl, Same.x s1, upd_same, .nil⟩
  · rintro i σ H2 hi ⟨x2, x3, xs, rfl, sx, h2, hx⟩
    exact Same.sqt (sx.back hF) hcm
  · rintro i x σ H2 H3 hi ⟨x2, x3, xs, rfl, sx, h2, hx⟩ ⟨T0, y, z, rfl, hT, rfl, e1, e2⟩
    cases e1
    have e2 : cmv[i]? = some z := e2
    obtain ⟨d, hd, dz⟩ := dcm.get' e2
    rw [List.getElem?_map] at hd
    obtain ⟨c, hc, rfl⟩ := Option.map_eq_some_iff.mp hd
    have il : i < cs.length := (List.getElem?_eq_some_iff.mp hc).1
    have s02 := sx.back hF
    have s3 : Same H2 (upd H2 T0 (.tup [.int (i : Nat), z])) := Same.new hT
    have s03 := s02.trans s3
    obtain ⟨vc, can⟩ := hh.ok _ _ hc
    have so := hist_ok hh (i + 1) (by omega)
    have ob := hist_obs hh (i + 1) (by omega)
    obtain ⟨v, hv, hvd⟩ := dsv.get (i := i + 1) (d := s3D (stAfter ws (cs.take (i + 1)))) (by rw [List.getElem?_map, ssOf_get (by omega)]; rfl)
    have hst3 := s03 _ _ hst
    have hp3 := s03 _ _ hp
    refine ⟨T0, _, rfl, SqT.of upd_same, rfl, _, _, rfl, _, _, rfl, rfl, ⟨_, rfl, .inl ⟨rfl, _, SqL.of (s3 _ _ h2)⟩, ?_⟩⟩
    have at1 : atI sv ((i : Int) + 1) = some v := atI_nat (j := i + 1) hv
    refine ⟨_, rfl, _, rfl, p, C, dx, _, _, rfl, hp3, BC.cl, BC.nC, bfl_code _ _ _, _, rfl, p, C, dx, _, _, rfl, hp3, BC.cl, BC.nS, bfl_states _ _ _, _, rfl, _, _, rfl, rfl, st, sv, _, v, rfl, rfl, SqL.of hst3, at1, ca, v, ws, stAfter ws (cs.take (i + 1)), i + 1, rfl, Same.sqt s03 hS, ok, hvd.same s03, so, by omega, ob, fun w2 H4 s4 hw => ⟨by show 2 ≤ sizeLine; decide, fun t ht => ?_⟩⟩
    have s5 := s4.then (o := .tup [z, w2]) ht
    have xl : xs.length = i := by rw [hx.length, List.length_map, List.length_range]
    refine ⟨F, xs, _, rfl, rfl, s5 _ _ (s3 _ _ h2), smallLt (by omega), ?_⟩
    have s25 := s3.trans s5
    have tsu := TupS.lst (o := .lst (xs ++ [.ref t])) (s25 _ _ h2)
    refine ⟨_, _, _, rfl, (sx.trans (Same.x s25)).upd _, upd_same, ?_⟩
    rw [List.range_succ, List.map_append]
    have rnl : ∀ n, noLs ((List.range n).map (recI ws cs)) = true := fun n => noLs_map _ (fun i => recD_nl _ _ _) _
    refine DpAll.append (DpAll.ts tsu (rnl i) (hx.same s25)) (.cons ?_ .nil)
    have er : recI ws cs i = recD ws (stAfter ws (cs.take i)) c := by
      unfold recI
      rw [List.getD_eq_getElem?_getD, hc]
      rfl
    rw [er]
    refine Dp.ts tsu (recD_nl _ _ _) (.tup (SqT.of upd_same) (.cons (((dz.same s03).same s4).same (Same.new ht)) (.cons ?_ .nil)))
    rw [← stAfter_succ hc]
    exact hw.same (Same.new ht)
  · rintro σ H2 ⟨x2, x3, xs, rfl, sx, h2, hx⟩
    rw [cl] at hx
    refine ⟨_, rfl, F, _, rfl, .inl ⟨SqL.of h2, fun q hq => ?_⟩⟩
    exact k _ _ ((sx.back hF).then hq) (.tup (SqT.of upd_same) (hx.same (Same.new hq)))
end K76
namespace K76
open PySem PySem.Spec PyProof.Rows L2
/-! ### records, turned -/
def RecFine (ws : List (List Nat)) (e : PyData) : Prop := CmdFine ws e ∧ RecBd e
def Fine (ws : List (List Nat)) (d : PyData) : Prop := ∀ ds, d = .tuple ds → ds.length ≤ 20 ∧ ∀ e ∈ ds, RecFine ws e
def StabP (K : PySem.W.Frag) (a : Addr) (H : Hp) (v : V) (Φ : PyData → Prop) : Prop := ∀ H2, SameX a H H2 → TupS H H2 → ∃ d, Dp K H2 v d ∧ Φ d
section
variable {K : PySem.W.Frag} {a : Addr} {H H2 : Hp} {v : V} {Φ : PyData → Prop}
theorem StabP.go (h : StabP K a H v Φ) (s : SameX a H H2) (t : TupS H H2) : StabP K a H2 v Φ := fun H3 s3 t3 => h H3 (s.trans s3) (t.trans t3)
theorem StabP.same (h : StabP K a H v Φ) (s : Same H H2) : StabP K a H2 v Φ := h.go (Same.x s) s.ts
theorem StabP.now (h : StabP K a H v Φ) : ∃ d, Dp K H v d ∧ Φ d := h H (SameX.refl a H) (TupS.refl H)
theorem StabP.of {d : PyData} (h : Dp K H v d) (n : noL d = true) (f : Φ d) : StabP K a H v Φ := fun H2 _ t => ⟨d, Dp.ts t n h, f⟩
theorem StabP.lst {p : Addr} {xs : List V} {ds : List PyData} (h : H p = some (.lst xs)) (ne : p ≠ a) (ha : DpAll K H xs ds) (n : noLs ds = true) (f : Φ (.list ds)) : StabP K a H (.ref p) Φ := fun H2 s t => ⟨_, .lst (SqL.of (s _ _ ne h)) (DpAll.ts t n ha), f⟩
def StabL (K : PySem.W.Frag) (a : Addr) (H : Hp) (vs : List V) (Φ : PyData → Prop) : Prop := ∀ (i : Nat) (v : V), vs[i]? = some v → StabP K a H v Φ
theorem StabL.nil : StabL K a H [] Φ := fun _ _ h => by simp at h
theorem StabL.cons {vs : List V} (h : StabP K a H v Φ) (t : StabL K a H vs Φ) : StabL K a H (v :: vs) Φ := fun i u g => by
  cases i with
  | zero => cases g; exact h
  | succ i => exact t i u g
theorem StabL.go {vs : List V} (h : StabL K a H vs Φ) (s : SameX a H H2) (t : TupS H H2) : StabL K a H2 vs Φ := fun i u g => (h i u g).go s t
end
theorem or_split {t1 t2 : TT} {σ : L2.St} {H : Hp} {F : Bool → Hp → Prop} {b1 b2 : Bool} (h1 : ∀ G : Bool → Hp → Prop, G b1 H → t1 σ H G) (h2 : ∀ G : Bool → Hp → Prop, G b2 H → t2 σ H G) (ht : (b1 || b2) = true → F true H) (hf : (b1 || b2) = false → F false H) : tOr t1 t2 σ H F := by
  refine h1 _ ?_
  cases b1 with
  | true => exact ht rfl
  | false =>
    refine h2 _ ?_
    cases b2 with
    | true => exact ht rfl
    | false => exact hf rfl
theorem recD_fine {ws : List (List Nat)} {n : Nat} {s : S3} {c : Cmd} (vc : ValC ws c) (so : StOk ws n (bhd ws s c)) (hn : n ≤ 20) : RecFine ws (recD ws s c) := by
  refine ⟨fun c2 t2 e _ => ?_, fun c2 t2 e => ?_⟩
  · injection e with e
    injection e with e _
    exact ⟨c, e.symm, vc⟩
  · injection e with e
    injection e with _ e
    injection e with e _
    subst e
    intro ds e2
    injection e2 with e2
    subst e2
    obtain ⟨h1, h2⟩ := told_len so hn
    refine ⟨by rw [List.length_map]; omega, fun es m => ?_⟩
    obtain ⟨l, hl, e3⟩ := List.mem_map.mp m
    injection e3 with e3
    subst e3
    have := h2 l hl
    rw [List.length_map]
    omega
theorem recL_fine {ws : List (List Nat)} {cs : List Cmd} (h : Hist ws cs) : ∀ e ∈ recL ws cs, RecFine ws e := by
  intro e m
  obtain ⟨i, hi, rfl⟩ := List.mem_map.mp m
  have lt := List.mem_range.mp hi
  have g : cs[i]? = some cs[i] := List.getElem?_eq_getElem lt
  have er : recI ws cs i = recD ws (stAfter ws (cs.take i)) cs[i] := by
    unfold recI
    rw [List.getD_eq_getElem?_getD, g]
    rfl
  rw [er]
  have so := hist_ok h (i + 1) (by omega)
  rw [stAfter_succ g] at so
  have := h.len
  exact recD_fine (h.ok _ _ g).1 so (by omega)
theorem recL_nl (ws : List (List Nat)) (cs : List Cmd) : noLs (recL ws cs) = true := noLs_map _ (fun i => recD_nl _ _ _) _
theorem noLs_app : ∀ {xs ys : List PyData}, noLs xs = true → noLs ys = true → noLs (xs ++ ys) = true
  | [], _, _, h => h
  | x :: xs, ys, h, g => by
    rw [noLs, Bool.and_eq_true] at h
    rw [List.cons_append, noLs, h.1, noLs_app h.2 g]
    rfl
theorem noLs_mem : ∀ {xs : List PyData}, (∀ x ∈ xs, noL x = true) → noLs xs = true
  | [], _ => rfl
  | x :: xs, h => by
    rw [noLs, h x List.mem_cons_self, noLs_mem fun y m => h y (List.mem_cons_of_mem _ m)]
    rfl
theorem noLs_get : ∀ {xs : List PyData} {x : PyData}, noLs xs = true → x ∈ xs → noL x = true
  | y :: xs, x, h, m => by
    rw [noLs, Bool.and_eq_true] at h
    rcases List.mem_cons.mp m with rfl | m
    · exact h.1
    · exact noLs_get h.2 m
theorem rf_triv {ws : List (List Nat)} {e : PyData} (h : ∀ c t, e ≠ .tuple [c, t]) : RecFine ws e := ⟨fun c t z _ => absurd z (h c t), fun c t z => absurd z (h c t)⟩
theorem fine_tup {ws : List (List Nat)} {ds : List PyData} (h : ds.length ≤ 20) (g : ∀ e ∈ ds, RecFine ws e) : Fine ws (.tuple ds) := fun es e => by
  injection e with e
  subst e
  exact ⟨h, g⟩
theorem fine_lst {ws : List (List Nat)} {ds : List PyData} : Fine ws (.list ds) := fun es e => nomatch e
theorem rf_leave (ws : List (List Nat)) : RecFine ws (.tuple [.tuple [.str "leave", .int 5], .tuple []]) := by
  refine ⟨fun c t z _ => ?_, fun c t z => ?_⟩
  · injection z with z
    injection z with z _
    exact ⟨.leave 5, z.symm, Nat.le_refl 5⟩
  · injection z with z
    injection z with _ z
    injection z with z _
    subst z
    intro ds e
    injection e with e
    subst e
    exact ⟨Nat.zero_le _, fun es m => nomatch m⟩
theorem cut_any (xs : List V) (lo hi : Option Int) : ∃ i j, cutV xs lo hi = (xs.drop i).take j := ⟨_, _, rfl⟩
theorem cutV_mid {xs : List V} {n : Nat} (h : n < xs.length) : cutV xs (some (n : Int)) (some ((n + 1 : Nat) : Int)) = (xs.drop n).take 1 := by
  unfold cutV
  rw [HT.sIx_nat, HT.sIx_nat, Nat.min_eq_left (by omega), Nat.min_eq_left (by omega), Nat.add_sub_cancel_left]
theorem lcmd_rows (r : List (List Nat)) : lcmdB (rowsD r) = false := by cases r <;> rfl
theorem bd_cmd (c : Cmd) : Bd (cmdD c) := by
  intro ds e
  cases c <;> (injection e with e; subst e; refine ⟨by simp, fun es m => ?_⟩; simp at m)
theorem bd_none : Bd .none := fun ds e => nomatch e
theorem bd_list (ds : List PyData) : Bd (.list ds) := fun es e => nomatch e
theorem pair_inj {a b c d : PyData} (h : PyData.tuple [a, b] = .tuple [c, d]) : a = c ∧ b = d := by
  injection h with h
  injection h with h1 h2
  injection h2 with h2 _
  exact ⟨h1, h2⟩
theorem rf_cmd {ws : List (List Nat)} {c : Cmd} {t : PyData} (v : ValC ws c) (b : Bd t) : RecFine ws (.tuple [cmdD c, t]) := ⟨fun c2 t2 z _ => ⟨c, (pair_inj z).1.symm, v⟩, fun c2 t2 z => by rw [← (pair_inj z).2]; exact b⟩
theorem rf_not {ws : List (List Nat)} {c t : PyData} (v : lcmdB c = false) (b : Bd t) : RecFine ws (.tuple [c, t]) := ⟨fun c2 t2 z q => (by rw [← (pair_inj z).1, v] at q; cases q), fun c2 t2 z => by rw [← (pair_inj z).2]; exact b⟩
def OddP (o : PyData) : Prop := ∀ es, o = .tuple es → es.length ≤ 1000
theorem odd_tup {es : List PyData} (h : es.length ≤ 1000) : OddP (.tuple es) := fun fs e => by
  injection e with e
  rw [← e]
  exact h
theorem bd_of {ds : List PyData} (h : ds.length ≤ 1000) (g : ∀ e ∈ ds, OddP e) : Bd (.tuple ds) := fun es e => by
  injection e with e
  subst e
  exact ⟨h, fun fs m => g _ m fs rfl⟩
theorem n_lk1 : ¬ (("look" : Str) = "step" ∨ ("look" : Str) = "join") := by decide +kernel
theorem n_lk2 : ¬ (("look" : Str) = "send" ∨ ("look" : Str) = "leave") := by decide +kernel
theorem lcmd_look : lcmdB (.tuple [.str "look"]) = false := by
  refine (lcmdB_two n_lk1).trans ?_
  rw [decide_eq_false n_lk2]
  rfl
def sp_l_turned (K : PySem.W.Frag) : Sp := fun vs H Q _ => ∃ (a l b q : Addr) (rv : V) (ns : List Int) (ws : List (List Nat)) (cs : List Cmd) (sv : List V), vs = [.ref a, .ref b, .ref q, rv] ∧ StAt H a l ns ∧ SqT K H b (wV ws) ∧ OkC ws ∧ Hist ws cs ∧ H q = some (.lst sv) ∧ q ≠ a ∧ DpAll K H sv ((ssOf ws cs).map s3D) ∧
  Dp K H rv (.tuple (recL ws cs)) ∧ ∀ (v : V) (d : PyData) (H2 : Hp), SameX a H H2 → StAt H2 a l ns → Dp K H2 v d → Fine ws d → Q v H2
abbrev Ok_l_turned (P : Program) (w : World) (K : PySem.W.Frag) (mg : Str → Option Value) (base : Heap) : Prop := Have P w K mg base CX0 "_law_turned" 3 ["_law_stream_here", "_law_code_here", "_law_states_here", "_law_records"] (sp_l_turned K)
theorem ok_l_turned {P : Program} {w : World} {K : PySem.W.Frag} {mg : Str → Option Value} {base : Heap} (T : Txt K mg) (h_l_next : Ok_l_next P w K mg base) (h_l_command : Ok_l_command P w K mg base) : Ok_l_turned P w K mg base := by
  obtain ⟨f_l_next, fd_l_next, g_l_next, kp_l_next, b_l_next, G_l_next⟩ := h_l_next
  obtain ⟨f_l_command, fd_l_command, g_l_command, kp_l_command, b_l_command, G_l_command⟩ := h_l_command
  refine have_of T.d_l_turned (fun _ _ _ _ _ _ us hl => match us, hl with | [_, _, _, _], _ => rfl) sc_l_turned (fun vs H Q E h => ?_) fun f cdv A outer s H vs Q E hr h => ?_
  · obtain ⟨a, l, b, q, rv, ns, ws, cs, sv, rfl, _⟩ := h
    rfl
  have hu := hu_of hr
  have hu65 := hu65_of hr
  obtain ⟨a, l, b, q, rv, ns, ws, cs, sv, rfl, st, hS, ok, hh, hq, nqa, dsv, hr1, k⟩ := h
  refine ⟨_, (pss_cons (ps_set (i := 4) sc_l_turned.nd rfl (Or.inl rfl) (pe_call G_l_next (hr.mono (by decide)) (by rfl) g_l_next kp_l_next b_l_next .nil pass0 (pa_cons (pv 0) (pa_cons pe_int pa_nil))))
 (pss_cons (ps_if (PW.pt (pw_or (pt_cmpR op_eq (pv 4) pe_int (nomark _)) (pw_or1 (pt_not (pt_truth (pv 3) (by intro _; rfl)))))) (pss_cons (ps_set (i := 6) sc_l_turned.nd rfl (Or.inl rfl) (pe_lst (pa_cons pe_non (pa_cons (pe_callTy (r := rListQ K) call_listQ (by rfl) T.b_list (by decide +kernel) (pa_cons (pv 3) pa_nil)) (pa_cons (pe_op (r := rCatA K) op_catA (pv 3) (pe_tup (pa_cons pe_non pa_nil))) (pa_cons (pe_op (r := rCatA K) op_catA (pv 3) (pe_tup (pa_cons (pe_tup (pa_cons (pe_tup (pa_cons pe_str (pa_cons pe_int pa_nil))) (pa_cons (pe_tup pa_nil) pa_nil))) pa_nil))) (pa_cons (pe_op (r := rCatA K) op_catA (pv 3) (pe_tup (pa_cons (pe_tup pa_nil) pa_nil))) (pa_cons (pe_op (r := rCatA K) op_catA (pe_tup (pa_cons pe_non pa_nil)) (pv 3)) (pa_cons (pe_op (r := rCatA K) op_catA (pv 3) (pe_tup (pa_cons (pe_tup (pa_cons pe_str pa_nil)) pa_nil))) pa_nil)))))))))
 (pss_one (ps_ret (pe_ix (r := rIxL K) ix_list (pv 6) (pe_call G_l_next (hr.mono (by decide)) (by rfl) g_l_next kp_l_next b_l_next .nil pass0 (pa_cons (pv 0) (pa_cons pe_int pa_nil))) (fun _ _ => rfl))))) pss_nil)
 (pss_cons (ps_set (i := 5) sc_l_turned.nd rfl (Or.inl rfl) (pe_ix (r := rIxL K) ix_list (pe_lst (pa_cons pe_int (pa_cons (pe_op op_fdiv (pe_callB (r := rLenQ K) call_lenQ (by rfl) T.b_len (by decide +kernel) (pa_cons (pv 3) pa_nil)) pe_int) (pa_cons (pe_op op_sub (pe_callB (r := rLenQ K) call_lenQ (by rfl) T.b_len (by decide +kernel) (pa_cons (pv 3) pa_nil)) pe_int) pa_nil)))) (pe_call G_l_next (hr.mono (by decide)) (by rfl) g_l_next kp_l_next b_l_next .nil pass0 (pa_cons (pv 0) (pa_cons pe_int pa_nil))) (fun _ _ => rfl)))
 (pss_cons (ps_asg (pe_ix (r := rIxT K) ix_tup (pv 3) (pv 5) (fun _ _ => rfl)) (pg_tup rfl (pgs_cons (pg_name (i := 8) sc_l_turned.nd rfl (Or.inl rfl)) (pgs_cons (pg_name (i := 9) sc_l_turned.nd rfl (Or.inl rfl)) pgs_nil))))
 (pss_cons (ps_if (pt_cmpR op_eq (pv 4) pe_int (nomark _)) (pss_one (ps_ret (pe_op (r := rCatA K) op_catA (pe_slice (r := rSlA K) sl_tupA (pv 3) po_none (po_some (pv 5))) (pe_slice (r := rSlA K) sl_tupA (pv 3) (po_some (pe_op op_add (pv 5) pe_int)) po_none)))) pss_nil)
 (pss_cons (ps_if (pt_cmpR op_eq (pv 4) pe_int (nomark _)) (pss_one (ps_ret (pe_op (r := rCatA K) op_catA (pe_op (r := rCatA K) op_catA (pe_slice (r := rSlA K) sl_tupA (pv 3) po_none (po_some (pv 5))) (pe_tup (pa_cons (pe_tup (pa_cons (pe_call G_l_command (hr.mono (by decide)) (by rfl) g_l_command kp_l_command b_l_command .nil pass0 (pa_cons (pv 0) (pa_cons (pv 1) (pa_cons (pe_ix (r := rIxL K) ix_list (pv 2) (pv 5) (fun _ _ => rfl)) pa_nil)))) (pa_cons (pv 9) pa_nil))) pa_nil))) (pe_slice (r := rSlA K) sl_tupA (pv 3) (po_some (pe_op op_add (pv 5) pe_int)) po_none)))) pss_nil)
 (pss_cons (ps_if (pt_cmpR op_eq (pv 4) pe_int (nomark _)) (pss_cons (ps_set (i := 10) sc_l_turned.nd rfl (Or.inl rfl) (pe_lst (pa_cons (pe_lst (pa_cons (pv 8) (pa_cons (pv 9) pa_nil))) (pa_cons (pe_tup (pa_cons (pv 8) pa_nil)) (pa_cons (pe_tup (pa_cons (pv 8) (pa_cons (pv 9) (pa_cons pe_int pa_nil)))) (pa_cons (pe_tup (pa_cons (pv 9) (pa_cons (pv 8) pa_nil))) (pa_cons (pe_tup (pa_cons pe_non (pa_cons (pv 9) pa_nil))) (pa_cons (pe_tup (pa_cons (pv 8) (pa_cons pe_non pa_nil))) (pa_cons (pe_tup (pa_cons (pv 8) (pa_cons (pe_callTy (r := rListQ K) call_listQ (by rfl) T.b_list (by decide +kernel) (pa_cons (pv 9) pa_nil)) pa_nil))) (pa_cons (pe_tup (pa_cons (pe_tup (pa_cons pe_str pa_nil)) (pa_cons (pv 9) pa_nil))) pa_nil))))))))))
 (pss_one (ps_ret (pe_op (r := rCatA K) op_catA (pe_op (r := rCatA K) op_catA (pe_slice (r := rSlA K) sl_tupA (pv 3) po_none (po_some (pv 5))) (pe_tup (pa_cons (pe_ix (r := rIxL K) ix_list (pv 10) (pe_call G_l_next (hr.mono (by decide)) (by rfl) g_l_next kp_l_next b_l_next .nil pass0 (pa_cons (pv 0) (pa_cons pe_int pa_nil))) (fun _ _ => rfl)) pa_nil))) (pe_slice (r := rSlA K) sl_tupA (pv 3) (po_some (pe_op op_add (pv 5) pe_int)) po_none))))) pss_nil)
 (pss_cons (ps_if (pt_cmpR op_eq (pv 4) pe_int (nomark _)) (pss_one (ps_ret (pe_op (r := rCatA K) op_catA (pe_op (r := rCatA K) op_catA (pe_slice (r := rSlA K) sl_tupA (pv 3) po_none (po_some (pv 5))) (pe_slice (r := rSlA K) sl_tupA (pv 3) (po_some (pv 5)) (po_some (pe_op op_add (pv 5) pe_int)))) (pe_slice (r := rSlA K) sl_tupA (pv 3) (po_some (pv 5)) po_none)))) pss_nil)
 (pss_cons (ps_set (i := 6) sc_l_turned.nd rfl (Or.inl rfl) (pe_lst (pa_cons pe_non (pa_cons (pe_tup pa_nil) (pa_cons (pe_tup (pa_cons pe_int pa_nil)) (pa_cons (pe_tup (pa_cons pe_int pa_nil)) (pa_cons (pe_tup (pa_cons pe_int (pa_cons pe_int pa_nil))) (pa_cons (pe_tup (pa_cons pe_bl pa_nil)) (pa_cons (pe_lst (pa_cons pe_int pa_nil)) (pa_cons (pe_tup (pa_cons pe_int (pa_cons pe_int pa_nil))) (pa_cons (pe_tup (pa_cons pe_non pa_nil)) (pa_cons pe_int pa_nil))))))))))))
 (pss_cons (ps_set (i := 7) sc_l_turned.nd rfl (Or.inl rfl) (pe_lst (pa_cons (pe_op (r := rCatA K) op_catA (pv 9) (pe_tup (pa_cons (pe_tup pa_nil) pa_nil))) (pa_cons (pe_slice (r := rSlA K) sl_tupA (pv 9) (po_some pe_int) po_none) (pa_cons (pe_slice (r := rSlA K) sl_tupA (pv 9) po_none (po_some (pe_un un_neg pe_int))) (pa_cons (pe_revT (pv 9)) (pa_cons (pe_op (r := rCatA K) op_catA (pe_tup (pa_cons (pe_ix (r := rIxL K) ix_list (pv 6) (pe_call G_l_next (hr.mono (by decide)) (by rfl) g_l_next kp_l_next b_l_next .nil pass0 (pa_cons (pv 0) (pa_cons pe_int pa_nil))) (fun _ _ => rfl)) pa_nil)) (pe_slice (r := rSlA K) sl_tupA (pv 9) (po_some pe_int) po_none)) (pa_cons (pe_op (r := rCatA K) op_catA (pe_slice (r := rSlA K) sl_tupA (pv 9) po_none (po_some (pe_un un_neg pe_int))) (pe_tup (pa_cons (pe_ix (r := rIxL K) ix_list (pv 6) (pe_call G_l_next (hr.mono (by decide)) (by rfl) g_l_next kp_l_next b_l_next .nil pass0 (pa_cons (pv 0) (pa_cons pe_int pa_nil))) (fun _ _ => rfl)) pa_nil))) pa_nil))))))))
 (pss_one (ps_ret (pe_op (r := rCatA K) op_catA (pe_op (r := rCatA K) op_catA (pe_slice (r := rSlA K) sl_tupA (pv 3) po_none (po_some (pv 5))) (pe_tup (pa_cons (pe_tup (pa_cons (pv 8) (pa_cons (pe_ix (r := rIxL K) ix_list (pv 7) (pe_call G_l_next (hr.mono (by decide)) (by rfl) g_l_next kp_l_next b_l_next .nil pass0 (pa_cons (pv 0) (pa_cons pe_int pa_nil))) (fun _ _ => rfl)) pa_nil))) pa_nil))) (pe_slice (r := rSlA K) sl_tupA (pv 3) (po_some (pe_op op_add (pv 5) pe_int)) po_none)))))))))))))), ?_⟩
  obtain ⟨p, xs, rfl, hp, hx⟩ := hr1.tupI
  have xl : xs.length = cs.length := by rw [hx.length, recL_len]
  have h8 := hh.len
  refine ⟨_, rfl, a, l, ns, 7, rfl, st, by decide, by decide, fun d H1 hd sx1 st1 => ?_⟩
  have t1 := sx1.ts st
  have hp1 := TupS.sqt t1 hp
  have hx1 := DpAll.ts t1 (recL_nl ws cs) hx
  dsimp only [gName, tSeq, tIfS]
  refine or_split (b1 := decide (V.int (d : Nat) = V.int 0)) (b2 := !(!xs.isEmpty)) (fun G g => ⟨_, rfl, rfl, _, rfl, g⟩) (fun G g => ⟨_, rfl, _, .inr (.inl ⟨xs, hp1, rfl⟩), ?_⟩) (fun hb => ?_) fun hb => ?_
  · exact g
  · have rl := recL_len ws cs
    have rf := recL_fine hh
    have rn := recL_nl ws cs
    -- list(records)
    refine ⟨_, rfl, p, _, rfl, .inr hp1, fun l1 hl1 => ?_⟩
    have sa : Same H1 (upd H1 l1 (.lst xs)) := Same.new hl1
    have o1 : StabP K a (upd H1 l1 (.lst xs)) (.ref l1) (Fine ws) := StabP.lst upd_same (st1.ne hl1) (hx1.same sa) rn fine_lst
    generalize upd H1 l1 (.lst xs) = Ha at sa o1 ⊢
    -- records + (None,)
    refine ⟨_, rfl, by show 1 ≤ sizeLine; decide, fun t2 ht2 => ?_⟩
    refine catA_of (Same.sqt (sa.then ht2) hp1) (SqT.of upd_same) (small (by show xs.length + 1 ≤ _; omega)) fun c2 Hb sb0 hb => ?_
    have sb := (Same.new ht2).trans sb0
    have o2 : StabP K a Hb (.ref c2) (Fine ws) := StabP.of (.tup hb ((hx1.same (sa.trans sb)).append (.cons .non .nil))) (noLs_app rn rfl) (fine_tup (by rw [List.length_append, rl]; show cs.length + 1 ≤ 20; omega) fun e m => (List.mem_append.mp m).elim (rf e) fun m => by rw [List.mem_singleton.mp m]; exact rf_triv fun _ _ z => nomatch z)
    have o1 := o1.same sb
    have sab := sa.trans sb
    -- records + ((('leave', 5), ()),)
    refine ⟨_, rfl, by show 2 ≤ sizeLine; decide, fun u1 hu1 => ⟨Nat.zero_le _, fun u2 hu2 => ⟨by show 2 ≤ sizeLine; decide, fun u3 hu3 => ⟨by show 1 ≤ sizeLine; decide, fun u4 hu4 => ?_⟩⟩⟩⟩
    have sc0 : Same Hb (upd (upd (upd (upd Hb u1 (.tup [.str "leave", .int 5])) u2 (.tup [])) u3 (.tup [.ref u1, .ref u2])) u4 (.tup [.ref u3])) := (((Same.new hu1).then hu2).then hu3).then hu4
    have dl : Dp K (upd (upd (upd (upd Hb u1 (.tup [.str "leave", .int 5])) u2 (.tup [])) u3 (.tup [.ref u1, .ref u2])) u4 (.tup [.ref u3])) (.ref u3) (.tuple [.tuple [.str "leave", .int 5], .tuple []]) :=
      Dp.same (Same.new hu4) (.tup (SqT.of upd_same) (.cons (Dp.same ((Same.new hu2).then hu3) (.tup (SqT.of upd_same) (.cons (.str _) (.cons (.int _) .nil)))) (.cons (Dp.same (Same.new hu3) (.tup (SqT.of upd_same) .nil)) .nil)))
    have h4 : SqT K (upd (upd (upd (upd Hb u1 (.tup [.str "leave", .int 5])) u2 (.tup [])) u3 (.tup [.ref u1, .ref u2])) u4 (.tup [.ref u3])) u4 [.ref u3] := SqT.of upd_same
    generalize upd (upd (upd (upd Hb u1 (.tup [.str "leave", .int 5])) u2 (.tup [])) u3 (.tup [.ref u1, .ref u2])) u4 (.tup [.ref u3]) = Hc at sc0 dl h4 ⊢
    refine catA_of (Same.sqt (sab.trans sc0) hp1) h4 (small (by show xs.length + 1 ≤ _; omega)) fun c3 Hd sd0 hd3 => ?_
    have sd := sc0.trans sd0
    have o3 : StabP K a Hd (.ref c3) (Fine ws) := StabP.of (.tup hd3 ((hx1.same (sab.trans sd)).append (.cons (dl.same sd0) .nil))) (noLs_app rn rfl) (fine_tup (by rw [List.length_append, rl]; show cs.length + 1 ≤ 20; omega) fun e m => (List.mem_append.mp m).elim (rf e) fun m => by rw [List.mem_singleton.mp m]; exact rf_leave ws)
    have o1 := o1.same sd
    have o2 := o2.same sd
    have sad := sab.trans sd
    -- records + ((),)
    refine ⟨_, rfl, Nat.zero_le _, fun v1 hv1 => ⟨by show 1 ≤ sizeLine; decide, fun v2 hv2 => ?_⟩⟩
    have se0 : Same Hd (upd (upd Hd v1 (.tup [])) v2 (.tup [.ref v1])) := (Same.new hv1).then hv2
    have de : Dp K (upd (upd Hd v1 (.tup [])) v2 (.tup [.ref v1])) (.ref v1) (.tuple []) := Dp.same (Same.new hv2) (.tup (SqT.of upd_same) .nil)
    have h5 : SqT K (upd (upd Hd v1 (.tup [])) v2 (.tup [.ref v1])) v2 [.ref v1] := SqT.of upd_same
    generalize upd (upd Hd v1 (.tup [])) v2 (.tup [.ref v1]) = He0 at se0 de h5 ⊢
    refine catA_of (Same.sqt (sad.trans se0) hp1) h5 (small (by show xs.length + 1 ≤ _; omega)) fun c4 He se1 he4 => ?_
    have se := se0.trans se1
    have o4 : StabP K a He (.ref c4) (Fine ws) := StabP.of (.tup he4 ((hx1.same (sad.trans se)).append (.cons (de.same se1) .nil))) (noLs_app rn rfl) (fine_tup (by rw [List.length_append, rl]; show cs.length + 1 ≤ 20; omega) fun e m => (List.mem_append.mp m).elim (rf e) fun m => by rw [List.mem_singleton.mp m]; exact rf_triv fun _ _ z => nomatch z)
    have o1 := o1.same se
    have o2 := o2.same se
    have o3 := o3.same se
    have sae := sad.trans se
    -- (None,) + records
    refine ⟨by show 1 ≤ sizeLine; decide, fun w1 hw1 => ⟨_, rfl, ?_⟩⟩
    refine catA_of (SqT.of upd_same) (Same.sqt (sae.then hw1) hp1) (small (by show 1 + xs.length ≤ _; omega)) fun c5 Hf sf0 hf5 => ?_
    have sf := (Same.new hw1).trans sf0
    have o5 : StabP K a Hf (.ref c5) (Fine ws) := StabP.of (.tup hf5 (DpAll.append (.cons .non .nil) (hx1.same (sae.trans sf)))) (noLs_app rfl rn) (fine_tup (by rw [List.length_append, rl]; show 1 + cs.length ≤ 20; omega) fun e m => (List.mem_append.mp m).elim (fun m => by rw [List.mem_singleton.mp m]; exact rf_triv fun _ _ z => nomatch z) (rf e))
    have o1 := o1.same sf
    have o2 := o2.same sf
    have o3 := o3.same sf
    have o4 := o4.same sf
    have saf := sae.trans sf
    -- records + (('join',),)
    refine ⟨_, rfl, by show 1 ≤ sizeLine; decide, fun v1 hv1 => ⟨by show 1 ≤ sizeLine; decide, fun v2 hv2 => ?_⟩⟩
    have sg0 : Same Hf (upd (upd Hf v1 (.tup [.str "join"])) v2 (.tup [.ref v1])) := (Same.new hv1).then hv2
    have dg : Dp K (upd (upd Hf v1 (.tup [.str "join"])) v2 (.tup [.ref v1])) (.ref v1) (.tuple [.str "join"]) := Dp.same (Same.new hv2) (.tup (SqT.of upd_same) (.cons (.str _) .nil))
    have h6 : SqT K (upd (upd Hf v1 (.tup [.str "join"])) v2 (.tup [.ref v1])) v2 [.ref v1] := SqT.of upd_same
    generalize upd (upd Hf v1 (.tup [.str "join"])) v2 (.tup [.ref v1]) = Hg0 at sg0 dg h6 ⊢
    refine catA_of (Same.sqt (saf.trans sg0) hp1) h6 (small (by show xs.length + 1 ≤ _; omega)) fun c6 Hg sg1 hg6 => ?_
    have sg := sg0.trans sg1
    have o6 : StabP K a Hg (.ref c6) (Fine ws) := StabP.of (.tup hg6 ((hx1.same (saf.trans sg)).append (.cons (dg.same sg1) .nil))) (noLs_app rn rfl) (fine_tup (by rw [List.length_append, rl]; show cs.length + 1 ≤ 20; omega) fun e m => (List.mem_append.mp m).elim (rf e) fun m => by rw [List.mem_singleton.mp m]; exact rf_triv fun _ _ z => by injection z with z; injection z with _ z; cases z)
    have o1 := o1.same sg
    have o2 := o2.same sg
    have o3 := o3.same sg
    have o4 := o4.same sg
    have o5 := o5.same sg
    have sag := saf.trans sg
    -- the draw
    refine ⟨by show 7 ≤ sizeLine; decide, fun q7 hq7 => ?_⟩
    have sh : Same Hg (upd Hg q7 (.lst [.non, .ref l1, .ref c2, .ref c3, .ref c4, .ref c5, .ref c6])) := Same.new hq7
    have o0 : StabP K a Hg .non (Fine ws) := StabP.of .non rfl fun ds e => nomatch e
    have ol : StabL K a Hg [.non, .ref l1, .ref c2, .ref c3, .ref c4, .ref c5, .ref c6] (Fine ws) := .cons o0 (.cons o1 (.cons o2 (.cons o3 (.cons o4 (.cons o5 (.cons o6 .nil))))))
    have ol := ol.go (Same.x sh) sh.ts
    have hq71 : (upd Hg q7 (.lst [.non, .ref l1, .ref c2, .ref c3, .ref c4, .ref c5, .ref c6])) q7 = some (.lst [.non, .ref l1, .ref c2, .ref c3, .ref c4, .ref c5, .ref c6]) := upd_same
    have stg := (st1.same sag).same sh
    have nq7 : q7 ≠ a := (st1.same sag).ne hq7
    refine ⟨_, rfl, _, rfl, a, l, ns, 7, rfl, stg, by decide, by decide, fun d2 H9 hd2 sx9 st9 => ?_⟩
    have gv : ([V.non, .ref l1, .ref c2, .ref c3, .ref c4, .ref c5, .ref c6] : List V)[d2]? = some ([V.non, .ref l1, .ref c2, .ref c3, .ref c4, .ref c5, .ref c6] : List V)[d2] := List.getElem?_eq_getElem hd2
    obtain ⟨e, he1, he2⟩ := (ol d2 _ gv) H9 sx9 (sx9.ts stg)
    exact ⟨q7, _, _, _, rfl, rfl, SqL.of (sx9 _ _ nq7 hq71), atI_nat gv, k _ e H9 ((sx1.trans (Same.x (sag.trans sh))).trans sx9) st9 he1 he2⟩
  · have rl := recL_len ws cs
    have rf := recL_fine hh
    have rn := recL_nl ws cs
    obtain ⟨hd0, hxe⟩ : ¬ d = 0 ∧ 0 < cs.length := by
      rw [Bool.or_eq_false_iff, Bool.not_not] at hb
      refine ⟨fun z => ?_, ?_⟩
      · subst z
        exact absurd hb.1 (by decide)
      · cases xs with
        | nil => exact absurd hb.2 (by decide)
        | cons x r => rw [← xl]; exact Nat.succ_pos _
    refine ⟨_, rfl, p, _, rfl, .inr hp1, _, _, rfl, rfl, ⟨by omega, by omega⟩, _, rfl, p, _, rfl, .inr hp1, _, _, rfl, rfl, by show 3 ≤ sizeLine; decide, fun q3 hq3 => ?_⟩
    have s2 : Same H1 (upd H1 q3 (.lst [.int 0, .int ((xs.length : Nat) / 2), .int ((xs.length : Nat) - 1)])) := Same.new hq3
    have nq3 : q3 ≠ a := st1.ne hq3
    refine ⟨_, rfl, a, l, ns, 3, rfl, st1.same s2, by decide, by decide, fun d3 H3 hd3 sx3 st3 => ?_⟩
    have hq33 := sx3 _ _ nq3 (show (upd H1 q3 (.lst [.int 0, .int ((xs.length : Nat) / 2), .int ((xs.length : Nat) - 1)])) q3 = _ from upd_same)
    obtain ⟨n, hn, gn⟩ : ∃ n : Nat, n < cs.length ∧ ([V.int 0, .int ((xs.length : Nat) / 2), .int ((xs.length : Nat) - 1)] : List V)[d3]? = some (.int (n : Nat)) := by
      match d3, hd3 with
      | 0, _ => exact ⟨0, hxe, rfl⟩
      | 1, _ => exact ⟨cs.length / 2, by omega, by show some (V.int ((xs.length : Int) / 2)) = _; rw [xl]; rfl⟩
      | 2, _ => exact ⟨cs.length - 1, by omega, by show some (V.int ((xs.length : Int) - 1)) = _; rw [xl, show ((cs.length : Int) - 1) = ((cs.length - 1 : Nat) : Int) by omega]⟩
    have sx13 := sx1.trans ((Same.x s2).trans sx3)
    have t13 : TupS H1 H3 := s2.ts.trans (sx3.ts (st1.same s2))
    have hp3 := TupS.sqt t13 hp1
    have hx3 := DpAll.ts t13 rn hx1
    have gc : cs[n]? = some cs[n] := List.getElem?_eq_getElem hn
    obtain ⟨rv2, hrv, drv⟩ := hx3.get (recL_get (ws := ws) gc)
    obtain ⟨rp, rxs, rfl, hrp, hrx⟩ := drv.tupI
    obtain ⟨cv, r1, rfl, dcv, hrx⟩ := hrx.consI
    obtain ⟨tv, r2, rfl, dtv, hrx⟩ := hrx.consI
    cases hrx
    have rfn := rf _ (List.mem_of_getElem? (recL_get (ws := ws) gc))
    have btd : Bd (rowsD (toldS ws (bhd ws (stAfter ws (cs.take n)) cs[n]))) := rfn.2 _ _ rfl
    have vcn : ValC ws cs[n] := (hh.ok _ _ gc).1
    have so1 := hist_ok hh (n + 1) (by omega)
    rw [stAfter_succ gc] at so1
    obtain ⟨tl6, tl21⟩ := told_len so1 (by omega)
    have tnl := told_nl ws (bhd ws (stAfter ws (cs.take n)) cs[n])
    generalize toldS ws (bhd ws (stAfter ws (cs.take n)) cs[n]) = td at drv dtv btd tl6 tl21 tnl
    generalize cs[n] = cn at dcv vcn
    refine ⟨q3, _, _, _, rfl, rfl, SqL.of hq33, atI_nat gn, ?_⟩
    refine ⟨_, rfl, _, rfl, p, xs, _, _, rfl, rfl, hp3, atI_nat hrv, rp, _, rfl, hrp, rfl, _, _, rfl, _, _, rfl, rfl, ?_⟩
    -- the end of every way: what stands ahead, what is put, what stands behind
    have fin : ∀ (m : Nat) (mid : List PyData) (mv : List V) (H8 : Hp) (c12 c3 : Addr), SameX a H3 H8 → StAt H8 a l ns → SqT K H8 c12 (xs.take n ++ mv) → DpAll K H8 mv mid → (∀ e ∈ mid, RecFine ws e) → mid.length ≤ 2 → SqT K H8 c3 (xs.drop m) → rCatA K (.ref c12) (.ref c3) H8 Q := by
      intro m mid mv H8 c12 c3 sx8 st8 h12 dm fm lm h3
      have t8 := sx8.ts st3
      have hx8 := DpAll.ts t8 rn hx3
      have ml := dm.length
      refine catA_of h12 h3 (small (by rw [List.length_append, List.length_take, List.length_drop]; omega)) fun c9 H9 s9 h9 => ?_
      refine k _ (.tuple ((recL ws cs).take n ++ mid ++ (recL ws cs).drop m)) H9 ((sx13.trans sx8).trans (Same.x s9)) (st8.same s9) (.tup h9 ((((hx8.take n).append dm).append (hx8.drop m)).same s9)) (fine_tup ?_ fun e he => ?_)
      · rw [List.length_append, List.length_append, List.length_take, List.length_drop, rl]
        omega
      · rcases List.mem_append.mp he with he | he
        · rcases List.mem_append.mp he with he | he
          · exact rf e (List.mem_of_mem_take he)
          · exact fm e he
        · exact rf e (List.mem_of_mem_drop he)
    have e1 : ((n : Nat) : Int) + 1 = ((n + 1 : Nat) : Int) := rfl
    -- 1
    by_cases c1 : d = 1
    · subst c1
      refine ⟨_, rfl, rfl, _, rfl, iteD rfl ⟨_, rfl, _, rfl, _, rfl, ?_⟩⟩
      refine slA_of hp3 fun c4 H4 s4 h4 => ?_
      rw [cutV_to] at h4
      refine ⟨_, rfl, _, rfl, _, _, rfl, rfl, _, rfl, ?_⟩
      dsimp only [tNoPart]
      refine slA_of (Same.sqt s4 hp3) fun c5 H5 s5 h5 => ?_
      rw [e1, cutV_from] at h5
      exact fin (n + 1) [] [] H5 c4 c5 (Same.x (s4.trans s5)) (st3.same (s4.trans s5)) (by rw [List.append_nil]; exact Same.sqt s5 h4) .nil (fun e m => nomatch m) (Nat.zero_le _) h5
    refine ⟨_, rfl, rfl, _, rfl, iteDF (fun z => c1 (by injection z with z; omega)) ?_⟩
    -- 2
    by_cases c2 : d = 2
    · subst c2
      refine ⟨_, rfl, rfl, _, rfl, iteD rfl ⟨_, rfl, _, rfl, _, rfl, ?_⟩⟩
      refine slA_of hp3 fun c4 H4 s4 h4 => ?_
      rw [cutV_to] at h4
      have hq4 := s4 _ _ (sx13 _ _ nqa hq)
      have t03 : TupS H H3 := t1.trans t13
      have dsv4 := (DpAll.ts t03 (sts_nl ws cs) dsv).same s4
      have hS4 := Same.sqt s4 (TupS.sqt t03 hS)
      obtain ⟨lv, hlv, dlv⟩ := dsv4.get (i := n) (d := s3D (stAfter ws (cs.take n))) (by rw [List.getElem?_map, ssOf_get (by omega)]; rfl)
      refine ⟨_, rfl, _, rfl, _, rfl, _, rfl, q, sv, _, lv, rfl, rfl, SqL.of hq4, atI_nat hlv, a, l, b, ns, lv, ws, _, rfl, st3.same s4, hS4, ok.len, dlv, fun v2 cc H5 vcc sx5 st5 dv2 => ⟨_, rfl, by show 2 ≤ sizeLine; decide, fun t1 ht1 => ⟨by show 1 ≤ sizeLine; decide, fun t2 ht2 => ?_⟩⟩⟩
      have t45 := sx5.ts (st3.same s4)
      have s6 : Same H5 (upd (upd H5 t1 (.tup [v2, tv])) t2 (.tup [.ref t1])) := (Same.new ht1).then ht2
      have dr : Dp K (upd (upd H5 t1 (.tup [v2, tv])) t2 (.tup [.ref t1])) (.ref t1) (.tuple [cmdD cc, rowsD td]) := Dp.same (Same.new ht2) (.tup (SqT.of upd_same) (.cons (dv2.same (Same.new ht1)) (.cons ((Dp.ts t45 tnl (dtv.same s4)).same (Same.new ht1)) .nil)))
      have h6 : SqT K (upd (upd H5 t1 (.tup [v2, tv])) t2 (.tup [.ref t1])) t2 [.ref t1] := SqT.of upd_same
      generalize upd (upd H5 t1 (.tup [v2, tv])) t2 (.tup [.ref t1]) = H6 at s6 dr h6 ⊢
      refine catA_of (Same.sqt s6 (TupS.sqt t45 h4)) h6 (small (by rw [List.length_take]; show min n xs.length + 1 ≤ _; omega)) fun c7 H7 s7 h7 => ?_
      refine ⟨_, rfl, _, rfl, _, _, rfl, rfl, _, rfl, ?_⟩
      dsimp only [tNoPart]
      have s67 := s6.trans s7
      refine slA_of (Same.sqt s67 (TupS.sqt t45 (Same.sqt s4 hp3))) fun c8 H8 s8 h8 => ?_
      rw [e1, cutV_from] at h8
      exact fin (n + 1) [.tuple [cmdD cc, rowsD td]] [.ref t1] H8 c7 c8 (((Same.x s4).trans sx5).trans (Same.x (s67.trans s8))) (st5.same (s67.trans s8)) (Same.sqt s8 h7) (.cons (dr.same (s7.trans s8)) .nil) (fun e m => by rw [List.mem_singleton.mp m]; exact rf_cmd vcc btd) (by show 1 ≤ 2; decide) h8
    refine ⟨_, rfl, rfl, _, rfl, iteDF (fun z => c2 (by injection z with z; omega)) ?_⟩
    -- 3
    by_cases c3 : d = 3
    · subst c3
      refine ⟨_, rfl, rfl, _, rfl, iteD rfl ?_⟩
      refine ⟨_, rfl, _, rfl, by show 2 ≤ sizeLine; decide, fun r0 hr0 => ?_⟩
      have sa : Same H3 (upd H3 r0 (.lst [cv, tv])) := Same.new hr0
      have dc0 := dcv.same sa
      have dt0 := dtv.same sa
      have o0 : StabP K a (upd H3 r0 (.lst [cv, tv])) (.ref r0) (RecFine ws) := StabP.lst upd_same (st3.ne hr0) (.cons dc0 (.cons dt0 .nil)) (by rw [noLs, cmdD_noL, noLs, tnl]; rfl) (rf_triv fun _ _ z => nomatch z)
      generalize upd H3 r0 (.lst [cv, tv]) = Ha at sa dc0 dt0 o0 ⊢
      refine ⟨_, rfl, by show 1 ≤ sizeLine; decide, fun r1 hr1 => ?_⟩
      have sb : Same Ha (upd Ha r1 (.tup [cv])) := Same.new hr1
      have dcb := dc0.same sb
      have dtb := dt0.same sb
      have o1 : StabP K a (upd Ha r1 (.tup [cv])) (.ref r1) (RecFine ws) := StabP.of (.tup (SqT.of upd_same) (.cons dcb .nil)) (by rw [noL, noLs, cmdD_noL]; rfl) (rf_triv fun _ _ z => by injection z with z; injection z with _ z; cases z)
      have o0 := o0.same sb
      generalize upd Ha r1 (.tup [cv]) = Hb at sb dcb dtb o0 o1 ⊢
      refine ⟨_, rfl, _, rfl, by show 3 ≤ sizeLine; decide, fun r2 hr2 => ?_⟩
      have sc : Same Hb (upd Hb r2 (.tup [cv, tv, .int 0])) := Same.new hr2
      have dcc := dcb.same sc
      have dtc := dtb.same sc
      have o2 : StabP K a (upd Hb r2 (.tup [cv, tv, .int 0])) (.ref r2) (RecFine ws) := StabP.of (.tup (SqT.of upd_same) (.cons dcc (.cons dtc (.cons (.int 0) .nil)))) (by rw [noL, noLs, cmdD_noL, noLs, tnl]; rfl) (rf_triv fun _ _ z => by injection z with z; injection z with _ z; injection z with _ z; cases z)
      have o0 := o0.same sc
      have o1 := o1.same sc
      generalize upd Hb r2 (.tup [cv, tv, .int 0]) = Hc at sc dcc dtc o0 o1 o2 ⊢
      refine ⟨_, rfl, _, rfl, by show 2 ≤ sizeLine; decide, fun r3 hr3 => ?_⟩
      have sd : Same Hc (upd Hc r3 (.tup [tv, cv])) := Same.new hr3
      have dcd := dcc.same sd
      have dtd := dtc.same sd
      have o3 : StabP K a (upd Hc r3 (.tup [tv, cv])) (.ref r3) (RecFine ws) := StabP.of (.tup (SqT.of upd_same) (.cons dtd (.cons dcd .nil))) (by rw [noL, noLs, tnl, noLs, cmdD_noL]; rfl) (rf_not (lcmd_rows _) (bd_cmd _))
      have o0 := o0.same sd
      have o1 := o1.same sd
      have o2 := o2.same sd
      generalize upd Hc r3 (.tup [tv, cv]) = Hd at sd dcd dtd o0 o1 o2 o3 ⊢
      refine ⟨_, rfl, by show 2 ≤ sizeLine; decide, fun r4 hr4 => ?_⟩
      have se : Same Hd (upd Hd r4 (.tup [.non, tv])) := Same.new hr4
      have dce := dcd.same se
      have dte := dtd.same se
      have o4 : StabP K a (upd Hd r4 (.tup [.non, tv])) (.ref r4) (RecFine ws) := StabP.of (.tup (SqT.of upd_same) (.cons .non (.cons dte .nil))) (by rw [noL, noLs, noLs, tnl]; rfl) (rf_not rfl btd)
      have o0 := o0.same se
      have o1 := o1.same se
      have o2 := o2.same se
      have o3 := o3.same se
      generalize upd Hd r4 (.tup [.non, tv]) = He at se dce dte o0 o1 o2 o3 o4 ⊢
      refine ⟨_, rfl, by show 2 ≤ sizeLine; decide, fun r5 hr5 => ?_⟩
      have sf : Same He (upd He r5 (.tup [cv, .non])) := Same.new hr5
      have dcf := dce.same sf
      have dtf := dte.same sf
      have o5 : StabP K a (upd He r5 (.tup [cv, .non])) (.ref r5) (RecFine ws) := StabP.of (.tup (SqT.of upd_same) (.cons dcf (.cons .non .nil))) (by rw [noL, noLs, cmdD_noL]; rfl) (rf_cmd vcn bd_none)
      have o0 := o0.same sf
      have o1 := o1.same sf
      have o2 := o2.same sf
      have o3 := o3.same sf
      have o4 := o4.same sf
      generalize upd He r5 (.tup [cv, .non]) = Hf at sf dcf dtf o0 o1 o2 o3 o4 o5 ⊢
      have s3f := ((((sa.trans sb).trans sc).trans sd).trans se).trans sf
      obtain ⟨tp, txs, rfl, htp, htx⟩ := dtf.tupI
      refine ⟨_, rfl, _, rfl, tp, _, rfl, .inr htp, fun l6 hl6 => ⟨by show 2 ≤ sizeLine; decide, fun r6 hr6 => ?_⟩⟩
      have sg : Same Hf (upd (upd Hf l6 (.lst txs)) r6 (.tup [cv, .ref l6])) := (Same.new hl6).then hr6
      have nl6 : l6 ≠ a := (st3.same s3f).ne hl6
      have hl6g : (upd (upd Hf l6 (.lst txs)) r6 (.tup [cv, .ref l6])) l6 = some (.lst txs) := (Same.new hr6) _ _ upd_same
      have hr6g : SqT K (upd (upd Hf l6 (.lst txs)) r6 (.tup [cv, .ref l6])) r6 [cv, .ref l6] := SqT.of upd_same
      have dcg := dcf.same sg
      have dtg := dtf.same sg
      have htxg := htx.same sg
      have tnl2 : noLs (td.map intsD) = true := rows_noL td
      have o6 : StabP K a (upd (upd Hf l6 (.lst txs)) r6 (.tup [cv, .ref l6])) (.ref r6) (RecFine ws) := fun H2 s t => ⟨.tuple [cmdD cn, .list (td.map intsD)], .tup (TupS.sqt t hr6g) (.cons (Dp.ts t (cmdD_noL _) dcg) (.cons (.lst (SqL.of (s _ _ nl6 hl6g)) (DpAll.ts t tnl2 htxg)) .nil)), rf_cmd vcn (bd_list _)⟩
      have o0 := o0.same sg
      have o1 := o1.same sg
      have o2 := o2.same sg
      have o3 := o3.same sg
      have o4 := o4.same sg
      have o5 := o5.same sg
      generalize upd (upd Hf l6 (.lst txs)) r6 (.tup [cv, .ref l6]) = Hg at sg dtg o0 o1 o2 o3 o4 o5 o6 ⊢
      refine ⟨by show 1 ≤ sizeLine; decide, fun u7 hu7 => ⟨_, rfl, by show 2 ≤ sizeLine; decide, fun r7 hr7 => ?_⟩⟩
      have sh : Same Hg (upd (upd Hg u7 (.tup [.str "look"])) r7 (.tup [.ref u7, .ref tp])) := (Same.new hu7).then hr7
      have o7 : StabP K a (upd (upd Hg u7 (.tup [.str "look"])) r7 (.tup [.ref u7, .ref tp])) (.ref r7) (RecFine ws) := StabP.of (.tup (SqT.of upd_same) (.cons (Dp.same (Same.new hr7) (.tup (SqT.of upd_same) (.cons (.str _) .nil))) (.cons (dtg.same sh) .nil))) (by rw [noL, noLs, noLs, tnl]; rfl) (rf_not lcmd_look btd)
      have o0 := o0.same sh
      have o1 := o1.same sh
      have o2 := o2.same sh
      have o3 := o3.same sh
      have o4 := o4.same sh
      have o5 := o5.same sh
      have o6 := o6.same sh
      generalize upd (upd Hg u7 (.tup [.str "look"])) r7 (.tup [.ref u7, .ref tp]) = Hh at sh o0 o1 o2 o3 o4 o5 o6 o7 ⊢
      refine ⟨by show 8 ≤ sizeLine; decide, fun q8 hq8 => ?_⟩
      have s3h := (s3f.trans sg).trans sh
      have si : Same Hh (upd Hh q8 (.lst [.ref r0, .ref r1, .ref r2, .ref r3, .ref r4, .ref r5, .ref r6, .ref r7])) := Same.new hq8
      have ol : StabL K a Hh [.ref r0, .ref r1, .ref r2, .ref r3, .ref r4, .ref r5, .ref r6, .ref r7] (RecFine ws) := .cons o0 (.cons o1 (.cons o2 (.cons o3 (.cons o4 (.cons o5 (.cons o6 (.cons o7 .nil)))))))
      have ol := ol.go (Same.x si) si.ts
      have hq81 : (upd Hh q8 (.lst [.ref r0, .ref r1, .ref r2, .ref r3, .ref r4, .ref r5, .ref r6, .ref r7])) q8 = some (.lst [.ref r0, .ref r1, .ref r2, .ref r3, .ref r4, .ref r5, .ref r6, .ref r7]) := upd_same
      have nq8 : q8 ≠ a := (st3.same s3h).ne hq8
      generalize upd Hh q8 (.lst [.ref r0, .ref r1, .ref r2, .ref r3, .ref r4, .ref r5, .ref r6, .ref r7]) = Hi at si ol hq81 ⊢
      have s3i := s3h.trans si
      refine ⟨_, rfl, _, rfl, _, rfl, ?_⟩
      refine slA_of (Same.sqt s3i hp3) fun c4 H4 s4 h4 => ?_
      rw [cutV_to] at h4
      have s34 := s3i.trans s4
      refine ⟨_, rfl, _, rfl, a, l, ns, 8, rfl, st3.same s34, by decide, by decide, fun d5 H5 hd5 sx5 st5 => ?_⟩
      have t45 := sx5.ts (st3.same s34)
      have gv : ([V.ref r0, .ref r1, .ref r2, .ref r3, .ref r4, .ref r5, .ref r6, .ref r7] : List V)[d5]? = some ([V.ref r0, .ref r1, .ref r2, .ref r3, .ref r4, .ref r5, .ref r6, .ref r7] : List V)[d5] := List.getElem?_eq_getElem hd5
      obtain ⟨e, he1, he2⟩ := (ol d5 _ gv) H5 ((Same.x s4).trans sx5) (s4.ts.trans t45)
      refine ⟨q8, _, _, _, rfl, rfl, SqL.of (sx5 _ _ nq8 (s4 _ _ hq81)), atI_nat gv, by show 1 ≤ sizeLine; decide, fun t2 ht2 => ?_⟩
      have s6 : Same H5 (upd H5 t2 (.tup [([V.ref r0, .ref r1, .ref r2, .ref r3, .ref r4, .ref r5, .ref r6, .ref r7] : List V)[d5]])) := Same.new ht2
      refine catA_of (Same.sqt s6 (TupS.sqt t45 h4)) (SqT.of upd_same) (small (by rw [List.length_take]; show min n xs.length + 1 ≤ _; omega)) fun c7 H7 s7 h7 => ?_
      refine ⟨_, rfl, _, rfl, _, _, rfl, rfl, _, rfl, ?_⟩
      dsimp only [tNoPart]
      have s67 := s6.trans s7
      refine slA_of (Same.sqt s67 (TupS.sqt t45 (Same.sqt s34 hp3))) fun c8 H8 s8 h8 => ?_
      rw [e1, cutV_from] at h8
      exact fin (n + 1) [e] _ H8 c7 c8 (((Same.x s34).trans sx5).trans (Same.x (s67.trans s8))) (st5.same (s67.trans s8)) (Same.sqt s8 h7) (.cons (he1.same (s67.trans s8)) .nil) (fun x m => by rw [List.mem_singleton.mp m]; exact he2) (by show 1 ≤ 2; decide) h8
    refine ⟨_, rfl, rfl, _, rfl, iteDF (fun z => c3 (by injection z with z; omega)) ?_⟩
    -- 4
    by_cases c4 : d = 4
    · subst c4
      refine ⟨_, rfl, rfl, _, rfl, iteD rfl ⟨_, rfl, _, rfl, _, rfl, ?_⟩⟩
      refine slA_of hp3 fun c4 H4 s4 h4 => ?_
      rw [cutV_to] at h4
      refine ⟨_, rfl, _, rfl, _, rfl, _, rfl, _, _, rfl, rfl, _, rfl, ?_⟩
      refine slA_of (Same.sqt s4 hp3) fun c5 H5 s5 h5 => ?_
      rw [e1, cutV_mid (by omega)] at h5
      have s45 := s4.trans s5
      refine catA_of (Same.sqt s5 h4) h5 (small (by rw [List.length_take, List.length_take]; omega)) fun c6 H6 s6 h6 => ?_
      refine ⟨_, rfl, _, rfl, _, rfl, ?_⟩
      dsimp only [tNoPart]
      refine slA_of (Same.sqt (s45.trans s6) hp3) fun c7 H7 s7 h7 => ?_
      rw [cutV_from] at h7
      have s37 := (s45.trans s6).trans s7
      exact fin n (((recL ws cs).drop n).take 1) ((xs.drop n).take 1) H7 c6 c7 (Same.x s37) (st3.same s37) (Same.sqt s7 h6) (((hx3.drop n).take 1).same s37) (fun e m => rf e (List.mem_of_mem_drop (List.mem_of_mem_take m))) (by rw [List.length_take]; omega) h7
    refine ⟨_, rfl, rfl, _, rfl, iteDF (fun z => c4 (by injection z with z; omega)) ?_⟩
    -- 5, 6
    obtain ⟨tp, txs, rfl, htp, htx⟩ := dtv.tupI
    have tnl2 : noLs (td.map intsD) = true := rows_noL td
    have tdl : (td.map intsD).length ≤ 6 := by rw [List.length_map]; exact tl6
    have tdo : ∀ e ∈ td.map intsD, OddP e := fun e m => by
      obtain ⟨y, hy, rfl⟩ := List.mem_map.mp m
      have := tl21 y hy
      exact odd_tup (by rw [List.length_map]; omega)
    have txl : txs.length ≤ 6 := by rw [htx.length]; exact tdl
    have z0 : StabP K a H3 .non OddP := StabP.of .non rfl fun es e => nomatch e
    have z9 : StabP K a H3 (.int 0) OddP := StabP.of (.int 0) rfl fun es e => nomatch e
    refine ⟨Nat.zero_le _, fun y1 hy1 => ?_⟩
    have k1 : Same H3 (upd H3 y1 (.tup [])) := Same.new hy1
    have z1 : StabP K a (upd H3 y1 (.tup [])) (.ref y1) OddP := StabP.of (.tup (SqT.of upd_same) (.nil)) rfl (odd_tup (by decide))
    have z0 := z0.same k1
    have z9 := z9.same k1
    generalize upd H3 y1 (.tup []) = G1 at k1 z0 z9 z1 ⊢
    have kk1 := k1
    refine ⟨by show 1 ≤ sizeLine; decide, fun y2 hy2 => ?_⟩
    have k2 : Same G1 (upd G1 y2 (.tup [.int 0])) := Same.new hy2
    have z2 : StabP K a (upd G1 y2 (.tup [.int 0])) (.ref y2) OddP := StabP.of (.tup (SqT.of upd_same) (.cons (.int 0) .nil)) rfl (odd_tup (by decide))
    have z0 := z0.same k2
    have z9 := z9.same k2
    have z1 := z1.same k2
    generalize upd G1 y2 (.tup [.int 0]) = G2 at k2 z0 z9 z1 z2 ⊢
    have kk2 := kk1.trans k2
    refine ⟨by show 1 ≤ sizeLine; decide, fun y3 hy3 => ?_⟩
    have k3 : Same G2 (upd G2 y3 (.tup [.int 1])) := Same.new hy3
    have z3 : StabP K a (upd G2 y3 (.tup [.int 1])) (.ref y3) OddP := StabP.of (.tup (SqT.of upd_same) (.cons (.int 1) .nil)) rfl (odd_tup (by decide))
    have z0 := z0.same k3
    have z9 := z9.same k3
    have z1 := z1.same k3
    have z2 := z2.same k3
    generalize upd G2 y3 (.tup [.int 1]) = G3 at k3 z0 z9 z1 z2 z3 ⊢
    have kk3 := kk2.trans k3
    refine ⟨by show 2 ≤ sizeLine; decide, fun y4 hy4 => ?_⟩
    have k4 : Same G3 (upd G3 y4 (.tup [.int 0, .int 1])) := Same.new hy4
    have z4 : StabP K a (upd G3 y4 (.tup [.int 0, .int 1])) (.ref y4) OddP := StabP.of (.tup (SqT.of upd_same) (.cons (.int 0) (.cons (.int 1) .nil))) rfl (odd_tup (by decide))
    have z0 := z0.same k4
    have z9 := z9.same k4
    have z1 := z1.same k4
    have z2 := z2.same k4
    have z3 := z3.same k4
    generalize upd G3 y4 (.tup [.int 0, .int 1]) = G4 at k4 z0 z9 z1 z2 z3 z4 ⊢
    have kk4 := kk3.trans k4
    refine ⟨by show 1 ≤ sizeLine; decide, fun y5 hy5 => ?_⟩
    have k5 : Same G4 (upd G4 y5 (.tup [.bl true])) := Same.new hy5
    have z5 : StabP K a (upd G4 y5 (.tup [.bl true])) (.ref y5) OddP := StabP.of (.tup (SqT.of upd_same) (.cons (.bl true) .nil)) rfl (odd_tup (by decide))
    have z0 := z0.same k5
    have z9 := z9.same k5
    have z1 := z1.same k5
    have z2 := z2.same k5
    have z3 := z3.same k5
    have z4 := z4.same k5
    generalize upd G4 y5 (.tup [.bl true]) = G5 at k5 z0 z9 z1 z2 z3 z4 z5 ⊢
    have kk5 := kk4.trans k5
    refine ⟨by show 1 ≤ sizeLine; decide, fun y6 hy6 => ?_⟩
    have k6 : Same G5 (upd G5 y6 (.lst [.int 0])) := Same.new hy6
    have z6 : StabP K a (upd G5 y6 (.lst [.int 0])) (.ref y6) OddP := StabP.lst upd_same ((st3.same kk5).ne hy6) (.cons (.int 0) .nil) rfl (fun es e => nomatch e)
    have z0 := z0.same k6
    have z9 := z9.same k6
    have z1 := z1.same k6
    have z2 := z2.same k6
    have z3 := z3.same k6
    have z4 := z4.same k6
    have z5 := z5.same k6
    generalize upd G5 y6 (.lst [.int 0]) = G6 at k6 z0 z9 z1 z2 z3 z4 z5 z6 ⊢
    have kk6 := kk5.trans k6
    refine ⟨by show 2 ≤ sizeLine; decide, fun y7 hy7 => ?_⟩
    have k7 : Same G6 (upd G6 y7 (.tup [.int 0, .int 0])) := Same.new hy7
    have z7 : StabP K a (upd G6 y7 (.tup [.int 0, .int 0])) (.ref y7) OddP := StabP.of (.tup (SqT.of upd_same) (.cons (.int 0) (.cons (.int 0) .nil))) rfl (odd_tup (by decide))
    have z0 := z0.same k7
    have z9 := z9.same k7
    have z1 := z1.same k7
    have z2 := z2.same k7
    have z3 := z3.same k7
    have z4 := z4.same k7
    have z5 := z5.same k7
    have z6 := z6.same k7
    generalize upd G6 y7 (.tup [.int 0, .int 0]) = G7 at k7 z0 z9 z1 z2 z3 z4 z5 z6 z7 ⊢
    have kk7 := kk6.trans k7
    refine ⟨by show 1 ≤ sizeLine; decide, fun y8 hy8 => ?_⟩
    have k8 : Same G7 (upd G7 y8 (.tup [.non])) := Same.new hy8
    have z8 : StabP K a (upd G7 y8 (.tup [.non])) (.ref y8) OddP := StabP.of (.tup (SqT.of upd_same) (.cons .non .nil)) rfl (odd_tup (by decide))
    have z0 := z0.same k8
    have z9 := z9.same k8
    have z1 := z1.same k8
    have z2 := z2.same k8
    have z3 := z3.same k8
    have z4 := z4.same k8
    have z5 := z5.same k8
    have z6 := z6.same k8
    have z7 := z7.same k8
    generalize upd G7 y8 (.tup [.non]) = G8 at k8 z0 z9 z1 z2 z3 z4 z5 z6 z7 z8 ⊢
    have kk8 := kk7.trans k8
    refine ⟨by show 10 ≤ sizeLine; decide, fun q10 hq10 => ?_⟩
    have nq10 : q10 ≠ a := (st3.same kk8).ne hq10
    have k9 : Same G8 (upd G8 q10 (.lst [.non, .ref y1, .ref y2, .ref y3, .ref y4, .ref y5, .ref y6, .ref y7, .ref y8, .int 0])) := Same.new hq10
    have odd : StabL K a G8 [.non, .ref y1, .ref y2, .ref y3, .ref y4, .ref y5, .ref y6, .ref y7, .ref y8, .int 0] OddP := .cons z0 (.cons z1 (.cons z2 (.cons z3 (.cons z4 (.cons z5 (.cons z6 (.cons z7 (.cons z8 (.cons z9 .nil)))))))))
    have odd := odd.go (Same.x k9) k9.ts
    have hq10s : (upd G8 q10 (.lst [.non, .ref y1, .ref y2, .ref y3, .ref y4, .ref y5, .ref y6, .ref y7, .ref y8, .int 0])) q10 = some (.lst [.non, .ref y1, .ref y2, .ref y3, .ref y4, .ref y5, .ref y6, .ref y7, .ref y8, .int 0]) := upd_same
    generalize upd G8 q10 (.lst [.non, .ref y1, .ref y2, .ref y3, .ref y4, .ref y5, .ref y6, .ref y7, .ref y8, .int 0]) = Go at k9 odd hq10s ⊢
    have kko := kk8.trans k9
    have stO := st3.same kko
    have htpo := Same.sqt kko htp
    have htxo := htx.same kko
    have hpo := Same.sqt kko hp3
    refine ⟨_, rfl, Nat.zero_le _, fun u1 hu1 => ⟨by show 1 ≤ sizeLine; decide, fun u2 hu2 => ?_⟩⟩
    have ja0 : Same Go (upd (upd Go u1 (.tup [])) u2 (.tup [.ref u1])) := (Same.new hu1).then hu2
    have de : Dp K (upd (upd Go u1 (.tup [])) u2 (.tup [.ref u1])) (.ref u1) (.tuple []) := Dp.same (Same.new hu2) (.tup (SqT.of upd_same) .nil)
    have he5 : SqT K (upd (upd Go u1 (.tup [])) u2 (.tup [.ref u1])) u2 [.ref u1] := SqT.of upd_same
    generalize upd (upd Go u1 (.tup [])) u2 (.tup [.ref u1]) = Ga0 at ja0 de he5 ⊢
    refine catA_of (Same.sqt ja0 htpo) he5 (small (by show txs.length + 1 ≤ _; omega)) fun w0 Ga ja1 hw0 => ?_
    have ja := ja0.trans ja1
    have p0 : StabP K a Ga (.ref w0) Bd := StabP.of (.tup hw0 ((htxo.same ja).append (.cons (de.same ja1) .nil))) (noLs_app tnl2 rfl) (bd_of (by rw [List.length_append]; show _ + 1 ≤ 1000; omega) fun e m => (List.mem_append.mp m).elim (tdo e) fun m => by rw [List.mem_singleton.mp m]; exact odd_tup (Nat.zero_le _))
    refine ⟨_, rfl, _, rfl, ?_⟩
    dsimp only [tNoPart]
    refine slA_of (Same.sqt ja htpo) fun w1 Gb jb hw1 => ?_
    have sub : ∀ (lo hi : Option Int) (G : Hp), Same Go G → ∃ ds, DpAll K G (cutV txs lo hi) ds ∧ noLs ds = true ∧ ds.length ≤ 6 ∧ ∀ e ∈ ds, OddP e := by
      intro lo hi G jG
      obtain ⟨i, j, e⟩ := cut_any txs lo hi
      refine ⟨((td.map intsD).drop i).take j, by rw [e]; exact ((htxo.same jG).drop i).take j, noLs_mem fun x m => noLs_get tnl2 (List.mem_of_mem_drop (List.mem_of_mem_take m)), ?_, fun x m => tdo x (List.mem_of_mem_drop (List.mem_of_mem_take m))⟩
      rw [List.length_take, List.length_drop]
      omega
    have jab := ja.trans jb
    obtain ⟨d1, hd11, hd12, hd13, hd14⟩ := sub _ _ Gb jab
    have p1 : StabP K a Gb (.ref w1) Bd := StabP.of (.tup hw1 hd11) hd12 (bd_of (by omega) hd14)
    have p0 := p0.same jb
    refine ⟨_, rfl, ?_⟩
    dsimp only [tNoPart]
    refine ⟨1, rfl, _, rfl, ?_⟩
    refine slA_of (Same.sqt jab htpo) fun w2 Gc jc hw2 => ?_
    have jac := jab.trans jc
    obtain ⟨d2, hd21, hd22, hd23, hd24⟩ := sub _ _ Gc jac
    have p2 : StabP K a Gc (.ref w2) Bd := StabP.of (.tup hw2 hd21) hd22 (bd_of (by omega) hd24)
    have p0 := p0.same jc
    have p1 := p1.same jc
    refine ⟨_, rfl, tp, txs, rfl, Same.sqt jac htpo, fun w3 hw3 => ?_⟩
    have jd : Same Gc (upd Gc w3 (.tup txs.reverse)) := Same.new hw3
    have p3 : StabP K a (upd Gc w3 (.tup txs.reverse)) (.ref w3) Bd := StabP.of (.tup (SqT.of upd_same) (htxo.same (jac.trans jd)).reverse) (noLs_mem fun x m => noLs_get tnl2 (List.mem_reverse.mp m)) (bd_of (by rw [List.length_reverse]; omega) fun e m => tdo e (List.mem_reverse.mp m))
    have p0 := p0.same jd
    have p1 := p1.same jd
    have p2 := p2.same jd
    generalize upd Gc w3 (.tup txs.reverse) = Gd at jd p0 p1 p2 p3 ⊢
    have jad := jac.trans jd
    refine ⟨_, rfl, _, rfl, a, l, ns, 10, rfl, stO.same jad, by decide, by decide, fun d4 Ge0 hd4 sxe ste => ?_⟩
    have te := sxe.ts (stO.same jad)
    have g4 : ([V.non, .ref y1, .ref y2, .ref y3, .ref y4, .ref y5, .ref y6, .ref y7, .ref y8, .int 0] : List V)[d4]? = some ([V.non, .ref y1, .ref y2, .ref y3, .ref y4, .ref y5, .ref y6, .ref y7, .ref y8, .int 0] : List V)[d4] := List.getElem?_eq_getElem hd4
    have so4 := (odd d4 _ g4).go ((Same.x jad).trans sxe) (jad.ts.trans te)
    generalize ([V.non, .ref y1, .ref y2, .ref y3, .ref y4, .ref y5, .ref y6, .ref y7, .ref y8, .int 0] : List V)[d4] = ov4 at g4 so4
    refine ⟨q10, _, _, _, rfl, rfl, SqL.of (sxe _ _ nq10 (jad _ _ hq10s)), atI_nat g4, by show 1 ≤ sizeLine; decide, fun u4 hu4 => ?_⟩
    have je1 : Same Ge0 (upd Ge0 u4 (.tup [ov4])) := Same.new hu4
    have hu4s : SqT K (upd Ge0 u4 (.tup [ov4])) u4 [ov4] := SqT.of upd_same
    generalize upd Ge0 u4 (.tup [ov4]) = Ge1 at je1 hu4s ⊢
    have sxo4 : SameX a Go Ge1 := ((Same.x jad).trans sxe).trans (Same.x je1)
    have to4 : TupS Go Ge1 := (jad.ts.trans te).trans je1.ts
    refine ⟨_, rfl, _, rfl, ?_⟩
    dsimp only [tNoPart]
    refine slA_of (TupS.sqt to4 htpo) fun v4 Ge2 je2 hv4 => ?_
    have ste2 := (ste.same je1).same je2
    have cutl : ∀ lo hi, (cutV txs lo hi).length ≤ 6 := fun lo hi => by
      obtain ⟨i, j, e⟩ := cut_any txs lo hi
      rw [e, List.length_take, List.length_drop]
      omega
    refine catA_of (Same.sqt je2 hu4s) hv4 (small (by have := cutl (some 1) none; show 1 + _ ≤ _; omega)) fun w4 Ge je3 hw4 => ?_
    have je := (je1.trans je2).trans je3
    have p4 : StabP K a Ge (.ref w4) Bd := fun H2 s t => by
      obtain ⟨o, ho, fo⟩ := (so4.same je) H2 s t
      obtain ⟨i, j, e⟩ := cut_any txs (some 1) none
      have dts : DpAll K H2 (cutV txs (some 1) none) (((td.map intsD).drop i).take j) := by
        rw [e]
        exact DpAll.ts ((to4.trans (je2.trans je3).ts).trans t) (noLs_mem fun x m => noLs_get tnl2 (List.mem_of_mem_drop (List.mem_of_mem_take m))) ((htxo.drop i).take j)
      refine ⟨_, .tup (TupS.sqt t hw4) (DpAll.append (.cons ho .nil) dts), bd_of ?_ fun x m => ?_⟩
      · rw [List.length_append, List.length_take, List.length_drop]
        show 1 + _ ≤ 1000
        omega
      · rcases List.mem_append.mp m with m | m
        · rw [List.mem_singleton.mp m]
          exact fo
        · exact tdo x (List.mem_of_mem_drop (List.mem_of_mem_take m))
    have sxd := sxe.trans (Same.x je)
    have tde := te.trans je.ts
    have p0 := p0.go sxd tde
    have p1 := p1.go sxd tde
    have p2 := p2.go sxd tde
    have p3 := p3.go sxd tde
    have odd := odd.go ((Same.x jad).trans sxd) (jad.ts.trans tde)
    have hq10e : Ge q10 = some (.lst [.non, .ref y1, .ref y2, .ref y3, .ref y4, .ref y5, .ref y6, .ref y7, .ref y8, .int 0]) := sxd _ _ nq10 (jad _ _ hq10s)
    have toe := jad.ts.trans tde
    have sxoe := (Same.x jad).trans sxd
    have steE := ste.same je
    refine ⟨_, rfl, ?_⟩
    dsimp only [tNoPart]
    refine ⟨1, rfl, _, rfl, ?_⟩
    refine slA_of (TupS.sqt toe htpo) fun v5 Gf0 jf0 hv5 => ?_
    refine ⟨_, rfl, _, rfl, a, l, ns, 10, rfl, steE.same jf0, by decide, by decide, fun d5 Gf1 hd5 sxf stf => ?_⟩
    have tf := sxf.ts (steE.same jf0)
    have g5 : ([V.non, .ref y1, .ref y2, .ref y3, .ref y4, .ref y5, .ref y6, .ref y7, .ref y8, .int 0] : List V)[d5]? = some ([V.non, .ref y1, .ref y2, .ref y3, .ref y4, .ref y5, .ref y6, .ref y7, .ref y8, .int 0] : List V)[d5] := List.getElem?_eq_getElem hd5
    have so5 := (odd d5 _ g5).go ((Same.x jf0).trans sxf) (jf0.ts.trans tf)
    generalize ([V.non, .ref y1, .ref y2, .ref y3, .ref y4, .ref y5, .ref y6, .ref y7, .ref y8, .int 0] : List V)[d5] = ov5 at g5 so5
    refine ⟨q10, _, _, _, rfl, rfl, SqL.of (sxf _ _ nq10 (jf0 _ _ hq10e)), atI_nat g5, by show 1 ≤ sizeLine; decide, fun u5 hu5 => ?_⟩
    have jf2 : Same Gf1 (upd Gf1 u5 (.tup [ov5])) := Same.new hu5
    have hu5s : SqT K (upd Gf1 u5 (.tup [ov5])) u5 [ov5] := SqT.of upd_same
    generalize upd Gf1 u5 (.tup [ov5]) = Gf2 at jf2 hu5s ⊢
    have ecut : ∃ i j, cutV txs none (some (-1)) = (txs.drop i).take j := cut_any _ _ _
    refine catA_of (TupS.sqt (tf.trans jf2.ts) hv5) hu5s (small (by have := cutl none (some (-1)); show _ + 1 ≤ _; omega)) fun w5 Gf jf3 hw5 => ?_
    have jf := jf2.trans jf3
    have sxef := ((Same.x jf0).trans sxf).trans (Same.x jf)
    have tef := (jf0.ts.trans tf).trans jf.ts
    have p5 : StabP K a Gf (.ref w5) Bd := fun H2 s t => by
      obtain ⟨o, ho, fo⟩ := (so5.same jf) H2 s t
      obtain ⟨i, j, e⟩ := ecut
      have dts : DpAll K H2 (cutV txs none (some (-1))) (((td.map intsD).drop i).take j) := by
        rw [e]
        exact DpAll.ts ((toe.trans tef).trans t) (noLs_mem fun x m => noLs_get tnl2 (List.mem_of_mem_drop (List.mem_of_mem_take m))) ((htxo.drop i).take j)
      refine ⟨_, .tup (TupS.sqt t hw5) (DpAll.append dts (.cons ho .nil)), bd_of ?_ fun x m => ?_⟩
      · rw [List.length_append, List.length_take, List.length_drop]
        show _ + 1 ≤ 1000
        omega
      · rcases List.mem_append.mp m with m | m
        · exact tdo x (List.mem_of_mem_drop (List.mem_of_mem_take m))
        · rw [List.mem_singleton.mp m]
          exact fo
    have p0 := p0.go sxef tef
    have p1 := p1.go sxef tef
    have p2 := p2.go sxef tef
    have p3 := p3.go sxef tef
    have p4 := p4.go sxef tef
    refine ⟨by show 6 ≤ sizeLine; decide, fun q6 hq6 => ?_⟩
    have stF := stf.same jf
    have nq6 : q6 ≠ a := stF.ne hq6
    have jg : Same Gf (upd Gf q6 (.lst [.ref w0, .ref w1, .ref w2, .ref w3, .ref w4, .ref w5])) := Same.new hq6
    have rws : StabL K a Gf [.ref w0, .ref w1, .ref w2, .ref w3, .ref w4, .ref w5] Bd := .cons p0 (.cons p1 (.cons p2 (.cons p3 (.cons p4 (.cons p5 .nil)))))
    have rws := rws.go (Same.x jg) jg.ts
    have hq6s : (upd Gf q6 (.lst [.ref w0, .ref w1, .ref w2, .ref w3, .ref w4, .ref w5])) q6 = some (.lst [.ref w0, .ref w1, .ref w2, .ref w3, .ref w4, .ref w5]) := upd_same
    generalize upd Gf q6 (.lst [.ref w0, .ref w1, .ref w2, .ref w3, .ref w4, .ref w5]) = Gg at jg rws hq6s ⊢
    have stG := stF.same jg
    have sx3g : SameX a H3 Gg := ((Same.x kko).trans sxoe).trans (sxef.trans (Same.x jg))
    have t3g := sx3g.ts st3
    refine ⟨_, rfl, _, rfl, _, rfl, ?_⟩
    refine slA_of (TupS.sqt t3g hp3) fun c4 H4 s4 h4 => ?_
    rw [cutV_to] at h4
    have st4 := stG.same s4
    refine ⟨_, rfl, _, rfl, _, rfl, a, l, ns, 6, rfl, st4, by decide, by decide, fun d6 H5 hd6 sx5 st5 => ?_⟩
    have t45 := sx5.ts st4
    have g6 : ([V.ref w0, .ref w1, .ref w2, .ref w3, .ref w4, .ref w5] : List V)[d6]? = some ([V.ref w0, .ref w1, .ref w2, .ref w3, .ref w4, .ref w5] : List V)[d6] := List.getElem?_eq_getElem hd6
    obtain ⟨e, he1, he2⟩ := (rws d6 _ g6) H5 ((Same.x s4).trans sx5) (s4.ts.trans t45)
    generalize ([V.ref w0, .ref w1, .ref w2, .ref w3, .ref w4, .ref w5] : List V)[d6] = ov6 at g6 he1
    refine ⟨q6, _, _, _, rfl, rfl, SqL.of (sx5 _ _ nq6 (s4 _ _ hq6s)), atI_nat g6, by show 2 ≤ sizeLine; decide, fun t1 ht1 => ⟨by show 1 ≤ sizeLine; decide, fun t2 ht2 => ?_⟩⟩
    have s6 : Same H5 (upd (upd H5 t1 (.tup [cv, ov6])) t2 (.tup [.ref t1])) := (Same.new ht1).then ht2
    have t35 := (t3g.trans s4.ts).trans t45
    have dr : Dp K (upd (upd H5 t1 (.tup [cv, ov6])) t2 (.tup [.ref t1])) (.ref t1) (.tuple [cmdD cn, e]) := Dp.same (Same.new ht2) (.tup (SqT.of upd_same) (.cons ((Dp.ts t35 (cmdD_noL _) dcv).same (Same.new ht1)) (.cons (he1.same (Same.new ht1)) .nil)))
    have h6 : SqT K (upd (upd H5 t1 (.tup [cv, ov6])) t2 (.tup [.ref t1])) t2 [.ref t1] := SqT.of upd_same
    generalize upd (upd H5 t1 (.tup [cv, ov6])) t2 (.tup [.ref t1]) = H6 at s6 dr h6 ⊢
    refine catA_of (Same.sqt s6 (TupS.sqt t45 h4)) h6 (small (by rw [List.length_take]; show min n xs.length + 1 ≤ _; omega)) fun c7 H7 s7 h7 => ?_
    refine ⟨_, rfl, _, rfl, _, _, rfl, rfl, _, rfl, ?_⟩
    dsimp only [tNoPart]
    have s67 := s6.trans s7
    refine slA_of (Same.sqt s67 (TupS.sqt t35 hp3)) fun c8 H8 s8 h8 => ?_
    rw [e1, cutV_from] at h8
    exact fin (n + 1) [.tuple [cmdD cn, e]] [.ref t1] H8 c7 c8 (((sx3g.trans (Same.x s4)).trans sx5).trans (Same.x (s67.trans s8))) (st5.same (s67.trans s8)) (Same.sqt s8 h7) (.cons (dr.same (s7.trans s8)) .nil) (fun x m => by rw [List.mem_singleton.mp m]; exact rf_cmd vcn he2) (by show 1 ≤ 2; decide) h8
end K76
namespace K76
open PySem PySem.Spec PyProof.Rows L2
/-! ### the law -/
mutual
def nod : PyData → Bool
  | .dict _ => false
  | .list xs => nods xs
  | .tuple xs => nods xs
  | _ => true
def nods : List PyData → Bool
  | [] => true
  | x :: xs => nod x && nods xs
end
mutual
theorem leq_self : ∀ d : PyData, nod d = true → leq d d = true
  | .none, _ => by rw [leq]
  | .bool _, _ => by rw [leq, decide_eq_true rfl]
  | .int _, _ => by rw [leq, decide_eq_true rfl]
  | .str _, _ => by rw [leq, decide_eq_true rfl]
  | .list xs, h => by rw [leq]; exact leqs_self xs (by simpa [nod] using h)
  | .tuple xs, h => by rw [leq]; exact leqs_self xs (by simpa [nod] using h)
  | .dict _, h => by simp [nod] at h
theorem leqs_self : ∀ xs : List PyData, nods xs = true → leqs xs xs = true
  | [], _ => by rw [leqs]
  | x :: xs, h => by
    rw [nods, Bool.and_eq_true] at h
    rw [leqs, leq_self x h.1, leqs_self xs h.2]
    rfl
end
theorem nods_map {α : Type} (f : α → PyData) (h : ∀ x, nod (f x) = true) : ∀ l : List α, nods (l.map f) = true
  | [] => rfl
  | x :: r => by rw [List.map_cons, nods, h x, nods_map f h r]; rfl
theorem nod_cmd (c : Cmd) : nod (cmdD c) = true := by cases c <;> rfl
theorem nod_rows (r : List (List Nat)) : nod (rowsD r) = true := nods_map intsD (fun l => nods_map _ (fun _ => rfl) l) r
theorem nod_rec (ws : List (List Nat)) (s : S3) (c : Cmd) : nod (recD ws s c) = true := by
  show (nod (cmdD c) && (nod (rowsD (toldS ws (bhd ws s c))) && true)) = true
  rw [nod_cmd, nod_rows]
  rfl
theorem nod_recL (ws : List (List Nat)) (cs : List Cmd) : nod (.tuple (recL ws cs)) = true := nods_map _ (fun i => nod_rec _ _ _) _
theorem due_cmd (c : Cmd) : Due 3 (cmdD c) := by
  cases c <;> exact ⟨by simp, fun x m => by simp at m; (try rcases m with rfl | rfl) <;> (try subst m) <;> exact True.intro⟩
theorem due_recL {ws : List (List Nat)} {cs : List Cmd} (h : Hist ws cs) : Due 5 (.tuple (recL ws cs)) := by
  have h8 := h.len
  refine ⟨by rw [recL_len]; omega, fun x m => ?_⟩
  obtain ⟨i, hi, rfl⟩ := List.mem_map.mp m
  have lt := List.mem_range.mp hi
  have g : cs[i]? = some cs[i] := List.getElem?_eq_getElem lt
  have er : recI ws cs i = recD ws (stAfter ws (cs.take i)) cs[i] := by
    unfold recI
    rw [List.getD_eq_getElem?_getD, g]
    rfl
  rw [er]
  have so := hist_ok h (i + 1) (by omega)
  rw [stAfter_succ g] at so
  obtain ⟨h1, h2⟩ := told_len so (by omega)
  refine ⟨by show 2 ≤ 1000; decide, fun x m => ?_⟩
  rcases List.mem_cons.mp m with rfl | m
  · exact due_cmd _
  · rw [List.mem_singleton.mp m]
    exact due_rows (by omega) fun l hl => by have := h2 l hl; omega
def sp_law (K : PySem.W.Frag) : Sp := fun vs H Q _ => ∃ (p : Addr) (ns : List Int), vs = [.ref p] ∧ SqL K H p (ns.map V.int) ∧ ∀ H2, Q (.bl true) H2
theorem ok_law {P : Program} {w : World} {K : PySem.W.Frag} {mg : Str → Option Value} {base : Heap} {fL : Addr} {fdL : FuncData} (F : Fun K "law" "law" s_law fL fdL) (T : Txt K mg) (h_check_code : Ok_check_code P w K mg base) (h_is_command : Ok_is_command P w K mg base) (h_behind : Ok_behind P w K mg base) (h_known_to : Ok_known_to P w K mg base) (h_l_stream : Ok_l_stream P w K mg base) (h_l_code : Ok_l_code P w K mg base) (h_l_history : Ok_l_history P w K mg base)
    (h_l_told_all : Ok_l_told_all P w K mg base) (h_are_right : Ok_are_right P w K mg base) (h_l_are_right : Ok_l_are_right P w K mg base) (h_l_equal : Ok_l_equal P w K mg base) (h_l_turned : Ok_l_turned P w K mg base) : FnOk P w K mg base CX0 9 fL fdL ["_law_script"] (sp_law K) := by
  obtain ⟨C, fI, fA, fR, fdI, fdA, fdR, BC⟩ := T.bc
  have G_init : FnOk P w K mg base CX0 4 fI fdI ["self", "code"] (sp_B_init K C) := ok_B_init BC h_check_code
  have G_act : FnOk P w K mg base CX0 4 fA fdA ["self", "command"] (sp_B_act K C) := ok_B_act T BC h_is_command h_behind
  have G_records : FnOk P w K mg base CX0 7 fR fdR ["self"] (sp_B_records K C) := ok_B_records T BC h_known_to
  have b_init : Binds K fdI ["self", "code"] [] := BC.FI.binds fun _ _ _ _ _ _ us hl => match us, hl with | [_, _], _ => rfl
  have b_act : Binds K fdA ["self", "command"] [] := BC.FA.binds fun _ _ _ _ _ _ us hl => match us, hl with | [_, _], _ => rfl
  have b_records : Binds K fdR ["self"] [] := BC.FR.binds fun _ _ _ _ _ _ us hl => match us, hl with | [_], _ => rfl
  have M_Broadcast := BC.mkB
  have g_Broadcast := BC.g
  have cl_B := BC.cl
  have m_act := BC.mA
  have m_records := BC.mR
  obtain ⟨f_l_stream, fd_l_stream, g_l_stream, kp_l_stream, b_l_stream, G_l_stream⟩ := h_l_stream
  obtain ⟨f_l_code, fd_l_code, g_l_code, kp_l_code, b_l_code, G_l_code⟩ := h_l_code
  obtain ⟨f_l_history, fd_l_history, g_l_history, kp_l_history, b_l_history, G_l_history⟩ := h_l_history
  obtain ⟨f_l_told_all, fd_l_told_all, g_l_told_all, kp_l_told_all, b_l_told_all, G_l_told_all⟩ := h_l_told_all
  obtain ⟨f_are_right, fd_are_right, g_are_right, kp_are_right, b_are_right, G_are_right⟩ := h_are_right
  obtain ⟨f_l_are_right, fd_l_are_right, g_l_are_right, kp_l_are_right, b_l_are_right, G_l_are_right⟩ := h_l_are_right
  obtain ⟨f_l_equal, fd_l_equal, g_l_equal, kp_l_equal, b_l_equal, G_l_equal⟩ := h_l_equal
  obtain ⟨f_l_turned, fd_l_turned, g_l_turned, kp_l_turned, b_l_turned, G_l_turned⟩ := h_l_turned
  refine F.ok sc_law (fun vs H Q E h => ?_) (fun cdv A outer s H vs Q E hr h => ?_)
  · obtain ⟨p0, ns, rfl, _⟩ := h
    rfl
  have hu := hu_of hr
  have hu65 := hu65_of hr
  obtain ⟨p0, ns, rfl, h0, k⟩ := h
  refine ⟨_, (pss_cons (ps_set (i := 1) sc_law.nd rfl (Or.inl rfl) (pe_call G_l_stream (hr.mono (by decide)) (by rfl) g_l_stream kp_l_stream b_l_stream .nil pass0 (pa_cons (pv 0) pa_nil)))
 (pss_cons (ps_set (i := 2) sc_law.nd rfl (Or.inr rfl) (pe_call G_l_code (hr.mono (by decide)) (by rfl) g_l_code kp_l_code b_l_code .nil pass0 (pa_cons (pv 1) (pa_cons pe_int (pa_cons pe_int (pa_cons pe_int pa_nil))))))
 (pss_cons (ps_asg (pe_call G_l_history (hr.mono (by decide)) (by rfl) g_l_history kp_l_history b_l_history .nil pass0 (pa_cons (pv 1) (pa_cons (pv 2) (pa_cons pe_int pa_nil)))) (pg_tup rfl (pgs_cons (pg_name (i := 8) sc_law.nd rfl (Or.inr rfl)) (pgs_cons (pg_name (i := 9) sc_law.nd rfl (Or.inr rfl)) pgs_nil))))
 (pss_cons (ps_set (i := 3) sc_law.nd rfl (Or.inl rfl) (pe_make M_Broadcast G_init (hr.mono (by decide)) (by rfl) g_Broadcast b_init .nil pass0 (pa_cons (pv 2) pa_nil)))
 (pss_cons (ps_for PassesOwn.never rfl (pi_tupK (K := K) rfl (pv 8)) (pg_name (i := 4) sc_law.nd rfl (Or.inl rfl))
 (pss_one (ps_expr (pe_meth (pv 3) cl_B m_act G_act (hr.mono (by decide)) b_act .nil pass0 (pa_cons (pv 4) pa_nil)))))
 (pss_cons (ps_set (i := 5) sc_law.nd rfl (Or.inl rfl) (pe_meth0 (pv 3) cl_B m_records G_records (hr.mono (by decide)) b_records .nil pass0))
 (pss_cons (ps_set (i := 6) sc_law.nd rfl (Or.inl rfl) (pe_callTy (r := rTupQ K) call_tupQ (by rfl) T.b_tuple (by decide +kernel) (pa_cons (pe_lc (own := [("_law_at", 11)]) (g := gName 11) rfl sc_law.nd (pi_range1 (by rfl) T.b_range (pa_cons (pe_callB (r := rLenQ K) call_lenQ (by rfl) T.b_len (by decide +kernel) (pa_cons (pv 8) pa_nil)) pa_nil)) (blkOk_by (by kernel_rfl)) (fun _ _ _ _ _ => (pg_name (i := 11) sc_law.nd rfl (Or.inl rfl))) (fun _ _ _ _ _ => pts_nil) (fun _ _ _ _ _ => (pe_tup (pa_cons (pe_ix (r := rIxT K) ix_tup (pv 8) (pv 11) (fun _ _ => rfl)) (pa_cons (pe_call G_l_told_all (hr.mono (by decide)) (by rfl) g_l_told_all kp_l_told_all b_l_told_all .nil pass0 (pa_cons (pv 2) (pa_cons (pe_ix (r := rIxL K) ix_list (pv 9) (pe_op op_add (pv 11) pe_int) (fun _ _ => rfl)) pa_nil))) pa_nil))))) pa_nil)))
 (pss_cons (ps_if (PW.pt (pw_or (pt_not (pt_val (pe_call G_l_equal (hr.mono (by decide)) (by rfl) g_l_equal kp_l_equal b_l_equal .nil pass0 (pa_cons (pv 5) (pa_cons (pv 6) pa_nil))))) (pw_or (pt_not (pt_val (pe_call G_l_are_right (hr.mono (by decide)) (by rfl) g_l_are_right kp_l_are_right b_l_are_right .nil pass0 (pa_cons (pv 2) (pa_cons (pv 5) pa_nil))))) (pw_or1 (pt_cmpR op_notBl (pe_call G_are_right (hr.mono (by decide)) (by rfl) g_are_right kp_are_right b_are_right .nil pass0 (pa_cons (pv 2) (pa_cons (pv 5) pa_nil))) pe_bl (nomark _)))))) (pss_one (ps_ret pe_bl)) pss_nil)
 (pss_cons (ps_for PassesOwn.never rfl (pi_range1 (by rfl) T.b_range (pa_cons pe_int pa_nil)) (pg_name (i := 7) sc_law.nd rfl (Or.inl rfl))
 (pss_cons (ps_set (i := 10) sc_law.nd rfl (Or.inl rfl) (pe_call G_l_turned (hr.mono (by decide)) (by rfl) g_l_turned kp_l_turned b_l_turned .nil pass0 (pa_cons (pv 1) (pa_cons (pv 2) (pa_cons (pv 9) (pa_cons (pv 5) pa_nil))))))
 (pss_one (ps_if (pt_not (pt_val (pe_call G_l_equal (hr.mono (by decide)) (by rfl) g_l_equal kp_l_equal b_l_equal .nil pass0 (pa_cons (pe_call G_are_right (hr.mono (by decide)) (by rfl) g_are_right kp_are_right b_are_right .nil pass0 (pa_cons (pv 2) (pa_cons (pv 10) pa_nil))) (pa_cons (pe_call G_l_are_right (hr.mono (by decide)) (by rfl) g_l_are_right kp_l_are_right b_l_are_right .nil pass0 (pa_cons (pv 2) (pa_cons (pv 10) pa_nil))) pa_nil))))) (pss_one (ps_ret pe_bl)) pss_nil))))
 (pss_one (ps_ret pe_bl))))))))))), ?_⟩
  refine ⟨_, rfl, p0, ns, rfl, h0, fun a l H1 na nl s1 st1 => ?_⟩
  refine ⟨_, rfl, a, l, ns, rfl, st1, fun b ws H2 ok sx2 st2 hb => ?_⟩
  refine ⟨_, rfl, _, rfl, a, l, b, ns, ws, rfl, st2, SqT.of hb, ok, fun t j q cv sv cs H3 hh sx3 st3 ht hj hq dcv dsv => ?_⟩
  have hb3 : SqT K H3 b (wV ws) := TupS.sqt (sx3.ts st2) (SqT.of hb)
  refine ⟨t, _, rfl, SqT.of ht, rfl, _, _, rfl, _, _, rfl, rfl, ?_⟩
  have nqa : q ≠ a := by
    intro z
    subst z
    obtain ⟨c, k2, e, _⟩ := st3
    rw [hq] at e
    injection e with e
    injection e with e
    subst e
    have g1 : ([V.ref l, V.int c, V.int k2] : List V)[1]? = some (.int c) := rfl
    obtain ⟨d, hd, hx⟩ := dsv.get' g1
    rw [List.getElem?_map] at hd
    obtain ⟨s, _, rfl⟩ := Option.map_eq_some_iff.mp hd
    obtain ⟨x, _, _, e, _⟩ := s3D_inv hx
    cases e
  have cl : cv.length = cs.length := by rw [dcv.length, List.length_map]
  have h8 := hh.len
  refine ⟨_, rfl, fun x dx hx hdx ndx => ⟨x, dx, b, ws, rfl, upd_same, ?_, ok, fun st H4 hst B0 fr4 => ⟨rfl, ?_⟩⟩⟩
  · exact Same.sqt ((Same.new hdx).trans (Same.new (by rw [upd_ne ndx.symm]; exact hx))) hb3
  have s34 : Same H3 H4 := fun c o hc => by
    have n1 : c ≠ x := ne_of_none hc hx
    have n2 : c ≠ dx := ne_of_none hc hdx
    exact fr4 _ _ (by rw [upd_ne n1, upd_ne n2]; exact hc) n1
  have hst3 : H3 st = none := by
    cases e : H3 st with
    | none => rfl
    | some o =>
      have n1 : st ≠ x := ne_of_none e hx
      have n2 : st ≠ dx := ne_of_none e hdx
      rw [upd_ne n1, upd_ne n2, e] at hst
      cases hst
  have hj3 : SqT K H3 j cv := SqT.of hj
  refine ⟨_, rfl, j, rfl, ⟨_, Same.sqt s34 hj3⟩, ?_⟩
  refine for_it (walk_tup (a := j) (xs := cv)) (fun i σ H5 => ∃ (x4 : Option V), σ = [some (.ref p0), some (.ref a), some (.ref b), some (.ref x), x4, none, none, none, some (.ref j), some (.ref q), none, none] ∧ Same H3 H5 ∧ BAt K C H5 x b st ws (cs.take i)) ?_ ?_ ?_ ?_
  · exact ⟨_, rfl, s34, B0⟩
  · rintro i σ H5 hi ⟨x4, rfl, s5, B⟩
    exact Same.sqt s5 hj3
  · rintro i y σ H6 H5 hi ⟨x4, rfl, s5, B⟩ ⟨rfl, hy⟩
    obtain ⟨d, hd, dy⟩ := dcv.get' hy
    rw [List.getElem?_map] at hd
    obtain ⟨c, hc, rfl⟩ := Option.map_eq_some_iff.mp hd
    have il : i < cs.length := (List.getElem?_eq_some_iff.mp hc).1
    obtain ⟨vc, can⟩ := hh.ok _ _ hc
    obtain ⟨⟨dx5, cm5, cmv5, hx5, _, _⟩, _, _⟩ := id B
    have hhi : Hist ws (cs.take i) := by
      refine ⟨by rw [List.length_take]; omega, fun m e he => ?_⟩
      have ml := (List.getElem?_eq_some_iff.mp he).1
      rw [List.length_take] at ml
      rw [List.getElem?_take_of_lt (by omega)] at he
      have q := hh.ok m e he
      rw [List.take_take, Nat.min_eq_left (by omega)]
      exact q
    refine ⟨_, rfl, x, dx5, _, rfl, hx5, bfl_no n_ac n_as n_am, _, rfl, x, b, st, y, ws, cs.take i, c, rfl, B, ok, dy.same s5, hhi, by rw [List.length_take]; omega, vc, can, fun m H7 B7 fr7 => ?_⟩
    refine ⟨_, rfl, fun c2 o hc2 => fr7 _ _ (s5 _ _ hc2) (ne_of_none hc2 hx) (ne_of_none hc2 hst3), ?_⟩
    rw [take_succ_get hc]
    exact B7
  rintro σ H5 ⟨x4, rfl, s5, B⟩
  rw [cl, List.take_length] at B
  obtain ⟨⟨dx5, cm5, cmv5, hx5, _, _⟩, _, _⟩ := id B
  refine ⟨_, rfl, x, dx5, _, rfl, hx5, bfl_no n_rc n_rs n_rm, x, b, st, ws, cs, rfl, B, ok, hh, fun rv H6 s6 dr => ?_⟩
  have s36 := s5.trans s6
  have hj6 := Same.sqt s36 hj3
  have hq6 := s36 _ _ hq
  have hb6 := Same.sqt s36 hb3
  have dcv6 := dcv.same s36
  have dsv6 := dsv.same s36
  have st6 := st3.same s36
  have rnl := recL_nl ws cs
  -- what is due
  refine ⟨_, rfl, j, _, rfl, .inr hj6, _, rfl, by omega, by omega, fun D hD => ?_⟩
  have en : (((cv.length : Nat) : Int)).toNat = cs.length := by omega
  refine lc_map (walk_range (lo := 0)) (by omega) hD gm_name (fun i acc H7 => DpAll K H7 acc ((List.range i).map (recI ws cs))) (fun i acc H7 H8 t r => DpAll.ts t (noLs_map _ (fun i => recD_nl _ _ _) _) r) .nil (fun _ _ => True.intro) ?_ ?_
  · rintro i y H8 H7 acc hi s7 r _ ⟨rfl, rfl⟩ Ny ky
    rw [en] at hi
    have hc : cs[i]? = some cs[i] := List.getElem?_eq_getElem hi
    have hd7 := dcv6.same s7
    obtain ⟨cv2, hcv2, dcv2⟩ := hd7.get (i := i) (d := cmdD cs[i]) (by rw [List.getElem?_map, hc]; rfl)
    obtain ⟨v, hv, hvd⟩ := (dsv6.same s7).get (i := i + 1) (d := s3D (stAfter ws (cs.take (i + 1)))) (by rw [List.getElem?_map, ssOf_get (by omega)]; rfl)
    have so := hist_ok hh (i + 1) (by omega)
    have e0 : (0 : Int) + (i : Int) = (i : Int) := by omega
    have at1 : atI cv (0 + (i : Int)) = some cv2 := by rw [e0]; exact atI_nat hcv2
    have at2 : atI sv (0 + (i : Int) + 1) = some v := by rw [e0]; exact atI_nat (j := i + 1) hv
    refine ⟨rfl, _, rfl, _, rfl, j, cv, _, _, rfl, rfl, Same.sqt s7 hj6, at1, _, rfl, _, rfl, _, rfl, _, _, rfl, rfl, q, sv, _, v, rfl, rfl, SqL.of (s7 _ _ hq6), at2, b, v, ws, _, i + 1, rfl, Same.sqt s7 hb6, ok, hvd, so, by omega, fun w2 H9 s9 hw => ⟨by show 2 ≤ sizeLine; decide, fun t2 ht2 => ?_⟩⟩
    have s10 := s9.then (o := .tup [cv2, w2]) ht2
    refine ky _ _ s10 ?_
    rw [List.range_succ, List.map_append]
    refine DpAll.append (r.same s10) (.cons ?_ .nil)
    have er : recI ws cs i = recD ws (stAfter ws (cs.take i)) cs[i] := by
      unfold recI
      rw [List.getD_eq_getElem?_getD, hc]
      rfl
    rw [er]
    refine .tup (SqT.of upd_same) (.cons (dcv2.same s10) (.cons ?_ .nil))
    rw [← stAfter_succ hc]
    exact hw.same (Same.new ht2)
  rintro acc H7 s7 r hdd _
  rw [en] at r
  dsimp only [tNil]
  refine ⟨D, _, rfl, .inl ⟨SqL.of hdd, fun du hdu => ?_⟩⟩
  have s8 := s7.then (o := .tup acc) hdu
  have ddu : Dp K (upd H7 du (.tup acc)) (.ref du) (.tuple (recL ws cs)) := .tup (SqT.of upd_same) (r.same (Same.new hdu))
  have dr8 := dr.same s8
  have rf := recL_fine hh
  have rl := recL_len ws cs
  have fa : ∀ ds, PyData.tuple (recL ws cs) = .tuple ds → ds.length ≤ 20 ∧ ∀ e ∈ ds, CmdFine ws e := fun ds e => by
    injection e with e
    subst e
    exact ⟨by omega, fun e m => (rf e m).1⟩
  have fb : ∀ ds, PyData.tuple (recL ws cs) = .tuple ds → ds.length ≤ 20 ∧ ∀ e ∈ ds, RecBd e := fun ds e => by
    injection e with e
    subst e
    exact ⟨by omega, fun e m => (rf e m).2⟩
  have yes : ∃ ds, PyData.tuple (recL ws cs) = .tuple ds ∧ RightP ws s0 ds := ⟨_, rfl, recL_right hh⟩
  have eT : leq (.bool true) (.bool true) = true := by rw [leq, decide_eq_true rfl]
  have eF : leq (.bool false) (.bool false) = true := by rw [leq, decide_eq_true rfl]
  refine ⟨_, rfl, _, rfl, rv, .ref du, _, _, rfl, dr8, ddu, due_recL hh, fun H9 s9 => ⟨_, rfl, ?_⟩⟩
  rw [leq_self _ (nod_recL ws cs)]
  have hb9 := Same.sqt (s8.trans s9) hb6
  refine ⟨_, rfl, _, rfl, b, rv, ws, _, rfl, hb9, ok, dr8.same s9, fa, fun _ H10 s10 => ⟨_, rfl, ?_⟩, fun no => absurd yes no⟩
  refine ⟨_, rfl, _, rfl, b, rv, ws, _, rfl, Same.sqt s10 hb9, ok, (dr8.same s9).same s10, fb, fun _ H11 s11 => ⟨true, true, rfl, rfl, _, rfl, ?_⟩, fun no => absurd yes no⟩
  have s611 := ((s8.trans s9).trans s10).trans s11
  have hb11 := Same.sqt s611 hb6
  have st11 := st6.same s611
  have hq11 := s611 _ _ hq6
  have dsv11 := dsv6.same s611
  have dr11 := dr.same s611
  refine ⟨5, rfl, by decide, by decide, ?_⟩
  refine for_range (lo := 0) (n := (5 : Int).toNat) (fun i σ HX => ∃ (x4 x7 x10 x11 : Option V), σ = [some (.ref p0), some (.ref a), some (.ref b), some (.ref x), x4, some rv, some (.ref du), x7, some (.ref j), some (.ref q), x10, x11] ∧ SameX a H11 HX ∧ StAt HX a l ns) ?_ ?_ ?_
  · exact ⟨_, _, _, _, rfl, SameX.refl a H11, st11⟩
  · rintro i σ HX hi ⟨x4, x7, x10, x11, rfl, sxX, stX⟩
    have tX := sxX.ts st11
    refine ⟨_, rfl, _, rfl, _, rfl, _, rfl, a, l, b, q, rv, ns, ws, cs, sv, rfl, stX, TupS.sqt tX hb11, ok, hh, sxX _ _ nqa hq11, nqa, DpAll.ts tX (sts_nl ws cs) dsv11, Dp.ts tX rnl dr11, fun v d HY sxY stY dv fine => ?_⟩
    have tY := tX.trans (sxY.ts stX)
    have hbY := TupS.sqt tY hb11
    have gb : ∀ ds, d = .tuple ds → ds.length ≤ 20 ∧ ∀ e ∈ ds, RecBd e := fun ds e => ⟨(fine ds e).1, fun e2 m => ((fine ds e).2 e2 m).2⟩
    have ga : ∀ ds, d = .tuple ds → ds.length ≤ 20 ∧ ∀ e ∈ ds, CmdFine ws e := fun ds e => ⟨(fine ds e).1, fun e2 m => ((fine ds e).2 e2 m).1⟩
    refine ⟨_, rfl, _, rfl, b, v, ws, d, rfl, hbY, ok, dv, gb, fun P HZ sZ => ?_, fun nP HZ sZ => ?_⟩
    · refine ⟨_, rfl, _, rfl, b, v, ws, d, rfl, Same.sqt sZ hbY, ok, dv.same sZ, ga, fun _ HW sW => ⟨.bl true, .bl true, .bool true, .bool true, rfl, .bl true, .bl true, True.intro, fun HV sV => ⟨_, rfl, ?_⟩⟩, fun no => absurd P no⟩
      rw [eT]
      have sYV := (sZ.trans sW).trans sV
      exact iteF ⟨_, _, _, _, rfl, (sxX.trans sxY).trans (Same.x sYV), stY.same sYV⟩
    · refine ⟨_, rfl, _, rfl, b, v, ws, d, rfl, Same.sqt sZ hbY, ok, dv.same sZ, ga, fun P => absurd P nP, fun _ HW sW => ⟨.bl false, .bl false, .bool false, .bool false, rfl, .bl false, .bl false, True.intro, fun HV sV => ⟨_, rfl, ?_⟩⟩⟩
      rw [eF]
      have sYV := (sZ.trans sW).trans sV
      exact iteF ⟨_, _, _, _, rfl, (sxX.trans sxY).trans (Same.x sYV), stY.same sYV⟩
  · rintro σ HX ⟨x4, x7, x10, x11, rfl, sxX, stX⟩
    exact k HX
end K76
namespace K76
open PySem PySem.Spec PyProof.Rows L2
/-! ### the promises, put together -/
theorem law_all {P : Program} {w : World} {K : PySem.W.Frag} {mg : Str → Option Value} {base : Heap} {fL : Addr} {fdL : FuncData} (F : Fun K "law" "law" s_law fL fdL) (T : Txt K mg) : FnOk P w K mg base CX0 9 fL fdL ["_law_script"] (sp_law K) := by
  have h_is_spelled : Ok_is_spelled P w K mg base := ok_is_spelled T
  have h_is_code : Ok_is_code P w K mg base := ok_is_code T h_is_spelled
  have h_listed_states : Ok_listed_states P w K mg base := ok_listed_states T
  have h_moves_of : Ok_moves_of P w K mg base := ok_moves_of T h_listed_states
  have h_led_to : Ok_led_to P w K mg base := ok_led_to T
  have h_led_from : Ok_led_from P w K mg base := ok_led_from T
  have h_sets_ahead : Ok_sets_ahead P w K mg base := ok_sets_ahead T h_moves_of h_listed_states h_led_to
  have h_sets_behind : Ok_sets_behind P w K mg base := ok_sets_behind T h_moves_of h_listed_states h_led_from
  have h_runs_sets : Ok_runs_sets P w K mg base := ok_runs_sets T h_sets_behind h_sets_ahead
  have h_observable : Ok_observable P w K mg base := ok_observable T h_sets_ahead
  have h_known_in : Ok_known_in P w K mg base := ok_known_in T h_observable h_runs_sets
  have h_is_whole : Ok_is_whole P w K mg base := ok_is_whole T
  have h_check_code : Ok_check_code P w K mg base := ok_check_code T h_is_code
  have h_is_command : Ok_is_command P w K mg base := ok_is_command T h_is_whole
  have h_sent_more : Ok_sent_more P w K mg base := ok_sent_more T
  have h_behind : Ok_behind P w K mg base := ok_behind T h_sent_more
  have h_known_to : Ok_known_to P w K mg base := ok_known_to T h_known_in
  have h_are_rows : Ok_are_rows P w K mg base := ok_are_rows T h_is_whole
  have h_state_behind : Ok_state_behind P w K mg base := ok_state_behind T h_is_command h_behind h_known_to h_are_rows
  have h_are_right : Ok_are_right P w K mg base := ok_are_right T h_check_code h_state_behind
  have h_l_stream : Ok_l_stream P w K mg base := ok_l_stream T
  have h_l_next : Ok_l_next P w K mg base := ok_l_next T
  have h_l_is_integer : Ok_l_is_integer P w K mg base := ok_l_is_integer T
  have h_l_equal : Ok_l_equal P w K mg base := ok_leq T h_l_is_integer 5
  have h_l_string : Ok_l_string P w K mg base := ok_l_string T h_l_next
  have h_l_code : Ok_l_code P w K mg base := ok_l_code T h_l_next h_l_string
  have h_l_states : Ok_l_states P w K mg base := ok_l_states T
  have h_l_next_states : Ok_l_next_states P w K mg base := ok_l_next_states T
  have h_l_known : Ok_l_known P w K mg base := ok_l_known T h_l_states h_l_next_states
  have h_l_command : Ok_l_command P w K mg base := ok_l_command T h_l_next
  have h_l_why_not : Ok_l_why_not P w K mg base := ok_l_why_not T
  have h_l_behind : Ok_l_behind P w K mg base := ok_l_behind T
  have h_l_history : Ok_l_history P w K mg base := ok_l_history T h_l_next h_l_command h_l_why_not h_l_behind
  have h_l_told_all : Ok_l_told_all P w K mg base := ok_l_told_all T h_l_known
  have h_l_is_command : Ok_l_is_command P w K mg base := ok_l_is_command T
  have h_l_are_right : Ok_l_are_right P w K mg base := ok_l_are_right T h_l_is_command h_l_why_not h_l_behind h_l_equal h_l_told_all
  have h_l_turned : Ok_l_turned P w K mg base := ok_l_turned T h_l_next h_l_command
  exact ok_law F T h_check_code h_is_command h_behind h_known_to h_l_stream h_l_code h_l_history h_l_told_all h_are_right h_l_are_right h_l_equal h_l_turned
/-! ### what the top has written -/
section
variable {K : PySem.W.Frag} {h : Heap} {mg : Str → Option Value}
abbrev DefOf (X : K.In h) (mg : Str → Option Value) (x : Str) (st : Stmt) : Prop := DefIn K mg x st
abbrev NpOf (X : K.In h) (mg : Str → Option Value) : Prop := ∃ C fI fd, NPt K mg C fI fd
abbrev BcOf (X : K.In h) (mg : Str → Option Value) : Prop := ∃ C fI fA fR fdI fdA fdR, BCt K mg C fI fA fR fdI fdA fdR
theorem def_mk {x : Str} {st : Stmt} {f : Addr} {od an : Option Addr} {sl : Array (Option Value)} {oc kV dc pm cd ct : Value} (X : K.In h) (G : h.Ns mainGlobals mg) (a : PySem.W.nsIn K mainGlobals x = some (some (.ref f)))
    (l : K.lookup f = some ⟨oc, od, .func (PySem.W.fnOf x x (defArgs st) (defBody st) (defScope st) .none kV dc pm an cd ct), sl⟩) (c : PySem.W.codeIn K cd x = true) (k : PySem.W.keepIn K (.ref f) = true) : DefIn K mg x st :=
  ⟨f, _, PySem.W.mg_of X G a, fun_mk (st := st) l c k⟩
theorem con_mk {x : Str} {n : Int} {v : Value} (X : K.In h) (G : h.Ns mainGlobals mg) (a : PySem.W.nsIn K mainGlobals x = some (some v)) (e : ∃ t, v = .int n t) : ∃ t, mg x = some (.int n t) := by
  obtain ⟨t, rfl⟩ := e
  exact ⟨t, PySem.W.mg_of X G a⟩
theorem con_mkS {x z : Str} {v : Value} (X : K.In h) (G : h.Ns mainGlobals mg) (a : PySem.W.nsIn K mainGlobals x = some (some v)) (e : ∃ t, v = .str z t) : ∃ t, mg x = some (.str z t) := by
  obtain ⟨t, rfl⟩ := e
  exact ⟨t, PySem.W.mg_of X G a⟩
theorem own_err {S : Addr} (h1 : PySem.W.subIn K (.ref S) (.type "BaseException") = some true) (h2 : PySem.W.isClsIn K S = true) (h3 : PySem.W.typeIn K (.ref S) = some (.type "type")) (h4 : PySem.W.subIn K (.ref S) (.ref S) = some true) : PySem.W.exmOne K (.ref S) (.ref S) = some true := by
  have h5 : (PySem.W.clsIn K S).isSome = true := h2
  unfold PySem.W.exmOne
  simp only [h1, h3, h5, h4, beq_self_eq_true, Bool.and_self, if_true]
  unfold PySem.W.kitCls
  simp only [h1, h3, h5, h4, beq_self_eq_true, Bool.and_self, if_true]
theorem np_mk {C f : Addr} {nm q : Str} {N : Addr} {bs bm : List Value} {sn : List Str} {sub : List Value} {ab : Bool} {col : Option Bool} {dd : Option Addr} {m0 m1 m2 m3 m5 : Option Value} {od an : Option Addr} {sl : Array (Option Value)} {oc kV dc pm cd ct : Value} (X : K.In h) (G : h.Ns mainGlobals mg)
    (aC : PySem.W.nsIn K mainGlobals "NotPossible" = some (some (.ref C))) (xL : K.lookup C = some (excClassObj nm q C N bs bm true sn sub ab col dd m0 m1 m2 m3 m5 "ValueError.__new__")) (rv : PySem.HandSPX.refsVE bm = true)
    (sa : PySem.W.findIn K (.ref C) "__setattr__" = some (some (.builtin "object.__setattr__"))) (nw : PySem.W.findIn K (.ref C) "why" = some none) (a : PySem.W.findIn K (.ref C) "__init__" = some (some (.ref f))) (t : PySem.W.typeIn K (.ref f) = some (.type "function"))
    (l : K.lookup f = some ⟨oc, od, .func (PySem.W.fnOf "__init__" "NotPossible.__init__" (defArgs s_NP_init) (defBody s_NP_init) (defScope s_NP_init) .none kV dc pm an cd ct), sl⟩) (c : PySem.W.codeIn K cd "NotPossible.__init__" = true) (k : PySem.W.keepIn K (.ref f) = true)
    (kC : PySem.W.keepIn K (.ref C) = true) (eC : PySem.W.subIn K (.ref C) (.type "BaseException") = some true) (tC : PySem.W.typeIn K (.ref C) = some (.type "type")) (iC : PySem.W.isClsIn K C = true) (sC : PySem.W.subIn K (.ref C) (.ref C) = some true) : ∃ C fI fd, NPt K mg C fI fd :=
  ⟨C, f, _, { g := PySem.W.mg_of X G aC, ox := ⟨⟨nm, q, N, bs, bm, sn, sub, ab, col, dd, m0, m1, m2, m3, m5, xL, rv⟩, sa, eC, tC, kC⟩, iC := a, tI := t, F := fun_mk (st := s_NP_init) l c k, nw := nw, te := own_err eC iC tC sC }⟩
theorem bc_mk {C f1 f2 f3 : Addr} {od1 an1 od2 an2 od3 an3 : Option Addr} {sl1 sl2 sl3 : Array (Option Value)} {oc1 kV1 dc1 pm1 cd1 ct1 oc2 kV2 dc2 pm2 cd2 ct2 oc3 kV3 dc3 pm3 cd3 ct3 : Value} (X : K.In h) (G : h.Ns mainGlobals mg) (aC : PySem.W.nsIn K mainGlobals "Broadcast" = some (some (.ref C)))
    (a1 : PySem.W.findIn K (.ref C) "__init__" = some (some (.ref f1))) (i1 : PySem.W.isFn K (.ref f1) = true) (l1 : K.lookup f1 = some ⟨oc1, od1, .func (PySem.W.fnOf "__init__" "Broadcast.__init__" (defArgs s_B_init) (defBody s_B_init) (defScope s_B_init) .none kV1 dc1 pm1 an1 cd1 ct1), sl1⟩) (c1 : PySem.W.codeIn K cd1 "Broadcast.__init__" = true) (k1 : PySem.W.keepIn K (.ref f1) = true)
    (a2 : PySem.W.findIn K (.ref C) "act" = some (some (.ref f2))) (i2 : PySem.W.isFn K (.ref f2) = true) (l2 : K.lookup f2 = some ⟨oc2, od2, .func (PySem.W.fnOf "act" "Broadcast.act" (defArgs s_B_act) (defBody s_B_act) (defScope s_B_act) .none kV2 dc2 pm2 an2 cd2 ct2), sl2⟩) (c2 : PySem.W.codeIn K cd2 "Broadcast.act" = true) (k2 : PySem.W.keepIn K (.ref f2) = true)
    (a3 : PySem.W.findIn K (.ref C) "records" = some (some (.ref f3))) (i3 : PySem.W.isFn K (.ref f3) = true) (l3 : K.lookup f3 = some ⟨oc3, od3, .func (PySem.W.fnOf "records" "Broadcast.records" (defArgs s_B_records) (defBody s_B_records) (defScope s_B_records) .none kV3 dc3 pm3 an3 cd3 ct3), sl3⟩) (c3 : PySem.W.codeIn K cd3 "Broadcast.records" = true) (k3 : PySem.W.keepIn K (.ref f3) = true)
    (pg : PySem.W.plainGet K C Str.empty = true) (hd : PySem.W.hasDictIn K C = true) (po : PySem.W.plainOver K C = true) (sa : PySem.W.findIn K (.ref C) "__setattr__" = some (some (.builtin "object.__setattr__"))) (mk : PySem.W.makesIn K C = true) (kc : PySem.W.keepIn K (.ref C) = true)
    (nC : PySem.W.findIn K (.ref C) "code" = some none) (nS : PySem.W.findIn K (.ref C) "states" = some none) (nM : PySem.W.findIn K (.ref C) "commands" = some none) : ∃ C fI fA fR fdI fdA fdR, BCt K mg C fI fA fR fdI fdA fdR :=
  ⟨C, f1, f2, f3, _, _, _, { g := PySem.W.mg_of X G aC, cl := ⟨pg, hd, po, sa⟩, nC := nC, nS := nS, nM := nM, mkB := ⟨mk, a1, i1, kc⟩, FI := fun_mk (st := s_B_init) l1 c1 k1, mA := ⟨a2, i2, k2⟩, FA := fun_mk (st := s_B_act) l2 c2 k2, mR := ⟨a3, i3, k3⟩, FR := fun_mk (st := s_B_records) l3 c3 k3 }⟩
theorem fin_mk {P : Program} {w : World} {fa f : Addr} {od an : Option Addr} {sl : Array (Option Value)} {oc kV dc pm cd ct : Value} (X : K.In h) (G : h.Ns mainGlobals mg) (hfa : mg "law" = some (.ref fa)) (T : Txt K mg) (a : PySem.W.nsIn K mainGlobals "law" = some (some (.ref f)))
    (l : K.lookup f = some ⟨oc, od, .func (PySem.W.fnOf "law" "law" (defArgs s_law) (defBody s_law) (defScope s_law) .none kV dc pm an cd ct), sl⟩) (c : PySem.W.codeIn K cd "law" = true) (k : PySem.W.keepIn K (.ref f) = true) :
    ∃ fd : FuncData, (∀ (s : Shared) (v : Value), BindsTo s fd ⟨[v], []⟩ [("_law_script", v)]) ∧ ∀ base : Heap, K.In base → base.Ns mainGlobals mg → FnOk P w K mg base CX0 9 fa fd ["_law_script"] (sp_law K) := by
  have e := hfa.symm.trans (PySem.W.mg_of X G a)
  cases e
  exact ⟨_, fun s v => .of_eq rfl, fun base _ _ => law_all (fun_mk (st := s_law) l c k) T⟩
end
theorem walk {l : PySem.W.OpenLaw} {q : Program} {loose : List Str} {XP : (Str → Option Value) → Heap → Prop} {YP : World → Heap → Prop} {d : DefRec} {K : Params → PySem.W.Frag} (hn : l.most = some 63) (hdf : d.params.defaults = [])
    (hY : ∀ (w : World) (h : Heap), YP w h → (K w.params).In h)
    (F : ∀ (w : World) (mg : Str → Option Value) (fa : Addr) (h : Heap), (K w.params).In h → h.Ns mainGlobals mg → mg d.name = some (.ref fa) →
      ∃ fd : FuncData, (∀ (s : Shared) (u : Value), BindsTo s fd ⟨[u], []⟩ [("_law_script", u)]) ∧ ∀ base : Heap, (K w.params).In base → base.Ns mainGlobals mg → FnOk l.prog w (K w.params) mg base CX0 9 fa fd ["_law_script"] (sp_law (K w.params))) :
    PySem.W.WalkO q loose XP YP l.row.toRowW d [] (fun f vs => PySem.call f vs) :=
  L2.walk_of (n := 63) (k := 9) (x := "_law_script") (CX := fun _ => CX0) (sp := fun w => sp_law (K w.params)) hn (by decide) hdf ⟨rfl, by decide, by decide⟩ hY F (fun _ _ a ns hl _ hS => ⟨a, ns, rfl, hS, fun _ => rfl⟩) fun _ _ _ _ _ z => z
end K76
set_option Elab.async false
set_option linter.all false
open PySem PySem.W PyProof.Rows
set_option maxRecDepth 100000 in
set_option maxHeartbeats 0 in
theorem PySem.Challenge.cw_syncedwords_k76_whole_records_by_whomeve_holds : PySem.Challenge.rw_syncedwords_k76_whole_records_by_whomeve.Holds := by
  w_on; o_law; k_head; (case hw => w_witness2)
  k_fill
  refine K76.walk (l := PySem.Challenge.rw_syncedwords_k76_whole_records_by_whomeve) rfl rfl (fun w h Y => PySem.W.kIn_of Y) ?F
  case F =>
    intro w mg fa h KX G hmg
    have d_is_spelled : K76.DefOf KX mg "is_spelled" K76.s_is_spelled := by
      refine' K76.def_mk KX G ?a ?l ?c ?k
      (case a => k_is); (case l => k_is); (case c => k_is); (case k => k_is)
    have d_is_code : K76.DefOf KX mg "is_code" K76.s_is_code := by
      refine' K76.def_mk KX G ?a ?l ?c ?k
      (case a => k_is); (case l => k_is); (case c => k_is); (case k => k_is)
    have d_listed_states : K76.DefOf KX mg "listed_states" K76.s_listed_states := by
      refine' K76.def_mk KX G ?a ?l ?c ?k
      (case a => k_is); (case l => k_is); (case c => k_is); (case k => k_is)
    have d_moves_of : K76.DefOf KX mg "moves_of" K76.s_moves_of := by
      refine' K76.def_mk KX G ?a ?l ?c ?k
      (case a => k_is); (case l => k_is); (case c => k_is); (case k => k_is)
    have d_led_to : K76.DefOf KX mg "led_to" K76.s_led_to := by
      refine' K76.def_mk KX G ?a ?l ?c ?k
      (case a => k_is); (case l => k_is); (case c => k_is); (case k => k_is)
    have d_led_from : K76.DefOf KX mg "led_from" K76.s_led_from := by
      refine' K76.def_mk KX G ?a ?l ?c ?k
      (case a => k_is); (case l => k_is); (case c => k_is); (case k => k_is)
    have d_sets_ahead : K76.DefOf KX mg "sets_ahead" K76.s_sets_ahead := by
      refine' K76.def_mk KX G ?a ?l ?c ?k
      (case a => k_is); (case l => k_is); (case c => k_is); (case k => k_is)
    have d_sets_behind : K76.DefOf KX mg "sets_behind" K76.s_sets_behind := by
      refine' K76.def_mk KX G ?a ?l ?c ?k
      (case a => k_is); (case l => k_is); (case c => k_is); (case k => k_is)
    have d_runs_sets : K76.DefOf KX mg "runs_sets" K76.s_runs_sets := by
      refine' K76.def_mk KX G ?a ?l ?c ?k
      (case a => k_is); (case l => k_is); (case c => k_is); (case k => k_is)
    have d_observable : K76.DefOf KX mg "observable" K76.s_observable := by
      refine' K76.def_mk KX G ?a ?l ?c ?k
      (case a => k_is); (case l => k_is); (case c => k_is); (case k => k_is)
    have d_known_in : K76.DefOf KX mg "known_in" K76.s_known_in := by
      refine' K76.def_mk KX G ?a ?l ?c ?k
      (case a => k_is); (case l => k_is); (case c => k_is); (case k => k_is)
    have d_is_whole : K76.DefOf KX mg "is_whole" K76.s_is_whole := by
      refine' K76.def_mk KX G ?a ?l ?c ?k
      (case a => k_is); (case l => k_is); (case c => k_is); (case k => k_is)
    have d_check_code : K76.DefOf KX mg "check_code" K76.s_check_code := by
      refine' K76.def_mk KX G ?a ?l ?c ?k
      (case a => k_is); (case l => k_is); (case c => k_is); (case k => k_is)
    have d_is_command : K76.DefOf KX mg "is_command" K76.s_is_command := by
      refine' K76.def_mk KX G ?a ?l ?c ?k
      (case a => k_is); (case l => k_is); (case c => k_is); (case k => k_is)
    have d_sent_more : K76.DefOf KX mg "sent_more" K76.s_sent_more := by
      refine' K76.def_mk KX G ?a ?l ?c ?k
      (case a => k_is); (case l => k_is); (case c => k_is); (case k => k_is)
    have d_behind : K76.DefOf KX mg "behind" K76.s_behind := by
      refine' K76.def_mk KX G ?a ?l ?c ?k
      (case a => k_is); (case l => k_is); (case c => k_is); (case k => k_is)
    have d_known_to : K76.DefOf KX mg "known_to" K76.s_known_to := by
      refine' K76.def_mk KX G ?a ?l ?c ?k
      (case a => k_is); (case l => k_is); (case c => k_is); (case k => k_is)
    have d_are_rows : K76.DefOf KX mg "are_rows" K76.s_are_rows := by
      refine' K76.def_mk KX G ?a ?l ?c ?k
      (case a => k_is); (case l => k_is); (case c => k_is); (case k => k_is)
    have d_state_behind : K76.DefOf KX mg "state_behind" K76.s_state_behind := by
      refine' K76.def_mk KX G ?a ?l ?c ?k
      (case a => k_is); (case l => k_is); (case c => k_is); (case k => k_is)
    have d_are_right : K76.DefOf KX mg "are_right" K76.s_are_right := by
      refine' K76.def_mk KX G ?a ?l ?c ?k
      (case a => k_is); (case l => k_is); (case c => k_is); (case k => k_is)
    have d_l_stream : K76.DefOf KX mg "_law_stream" K76.s_l_stream := by
      refine' K76.def_mk KX G ?a ?l ?c ?k
      (case a => k_is); (case l => k_is); (case c => k_is); (case k => k_is)
    have d_l_next : K76.DefOf KX mg "_law_next" K76.s_l_next := by
      refine' K76.def_mk KX G ?a ?l ?c ?k
      (case a => k_is); (case l => k_is); (case c => k_is); (case k => k_is)
    have d_l_is_integer : K76.DefOf KX mg "_law_is_integer" K76.s_l_is_integer := by
      refine' K76.def_mk KX G ?a ?l ?c ?k
      (case a => k_is); (case l => k_is); (case c => k_is); (case k => k_is)
    have d_l_equal : K76.DefOf KX mg "_law_equal" K76.s_l_equal := by
      refine' K76.def_mk KX G ?a ?l ?c ?k
      (case a => k_is); (case l => k_is); (case c => k_is); (case k => k_is)
    have d_l_string : K76.DefOf KX mg "_law_string" K76.s_l_string := by
      refine' K76.def_mk KX G ?a ?l ?c ?k
      (case a => k_is); (case l => k_is); (case c => k_is); (case k => k_is)
    have d_l_code : K76.DefOf KX mg "_law_code" K76.s_l_code := by
      refine' K76.def_mk KX G ?a ?l ?c ?k
      (case a => k_is); (case l => k_is); (case c => k_is); (case k => k_is)
    have d_l_states : K76.DefOf KX mg "_law_states" K76.s_l_states := by
      refine' K76.def_mk KX G ?a ?l ?c ?k
      (case a => k_is); (case l => k_is); (case c => k_is); (case k => k_is)
    have d_l_next_states : K76.DefOf KX mg "_law_next_states" K76.s_l_next_states := by
      refine' K76.def_mk KX G ?a ?l ?c ?k
      (case a => k_is); (case l => k_is); (case c => k_is); (case k => k_is)
    have d_l_known : K76.DefOf KX mg "_law_known" K76.s_l_known := by
      refine' K76.def_mk KX G ?a ?l ?c ?k
      (case a => k_is); (case l => k_is); (case c => k_is); (case k => k_is)
    have d_l_command : K76.DefOf KX mg "_law_command" K76.s_l_command := by
      refine' K76.def_mk KX G ?a ?l ?c ?k
      (case a => k_is); (case l => k_is); (case c => k_is); (case k => k_is)
    have d_l_why_not : K76.DefOf KX mg "_law_why_not" K76.s_l_why_not := by
      refine' K76.def_mk KX G ?a ?l ?c ?k
      (case a => k_is); (case l => k_is); (case c => k_is); (case k => k_is)
    have d_l_behind : K76.DefOf KX mg "_law_behind" K76.s_l_behind := by
      refine' K76.def_mk KX G ?a ?l ?c ?k
      (case a => k_is); (case l => k_is); (case c => k_is); (case k => k_is)
    have d_l_history : K76.DefOf KX mg "_law_history" K76.s_l_history := by
      refine' K76.def_mk KX G ?a ?l ?c ?k
      (case a => k_is); (case l => k_is); (case c => k_is); (case k => k_is)
    have d_l_told_all : K76.DefOf KX mg "_law_told_all" K76.s_l_told_all := by
      refine' K76.def_mk KX G ?a ?l ?c ?k
      (case a => k_is); (case l => k_is); (case c => k_is); (case k => k_is)
    have d_l_is_command : K76.DefOf KX mg "_law_is_command" K76.s_l_is_command := by
      refine' K76.def_mk KX G ?a ?l ?c ?k
      (case a => k_is); (case l => k_is); (case c => k_is); (case k => k_is)
    have d_l_are_right : K76.DefOf KX mg "_law_are_right" K76.s_l_are_right := by
      refine' K76.def_mk KX G ?a ?l ?c ?k
      (case a => k_is); (case l => k_is); (case c => k_is); (case k => k_is)
    have d_l_turned : K76.DefOf KX mg "_law_turned" K76.s_l_turned := by
      refine' K76.def_mk KX G ?a ?l ?c ?k
      (case a => k_is); (case l => k_is); (case c => k_is); (case k => k_is)
    have d_law : K76.DefOf KX mg "law" K76.s_law := by
      refine' K76.def_mk KX G ?a ?l ?c ?k
      (case a => k_is); (case l => k_is); (case c => k_is); (case k => k_is)
    have np : K76.NpOf KX mg := by
      refine' K76.np_mk KX G ?aC ?xL ?rv ?sa ?nw ?a ?t ?l ?c ?k ?kC ?eC ?tC ?iC ?sC
      (case aC => k_is); (case xL => k_is); (case rv => decide +kernel); (case sa => k_is); (case nw => k_is); (case a => k_is); (case t => k_is); (case l => k_is); (case c => k_is); (case k => k_is)
      (case kC => k_is); (case eC => k_is); (case tC => k_is); (case iC => k_is); (case sC => first | rfl | k_is)
    have bc : K76.BcOf KX mg := by
      refine' K76.bc_mk KX G ?aC ?a1 ?i1 ?l1 ?c1 ?k1 ?a2 ?i2 ?l2 ?c2 ?k2 ?a3 ?i3 ?l3 ?c3 ?k3 ?pg ?hd ?po ?sa ?mk ?kc ?nC ?nS ?nM
      (case aC => k_is); (case a1 => k_is); (case i1 => k_is); (case l1 => k_is); (case c1 => k_is); (case k1 => k_is)
      (case a2 => k_is); (case i2 => k_is); (case l2 => k_is); (case c2 => k_is); (case k2 => k_is)
      (case a3 => k_is); (case i3 => k_is); (case l3 => k_is); (case c3 => k_is); (case k3 => k_is)
      (case pg => k_is); (case hd => k_is); (case po => k_is); (case sa => k_is); (case mk => k_is); (case kc => k_is)
      (case nC => k_is); (case nS => k_is); (case nM => k_is)
    have b_len : mg "len" = none := by
      refine' PySem.W.mg_none_of KX G ?z
      (case z => k_is)
    have b_isinstance : mg "isinstance" = none := by
      refine' PySem.W.mg_none_of KX G ?z
      (case z => k_is)
    have b_all : mg "all" = none := by
      refine' PySem.W.mg_none_of KX G ?z
      (case z => k_is)
    have b_any : mg "any" = none := by
      refine' PySem.W.mg_none_of KX G ?z
      (case z => k_is)
    have b_sorted : mg "sorted" = none := by
      refine' PySem.W.mg_none_of KX G ?z
      (case z => k_is)
    have b_abs : mg "abs" = none := by
      refine' PySem.W.mg_none_of KX G ?z
      (case z => k_is)
    have b_enumerate : mg "enumerate" = none := by
      refine' PySem.W.mg_none_of KX G ?z
      (case z => k_is)
    have b_zip : mg "zip" = none := by
      refine' PySem.W.mg_none_of KX G ?z
      (case z => k_is)
    have b_range : mg "range" = none := by
      refine' PySem.W.mg_none_of KX G ?z
      (case z => k_is)
    have b_int : mg "int" = none := by
      refine' PySem.W.mg_none_of KX G ?z
      (case z => k_is)
    have b_str : mg "str" = none := by
      refine' PySem.W.mg_none_of KX G ?z
      (case z => k_is)
    have b_bool : mg "bool" = none := by
      refine' PySem.W.mg_none_of KX G ?z
      (case z => k_is)
    have b_tuple : mg "tuple" = none := by
      refine' PySem.W.mg_none_of KX G ?z
      (case z => k_is)
    have b_list : mg "list" = none := by
      refine' PySem.W.mg_none_of KX G ?z
      (case z => k_is)
    have c_LETTERS : ∃ t, mg "LETTERS" = some (.str "abc" t) := by
      refine' K76.con_mkS KX G ?a ?e
      (case a => k_is); (case e => first | exact ⟨_, rfl⟩ | exact ⟨_, by congr 1⟩)
    have c_MOST_WORDS : ∃ t, mg "MOST_WORDS" = some (.int 6 t) := by
      refine' K76.con_mk KX G ?a ?e
      (case a => k_is); (case e => exact ⟨_, rfl⟩)
    have c_LONGEST_WORD : ∃ t, mg "LONGEST_WORD" = some (.int 5 t) := by
      refine' K76.con_mk KX G ?a ?e
      (case a => k_is); (case e => exact ⟨_, rfl⟩)
    have c_MOST_LISTENERS : ∃ t, mg "MOST_LISTENERS" = some (.int 6 t) := by
      refine' K76.con_mk KX G ?a ?e
      (case a => k_is); (case e => exact ⟨_, rfl⟩)
    have c_MOST_COMMANDS : ∃ t, mg "MOST_COMMANDS" = some (.int 20 t) := by
      refine' K76.con_mk KX G ?a ?e
      (case a => k_is); (case e => exact ⟨_, rfl⟩)
    refine' K76.fin_mk KX G hmg { b_len := b_len, b_isinstance := b_isinstance, b_all := b_all, b_any := b_any, b_sorted := b_sorted, b_abs := b_abs, b_enumerate := b_enumerate, b_zip := b_zip, b_range := b_range, b_int := b_int, b_str := b_str, b_bool := b_bool, b_tuple := b_tuple, b_list := b_list, c_LETTERS := c_LETTERS, c_MOST_WORDS := c_MOST_WORDS, c_LONGEST_WORD := c_LONGEST_WORD, c_MOST_LISTENERS := c_MOST_LISTENERS, c_MOST_COMMANDS := c_MOST_COMMANDS, d_is_spelled := d_is_spelled, d_is_code := d_is_code, d_listed_states := d_listed_states, d_moves_of := d_moves_of, d_led_to := d_led_to, d_led_from := d_led_from, d_sets_ahead := d_sets_ahead, d_sets_behind := d_sets_behind, d_runs_sets := d_runs_sets, d_observable := d_observable, d_known_in := d_known_in, d_is_whole := d_is_whole, d_check_code := d_check_code, d_is_command := d_is_command, d_sent_more := d_sent_more, d_behind := d_behind, d_known_to := d_known_to, d_are_rows := d_are_rows, d_state_behind := d_state_behind, d_are_right := d_are_right, d_l_stream := d_l_stream, d_l_next := d_l_next, d_l_is_integer := d_l_is_integer, d_l_equal := d_l_equal, d_l_string := d_l_string, d_l_code := d_l_code, d_l_states := d_l_states, d_l_next_states := d_l_next_states, d_l_known := d_l_known, d_l_command := d_l_command, d_l_why_not := d_l_why_not, d_l_behind := d_l_behind, d_l_history := d_l_history, d_l_told_all := d_l_told_all, d_l_is_command := d_l_is_command, d_l_are_right := d_l_are_right, d_l_turned := d_l_turned, d_law := d_law, np := np, bc := bc } ?a ?l ?c ?k
    (case a => k_is); (case l => k_is); (case c => k_is); (case k => k_is)
