import PyProof.Rows.All
import Wide.All
import OpenK.AllK
import Wide.FinOn
import KE.KStateDown
import Lean
import HandS.ForMost
import HandS.Codes
import HandS.Defaults
import HandS.IsInst
import HandS.SetKeys
import HandS.DictComp
import HandS.DeepEq
import HandS.Deep
import HandS.TupAny
import HandS.More
import HandS.Conv
import HandS.Flow
import HandS.Style
import HandS.Walk
import HandS.Exc
import HandS.TryOnly
import HandS.ExcOwn
import HandS.WordsExc
import HandS.ExcInit
import HandS.ExcField
import HandS.ExcIs
import HandS.ExcValue
import HandS.Lambda
import HandS.EndTab
import HandS.HeadWalk
import HandS.Head0
import HandS.Head1
import HandS.Head2
import HandS.HeadHook1
import HandS.HeadHook2
import HandS.HeadHook3
import HandS.HeadHook4
import HandS.Small
import HandS.NoneIn
import HandS.Sort
import HandS.SortRule
import HandS.CallSlots
import KE.GoesEnum
import KE.SortData
import KE.SortKeyHeap
import KE.KExcSuper
import PySem.Challenge.RW_hueward_k35_whole_copying_codes_exactly
import HandS.TupLen
import HandS.Nested
import KE.KExcIs
import HandS.DictSub
set_option Elab.async false
set_option linter.all false
set_option maxRecDepth 100000
set_option maxHeartbeats 0
namespace Hw
open PySem PySem.Spec PyProof.Rows L2
def top (i : Nat) : Stmt := PySem.Challenge.pw_hueward_k35_whole_copying_codes_exactly.main.body.getD i (.Pass ⟨0, 0, 0, 0⟩)
def IsDef (K : PySem.W.Frag) (mg : Str → Option Value) (x : Str) (st : Stmt) : Prop := ∃ f fd, FunD K x x (defArgs st) (defBody st) (defScope st) [] [] f fd ∧ mg x = some (.ref f)
def IsMet (K : PySem.W.Frag) (C : Addr) (m qual : Str) (st : Stmt) : Prop := ∃ f fd, FunD K m qual (defArgs st) (defBody st) (defScope st) [] [] f fd ∧ Meth K C m f
def IsInit (K : PySem.W.Frag) (C : Addr) (qual : Str) (st : Stmt) : Prop := ∃ f fd, FunD K "__init__" qual (defArgs st) (defBody st) (defScope st) [] [] f fd ∧ Mk K C f
section
variable {P : Program} {w : World} {K : PySem.W.Frag} {mg : Str → Option Value} {base : Heap}
def Body (P : Program) (w : World) (K : PySem.W.Frag) (mg : Str → Option Value) (base : Heap) (N : List Str) (qual : Str) (st : Stmt) (k : Nat) (sp : Sp) : Prop :=
  ∀ (f : Addr) (cdv : Value) (A : Around) (outer : List Env) (s : Shared) (H : Hp) (vs : List V) (Q : VK) (E : XK), Room k (A.deeper (envOfC qual (defScope st) s.heap.objs.size f cdv)) → sp vs H Q E →
      ∃ t, PSs (cxOf C8.CX0 P w K mg base N qual (defScope st) f cdv A outer s H E).nox (defBody st) t ∧ t { nx := fun _ H' => Q .non H', rt := Q } (start N vs) H
theorem fnOk {N ps : List Str} {k : Nat} {sp : Sp} {x qual : Str} {st : Stmt} {f : Addr} {fd : FuncData} (F : FunD K x qual (defArgs st) (defBody st) (defScope st) [] [] f fd) (S : FnScope N ps (defScope st)) (len : ∀ vs H Q E, sp vs H Q E → vs.length = ps.length)
    (hb : Body P w K mg base N qual st k sp) : FnOk P w K mg base C8.CX0 (k + 1) f fd ps sp :=
  F.ok S len fun cdv A outer s H vs Q E hr hsp => by
    obtain ⟨t, h, q⟩ := hb f cdv A outer s H vs Q E hr hsp
    exact ⟨t, h.nox, q⟩
theorem cal {N ps : List Str} {k : Nat} {sp : Sp} {x : Str} {st : Stmt} (D : IsDef K mg x st)
    (hbi : ∀ (kV doc pm : Value) (an : Option Addr) (cdv ct : Value) (us : List Value), us.length = ps.length → bindArgs (PySem.W.fnOf x x (defArgs st) (defBody st) (defScope st) .none kV doc pm an cdv ct) ⟨us, []⟩ = pure (ps.zip us))
    (S : FnScope N ps (defScope st)) (len : ∀ vs H Q E, sp vs H Q E → vs.length = ps.length) (hb : Body P w K mg base N x st k sp) : C8.Cal P w K mg base (k + 1) x sp [] := by
  obtain ⟨f, fd, F, hm⟩ := D
  exact ⟨f, fd, ps, [], fnOk F S len hb, hm, F.kp, F.bindsN hbi, .nil⟩
theorem met {N ps : List Str} {k : Nat} {sp : Sp} {C : Addr} {m qual : Str} {st : Stmt} (c : Cls K C) (D : IsMet K C m qual st)
    (hbi : ∀ (kV doc pm : Value) (an : Option Addr) (cdv ct : Value) (us : List Value), us.length = ps.length → bindArgs (PySem.W.fnOf m qual (defArgs st) (defBody st) (defScope st) .none kV doc pm an cdv ct) ⟨us, []⟩ = pure (ps.zip us))
    (S : FnScope N ps (defScope st)) (len : ∀ vs H Q E, sp vs H Q E → vs.length = ps.length) (hb : Body P w K mg base N qual st k sp) : C8.Met P w K mg base (k + 1) C m sp [] := by
  obtain ⟨f, fd, F, hm⟩ := D
  exact ⟨f, fd, ps, [], c, hm, fnOk F S len hb, F.bindsN hbi, .nil⟩
theorem mak {N ps : List Str} {k : Nat} {sp : Sp} {C : Addr} {x qual : Str} {st : Stmt} (hx : mg x = some (.ref C)) (D : IsInit K C qual st)
    (hbi : ∀ (kV doc pm : Value) (an : Option Addr) (cdv ct : Value) (us : List Value), us.length = ps.length → bindArgs (PySem.W.fnOf "__init__" qual (defArgs st) (defBody st) (defScope st) .none kV doc pm an cdv ct) ⟨us, []⟩ = pure (ps.zip us))
    (S : FnScope N ps (defScope st)) (len : ∀ vs H Q E, sp vs H Q E → vs.length = ps.length) (hb : Body P w K mg base N qual st k sp) : C8.Mak P w K mg base (k + 1) x C sp [] := by
  obtain ⟨f, fd, F, hm⟩ := D
  exact ⟨f, fd, ps, [], hm, fnOk F S len hb, hx, F.bindsN hbi, .nil⟩
end
theorem same_upd {H : Hp} {p : Addr} {o : HO} (h : H p = none) : Same H (upd H p o) := fun b x e => by
  rw [upd_ne (ne_of_none e h)]
  exact e
theorem same_mut {H H' : Hp} {p : Addr} {o : HO} (e : Same H H') (h : H p = none) : Same H (upd H' p o) := fun a u ha => by
  rw [upd_ne (ne_of_none ha h)]
  exact e a u ha
theorem same_new {H H' : Hp} {p : Addr} {o : HO} (e : Same H H') (h : H' p = none) : Same H (upd H' p o) := e.trans (same_upd h)
theorem same_t {K : PySem.W.Frag} {H H' : Hp} {a : Addr} {xs : List V} (e : Same H H') (h : SqT K H a xs) : SqT K H' a xs := by
  rcases h with (h | ⟨o, h⟩) | h
  · exact .inl (.inl (e _ _ h))
  · exact .inl (.inr ⟨o, e _ _ h⟩)
  · exact .inr h
def Ret (H : Hp) (Q : VK) (v : V) : Prop := ∀ H', Same H H' → Q v H'
end Hw
namespace Hw
open PySem PySem.Spec PyProof.Rows L2
structure Txt (K : PySem.W.Frag) (mg : Str → Option Value) : Prop where
  b_len : mg "len" = none
  b_isinstance : mg "isinstance" = none
  b_int : mg "int" = none
  b_bool : mg "bool" = none
  b_str : mg "str" = none
  b_list : mg "list" = none
  b_tuple : mg "tuple" = none
  b_dict : mg "dict" = none
  b_range : mg "range" = none
  b_enumerate : mg "enumerate" = none
  b_sorted : mg "sorted" = none
  b_min : mg "min" = none
  b_abs : mg "abs" = none
  b_super : mg "super" = none
  b_ValueError : mg "ValueError" = none
  g_LEAST_SIZE : ∃ u, mg "LEAST_SIZE" = some u ∧ RelV (.int 2) u
  g_MOST_SIZE : ∃ u, mg "MOST_SIZE" = some u ∧ RelV (.int 10000) u
  g_MOST_PORT : ∃ u, mg "MOST_PORT" = some u ∧ RelV (.int 5) u
  g_MOST_INPUTS : ∃ u, mg "MOST_INPUTS" = some u ∧ RelV (.int 400) u
  g_MOST_INPUT : ∃ u, mg "MOST_INPUT" = some u ∧ RelV (.int 9999) u
  g_MOST_HUES : ∃ u, mg "MOST_HUES" = some u ∧ RelV (.int 5) u
  g_MOST_BANK : ∃ u, mg "MOST_BANK" = some u ∧ RelV (.int 600) u
  g_MOST_CELLS : ∃ u, mg "MOST_CELLS" = some u ∧ RelV (.int 4000) u
  g_MANY_REGISTERS : ∃ u, mg "MANY_REGISTERS" = some u ∧ RelV (.int 8) u
  g_MOST_STRIKES : ∃ u, mg "MOST_STRIKES" = some u ∧ RelV (.int 400) u
  g_MOST_STEPS : ∃ u, mg "MOST_STEPS" = some u ∧ RelV (.int 1000000) u
  g_MOST_POINTER : ∃ u, mg "MOST_POINTER" = some u ∧ RelV (.int 9999) u
  g_REGISTERS : ∃ u, mg "REGISTERS" = some u ∧ RelV (.int 8) u
  g_MOST_TRIES : ∃ u, mg "MOST_TRIES" = some u ∧ RelV (.int 1000000) u
  d_is_whole : IsDef K mg "is_whole" (top 18)
  d_is_from : IsDef K mg "is_from" (top 19)
  d_are_inputs : IsDef K mg "are_inputs" (top 20)
  d_is_votes : IsDef K mg "is_votes" (top 29)
  d_are_registers : IsDef K mg "are_registers" (top 30)
  d_instruction_fits : IsDef K mg "instruction_fits" (top 31)
  d_settle_fits : IsDef K mg "settle_fits" (top 32)
  d_is_settle : IsDef K mg "is_settle" (top 33)
  d_cell_fits : IsDef K mg "cell_fits" (top 34)
  d_is_code : IsDef K mg "is_code" (top 35)
  d_need_code : IsDef K mg "need_code" (top 36)
  d_first_misfit : IsDef K mg "first_misfit" (top 41)
  d_is_strike_list : IsDef K mg "is_strike_list" (top 42)
  d_need_strikes : IsDef K mg "need_strikes" (top 43)
  d_settled : IsDef K mg "settled" (top 51)
  d_walked : IsDef K mg "walked" (top 52)
  d_start_table : IsDef K mg "start_table" (top 53)
  d_joints : IsDef K mg "joints" (top 55)
  d_made_paper : IsDef K mg "made_paper" (top 58)
  d_need_inputs : IsDef K mg "need_inputs" (top 61)
  d_need_steps : IsDef K mg "need_steps" (top 62)
  d_most_agreed : IsDef K mg "most_agreed" (top 64)
  d_machine_address : IsDef K mg "machine_address" (top 68)
  d_machine_step : IsDef K mg "machine_step" (top 70)
  d_point_all : IsDef K mg "point_all" (top 71)
  d_empty_slots : IsDef K mg "empty_slots" (top 72)
  d_settle_done : IsDef K mg "settle_done" (top 73)
  d_mark_done : IsDef K mg "mark_done" (top 74)
  d_is_unanimous : IsDef K mg "is_unanimous" (top 75)
  d_first_parting : IsDef K mg "first_parting" (top 76)
  d__law_begun : IsDef K mg "_law_begun" (top 78)
  d__law_mixed : IsDef K mg "_law_mixed" (top 79)
  d__law_draw : IsDef K mg "_law_draw" (top 80)
  d__law_pick : IsDef K mg "_law_pick" (top 81)
  d__law_caught : IsDef K mg "_law_caught" (top 82)
  d__law_number : IsDef K mg "_law_number" (top 83)
  d__law_size : IsDef K mg "_law_size" (top 84)
  d__law_inputs : IsDef K mg "_law_inputs" (top 85)
  d__law_votes : IsDef K mg "_law_votes" (top 86)
  d__law_pp_tidy : IsDef K mg "_law_pp_tidy" (top 87)
  d__law_pp_grouped : IsDef K mg "_law_pp_grouped" (top 88)
  d__law_pp_start : IsDef K mg "_law_pp_start" (top 89)
  d__law_pp_told : IsDef K mg "_law_pp_told" (top 90)
  d__law_copy_step : IsDef K mg "_law_copy_step" (top 91)
  d__law_copy_block : IsDef K mg "_law_copy_block" (top 92)
  d__law_copying_code : IsDef K mg "_law_copying_code" (top 93)
  d__law_copy_unlike : IsDef K mg "_law_copy_unlike" (top 94)
  d__law_copy_cell : IsDef K mg "_law_copy_cell" (top 95)
  d__law_copy_marked : IsDef K mg "_law_copy_marked" (top 96)
  d__law_copy_walk : IsDef K mg "_law_copy_walk" (top 97)
  d__law_parting_inputs : IsDef K mg "_law_parting_inputs" (top 98)
  cl_Symbols : Cls K (He.ga K "Symbols")
  mg_Symbols : mg "Symbols" = some (.ref (He.ga K "Symbols"))
  no_Symbols_size : NoAttr K (He.ga K "Symbols") "size"
  no_Symbols_found : NoAttr K (He.ga K "Symbols") "found"
  no_Symbols_numbers : NoAttr K (He.ga K "Symbols") "numbers"
  m_Symbols_made : IsMet K (He.ga K "Symbols") "made" "Symbols.made" (inClass (top 47) 1)
  m_Symbols_plain : IsMet K (He.ga K "Symbols") "plain" "Symbols.plain" (inClass (top 47) 2)
  m_Symbols_letter : IsMet K (He.ga K "Symbols") "letter" "Symbols.letter" (inClass (top 47) 3)
  i_Symbols : IsInit K (He.ga K "Symbols") "Symbols.__init__" (inClass (top 47) 0)
  cl_Walk : Cls K (He.ga K "Walk")
  mg_Walk : mg "Walk" = some (.ref (He.ga K "Walk"))
  no_Walk_hues : NoAttr K (He.ga K "Walk") "hues"
  no_Walk_symbols : NoAttr K (He.ga K "Walk") "symbols"
  no_Walk_spots : NoAttr K (He.ga K "Walk") "spots"
  no_Walk_offered : NoAttr K (He.ga K "Walk") "offered"
  m_Walk_instruct : IsMet K (He.ga K "Walk") "instruct" "Walk.instruct" (inClass (top 48) 2)
  m_Walk_known : IsMet K (He.ga K "Walk") "known" "Walk.known" (inClass (top 48) 3)
  m_Walk_read : IsMet K (He.ga K "Walk") "read" "Walk.read" (inClass (top 48) 4)
  m_Walk_write : IsMet K (He.ga K "Walk") "write" "Walk.write" (inClass (top 48) 5)
  m_Walk_agreed : IsMet K (He.ga K "Walk") "agreed" "Walk.agreed" (inClass (top 48) 6)
  m_Walk_are_alike : IsMet K (He.ga K "Walk") "are_alike" "Walk.are_alike" (inClass (top 48) 7)
  m_Walk_take : IsMet K (He.ga K "Walk") "take" "Walk.take" (inClass (top 48) 8)
  i_Walk : IsInit K (He.ga K "Walk") "Walk.__init__" (inClass (top 48) 0)
  cl_Ended : Cls K (He.ga K "Ended")
  mg_Ended : mg "Ended" = some (.ref (He.ga K "Ended"))
  no_Ended_word : NoAttr K (He.ga K "Ended") "word"
  no_Ended_address : NoAttr K (He.ga K "Ended") "address"
  no_Ended_goals : NoAttr K (He.ga K "Ended") "goals"
  no_Ended_walk : NoAttr K (He.ga K "Ended") "walk"
  i_Ended : IsInit K (He.ga K "Ended") "Ended.__init__" (inClass (top 49) 0)
  cl_HueState : Cls K (He.ga K "HueState")
  mg_HueState : mg "HueState" = some (.ref (He.ga K "HueState"))
  no_HueState_m_registers : NoAttr K (He.ga K "HueState") "m_registers"
  no_HueState_m_bank : NoAttr K (He.ga K "HueState") "m_bank"
  no_HueState_m_pointer : NoAttr K (He.ga K "HueState") "m_pointer"
  no_HueState_m_slot : NoAttr K (He.ga K "HueState") "m_slot"
  no_HueState_m_changed : NoAttr K (He.ga K "HueState") "m_changed"
  m_HueState_instructed : IsMet K (He.ga K "HueState") "instructed" "HueState.instructed" (inClass (top 66) 2)
  i_HueState : IsInit K (He.ga K "HueState") "HueState.__init__" (inClass (top 66) 0)
  cl_Machine : Cls K (He.ga K "Machine")
  mg_Machine : mg "Machine" = some (.ref (He.ga K "Machine"))
  no_Machine_m_code : NoAttr K (He.ga K "Machine") "m_code"
  no_Machine_m_hues : NoAttr K (He.ga K "Machine") "m_hues"
  no_Machine_m_left : NoAttr K (He.ga K "Machine") "m_left"
  no_Machine_m_strikes : NoAttr K (He.ga K "Machine") "m_strikes"
  no_Machine_m_row : NoAttr K (He.ga K "Machine") "m_row"
  no_Machine_m_steps : NoAttr K (He.ga K "Machine") "m_steps"
  no_Machine_m_state : NoAttr K (He.ga K "Machine") "m_state"
  no_Machine_address : NoAttr K (He.ga K "Machine") "address"
end Hw
namespace Hw
open PySem PySem.Spec PyProof.Rows L2
abbrev sNP : Stmt := inClass (top 10) 0
abbrev CN (K : PySem.W.Frag) : Addr := He.ga K "NoPaper"
abbrev CH (K : PySem.W.Frag) : Addr := He.ga K "HueError"
abbrev fI (K : PySem.W.Frag) : Addr := He.ma K (CN K) "__init__"
abbrev P1 (K : PySem.W.Frag) : Addr := (He.cT K ("start_table", none)).2
abbrev P2 (K : PySem.W.Frag) : Addr := (He.cT K ("_law_pp_tidy", none)).2
abbrev P3 (K : PySem.W.Frag) : Addr := (He.cT K ("_law_pp_told", none)).2
end Hw
namespace Hw
open PySem PySem.Spec PyProof.Rows L2 LamX
def hFa1 : List He.Fa := [.free "len", .free "isinstance", .free "int", .free "bool", .free "str", .free "list", .free "tuple", .free "dict", .free "range", .free "enumerate", .free "sorted", .free "min", .free "abs", .free "super", .free "ValueError", .int "LEAST_SIZE" 2, .int "MOST_SIZE" 10000, .int "MOST_PORT" 5, .int "MOST_INPUTS" 400, .int "MOST_INPUT" 9999, .int "MOST_HUES" 5, .int "MOST_BANK" 600, .int "MOST_CELLS" 4000, .int "MANY_REGISTERS" 8, .int "MOST_STRIKES" 400, .int "MOST_STEPS" 1000000, .int "MOST_POINTER" 9999, .int "REGISTERS" 8, .int "MOST_TRIES" 1000000, .glo "is_whole", .glo "is_from", .glo "are_inputs", .glo "is_votes", .glo "are_registers", .glo "instruction_fits", .glo "settle_fits", .glo "is_settle", .glo "cell_fits", .glo "is_code", .glo "need_code"]
def hFa2 : List He.Fa := [.glo "first_misfit", .glo "is_strike_list", .glo "need_strikes", .glo "settled", .glo "walked", .glo "start_table", .glo "joints", .glo "made_paper", .glo "need_inputs", .glo "need_steps", .glo "most_agreed", .glo "machine_address", .glo "machine_step", .glo "point_all", .glo "empty_slots", .glo "settle_done", .glo "mark_done", .glo "is_unanimous", .glo "first_parting", .glo "_law_begun", .glo "_law_mixed", .glo "_law_draw", .glo "_law_pick", .glo "_law_caught", .glo "_law_number", .glo "_law_size", .glo "_law_inputs", .glo "_law_votes", .glo "_law_pp_tidy", .glo "_law_pp_grouped", .glo "_law_pp_start", .glo "_law_pp_told", .glo "_law_copy_step", .glo "_law_copy_block", .glo "_law_copying_code", .glo "_law_copy_unlike", .glo "_law_copy_cell", .glo "_law_copy_marked", .glo "_law_copy_walk", .glo "_law_parting_inputs"]
def hFa3 : List He.Fa := [.cls "Symbols", .glo "Symbols", .noat "Symbols" "size", .noat "Symbols" "found", .noat "Symbols" "numbers", .meth "Symbols" "made", .meth "Symbols" "plain", .meth "Symbols" "letter", .mkr "Symbols", .cls "Walk", .glo "Walk", .noat "Walk" "hues", .noat "Walk" "symbols", .noat "Walk" "spots", .noat "Walk" "offered", .meth "Walk" "instruct", .meth "Walk" "known", .meth "Walk" "read", .meth "Walk" "write", .meth "Walk" "agreed", .meth "Walk" "are_alike", .meth "Walk" "take", .mkr "Walk", .cls "Ended", .glo "Ended", .noat "Ended" "word", .noat "Ended" "address", .noat "Ended" "goals", .noat "Ended" "walk", .mkr "Ended", .cls "HueState", .glo "HueState", .noat "HueState" "m_registers", .noat "HueState" "m_bank", .noat "HueState" "m_pointer", .noat "HueState" "m_slot", .noat "HueState" "m_changed", .meth "HueState" "instructed", .mkr "HueState", .cls "Machine"]
def hFa4 : List He.Fa := [.glo "Machine", .noat "Machine" "m_code", .noat "Machine" "m_hues", .noat "Machine" "m_left", .noat "Machine" "m_strikes", .noat "Machine" "m_row", .noat "Machine" "m_steps", .noat "Machine" "m_state", .noat "Machine" "address", .mkr "Machine", .glo "law", .glo "NoPaper", .glo "HueError", .exm "NoPaper" "HueError" true]
def hFa : List He.Fa := hFa1 ++ hFa2 ++ hFa3 ++ hFa4
def hFn1 : List He.DefD := [⟨("is_whole", none), "is_whole", "is_whole", defArgs (top 18), defBody (top 18), defScope (top 18), [], []⟩, ⟨("is_from", none), "is_from", "is_from", defArgs (top 19), defBody (top 19), defScope (top 19), [], []⟩, ⟨("are_inputs", none), "are_inputs", "are_inputs", defArgs (top 20), defBody (top 20), defScope (top 20), [], []⟩, ⟨("is_votes", none), "is_votes", "is_votes", defArgs (top 29), defBody (top 29), defScope (top 29), [], []⟩, ⟨("are_registers", none), "are_registers", "are_registers", defArgs (top 30), defBody (top 30), defScope (top 30), [], []⟩, ⟨("instruction_fits", none), "instruction_fits", "instruction_fits", defArgs (top 31), defBody (top 31), defScope (top 31), [], []⟩, ⟨("settle_fits", none), "settle_fits", "settle_fits", defArgs (top 32), defBody (top 32), defScope (top 32), [], []⟩, ⟨("is_settle", none), "is_settle", "is_settle", defArgs (top 33), defBody (top 33), defScope (top 33), [], []⟩, ⟨("cell_fits", none), "cell_fits", "cell_fits", defArgs (top 34), defBody (top 34), defScope (top 34), [], []⟩, ⟨("is_code", none), "is_code", "is_code", defArgs (top 35), defBody (top 35), defScope (top 35), [], []⟩, ⟨("need_code", none), "need_code", "need_code", defArgs (top 36), defBody (top 36), defScope (top 36), [], []⟩, ⟨("first_misfit", none), "first_misfit", "first_misfit", defArgs (top 41), defBody (top 41), defScope (top 41), [], []⟩, ⟨("is_strike_list", none), "is_strike_list", "is_strike_list", defArgs (top 42), defBody (top 42), defScope (top 42), [], []⟩, ⟨("need_strikes", none), "need_strikes", "need_strikes", defArgs (top 43), defBody (top 43), defScope (top 43), [], []⟩, ⟨("settled", none), "settled", "settled", defArgs (top 51), defBody (top 51), defScope (top 51), [], []⟩, ⟨("walked", none), "walked", "walked", defArgs (top 52), defBody (top 52), defScope (top 52), [], []⟩, ⟨("start_table", none), "start_table", "start_table", defArgs (top 53), defBody (top 53), defScope (top 53), [], []⟩, ⟨("joints", none), "joints", "joints", defArgs (top 55), defBody (top 55), defScope (top 55), [], []⟩, ⟨("made_paper", none), "made_paper", "made_paper", defArgs (top 58), defBody (top 58), defScope (top 58), [], []⟩, ⟨("need_inputs", none), "need_inputs", "need_inputs", defArgs (top 61), defBody (top 61), defScope (top 61), [], []⟩, ⟨("need_steps", none), "need_steps", "need_steps", defArgs (top 62), defBody (top 62), defScope (top 62), [], []⟩, ⟨("most_agreed", none), "most_agreed", "most_agreed", defArgs (top 64), defBody (top 64), defScope (top 64), [], []⟩, ⟨("machine_address", none), "machine_address", "machine_address", defArgs (top 68), defBody (top 68), defScope (top 68), [], []⟩, ⟨("machine_step", none), "machine_step", "machine_step", defArgs (top 70), defBody (top 70), defScope (top 70), [], []⟩, ⟨("point_all", none), "point_all", "point_all", defArgs (top 71), defBody (top 71), defScope (top 71), [], []⟩, ⟨("empty_slots", none), "empty_slots", "empty_slots", defArgs (top 72), defBody (top 72), defScope (top 72), [], []⟩, ⟨("settle_done", none), "settle_done", "settle_done", defArgs (top 73), defBody (top 73), defScope (top 73), [], []⟩, ⟨("mark_done", none), "mark_done", "mark_done", defArgs (top 74), defBody (top 74), defScope (top 74), [], []⟩, ⟨("is_unanimous", none), "is_unanimous", "is_unanimous", defArgs (top 75), defBody (top 75), defScope (top 75), [], []⟩, ⟨("first_parting", none), "first_parting", "first_parting", defArgs (top 76), defBody (top 76), defScope (top 76), [], []⟩, ⟨("_law_begun", none), "_law_begun", "_law_begun", defArgs (top 78), defBody (top 78), defScope (top 78), [], []⟩, ⟨("_law_mixed", none), "_law_mixed", "_law_mixed", defArgs (top 79), defBody (top 79), defScope (top 79), [], []⟩, ⟨("_law_draw", none), "_law_draw", "_law_draw", defArgs (top 80), defBody (top 80), defScope (top 80), [], []⟩, ⟨("_law_pick", none), "_law_pick", "_law_pick", defArgs (top 81), defBody (top 81), defScope (top 81), [], []⟩, ⟨("_law_caught", none), "_law_caught", "_law_caught", defArgs (top 82), defBody (top 82), defScope (top 82), [], []⟩, ⟨("_law_number", none), "_law_number", "_law_number", defArgs (top 83), defBody (top 83), defScope (top 83), [], []⟩, ⟨("_law_size", none), "_law_size", "_law_size", defArgs (top 84), defBody (top 84), defScope (top 84), [], []⟩, ⟨("_law_inputs", none), "_law_inputs", "_law_inputs", defArgs (top 85), defBody (top 85), defScope (top 85), [], []⟩, ⟨("_law_votes", none), "_law_votes", "_law_votes", defArgs (top 86), defBody (top 86), defScope (top 86), [], []⟩, ⟨("_law_pp_tidy", none), "_law_pp_tidy", "_law_pp_tidy", defArgs (top 87), defBody (top 87), defScope (top 87), [], []⟩]
def hFn2 : List He.DefD := [⟨("_law_pp_grouped", none), "_law_pp_grouped", "_law_pp_grouped", defArgs (top 88), defBody (top 88), defScope (top 88), [], []⟩, ⟨("_law_pp_start", none), "_law_pp_start", "_law_pp_start", defArgs (top 89), defBody (top 89), defScope (top 89), [], []⟩, ⟨("_law_pp_told", none), "_law_pp_told", "_law_pp_told", defArgs (top 90), defBody (top 90), defScope (top 90), [], []⟩, ⟨("_law_copy_step", none), "_law_copy_step", "_law_copy_step", defArgs (top 91), defBody (top 91), defScope (top 91), [], []⟩, ⟨("_law_copy_block", none), "_law_copy_block", "_law_copy_block", defArgs (top 92), defBody (top 92), defScope (top 92), [], []⟩, ⟨("_law_copying_code", none), "_law_copying_code", "_law_copying_code", defArgs (top 93), defBody (top 93), defScope (top 93), [], []⟩, ⟨("_law_copy_unlike", none), "_law_copy_unlike", "_law_copy_unlike", defArgs (top 94), defBody (top 94), defScope (top 94), [], []⟩, ⟨("_law_copy_cell", none), "_law_copy_cell", "_law_copy_cell", defArgs (top 95), defBody (top 95), defScope (top 95), [], []⟩, ⟨("_law_copy_marked", none), "_law_copy_marked", "_law_copy_marked", defArgs (top 96), defBody (top 96), defScope (top 96), [], []⟩, ⟨("_law_copy_walk", none), "_law_copy_walk", "_law_copy_walk", defArgs (top 97), defBody (top 97), defScope (top 97), [], []⟩, ⟨("_law_parting_inputs", none), "_law_parting_inputs", "_law_parting_inputs", defArgs (top 98), defBody (top 98), defScope (top 98), [], []⟩, ⟨("Symbols", some "made"), "made", "Symbols.made", defArgs (inClass (top 47) 1), defBody (inClass (top 47) 1), defScope (inClass (top 47) 1), [], []⟩, ⟨("Symbols", some "plain"), "plain", "Symbols.plain", defArgs (inClass (top 47) 2), defBody (inClass (top 47) 2), defScope (inClass (top 47) 2), [], []⟩, ⟨("Symbols", some "letter"), "letter", "Symbols.letter", defArgs (inClass (top 47) 3), defBody (inClass (top 47) 3), defScope (inClass (top 47) 3), [], []⟩, ⟨("Symbols", some "__init__"), "__init__", "Symbols.__init__", defArgs (inClass (top 47) 0), defBody (inClass (top 47) 0), defScope (inClass (top 47) 0), [], []⟩, ⟨("Walk", some "instruct"), "instruct", "Walk.instruct", defArgs (inClass (top 48) 2), defBody (inClass (top 48) 2), defScope (inClass (top 48) 2), [], []⟩, ⟨("Walk", some "known"), "known", "Walk.known", defArgs (inClass (top 48) 3), defBody (inClass (top 48) 3), defScope (inClass (top 48) 3), [], []⟩, ⟨("Walk", some "read"), "read", "Walk.read", defArgs (inClass (top 48) 4), defBody (inClass (top 48) 4), defScope (inClass (top 48) 4), [], []⟩, ⟨("Walk", some "write"), "write", "Walk.write", defArgs (inClass (top 48) 5), defBody (inClass (top 48) 5), defScope (inClass (top 48) 5), [], []⟩, ⟨("Walk", some "agreed"), "agreed", "Walk.agreed", defArgs (inClass (top 48) 6), defBody (inClass (top 48) 6), defScope (inClass (top 48) 6), [], []⟩, ⟨("Walk", some "are_alike"), "are_alike", "Walk.are_alike", defArgs (inClass (top 48) 7), defBody (inClass (top 48) 7), defScope (inClass (top 48) 7), [], []⟩, ⟨("Walk", some "take"), "take", "Walk.take", defArgs (inClass (top 48) 8), defBody (inClass (top 48) 8), defScope (inClass (top 48) 8), [], []⟩, ⟨("Walk", some "__init__"), "__init__", "Walk.__init__", defArgs (inClass (top 48) 0), defBody (inClass (top 48) 0), defScope (inClass (top 48) 0), [], []⟩, ⟨("Ended", some "__init__"), "__init__", "Ended.__init__", defArgs (inClass (top 49) 0), defBody (inClass (top 49) 0), defScope (inClass (top 49) 0), [], []⟩, ⟨("HueState", some "instructed"), "instructed", "HueState.instructed", defArgs (inClass (top 66) 2), defBody (inClass (top 66) 2), defScope (inClass (top 66) 2), [], []⟩, ⟨("HueState", some "__init__"), "__init__", "HueState.__init__", defArgs (inClass (top 66) 0), defBody (inClass (top 66) 0), defScope (inClass (top 66) 0), [], []⟩, ⟨("Machine", some "__init__"), "__init__", "Machine.__init__", defArgs (inClass (top 67) 0), defBody (inClass (top 67) 0), defScope (inClass (top 67) 0), [.adr (He.dflAt ("Machine", some "__init__") 0)], []⟩, ⟨("law", none), "law", "law", defArgs (top 99), defBody (top 99), defScope (top 99), [], []⟩]
def hFn : List He.DefD := hFn1 ++ hFn2
def hTf : List He.Defn := [("start_table", none), ("_law_pp_tidy", none), ("_law_pp_told", none)]
def oexB (K : PySem.W.Frag) (C : Addr) : Bool := (match K.lookup C with
  | some ⟨.type t, _, .cls cd, sl⟩ => (match cd.mro, sl.toList with
    | .ref D :: bm, [_, _, _, _, some (.builtin n), _] => decide (t = "type") && (decide (D = C) && (decide (n = "ValueError.__new__") && (!cd.hasDel && (cd.hasDict && PySem.HandSPX.refsVE bm))))
    | _, _ => false)
  | _ => false) && (He.eqO (PySem.W.findIn K (.ref C) "__setattr__") (some (some (.builtin "object.__setattr__"))) && (decide (PySem.W.subIn K (.ref C) (.type "BaseException") = some true) && (decide (PySem.W.typeIn K (.ref C) = some (.type "type")) && PySem.W.keepIn K (.ref C))))
def npB (file : Str) (K : PySem.W.Frag) : Bool := match K.lookup (fI K) with
  | some ⟨_, _, .func fd, _⟩ => (match fd.closure, fd.code with
    | [(_, cc)], .ref cd => PySem.W.codeIn K fd.code "NoPaper.__init__" && ((match K.lookup cd with
        | some ⟨_, _, .fields vs, _⟩ => (match vs[2]? with
          | some (Value.str f _) => file == f
          | _ => false)
        | _ => false) && (match K.lookup cc with
        | some ⟨_, _, .cell (some (.ref a)), _⟩ => decide (a = CN K)
        | _ => false))
    | _, _ => false)
  | _ => false
def tupE (K : PySem.W.Frag) (a : Addr) : Bool := match K.lookup a with
  | some ⟨.type t, _, .seq its _, _⟩ => decide (t = "tuple") && its.isEmpty
  | _ => false
def excB (K : PySem.W.Frag) (D : Addr) : Bool := He.eqO (PySem.W.findIn K (.ref D) "__class__") (some (some (.builtin "object.__class__"))) && (He.eqO (PySem.W.specialIn K (.builtin "object.__class__") "__get__") (some (some (.builtin "getset_descriptor.__get__"))) &&
  (decide (PySem.W.takesIn K (.builtin "object.__class__") = some true) && decide (PySem.W.mroIn K D (.type "object") = some true)))
def hEx (file : Str) (K : PySem.W.Frag) : Bool := oexB K (CN K) && (npB file K && (tupE K (He.dflAt ("Machine", some "__init__") 0 K) && (xfB K (CN K) && (excB K (CN K) &&
  (He.eqO (PySem.W.ks_superIn K (CN K) (CN K) "__init__") (some (some (.builtin "ValueError.__init__"))) && (decide (PySem.W.subIn K (.ref (CN K)) (.type "ValueError") = some true) && (He.eqO (PySem.W.nsIn K cStatics "thirdparty.any") (some none) &&
  (He.eqO (PySem.W.findIn K (.ref (CN K)) "__init__") (some (some (.ref (fI K)))) && (decide (PySem.W.typeIn K (.ref (fI K)) = some (.type "function")) && (He.eqO (PySem.W.findIn K (.ref (CN K)) "address") (some none) &&
  (decide (PySem.W.mroIn K (CN K) (.ref (CN K)) = some true) && (decide (PySem.W.kitOne K (.ref (CN K)) (.ref (CN K)) = some true) && (decide (P1 K ≠ P2 K) && (decide (P1 K ≠ P3 K) && decide (P2 K ≠ P3 K)))))))))))))))
abbrev NpV : Type := Option (Str × Str × Arguments × FuncBody × Scope × Addr × List Str × Value × Value × Option Addr × Addr)
def npObs (K : PySem.W.Frag) : NpV := match K.lookup (fI K) with
  | some ⟨_, _, .func fd, _⟩ => some (fd.name, fd.qualname, fd.params, fd.body, fd.scope, fd.globals, fd.closure.map (·.1), fd.defaults, fd.kwdefaults, fd.annotations, fd.builtins)
  | _ => none
def npVal : NpV := some ("__init__", "NoPaper.__init__", defArgs sNP, .stmts (defBody sNP), defScope sNP, mainGlobals, ["__class__"], .none, .none, none, builtinsNs)
abbrev AlN : Type := (He.AlT × Bool) × NpV
def refsN (o : Obj) : List Addr := match o.data with
  | .seq its _ => its.toList.flatMap He.refV
  | .dict es _ => es.toList.flatMap fun e => He.refV e.val
  | .func fd => He.refV fd.code ++ He.refV fd.defaults ++ fd.closure.map (·.2)
  | .cls cd => cd.ns :: cd.mro.flatMap He.refV
  | _ => []
def growN (g : Addr → Option Obj) (as : List Addr) : List Addr := as.flatMap fun a => match g a with
  | some o => refsN o
  | none => []
def asN (g : Addr → Option Obj) : List Addr :=
  let l1 := growN g [mainGlobals]
  let l2 := growN g l1
  let l3 := growN g l2
  let l4 := growN g l3
  mainGlobals :: (l1 ++ (l2 ++ (l3 ++ (l4 ++ (growN g l4 ++ [cStatics])))))
def obsN (ex : PySem.W.Frag → Bool) (g : Addr → Option Obj) : AlN := ((He.obsT hFa hFn [] (He.frT g (asN g)), ex (He.frT g (asN g)) && He.tabsB g hTf (He.frT g (asN g))), npObs (He.frT g (asN g)))
def valN (w : World) : AlN := ((He.valT hFn [] w, true), npVal)
structure SaysN (ex : PySem.W.Frag → Bool) (w : World) (h : Heap) (K : PySem.W.Frag) : Prop where
  x : He.SaysX hFa hFn [] hTf ex w h K
  np : npObs K = npVal
theorem saysN_of {ex : PySem.W.Frag → Bool} {w : World} {h : Heap} (e : obsN ex h.get? = valN w) : SaysN ex w h (He.frT h.get? (asN h.get?)) := by
  have e1 : He.obsT hFa hFn [] (He.frT h.get? (asN h.get?)) = He.valT hFn [] w := congrArg (fun z : AlN => z.1.1) e
  have e2 : (ex (He.frT h.get? (asN h.get?)) && He.tabsB h.get? hTf (He.frT h.get? (asN h.get?))) = true := congrArg (fun z : AlN => z.1.2) e
  have e3 : npObs (He.frT h.get? (asN h.get?)) = npVal := congrArg (fun z : AlN => z.2) e
  generalize hK : He.frT h.get? (asN h.get?) = K at e1 e2 e3 ⊢
  obtain ⟨h1, h2⟩ := He.ba e2
  have look : ∀ p ∈ hTf, PySem.W.codeHdIn K (He.cT K p).1 (He.cT K p).2 = true ∧ ∃ o : Obj, h.get? (He.cT K p).2 = some o ∧ He.emptyTab o = true := by
    intro p hp
    obtain ⟨a, b⟩ := He.ba (List.all_eq_true.mp h2 p hp)
    refine ⟨a, ?_⟩
    split at b
    · rename_i o q
      exact ⟨o, q, b⟩
    · cases b
  refine ⟨⟨e1, h1, fun p hp => (look p hp).1, fun p hp => ?_, fun p hp => ?_⟩, e3⟩
  · obtain ⟨_, o, q, z⟩ := look p hp
    rw [← hK] at q ⊢
    exact He.frT_none q z
  · obtain ⟨_, o, q, z⟩ := look p hp
    rw [q, He.emptyTab_eq z]
def hkN (ex : PySem.W.Frag → Bool) : PySem.W.Hook where
  α := AlN
  obs := fun s => obsN ex s.heap.get?
  val := valN
  says := fun w h => ∃ K : PySem.W.Frag, K.In h ∧ SaysN ex w h K
  of := fun _ _ e => ⟨_, He.frT_in, saysN_of e⟩
  keeps := fun _ _ _ ⟨K, a, c⟩ k => ⟨K, PySem.W.Frag.In.keeps a k, ⟨⟨c.x.t, c.x.more, c.x.hd, c.x.out, fun p hp => k _ _ (c.x.empty p hp)⟩, c.np⟩⟩
abbrev hR : PySem.W.OpenRow := PySem.W.OpenLaw.row PySem.Challenge.rw_hueward_k35_whole_copying_codes_exactly
abbrev hEx1 : PySem.W.Frag → Bool := hEx hR.prog.main.file
def hOb (s : PySem.W.SharedT) : AlN := obsN hEx1 (HandSHeadRun.getT s)
theorem hOb_eq (s : PySem.W.SharedT) : hOb s = (hkN hEx1).obs s.abs := by
  have e : HandSHeadRun.getT s = s.abs.heap.get? := funext (HandSHeadRun.getT_eq s)
  show obsN hEx1 (HandSHeadRun.getT s) = obsN hEx1 s.abs.heap.get?
  rw [e]
def hN1 : List Str := ["_wall", "HueError", "BadInputs", "BadCode", "BadSteps", "BadHue", "BadPlace", "BadNew", "BadStrikes", "NoPaper", "TWOS", "LEAST_SIZE", "MOST_SIZE", "MOST_PORT", "MOST_INPUTS", "MOST_INPUT", "is_whole", "is_from", "are_inputs", "MOST_HUES", "MOST_BANK", "MOST_CELLS", "MANY_REGISTERS", "MOST_STRIKES", "MOST_STEPS", "MOST_POINTER", "is_votes", "are_registers"]
def hN2 : List Str := ["instruction_fits", "settle_fits", "is_settle", "cell_fits", "is_code", "need_code", "need_hue", "place_fits", "new_fits", "strike_fits", "first_misfit", "is_strike_list", "need_strikes", "REGISTERS", "value_by", "Symbols", "Walk", "Ended", "turned", "settled", "walked", "start_table", "joints", "narrowed_table", "made_paper", "MOST_TRIES", "need_inputs", "need_steps", "most_agreed", "worked_out", "HueState", "Machine"]
def hN3 : List Str := ["machine_address", "next_address", "machine_step", "point_all", "empty_slots", "settle_done", "mark_done", "is_unanimous", "first_parting", "_law_begun", "_law_mixed", "_law_draw", "_law_pick", "_law_caught", "_law_number", "_law_size", "_law_inputs", "_law_votes", "_law_pp_tidy", "_law_pp_grouped", "_law_pp_start", "_law_pp_told", "_law_copy_step", "_law_copy_block", "_law_copying_code", "_law_copy_unlike", "_law_copy_cell", "_law_copy_marked", "_law_copy_walk", "_law_parting_inputs"]
theorem head_run (w : World) : HandSHeadRun.RunEq hR (PySem.W.view hR.prog [99]) (hkN hEx1) hOb 20000 (hN1 ++ hN2 ++ hN3) w := by
  intro os
  kernel_rfl
end Hw
namespace Hw
open PySem PySem.Spec PyProof.Rows L2
variable {P : Program} {w : World} {K : PySem.W.Frag} {mg : Str → Option Value} {base : Heap}
def isIS : V → Bool
  | .int _ => true
  | .str _ => true
  | _ => false
def whB : V → Bool
  | .int _ => true
  | _ => false
def inR (lo hi : Int) : V → Bool
  | .int i => decide (lo ≤ i) && decide (i ≤ hi)
  | _ => false
abbrev s_is_whole : Stmt := top 18
abbrev N_is_whole : List Str := ["value"]
theorem sc_is_whole : FnScope N_is_whole ["value"] (defScope s_is_whole) := ⟨rfl, rfl, rfl, by decide +kernel, rfl, by decide +kernel, by decide +kernel⟩
def sp_is_whole : Sp := fun vs H Q _ => ∃ x, vs = [x] ∧ isIS x = true ∧ Q (.bl (whB x)) H
theorem C_is_whole (T : Txt K mg) : C8.Cal P w K mg base 1 "is_whole" sp_is_whole [] := by
  refine cal (N := N_is_whole) (ps := ["value"]) T.d_is_whole (fun _ _ _ _ _ _ us hl => match us, hl with | [_], _ => rfl) sc_is_whole (fun vs H Q E h => ?_) (fun f cdv A outer s H vs Q E hr h => ?_)
  · obtain ⟨x, rfl, _⟩ := h
    rfl
  · obtain ⟨x, rfl, hx, k⟩ := h
    refine ⟨_, (pss_one (ps_ret (pe_and (pe_callB call_isi (by rfl) T.b_isinstance (by decide +kernel) (pa_cons (pv 0) (pa_cons (pe_bltn (v := .ty "int") (u := .type "int") (by rfl) T.b_int (by decide +kernel) rfl) pa_nil))) (pe_one (pe_not (pe_callB call_isi (by rfl) T.b_isinstance (by decide +kernel) (pa_cons (pv 0) (pa_cons (pe_bltn (v := .ty "bool") (u := .type "bool") (by rfl) T.b_bool (by decide +kernel) rfl) pa_nil)))))))), ?_⟩
    cases x with
    | int i => exact ⟨_, rfl, _, _, _, _, true, rfl, .ty _, .base (.int _), kit_ty (by decide +kernel), true, rfl, iteT ⟨_, rfl, _, _, _, _, false, rfl, .ty _, .base (.int _), kit_ty (by decide +kernel), false, rfl, k⟩⟩
    | str i => exact ⟨_, rfl, _, _, _, _, false, rfl, .ty _, .base (.str _), kit_ty (by decide +kernel), false, rfl, iteF k⟩
    | _ => cases hx
abbrev s_is_from : Stmt := top 19
abbrev N_is_from : List Str := ["value", "low", "high"]
theorem sc_is_from : FnScope N_is_from ["value", "low", "high"] (defScope s_is_from) := ⟨rfl, rfl, rfl, by decide +kernel, rfl, by decide +kernel, by decide +kernel⟩
def sp_is_from : Sp := fun vs H Q _ => ∃ x lo hi b, vs = [x, .int lo, .int hi] ∧ isIS x = true ∧ inR lo hi x = b ∧ Q (.bl b) H
theorem C_is_from (T : Txt K mg) : C8.Cal P w K mg base 2 "is_from" sp_is_from [] := by
  have C_is_whole := C_is_whole (P := P) (w := w) (base := base) T
  refine cal (N := N_is_from) (ps := ["value", "low", "high"]) T.d_is_from (fun _ _ _ _ _ _ us hl => match us, hl with | [_, _, _], _ => rfl) sc_is_from (fun vs H Q E h => ?_) (fun f cdv A outer s H vs Q E hr h => ?_)
  · obtain ⟨x, lo, hi, _, rfl, _⟩ := h
    rfl
  · obtain ⟨x, lo, hi, _, rfl, hx, rfl, k⟩ := h
    refine ⟨_, (pss_one (ps_ret (pe_and (C8.pe_c C_is_whole hr (by decide) rfl (pa_cons (pv 0) pa_nil)) (pe_one (pe_chain op_le op_le (pv 1) (pv 0) (pv 2)))))), ?_⟩
    refine ⟨_, rfl, _, rfl, hx, _, rfl, ?_⟩
    cases x with
    | int i =>
      refine iteT ⟨_, rfl, _, rfl, _, _, rfl, rfl, _, rfl, ?_⟩
      refine ite2 (fun hc => ⟨_, rfl, _, _, rfl, rfl, ?_⟩) (fun hc => ?_)
      · have e : inR lo hi (.int i) = decide (i ≤ hi) := by show (decide (lo ≤ i) && decide (i ≤ hi)) = _; rw [hc]; rfl
        rw [e] at k; exact k
      · have e : inR lo hi (.int i) = false := by show (decide (lo ≤ i) && decide (i ≤ hi)) = _; rw [Bool.eq_false_iff.mpr hc]; rfl
        rw [e] at k; exact k
    | str i => exact iteF k
    | _ => cases hx
abbrev I (l : List Nat) : List V := l.map fun (n : Nat) => V.int (n : Int)
abbrev s_is_settle : Stmt := top 33
abbrev N_is_settle : List Str := ["cell"]
theorem sc_is_settle : FnScope N_is_settle ["cell"] (defScope s_is_settle) := ⟨rfl, rfl, rfl, by decide +kernel, rfl, by decide +kernel, by decide +kernel⟩
def sp_is_settle : Sp := fun vs H Q _ => ∃ a x xs, vs = [.ref a] ∧ H a = some (.tup (x :: xs)) ∧ isIS x = true ∧ Q (.bl (!whB x)) H
theorem C_is_settle (T : Txt K mg) : C8.Cal P w K mg base 1 "is_settle" sp_is_settle [] := by
  refine cal (N := N_is_settle) (ps := ["cell"]) T.d_is_settle (fun _ _ _ _ _ _ us hl => match us, hl with | [_], _ => rfl) sc_is_settle (fun vs H Q E h => ?_) (fun f cdv A outer s H vs Q E hr h => ?_)
  · obtain ⟨a, x, xs, rfl, _⟩ := h
    rfl
  · obtain ⟨a, x, xs, rfl, ha, hx, k⟩ := h
    refine ⟨_, (pss_one (ps_ret (pe_callB call_isi (by rfl) T.b_isinstance (by decide +kernel) (pa_cons (pe_ix ix_tup (pv 0) pe_int (fun _ _ => rfl)) (pa_cons (pe_bltn (v := .ty "str") (u := .type "str") (by rfl) T.b_str (by decide +kernel) rfl) pa_nil))))), ?_⟩
    refine ⟨_, rfl, _, _, _, x, rfl, rfl, SqT.of ha, atI_nat (j := 0) rfl, ?_⟩
    cases x with
    | int i => exact ⟨_, _, _, _, false, rfl, .ty _, .base (.int _), kit_ty (by decide +kernel), k⟩
    | str i => exact ⟨_, _, _, _, true, rfl, .ty _, .base (.str _), kit_ty (by decide +kernel), k⟩
    | _ => cases hx
end Hw
namespace Hw
open PySem PySem.Spec PyProof.Rows L2
section
variable {X : Cx}
def rEqE (K : PySem.W.Frag) : R2 := fun x y H Q => ∃ a b xs, x = .ref a ∧ y = .ref b ∧ SqL K H a xs ∧ SqL K H b [] ∧ Q (.bl xs.isEmpty) H
def rNeE (K : PySem.W.Frag) : R2 := fun x y H Q => ∃ a b xs, x = .ref a ∧ y = .ref b ∧ SqL K H a xs ∧ SqL K H b [] ∧ Q (.bl (!xs.isEmpty)) H
theorem op_eqE (hu : X.A.units < cLine) : OpR X (compareOp .Eq) (rEqE X.K) := by
  intro pins s σ H x y v u Q I rx ry h
  obtain ⟨a, b, xs, rfl, rfl, ha, hb, q⟩ := h
  cases (show v = Value.ref a from rx)
  cases (show u = Value.ref b from ry)
  obtain ⟨us, r1, p1, _⟩ := I.list ha
  obtain ⟨ws, r2, p2, _⟩ := I.list hb
  cases r2
  cases xs with
  | nil =>
    cases r1
    exact SeqAt.eq_listAt (e := fun _ => true) p1.isList p2.isList rfl hu (fun j h1 h2 => absurd h1 (Nat.not_lt_zero _)) ⟨.bl true, H, I, rfl, q⟩
  | cons x xs =>
    cases r1 with
    | cons _ _ => exact SeqAt.eq_list_lengthsAt p1.isList p2.isList (by simp) hu ⟨.bl false, H, I, rfl, q⟩
theorem op_neE (hu : X.A.units < cLine) : OpR X (compareOp .NotEq) (rNeE X.K) := by
  intro pins s σ H x y v u Q I rx ry h
  obtain ⟨a, b, xs, rfl, rfl, ha, hb, q⟩ := h
  cases (show v = Value.ref a from rx)
  cases (show u = Value.ref b from ry)
  obtain ⟨us, r1, p1, _⟩ := I.list ha
  obtain ⟨ws, r2, p2, _⟩ := I.list hb
  cases r2
  cases xs with
  | nil =>
    cases r1
    exact SeqAt.RcNeAt.lists (e := fun _ => true) p1.isList p2.isList rfl hu (fun j h1 h2 => absurd h1 (Nat.not_lt_zero _)) X.prog X.w X.xe _ ⟨.bl false, H, I, rfl, q⟩
  | cons x xs =>
    cases r1 with
    | cons _ _ => exact SeqAt.RcNeAt.lists_lengths p1.isList p2.isList (by simp) hu X.prog X.w X.xe _ ⟨.bl true, H, I, rfl, q⟩
def rNeDE : R2 := fun x y H Q => ∃ a b ks, x = .ref a ∧ y = .ref b ∧ H a = some (.dK ks) ∧ H b = some (.dK []) ∧ Q (.bl (!ks.isEmpty)) H
theorem op_neDE (hu : X.A.units < cLine) : OpR X (compareOp .NotEq) rNeDE := by
  intro pins s σ H x y v u Q I rx ry h
  obtain ⟨a, b, ks, rfl, rfl, ea, eb, q⟩ := h
  obtain rfl : v = Value.ref a := rx
  obtain rfl : u = Value.ref b := ry
  obtain ⟨_, ya, va, ra, da⟩ := (show ObjOk X.prog X.w H s.heap a (.dK ks) from I.hok a _ ea)
  obtain ⟨_, yb, vb, rb, db⟩ := (show ObjOk X.prog X.w H s.heap b (.dK []) from I.hok b _ eb)
  cases rb
  cases ks with
  | nil =>
    cases ra
    exact PySem.W.keq_ne (knd := mixKind X.prog X.w) (r := true) ya yb da db hu (fun _ => .nil) ⟨.bl false, H, I, rfl, q⟩
  | cons p ps =>
    cases ra with
    | cons _ _ => exact PySem.W.keq_ne (knd := mixKind X.prog X.w) (r := true) ya yb da db hu (fun z => nomatch z) ⟨.bl true, H, I, rfl, q⟩
end
def IteT (K : PySem.W.Frag) (c : Int) (a : Addr) : It :=
  ⟨fun i H => ∃ (xs : List V) (x : V), SqT K H a xs ∧ xs[i]? = some x, fun i H v H' => ∃ T x, v = .ref T ∧ H T = none ∧ H' = upd H T (.tup [.int (c + (i : Nat)), x]) ∧ ∀ xs, SqT K H a xs → xs[i]? = some x, fun i H => ∃ xs : List V, SqT K H a xs ∧ xs.length = i⟩
theorem turn_enumT {P : Program} {w : World} {K : PySem.W.Frag} {elts : List Expr} {kk : Nat} {tpos : Pos} (c : Int) (a e it : Addr) (hae : a ≠ e) (hai : a ≠ it) :
    Turn P w K (.Tuple elts kk tpos) (IteT K c a) [e, it] e (fun i h => (∃ old, IsEnum h e it (c + ((i : Nat) : Int)) old) ∧ h.IsTupleIter it a i ∧ e ≠ it) where
  mem := by simp
  obj := fun i h st b hb => by
    obtain ⟨⟨old, he⟩, ⟨o, ho, hc, hd⟩, _⟩ := st
    have e' : b = e ∨ b = it := by simpa using hb
    rcases e' with z | z
    · rw [z]; exact ⟨_, he, fun v q => nomatch q⟩
    · rw [z]; exact ⟨o, ho, fun v q => by rw [hd] at q; cases q⟩
  keep := fun i h h' st k => let ⟨⟨old, he⟩, hi, hne⟩ := st; ⟨⟨old, k e (by simp) _ he⟩, hi.at fun o q => k it (by simp) o q, hne⟩
  item := by
    intro X hP hw hK hc i pins s σ H E I hf st hg
    subst hP hw hK
    obtain ⟨⟨old, he⟩, hit, hne⟩ := st
    obtain ⟨xs, x, hq, hx⟩ := hg
    obtain ⟨its, rv, p, hz⟩ := I.tuple hq
    obtain ⟨u, hu, ru⟩ := rv.get hx
    have hel : e < s.heap.objs.size := Heap.lt_size he
    have hil : it < s.heap.objs.size := by obtain ⟨_, q, _⟩ := hit; exact Heap.lt_size q
    have hT : s.heap.IsTuple a its.toArray := p
    have hlt : i < its.toArray.size := by
      obtain ⟨z, _⟩ := List.getElem?_eq_some_iff.mp hu
      simpa using z
    refine wpAny_pyNext_enum_itemC (Draws.tuple (prog := X.prog) (w := X.w) (A := X.A.in1) (I.ok.hd hc) it a hai its.toArray) he ⟨hit, hT⟩ hlt hne (by simp [hne, Ne.symm hae]) fun y h' tk hy ho hst hT' hsz hk => ?_
    have ey : y = u := by
      have z : its.toArray[i]? = some y := hy
      rw [List.getElem?_toArray, hu] at z
      exact (Option.some.inj z).symm
    subst ey
    obtain ⟨hit', _⟩ := hst
    refine ⟨_, rfl, wpAny_letOwnedTupleGo_enum (s := { s with heap := h', toks := tk + 1 }) ho fun h'' he' sb => ?_⟩
    have hT2 : h''.get? s.heap.objs.size = some { cls := .type "tuple", data := .seq #[.int (c + (i : Nat)) tk, y] } := (sb.2 _ (Nat.ne_of_gt hel)).trans hT'
    have new : ObjOk X.prog X.w (upd H s.heap.objs.size (.tup [.int (c + (i : Nat)), x])) h'' s.heap.objs.size (.tup [.int (c + (i : Nat)), x]) :=
      ⟨by show 2 ≤ sizeLine; decide, [.int (c + (i : Nat)) tk, y], .cons ⟨_, rfl⟩ (.cons ru .nil), ⟨_, hT2, rfl, _, rfl⟩⟩
    have I1 : Inv X pins σ (upd H s.heap.objs.size (.tup [.int (c + (i : Nat)), x])) { s with heap := h'', toks := tk + 1 } :=
      I.turnedNew (ch := [e, it]) (fun b ob hb q => (sb.2 b (fun z => hb (by simp [z]))).trans (hk b ob (fun z => hb (by simp [z])) (fun z => hb (by simp [z])) q)) hf (Nat.le_refl _) new
    refine ⟨.ref s.heap.objs.size, _, I1, rfl, ⟨_, x, rfl, I.hok.fresh (Nat.le_refl _), rfl, fun ys hy => by rw [I.tuple_inj hy hq]; exact hx⟩, ⟨⟨y, ?_⟩, hit'.at fun o q => (sb.2 it (Ne.symm hne)).trans q, hne⟩, fun b hb => ?_⟩
    · have e1 : c + ((i + 1 : Nat) : Int) = c + (i : Int) + 1 := by omega
      rw [e1]; exact he'
    · have hb' : b < s.heap.objs.size := by
        have e' : b = e ∨ b = it := by simpa using hb
        rcases e' with z | z
        · rw [z]; exact hel
        · rw [z]; exact hil
      rw [upd_ne (Nat.ne_of_lt hb')]
      exact (hf b hb).1
  done := by
    intro X hP hw hK hc i pins s σ H E I hf st hg
    subst hP hw hK
    obtain ⟨⟨old, he⟩, hit, hne⟩ := st
    obtain ⟨xs, hq, hx⟩ := hg
    obtain ⟨its, rv, p, hz⟩ := I.tuple hq
    obtain ⟨f0, f1, f2, f3, f4, f5⟩ := hf it (by simp)
    have hl := rv.length
    have hT : s.heap.IsTuple a its.toArray := p
    have hi : i = its.toArray.size := by simp; omega
    subst hi
    exact wpAny_pyNext_enum_endD (Draws.tuple (prog := X.prog) (w := X.w) (A := X.A.in1) (I.ok.hd hc) it a hai its.toArray) he ⟨hit, hT⟩ fun h' eb => ⟨rfl, I.turned (t' := s.toks) (fun b o hb q => eb b o hb q) f0 f1 f3 f4 f5⟩
  self := fun A i s Q E st h => let ⟨⟨_, he⟩, _⟩ := st; wpAny_pyIter_enum he h
theorem walk_enumT {K : PySem.W.Frag} {a : Addr} {c : Int} {xs : List V} : Walk (IteT K c a) xs.length (fun H => SqT K H a xs) (YPair (fun i => some (.int (c + (i : Nat)))) (fun i => xs[i]?)) := by
  refine ⟨fun i _ hi q => ⟨xs, xs[i], q, by simp [hi]⟩, fun _ q => ⟨xs, q, rfl⟩, fun i H v H' _ q y => ?_⟩
  obtain ⟨T, x, h1, h2, h3, h4⟩ := y
  exact ⟨T, .int (c + (i : Nat)), x, h1, h2, h3, rfl, h4 xs q⟩
set_option maxHeartbeats 1000000 in
theorem meets_enumerate_newB1 {v : Value} {o : Obj} {H : Heap → Prop} (B : Begins v o H) :
    Meets (Builtin.«enumerate.__new__» ⟨[.type "enumerate", v], []⟩) (fun _ R s => H s.heap ∧
      R (.ok (.ret (.ref (s.heap.push o).objs.size))) { s with heap := (s.heap.push o).push { cls := .type "enumerate", data := .fields #[.none, .bool false, .ref s.heap.objs.size, rawInt 0, .none, .none] } }) :=
  .of_wp fun prog w A R s h => by
    obtain ⟨hp, g, d, tk, os⟩ := s; obtain ⟨h1, h⟩ := h
    have hsub := sub_enumerate
    have q1 : ∀ {A' : Around} {E : Value → Shared → Prop} {Q : Value → Shared → Prop}, Q (.ref hp.objs.size) ⟨hp.push o, g, d, tk, os⟩ → wpAny (model prog w) A' (pyIter v) Q E ⟨hp, g, d, tk, os⟩ :=
      fun q => B.iter prog w _ _ ⟨hp, g, d, tk, os⟩ _ h1 q
    wp_walk using q1
    refine wpAny_stack_any fun st => wpAny_pure ?_
    split
    · rename_i c _ _ _ _ _
      cases (c == Value.type "enumerate")
      · wp_walk using q1
        exact ⟨_, rfl, h⟩
      · wp_walk using q1
        exact ⟨_, rfl, h⟩
    · wp_walk using q1
      exact ⟨_, rfl, h⟩
theorem enum_begins1 {prog : Program} {w : World} {A : Around} {E : Value → Shared → Prop} {s : Shared} {v : Value} {o : Obj} {H : Heap → Prop} {Q : Value → Shared → Prop} (B : Begins v o H) (h1 : H s.heap)
    (h : ∀ h', IsEnum h' (s.heap.objs.size + 1) s.heap.objs.size 0 .none → h'.get? s.heap.objs.size = some o → h'.objs.size = s.heap.objs.size + 2 →
      (∀ b o, s.heap.get? b = some o → h'.get? b = some o) → Q (.ref (s.heap.objs.size + 1)) { s with heap := h' }) :
    wpAny (model prog w) A (call (.type "enumerate") [v]) Q E s := by
  refine callType_new F.called_enumerate (by decide) (F.typeCall_enumerate_1 _) (F.newCall_enumerate_1 _) (fun obj => F.args_object_init_2 obj _) F.entry_enumerate_new
    (meets_enumerate_newB1 B) ⟨h1, ?_⟩
  have hz : (s.heap.push o).objs.size = s.heap.objs.size + 1 := Heap.size_push ..
  show _ ∧ _
  rw [hz]
  have he : IsEnum ((s.heap.push o).push { cls := .type "enumerate", data := .fields #[.none, .bool false, .ref s.heap.objs.size, rawInt 0, .none, .none] }) (s.heap.objs.size + 1) s.heap.objs.size 0 .none := by
    have := Heap.get?_push_size (s.heap.push o) (o := { cls := .type "enumerate", data := .fields #[.none, .bool false, .ref s.heap.objs.size, rawInt 0, .none, .none] }) rfl
    rw [hz] at this; exact this
  refine ⟨⟨_, he, rfl⟩, h _ he (Heap.get?_push_of_some _ (Heap.get?_push_size _ B.free)) (by rw [Heap.size_push, hz]) fun b o x => Heap.get?_push_of_some _ (Heap.get?_push_of_some _ x)⟩
def iEnumT (K : PySem.W.Frag) (ta : TA) : TI := fun σ H R => ta σ H fun vs H1 => ∃ a xs, vs = [.ref a] ∧ SqT K H1 a xs ∧ R (IteT K 0 a) H1
theorem pi_enumT {X : Cx} {e : Expr} {ta : TA} {p pos tpos : Pos} {elts : List Expr} {kk : Nat} (hg : Gl X "enumerate") (hm : X.mg "enumerate" = none) (ha : PA X [e] ta) (hs : starEach [e] X.env = [(false, eval e X.env)] := by rfl) :
    PI X (.Tuple elts kk tpos) (.Call (.Name "enumerate" p) [e] [] pos) (iEnumT X.K ta) := by
  refine ⟨fun pins s σ H R I h => ?_⟩
  refine Call_ (ld_blt I hg hm boot_enumerate (PyProof.Rows.callWith_type1 (thn (ha.run pos pins s σ H _ I h) fun us s1 ⟨vs, H1, I1, r1, q1⟩ => ?_) hs rfl))
  obtain ⟨a, xs, ex, hq, q⟩ := q1
  subst ex
  cases r1 with
  | cons r rr =>
    cases rr
    cases r
    obtain ⟨its, rv, p', hz⟩ := I1.tuple hq
    have hal : a < s1.heap.objs.size := by obtain ⟨_, z, _⟩ := (show s1.heap.IsTuple a its.toArray from p'); exact Heap.lt_size z
    refine enum_begins1 (begins_tuple a its.toArray) p' fun h' he hit hsz hk => wpAny_pyIter_enum he ?_
    have I2 : Inv X pins σ H1 { s1 with heap := h' } := I1.kept (t' := s1.toks) hk
    refine ⟨s1.heap.objs.size + 1, [s1.heap.objs.size + 1, s1.heap.objs.size], _, _, H1, rfl, I2, turn_enumT 0 a (s1.heap.objs.size + 1) s1.heap.objs.size (Nat.ne_of_lt (Nat.lt_succ_of_lt hal)) (Nat.ne_of_lt hal), ⟨⟨.none, he⟩, ⟨_, hit, rfl, rfl⟩, Nat.succ_ne_self _⟩, fun b hb => ?_, q⟩
    have e' : b = s1.heap.objs.size + 1 ∨ b = s1.heap.objs.size := by simpa using hb
    have hle : s1.heap.objs.size ≤ b := by
      rcases e' with z | z
      · rw [z]; exact Nat.le_add_right _ _
      · rw [z]; exact Nat.le_refl _
    exact I1.fpOk hle (I1.hok.fresh hle)
def iEnumTC (K : PySem.W.Frag) (ta : TA) : TI := fun σ H R => ta σ H fun vs H1 => ∃ a xs c, vs = [.ref a, .int c] ∧ -(2 ^ 63) ≤ c ∧ c < 2 ^ 63 ∧ SqT K H1 a xs ∧ R (IteT K c a) H1
theorem pi_enumTC {X : Cx} {e e2 : Expr} {ta : TA} {p pos tpos : Pos} {elts : List Expr} {kk : Nat} (hg : Gl X "enumerate") (hm : X.mg "enumerate" = none) (ha : PA X [e, e2] ta) (hs : starEach [e, e2] X.env = (false, eval e X.env) :: starEach [e2] X.env := by rfl) (hp : (backTo pos (starEach [e2] X.env)).any (·.1) = false := by rfl) :
    PI X (.Tuple elts kk tpos) (.Call (.Name "enumerate" p) [e, e2] [] pos) (iEnumTC X.K ta) := by
  refine ⟨fun pins s σ H R I h => ?_⟩
  refine Call_ (ld_blt I hg hm boot_enumerate (PyProof.Rows.callWith_type1 (thn (ha.run pos pins s σ H _ I h) fun us s1 ⟨vs, H1, I1, r1, q1⟩ => ?_) hs hp))
  obtain ⟨a, xs, c, ex, hc0, hc1, hq, q⟩ := q1
  subst ex
  cases r1 with
  | cons r rr =>
    cases rr with
    | cons r2 rr2 =>
    cases rr2
    cases r
    obtain ⟨t2, rfl⟩ := r2
    obtain ⟨its, rv, p', hz⟩ := I1.tuple hq
    have hal : a < s1.heap.objs.size := by obtain ⟨_, z, _⟩ := (show s1.heap.IsTuple a its.toArray from p'); exact Heap.lt_size z
    refine enum_begins (begins_tuple a its.toArray) p' hc0 hc1 fun h' he hit hsz hk => wpAny_pyIter_enum he ?_
    have I2 : Inv X pins σ H1 { s1 with heap := h' } := I1.kept (t' := s1.toks) hk
    refine ⟨s1.heap.objs.size + 1, [s1.heap.objs.size + 1, s1.heap.objs.size], _, _, H1, rfl, I2, turn_enumT c a (s1.heap.objs.size + 1) s1.heap.objs.size (Nat.ne_of_lt (Nat.lt_succ_of_lt hal)) (Nat.ne_of_lt hal), ⟨⟨.none, by simpa using he⟩, ⟨_, hit, rfl, rfl⟩, Nat.succ_ne_self _⟩, fun b hb => ?_, q⟩
    have e' : b = s1.heap.objs.size + 1 ∨ b = s1.heap.objs.size := by simpa using hb
    have hle : s1.heap.objs.size ≤ b := by
      rcases e' with z | z
      · rw [z]; exact Nat.le_add_right _ _
      · rw [z]; exact Nat.le_refl _
    exact I1.fpOk hle (I1.hok.fresh hle)
theorem call_lenK {X : Cx} {K : PySem.W.Frag} (h : X.K = K) : CallR X (.builtin "len") (fun xs H Q => ∃ p ys, xs = [.ref p] ∧ (SqL K H p ys ∨ SqT K H p ys) ∧ Q (.int ys.length) H) := h ▸ call_len_seq
theorem ix_tupK {X : Cx} {K : PySem.W.Frag} (h : X.K = K) : IxR X (rIxT K) := h ▸ ix_tup
theorem ix_listK {X : Cx} {K : PySem.W.Frag} (h : X.K = K) : IxR X (rIxL K) := h ▸ ix_list
theorem sl_tupK {X : Cx} {K : PySem.W.Frag} (h : X.K = K) : SlR X (rSlT K) := h ▸ sl_tup
theorem sl_listK {X : Cx} {K : PySem.W.Frag} (h : X.K = K) : SlR X (rSlL K) := h ▸ sl_list
end Hw
namespace Hw
open PySem PySem.Spec PyProof.Rows L2
inductive Cell where
  | set (i b n : Nat)
  | get (i b c s : Nat)
  | put (i b c s : Nat)
  | offer (i b : Nat)
  | take (b w : Nat)
  | sho (p w : Nat)
  | mark
  | stop
abbrev nV (n : Nat) : V := .int (n : Int)
def cellV : Cell → List V
  | .set i b n => [nV i, .str "set", nV b, nV n]
  | .get i b c s => [nV i, .str "get", nV b, nV c, nV s, .int 1]
  | .put i b c s => [nV i, .str "put", nV b, nV c, nV s, .int 1]
  | .offer i b => [nV i, .str "offer", nV b]
  | .take b w => [.str "take", nV b, nV w]
  | .sho p w => [.str "show", nV p, nV w]
  | .mark => [.str "mark"]
  | .stop => [.str "stop"]
def Cell.Ok (h size many : Nat) : Cell → Prop
  | .set i b n => i < h ∧ b < 8 ∧ n < size
  | .get i b c s => i < h ∧ b < 8 ∧ c < 8 ∧ s < many
  | .put i b c s => i < h ∧ b < 8 ∧ c < 8 ∧ s < many
  | .offer i b => i < h ∧ b < 8
  | .take b w => b < 8 ∧ 1 ≤ w ∧ w ≤ h
  | .sho p w => p ≤ 5 ∧ 1 ≤ w ∧ w ≤ h
  | .mark => True
  | .stop => True
structure Code where
  votes : List Nat
  size : Nat
  cells : List Cell
  bank : List Nat
abbrev Code.h (C : Code) : Nat := C.votes.length
structure Code.Ok (C : Code) : Prop where
  h1 : 1 ≤ C.h
  h5 : C.h ≤ 5
  vo : ∀ i v, C.votes[i]? = some v → i + 1 < 2 * v ∧ v ≤ i + 1
  s2 : 2 ≤ C.size
  s4 : C.size ≤ 10000
  c1 : 1 ≤ C.cells.length
  c2 : C.cells.length ≤ 200
  ce : ∀ c ∈ C.cells, c.Ok C.h C.size C.bank.length
  b3 : C.bank.length ≤ 3
  ba : ∀ n ∈ C.bank, n < C.size
def IsCell (H : Hp) (v : V) (c : Cell) : Prop := ∃ q, v = .ref q ∧ H q = some (.tup (cellV c))
def AreCells (H : Hp) (vs : List V) (cs : List Cell) : Prop := vs.length = cs.length ∧ ∀ (i : Nat) (v : V) (c : Cell), vs[i]? = some v → cs[i]? = some c → IsCell H v c
structure CodeAt (H : Hp) (a va ca ba : Addr) (vs : List V) (C : Code) : Prop where
  top : H a = some (.tup [.ref va, nV C.size, .ref ca, .ref ba])
  vo : H va = some (.tup (C.votes.map nV))
  ce : H ca = some (.tup vs)
  cs : AreCells H vs C.cells
  ba : H ba = some (.tup (C.bank.map nV))
def IsCode (H : Hp) (a : Addr) (C : Code) : Prop := ∃ va ca ba vs, CodeAt H a va ca ba vs C
theorem IsCell.same {H H' : Hp} {v : V} {c : Cell} (e : Same H H') (h : IsCell H v c) : IsCell H' v c := let ⟨q, h1, h2⟩ := h; ⟨q, h1, e _ _ h2⟩
theorem AreCells.same {H H' : Hp} {vs : List V} {cs : List Cell} (e : Same H H') (h : AreCells H vs cs) : AreCells H' vs cs := ⟨h.1, fun i v c a b => (h.2 i v c a b).same e⟩
theorem CodeAt.same {H H' : Hp} {a va ca ba : Addr} {vs : List V} {C : Code} (e : Same H H') (h : CodeAt H a va ca ba vs C) : CodeAt H' a va ca ba vs C :=
  ⟨e _ _ h.top, e _ _ h.vo, e _ _ h.ce, h.cs.same e, e _ _ h.ba⟩
theorem IsCode.same {H H' : Hp} {a : Addr} {C : Code} (e : Same H H') (h : IsCode H a C) : IsCode H' a C := let ⟨va, ca, ba, vs, x⟩ := h; ⟨va, ca, ba, vs, x.same e⟩
theorem itBT {b : Bool} {A B : Prop} (hc : b = true) (h : A) : if b = true then A else B := by
  rw [hc]; exact iteT h
theorem itBF {b : Bool} {A B : Prop} (hc : b = false) (h : B) : if b = true then A else B := by
  rw [hc]; exact iteF h
theorem u1 {H : Hp} {p a : Addr} {o x : HO} (n : H p = none) (h : H a = some x) : upd H p o a = some x := same_upd n _ _ h
theorem um {H : Hp} {a b : Addr} {o x : HO} (n : b ≠ a) (h : H b = some x) : upd H a o b = some x := (upd_ne n).trans h
theorem sa {H H' : Hp} {a : Addr} {x : HO} (e : Same H H') (h : H a = some x) : H' a = some x := e _ _ h
theorem le_line {n : Nat} (h : n ≤ 1000) : n ≤ sizeLine := Nat.le_trans h (by decide)
theorem itT {c A B : Prop} [Decidable c] (hc : c) (h : A) : if decide c = true then A else B := by
  rw [decide_eq_true hc]; exact iteT h
theorem itF {c A B : Prop} [Decidable c] (hc : ¬ c) (h : B) : if decide c = true then A else B := by
  rw [decide_eq_false hc]; exact iteF h
theorem itNT {c A B : Prop} [Decidable c] (hc : ¬ c) (h : A) : if (!decide c) = true then A else B := by
  rw [decide_eq_false hc]; exact iteT h
theorem itNF {c A B : Prop} [Decidable c] (hc : c) (h : B) : if (!decide c) = true then A else B := by
  rw [decide_eq_true hc]; exact iteF h
theorem inRt {n lo hi : Int} (h1 : lo ≤ n) (h2 : n ≤ hi) : inR lo hi (.int n) = true := by
  show (decide (lo ≤ n) && decide (n ≤ hi)) = true; simp [h1, h2]
theorem inRf {n lo hi : Int} (h : n < lo ∨ hi < n) : inR lo hi (.int n) = false := by
  show (decide (lo ≤ n) && decide (n ≤ hi)) = false; simp; omega
theorem mapAt {ns : List Nat} {i : Nat} {x : V} (h : (ns.map nV)[i]? = some x) : ∃ n, ns[i]? = some n ∧ x = nV n := by
  rw [List.getElem?_map] at h
  obtain ⟨n, a, b⟩ := Option.map_eq_some_iff.mp h
  exact ⟨n, a, b.symm⟩
theorem kit_any2 {K : PySem.W.Frag} {a b c : String} {r1 r2 : Bool} (h1 : kitB a b = some r1) (h2 : kitB a c = some r2) : PySem.W.kitAny K (.type a) [.type b, .type c] = some (r1 || r2) := by
  refine kitAny_cons (kit_ty h1) (fun e => ?_) (fun e => by rw [e]; rfl)
  rw [e]
  exact kitAny_cons (kit_ty h2) (fun e2 => by rw [e2]; exact kitAny_nil) (fun e2 => by rw [e2]; rfl)
variable {P : Program} {w : World} {K : PySem.W.Frag} {mg : Str → Option Value} {base : Heap}
abbrev s_are_registers : Stmt := top 30
abbrev N_are_registers : List Str := ["values", "one"]
theorem sc_are_registers : FnScope N_are_registers ["values"] (defScope s_are_registers) := ⟨rfl, rfl, rfl, by decide +kernel, rfl, by decide +kernel, by decide +kernel⟩
def sp_are_registers : Sp := fun vs H Q _ => ∃ (a : Addr) (ns : List Nat), vs = [.ref a] ∧ H a = some (.tup (ns.map nV)) ∧ (∀ n ∈ ns, n < 8) ∧ Ret H Q (.bl true)
theorem C_are_registers (T : Txt K mg) : C8.Cal P w K mg base 3 "are_registers" sp_are_registers [] := by
  have C_is_from := C_is_from (P := P) (w := w) (base := base) T
  refine cal (N := N_are_registers) (ps := ["values"]) T.d_are_registers (fun _ _ _ _ _ _ us hl => match us, hl with | [_], _ => rfl) sc_are_registers (fun vs H Q E h => ?_) (fun f cdv A outer s H vs Q E hr h => ?_)
  · obtain ⟨a, ns, rfl, _⟩ := h
    rfl
  · obtain ⟨a, ns, rfl, ha, h8, k⟩ := h
    refine ⟨_, (pss_one (ps_ret (pe_cmpR (op_eqE hr.units0) (pe_lc (own := [("one", 1)]) rfl sc_are_registers.nd (pi_tup (pv 0)) (blkOk_by (own := [("one", 1)]) (N := N_are_registers) (sc := defScope s_are_registers) (by decide +kernel)) (fun _ _ _ _ _ => (pg_name (i := 1) sc_are_registers.nd rfl (by first | exact .inl rfl | exact .inr rfl))) (fun _ _ _ _ _ => (pts_one (pt_not (pt_val (C8.pe_c C_is_from hr (by decide) rfl (pa_cons (pv 1) (pa_cons pe_int (pa_cons (pe_op op_sub (C8.pe_gc rfl T.g_MANY_REGISTERS) pe_int) pa_nil)))))))) (fun _ _ _ _ _ => (pv 1))) (pe_lst pa_nil) (nomark _)))), ?_⟩
    refine ⟨_, rfl, a, rfl, ⟨_, SqT.of ha⟩, fun D hD => ?_⟩
    refine lc_tup (xs := ns.map nV) (fun i H' => H' = upd H D (.lst [])) rfl (fun i H' _ e => ?_) (fun i x H' hi e => ?_) (fun H' e => ?_)
    · subst e; exact same_t (same_upd hD) (SqT.of ha)
    · subst e
      obtain ⟨n, hn, rfl⟩ := mapAt hi
      have h9 : n < 8 := h8 n (List.mem_of_getElem? hn)
      exact ⟨rfl, _, rfl, _, _, rfl, rfl, _, _, _, true, rfl, rfl, inRt (by omega) (by omega), _, rfl, iteF rfl⟩
    · subst e
      refine ⟨by decide, fun p hp => ⟨_, _, [], rfl, rfl, SqL.of ((upd_ne (ne_of_none (upd_same ..) hp)).trans (upd_same ..)), SqL.of (upd_same ..), k _ ((same_upd hD).trans (same_upd hp))⟩⟩
theorem eqE {H1 : Hp} {D : Addr} {Q : VK} (hD : H1 D = some (.lst [])) (q : ∀ p, H1 p = none → Q (.bl true) (upd H1 p (.lst []))) :
    ∀ p, H1 p = none → rEqE K (.ref D) (.ref p) (upd H1 p (.lst [])) Q := fun p hp =>
  ⟨_, _, [], rfl, rfl, SqL.of ((upd_ne (ne_of_none hD hp)).trans hD), SqL.of upd_same, q p hp⟩
theorem neE {H1 : Hp} {D : Addr} {Q : VK} (hD : H1 D = some (.lst [])) (q : ∀ p, H1 p = none → Q (.bl false) (upd H1 p (.lst []))) :
    ∀ p, H1 p = none → rNeE K (.ref D) (.ref p) (upd H1 p (.lst [])) Q := fun p hp =>
  ⟨_, _, [], rfl, rfl, SqL.of ((upd_ne (ne_of_none hD hp)).trans hD), SqL.of upd_same, q p hp⟩
abbrev s_are_inputs : Stmt := top 20
abbrev N_are_inputs : List Str := ["value", "one"]
theorem sc_are_inputs : FnScope N_are_inputs ["value"] (defScope s_are_inputs) := ⟨rfl, rfl, rfl, by decide +kernel, rfl, by decide +kernel, by decide +kernel⟩
def sp_are_inputs : Sp := fun vs H Q _ => ∃ (a : Addr) (ns : List Nat), vs = [.ref a] ∧ H a = some (.lst (ns.map nV)) ∧ ns.length ≤ 400 ∧ (∀ n ∈ ns, n ≤ 9999) ∧ Ret H Q (.bl true)
theorem C_are_inputs (T : Txt K mg) : C8.Cal P w K mg base 3 "are_inputs" sp_are_inputs [] := by
  have C_is_from := C_is_from (P := P) (w := w) (base := base) T
  refine cal (N := N_are_inputs) (ps := ["value"]) T.d_are_inputs (fun _ _ _ _ _ _ us hl => match us, hl with | [_], _ => rfl) sc_are_inputs (fun vs H Q E h => ?_) (fun f cdv A outer s H vs Q E hr h => ?_)
  · obtain ⟨a, ns, rfl, _⟩ := h
    rfl
  · obtain ⟨a, ns, rfl, ha, h4, h8, k⟩ := h
    refine ⟨_, (pss_cons (ps_if (PW.pt (pw_or (pt_not (pt_val (pe_callB call_isiT (by rfl) T.b_isinstance (by decide +kernel) (pa_cons (pv 0) (pa_cons (pe_tup (pa_cons (pe_bltn (v := .ty "list") (u := .type "list") (by rfl) T.b_list (by decide +kernel) rfl) (pa_cons (pe_bltn (v := .ty "tuple") (u := .type "tuple") (by rfl) T.b_tuple (by decide +kernel) rfl) pa_nil))) pa_nil))))) (pw_or1 (pt_cmpR op_gt (pe_callB (call_lenK (K := K) rfl) (by rfl) T.b_len PySem.boot_len (pa_cons (pv 0) pa_nil)) (C8.pe_gc rfl T.g_MOST_INPUTS) (nomark _))))) (pss_one (ps_ret pe_bl)) pss_nil)
    (pss_one (ps_ret (pe_cmpR (op_eqE hr.units0) (pe_lc (own := [("one", 1)]) rfl sc_are_inputs.nd (pi_list (pv 0)) (blkOk_by (own := [("one", 1)]) (N := N_are_inputs) (sc := defScope s_are_inputs) (by decide +kernel)) (fun _ _ _ _ _ => (pg_name (i := 1) sc_are_inputs.nd rfl (by first | exact .inl rfl | exact .inr rfl))) (fun _ _ _ _ _ => (pts_one (pt_not (pt_val (C8.pe_c C_is_from hr (by decide) rfl (pa_cons (pv 1) (pa_cons pe_int (pa_cons (C8.pe_gc rfl T.g_MOST_INPUT) pa_nil)))))))) (fun _ _ _ _ _ => (pv 1))) (pe_lst pa_nil) (nomark _))))), ?_⟩
    refine ⟨_, rfl, by decide, fun t ht => ?_⟩
    have s1 : Same H (upd H t (.tup [.ty "list", .ty "tuple"])) := same_upd ht
    refine ⟨_, _, _, _, _, true, rfl, upd_same .., .cons (.ty _) (.cons (.ty _) .nil), .base (.lst (s1 _ _ ha)), kit_any2 (r1 := true) (r2 := false) (by decide +kernel) (by decide +kernel), true, rfl, iteF ?_⟩
    refine ⟨_, rfl, _, _, rfl, .inl (SqL.of (s1 _ _ ha)), _, _, rfl, rfl, _, rfl, ?_⟩
    rw [decide_eq_false (by simp; omega)]
    refine iteF ?_
    refine ⟨_, rfl, a, rfl, ⟨_, SqL.of (s1 _ _ ha)⟩, fun D hD => ?_⟩
    refine lc_list (xs := ns.map nV) (fun i H' => H' = upd (upd H t (.tup [.ty "list", .ty "tuple"])) D (.lst [])) rfl (fun i H' _ e => ?_) (fun i x H' hi e => ?_) (fun H' e => ?_)
    · subst e; exact SqL.of (same_upd hD _ _ (s1 _ _ ha))
    · subst e
      obtain ⟨n, hn, rfl⟩ := mapAt hi
      have h9 : n ≤ 9999 := h8 n (List.mem_of_getElem? hn)
      exact ⟨rfl, _, rfl, _, _, _, true, rfl, rfl, inRt (by omega) (by omega), _, rfl, iteF rfl⟩
    · subst e
      exact ⟨by decide, eqE upd_same fun p hp => k _ (by repeat (first | exact Same.refl _ | assumption | refine same_new ?_ (by assumption) | refine Same.trans ?_ (by assumption)))⟩
abbrev s_is_votes : Stmt := top 29
abbrev N_is_votes : List Str := ["value", "width", "need"]
theorem sc_is_votes : FnScope N_is_votes ["value"] (defScope s_is_votes) := ⟨rfl, rfl, rfl, by decide +kernel, rfl, by decide +kernel, by decide +kernel⟩
def sp_is_votes : Sp := fun vs H Q _ => ∃ (a : Addr) (C : Code), vs = [.ref a] ∧ C.Ok ∧ H a = some (.tup (C.votes.map nV)) ∧ Ret H Q (.bl true)
theorem C_is_votes (T : Txt K mg) : C8.Cal P w K mg base 2 "is_votes" sp_is_votes [] := by
  have C_is_whole := C_is_whole (P := P) (w := w) (base := base) T
  refine cal (N := N_is_votes) (ps := ["value"]) T.d_is_votes (fun _ _ _ _ _ _ us hl => match us, hl with | [_], _ => rfl) sc_is_votes (fun vs H Q E h => ?_) (fun f cdv A outer s H vs Q E hr h => ?_)
  · obtain ⟨a, ns, rfl, _⟩ := h
    rfl
  · obtain ⟨a, C, rfl, ok, ha, k⟩ := h
    refine ⟨_, (pss_cons (ps_if (PW.pt (pw_or (pt_not (pt_val (pe_callB call_isi (by rfl) T.b_isinstance (by decide +kernel) (pa_cons (pv 0) (pa_cons (pe_bltn (v := .ty "tuple") (u := .type "tuple") (by rfl) T.b_tuple (by decide +kernel) rfl) pa_nil))))) (pw_or1 (pt_not (pt_chain op_le op_le pe_int (pe_callB (call_lenK (K := K) rfl) (by rfl) T.b_len PySem.boot_len (pa_cons (pv 0) pa_nil)) (C8.pe_gc rfl T.g_MOST_HUES)))))) (pss_one (ps_ret pe_bl)) pss_nil)
    (pss_cons (ps_for PassesOwn.never rfl (pi_enumTC (by rfl) T.b_enumerate (pa_cons (pv 0) (pa_cons pe_int pa_nil))) (pg_tup rfl (pgs_cons (pg_name (i := 1) sc_is_votes.nd rfl (by first | exact .inl rfl | exact .inr rfl)) (pgs_cons (pg_name (i := 2) sc_is_votes.nd rfl (by first | exact .inl rfl | exact .inr rfl)) pgs_nil))) (pss_one (ps_if (PW.pt (pw_or (pt_not (pt_val (C8.pe_c C_is_whole hr (by decide) rfl (pa_cons (pv 2) pa_nil)))) (pw_or1 (pt_not (pt_chain op_lt op_le (pv 1) (pe_op op_mul pe_int (pv 2)) (pe_op op_mul pe_int (pv 1))))))) (pss_one (ps_ret pe_bl)) pss_nil)))
    (pss_one (ps_ret pe_bl)))), ?_⟩
    refine ⟨_, rfl, _, _, _, _, true, rfl, .ty _, .base (.tup ha), kit_ty (by decide +kernel), true, rfl, iteF ?_⟩
    have h1 : 1 ≤ C.votes.length := ok.h1
    have h5 : C.votes.length ≤ 5 := ok.h5
    refine ⟨_, rfl, _, _, rfl, .inr (SqT.of ha), _, _, rfl, rfl, _, rfl, ?_⟩
    rw [decide_eq_true (by simp; omega)]
    refine iteT ⟨_, _, rfl, rfl, _, rfl, ?_⟩
    rw [decide_eq_true (by simp; omega)]
    refine iteF ?_
    refine ⟨_, rfl, _, _, _, rfl, by decide, by decide, SqT.of ha, ?_⟩
    refine for_it walk_enumT (fun i σ H' => Same H H' ∧ ∃ x y, σ = [some (V.ref a), x, y]) ⟨.refl _, _, _, rfl⟩ (fun i σ H' _ p => same_t p.1 (SqT.of ha)) (fun i x σ H1 H2 hi p y => ?_) (fun σ H' p => ?_)
    · obtain ⟨s, b, c, rfl⟩ := p
      obtain ⟨t, x1, x2, rfl, ht, rfl, e1, e2⟩ := y
      cases e1
      obtain ⟨n, hn, rfl⟩ := mapAt e2
      obtain ⟨v1, v2⟩ := ok.vo i n hn
      have s2 : Same H (upd H1 t (.tup [.int (1 + (i : Nat)), nV n])) := same_new s ht
      refine ⟨t, _, rfl, SqT.of (upd_same ..), rfl, _, _, rfl, _, _, rfl, rfl, ?_⟩
      refine ⟨_, rfl, _, rfl, rfl, true, rfl, iteF ⟨_, rfl, _, rfl, _, _, rfl, rfl, .inl (by decide), _, _, rfl, rfl, _, rfl, ?_⟩⟩
      rw [decide_eq_true (by omega)]
      refine iteT ⟨_, rfl, _, _, rfl, rfl, .inl (by decide), _, _, rfl, rfl, _, rfl, ?_⟩
      rw [decide_eq_true (by omega)]
      exact iteF ⟨s2, _, _, rfl⟩
    · obtain ⟨s, b, c, rfl⟩ := p
      exact k _ s
abbrev s_instruction_fits : Stmt := top 31
abbrev N_instruction_fits : List Str := ["value", "hue", "size", "many", "word"]
theorem sc_instruction_fits : FnScope N_instruction_fits ["value", "hue", "size", "many"] (defScope s_instruction_fits) := ⟨rfl, rfl, rfl, by decide +kernel, rfl, by decide +kernel, by decide +kernel⟩
def Cell.hue : Cell → Option Nat
  | .set i _ _ => some i
  | .get i _ _ _ => some i
  | .put i _ _ _ => some i
  | .offer i _ => some i
  | _ => none
def sp_instruction_fits : Sp := fun vs H Q _ => ∃ (a : Addr) (c : Cell) (i h size many : Nat), vs = [.ref a, nV i, nV size, nV many] ∧ H a = some (.tup (cellV c)) ∧ c.hue = some i ∧ c.Ok h size many ∧ Ret H Q (.bl true)
theorem C_instruction_fits (T : Txt K mg) : C8.Cal P w K mg base 4 "instruction_fits" sp_instruction_fits [] := by
  have C_is_from := C_is_from (P := P) (w := w) (base := base) T
  have C_are_registers := C_are_registers (P := P) (w := w) (base := base) T
  refine cal (N := N_instruction_fits) (ps := ["value", "hue", "size", "many"]) T.d_instruction_fits (fun _ _ _ _ _ _ us hl => match us, hl with | [_, _, _, _], _ => rfl) sc_instruction_fits (fun vs H Q E h => ?_) (fun f cdv A outer s H vs Q E hr h => ?_)
  · obtain ⟨a, c, i, h, size, many, rfl, _⟩ := h
    rfl
  · obtain ⟨a, c, i, h, size, many, rfl, ha, hi, ok, k⟩ := h
    refine ⟨_, (pss_cons (ps_if (PW.pt (pw_or (pt_not (pt_val (pe_callB call_isi (by rfl) T.b_isinstance (by decide +kernel) (pa_cons (pv 0) (pa_cons (pe_bltn (v := .ty "tuple") (u := .type "tuple") (by rfl) T.b_tuple (by decide +kernel) rfl) pa_nil))))) (pw_or (pt_cmpR op_lt (pe_callB (call_lenK (K := K) rfl) (by rfl) T.b_len PySem.boot_len (pa_cons (pv 0) pa_nil)) pe_int (nomark _)) (pw_or1 (pt_not (pt_val (C8.pe_c C_is_from hr (by decide) rfl (pa_cons (pe_ix (ix_tupK (K := K) rfl) (pv 0) pe_int (fun _ _ => rfl)) (pa_cons (pv 1) (pa_cons (pv 1) pa_nil)))))))))) (pss_one (ps_ret pe_bl)) pss_nil)
    (pss_cons (ps_if (pt_not (pt_val (pe_callB call_isi (by rfl) T.b_isinstance (by decide +kernel) (pa_cons (pe_ix (ix_tupK (K := K) rfl) (pv 0) pe_int (fun _ _ => rfl)) (pa_cons (pe_bltn (v := .ty "str") (u := .type "str") (by rfl) T.b_str (by decide +kernel) rfl) pa_nil))))) (pss_one (ps_ret pe_bl)) pss_nil)
    (pss_cons (ps_set (i := 4) sc_instruction_fits.nd rfl (by first | exact .inl rfl | exact .inr rfl) (pe_ix (ix_tupK (K := K) rfl) (pv 0) pe_int (fun _ _ => rfl)))
    (pss_cons (ps_if (pt_cmpR op_eq (pv 4) pe_str (nomark _)) (pss_one (ps_ret (pe_and (pe_cmpR op_eq (pe_callB (call_lenK (K := K) rfl) (by rfl) T.b_len PySem.boot_len (pa_cons (pv 0) pa_nil)) pe_int (nomark _)) (pe_and (C8.pe_c C_are_registers hr (by decide) rfl (pa_cons (pe_slice (sl_tupK (K := K) rfl) (pv 0) (po_some pe_int) (po_some pe_int)) pa_nil)) (pe_one (C8.pe_c C_is_from hr (by decide) rfl (pa_cons (pe_ix (ix_tupK (K := K) rfl) (pv 0) pe_int (fun _ _ => rfl)) (pa_cons pe_int (pa_cons (pe_op op_sub (pv 2) pe_int) pa_nil))))))))) pss_nil)
    (pss_cons (ps_if (pt_cmpR op_eq (pv 4) pe_str (nomark _)) (pss_one (ps_ret (pe_and (pe_cmpR op_eq (pe_callB (call_lenK (K := K) rfl) (by rfl) T.b_len PySem.boot_len (pa_cons (pv 0) pa_nil)) pe_int (nomark _)) (pe_one (C8.pe_c C_are_registers hr (by decide) rfl (pa_cons (pe_slice (sl_tupK (K := K) rfl) (pv 0) (po_some pe_int) po_none) pa_nil)))))) pss_nil)
    (pss_cons (ps_if (pt_cmpR op_in_seq (pv 4) (pe_tup (pa_cons pe_str (pa_cons pe_str pa_nil))) (by with_unfolding_all rfl)) (pss_cons (ps_if (PW.pt (pw_or (pt_cmpR op_ne (pe_callB (call_lenK (K := K) rfl) (by rfl) T.b_len PySem.boot_len (pa_cons (pv 0) pa_nil)) pe_int (nomark _)) (pw_or1 (pt_not (pt_val (C8.pe_c C_are_registers hr (by decide) rfl (pa_cons (pe_slice (sl_tupK (K := K) rfl) (pv 0) (po_some pe_int) (po_some pe_int)) pa_nil))))))) (pss_one (ps_ret pe_bl)) pss_nil)
    (pss_one (ps_ret (pe_and (C8.pe_c C_is_from hr (by decide) rfl (pa_cons (pe_ix (ix_tupK (K := K) rfl) (pv 0) pe_int (fun _ _ => rfl)) (pa_cons pe_int (pa_cons (pv 3) pa_nil)))) (pe_one (C8.pe_c C_is_from hr (by decide) rfl (pa_cons (pe_ix (ix_tupK (K := K) rfl) (pv 0) pe_int (fun _ _ => rfl)) (pa_cons pe_int (pa_cons (pe_op op_sub (pv 3) (pe_ix (ix_tupK (K := K) rfl) (pv 0) pe_int (fun _ _ => rfl))) pa_nil))))))))) pss_nil)
    (pss_one ps_never))))))), ?_⟩
    cases c with
    | set j b n =>
      cases hi
      obtain ⟨o1, o2, o3⟩ := ok
      iterate 36 first | refine iteT ?_ | refine iteF ?_ | refine ⟨_, rfl, ?_⟩ | refine ⟨_, _, rfl, rfl, ?_⟩ | refine ⟨rfl, ?_⟩ | refine ⟨_, _, _, _, true, rfl, .ty _, .base (.tup (by repeat (first | assumption | exact upd_same .. | refine u1 (by assumption) ?_ | refine um (by assumption) ?_ | refine sa (by assumption) ?_))), kit_ty (by decide +kernel), ?_⟩ | refine ⟨_, _, _, _, true, rfl, .ty _, .base (.str _), kit_ty (by decide +kernel), ?_⟩ | refine ⟨_, _, rfl, .inr (SqT.of (by repeat (first | assumption | exact upd_same .. | refine u1 (by assumption) ?_ | refine um (by assumption) ?_ | refine sa (by assumption) ?_))), ?_⟩ | refine ⟨_, _, _, _, rfl, rfl, SqT.of (by repeat (first | assumption | exact upd_same .. | refine u1 (by assumption) ?_ | refine um (by assumption) ?_ | refine sa (by assumption) ?_)), atI_nat (j := 0) rfl, ?_⟩ | refine ⟨_, _, _, _, rfl, rfl, SqT.of (by repeat (first | assumption | exact upd_same .. | refine u1 (by assumption) ?_ | refine um (by assumption) ?_ | refine sa (by assumption) ?_)), atI_nat (j := 1) rfl, ?_⟩ | refine ⟨_, _, _, true, rfl, rfl, inRt (by omega) (by omega), ?_⟩ | refine ⟨_, _, rfl, SqT.of (by repeat (first | assumption | exact upd_same .. | refine u1 (by assumption) ?_ | refine um (by assumption) ?_ | refine sa (by assumption) ?_)), of_decide_eq_true rfl, fun t ht => ?_⟩
      refine ⟨_, [b], rfl, upd_same .., fun n hn => by simp at hn; omega, fun H' s' => ?_⟩
      have hb := s' _ _ (same_upd ht _ _ ha)
      iterate 7 first | refine iteT ?_ | refine ⟨_, rfl, ?_⟩ | refine ⟨_, _, rfl, rfl, ?_⟩ | refine ⟨_, _, _, _, rfl, rfl, SqT.of (by repeat (first | assumption | exact upd_same .. | refine u1 (by assumption) ?_ | refine um (by assumption) ?_ | refine sa (by assumption) ?_)), atI_nat (j := 3) rfl, ?_⟩ | refine ⟨_, _, _, true, rfl, rfl, inRt (by omega) (by omega), ?_⟩
      exact k _ (by repeat (first | exact Same.refl _ | assumption | refine same_new ?_ (by assumption) | refine Same.trans ?_ (by assumption)))
    | get j b c z =>
      cases hi
      obtain ⟨o1, o2, o3, o4⟩ := ok
      iterate 47 first | refine iteT ?_ | refine iteF ?_ | refine ⟨_, rfl, ?_⟩ | refine ⟨_, _, rfl, rfl, ?_⟩ | refine ⟨rfl, ?_⟩ | refine ⟨_, _, _, _, true, rfl, .ty _, .base (.tup (by repeat (first | assumption | exact upd_same .. | refine u1 (by assumption) ?_ | refine um (by assumption) ?_ | refine sa (by assumption) ?_))), kit_ty (by decide +kernel), ?_⟩ | refine ⟨_, _, _, _, true, rfl, .ty _, .base (.str _), kit_ty (by decide +kernel), ?_⟩ | refine ⟨_, _, rfl, .inr (SqT.of (by repeat (first | assumption | exact upd_same .. | refine u1 (by assumption) ?_ | refine um (by assumption) ?_ | refine sa (by assumption) ?_))), ?_⟩ | refine ⟨_, _, _, _, rfl, rfl, SqT.of (by repeat (first | assumption | exact upd_same .. | refine u1 (by assumption) ?_ | refine um (by assumption) ?_ | refine sa (by assumption) ?_)), atI_nat (j := 0) rfl, ?_⟩ | refine ⟨_, _, _, _, rfl, rfl, SqT.of (by repeat (first | assumption | exact upd_same .. | refine u1 (by assumption) ?_ | refine um (by assumption) ?_ | refine sa (by assumption) ?_)), atI_nat (j := 1) rfl, ?_⟩ | refine ⟨_, _, _, true, rfl, rfl, inRt (by omega) (by omega), ?_⟩ | refine ⟨le_line (of_decide_eq_true rfl), fun t ht => ?_⟩ | refine ⟨_, _, rfl, SqT.of (by repeat (first | assumption | exact upd_same .. | refine u1 (by assumption) ?_ | refine um (by assumption) ?_ | refine sa (by assumption) ?_)), of_decide_eq_true rfl, fun t ht => ?_⟩
      refine ⟨_, [b, c], rfl, upd_same .., fun n hn => by simp at hn; omega, fun H' s' => ?_⟩
      have hb := s' _ _ (u1 (by assumption) (u1 (by assumption) ha))
      iterate 15 first | refine iteT ?_ | refine iteF ?_ | refine ⟨_, rfl, ?_⟩ | refine ⟨_, _, rfl, rfl, ?_⟩ | refine ⟨_, _, _, _, rfl, rfl, SqT.of (by repeat (first | assumption | exact upd_same .. | refine u1 (by assumption) ?_ | refine um (by assumption) ?_ | refine sa (by assumption) ?_)), atI_nat (j := 4) rfl, ?_⟩ | refine ⟨_, _, _, _, rfl, rfl, SqT.of (by repeat (first | assumption | exact upd_same .. | refine u1 (by assumption) ?_ | refine um (by assumption) ?_ | refine sa (by assumption) ?_)), atI_nat (j := 5) rfl, ?_⟩ | refine ⟨_, _, _, true, rfl, rfl, inRt (by omega) (by omega), ?_⟩
      exact k _ (by repeat (first | exact Same.refl _ | assumption | refine same_new ?_ (by assumption) | refine Same.trans ?_ (by assumption)))
    | put j b c z =>
      cases hi
      obtain ⟨o1, o2, o3, o4⟩ := ok
      iterate 47 first | refine iteT ?_ | refine iteF ?_ | refine ⟨_, rfl, ?_⟩ | refine ⟨_, _, rfl, rfl, ?_⟩ | refine ⟨rfl, ?_⟩ | refine ⟨_, _, _, _, true, rfl, .ty _, .base (.tup (by repeat (first | assumption | exact upd_same .. | refine u1 (by assumption) ?_ | refine um (by assumption) ?_ | refine sa (by assumption) ?_))), kit_ty (by decide +kernel), ?_⟩ | refine ⟨_, _, _, _, true, rfl, .ty _, .base (.str _), kit_ty (by decide +kernel), ?_⟩ | refine ⟨_, _, rfl, .inr (SqT.of (by repeat (first | assumption | exact upd_same .. | refine u1 (by assumption) ?_ | refine um (by assumption) ?_ | refine sa (by assumption) ?_))), ?_⟩ | refine ⟨_, _, _, _, rfl, rfl, SqT.of (by repeat (first | assumption | exact upd_same .. | refine u1 (by assumption) ?_ | refine um (by assumption) ?_ | refine sa (by assumption) ?_)), atI_nat (j := 0) rfl, ?_⟩ | refine ⟨_, _, _, _, rfl, rfl, SqT.of (by repeat (first | assumption | exact upd_same .. | refine u1 (by assumption) ?_ | refine um (by assumption) ?_ | refine sa (by assumption) ?_)), atI_nat (j := 1) rfl, ?_⟩ | refine ⟨_, _, _, true, rfl, rfl, inRt (by omega) (by omega), ?_⟩ | refine ⟨le_line (of_decide_eq_true rfl), fun t ht => ?_⟩ | refine ⟨_, _, rfl, SqT.of (by repeat (first | assumption | exact upd_same .. | refine u1 (by assumption) ?_ | refine um (by assumption) ?_ | refine sa (by assumption) ?_)), of_decide_eq_true rfl, fun t ht => ?_⟩
      refine ⟨_, [b, c], rfl, upd_same .., fun n hn => by simp at hn; omega, fun H' s' => ?_⟩
      have hb := s' _ _ (u1 (by assumption) (u1 (by assumption) ha))
      iterate 15 first | refine iteT ?_ | refine iteF ?_ | refine ⟨_, rfl, ?_⟩ | refine ⟨_, _, rfl, rfl, ?_⟩ | refine ⟨_, _, _, _, rfl, rfl, SqT.of (by repeat (first | assumption | exact upd_same .. | refine u1 (by assumption) ?_ | refine um (by assumption) ?_ | refine sa (by assumption) ?_)), atI_nat (j := 4) rfl, ?_⟩ | refine ⟨_, _, _, _, rfl, rfl, SqT.of (by repeat (first | assumption | exact upd_same .. | refine u1 (by assumption) ?_ | refine um (by assumption) ?_ | refine sa (by assumption) ?_)), atI_nat (j := 5) rfl, ?_⟩ | refine ⟨_, _, _, true, rfl, rfl, inRt (by omega) (by omega), ?_⟩
      exact k _ (by repeat (first | exact Same.refl _ | assumption | refine same_new ?_ (by assumption) | refine Same.trans ?_ (by assumption)))
    | offer j b =>
      cases hi
      obtain ⟨o1, o2⟩ := ok
      iterate 39 first | refine iteT ?_ | refine iteF ?_ | refine ⟨_, rfl, ?_⟩ | refine ⟨_, _, rfl, rfl, ?_⟩ | refine ⟨rfl, ?_⟩ | refine ⟨_, _, _, _, true, rfl, .ty _, .base (.tup (by repeat (first | assumption | exact upd_same .. | refine u1 (by assumption) ?_ | refine um (by assumption) ?_ | refine sa (by assumption) ?_))), kit_ty (by decide +kernel), ?_⟩ | refine ⟨_, _, _, _, true, rfl, .ty _, .base (.str _), kit_ty (by decide +kernel), ?_⟩ | refine ⟨_, _, rfl, .inr (SqT.of (by repeat (first | assumption | exact upd_same .. | refine u1 (by assumption) ?_ | refine um (by assumption) ?_ | refine sa (by assumption) ?_))), ?_⟩ | refine ⟨_, _, _, _, rfl, rfl, SqT.of (by repeat (first | assumption | exact upd_same .. | refine u1 (by assumption) ?_ | refine um (by assumption) ?_ | refine sa (by assumption) ?_)), atI_nat (j := 0) rfl, ?_⟩ | refine ⟨_, _, _, _, rfl, rfl, SqT.of (by repeat (first | assumption | exact upd_same .. | refine u1 (by assumption) ?_ | refine um (by assumption) ?_ | refine sa (by assumption) ?_)), atI_nat (j := 1) rfl, ?_⟩ | refine ⟨_, _, _, true, rfl, rfl, inRt (by omega) (by omega), ?_⟩ | refine ⟨_, _, rfl, SqT.of (by repeat (first | assumption | exact upd_same .. | refine u1 (by assumption) ?_ | refine um (by assumption) ?_ | refine sa (by assumption) ?_)), of_decide_eq_true rfl, fun t ht => ?_⟩
      refine ⟨_, [b], rfl, upd_same .., fun n hn => by simp at hn; omega, fun H' s' => ?_⟩
      exact k _ (by repeat (first | exact Same.refl _ | assumption | refine same_new ?_ (by assumption) | refine Same.trans ?_ (by assumption)))
    | _ => cases hi
end Hw
namespace Hw
open PySem PySem.Spec PyProof.Rows L2
variable {P : Program} {w : World} {K : PySem.W.Frag} {mg : Str → Option Value} {base : Heap}
abbrev s_settle_fits : Stmt := top 32
abbrev N_settle_fits : List Str := ["value", "hues", "many", "word", "most"]
theorem sc_settle_fits : FnScope N_settle_fits ["value", "hues", "many"] (defScope s_settle_fits) := ⟨rfl, rfl, rfl, by decide +kernel, rfl, by decide +kernel, by decide +kernel⟩
def sp_settle_fits : Sp := fun vs H Q _ => ∃ (a : Addr) (c : Cell) (h size many n : Nat), vs = [.ref a, nV h, nV n] ∧ H a = some (.tup (cellV c)) ∧ c.hue = none ∧ c.Ok h size many ∧ Ret H Q (.bl true)
theorem C_settle_fits (T : Txt K mg) : C8.Cal P w K mg base 3 "settle_fits" sp_settle_fits [] := by
  have C_is_from := C_is_from (P := P) (w := w) (base := base) T
  refine cal (N := N_settle_fits) (ps := ["value", "hues", "many"]) T.d_settle_fits (fun _ _ _ _ _ _ us hl => match us, hl with | [_, _, _], _ => rfl) sc_settle_fits (fun vs H Q E h => ?_) (fun f cdv A outer s H vs Q E hr h => ?_)
  · obtain ⟨a, c, h, size, many, n, rfl, _⟩ := h
    rfl
  · obtain ⟨a, c, h, size, many, n, rfl, ha, hi, ok, k⟩ := h
    have hu := hu_of hr
    refine ⟨_, (pss_cons (ps_if (PW.pt (pw_or (pt_not (pt_val (pe_callB call_isi (by rfl) T.b_isinstance (by decide +kernel) (pa_cons (pv 0) (pa_cons (pe_bltn (v := .ty "tuple") (u := .type "tuple") (by rfl) T.b_tuple (by decide +kernel) rfl) pa_nil))))) (pw_or (pt_cmpR op_eq (pe_callB (call_lenK (K := K) rfl) (by rfl) T.b_len PySem.boot_len (pa_cons (pv 0) pa_nil)) pe_int (nomark _)) (pw_or1 (pt_not (pt_val (pe_callB call_isi (by rfl) T.b_isinstance (by decide +kernel) (pa_cons (pe_ix (ix_tupK (K := K) rfl) (pv 0) pe_int (fun _ _ => rfl)) (pa_cons (pe_bltn (v := .ty "str") (u := .type "str") (by rfl) T.b_str (by decide +kernel) rfl) pa_nil))))))))) (pss_one (ps_ret pe_bl)) pss_nil)
    (pss_cons (ps_set (i := 3) sc_settle_fits.nd rfl (by first | exact .inl rfl | exact .inr rfl) (pe_ix (ix_tupK (K := K) rfl) (pv 0) pe_int (fun _ _ => rfl)))
    (pss_cons (ps_if (pt_cmpR op_in_seq (pv 3) (pe_tup (pa_cons pe_str (pa_cons pe_str pa_nil))) (by with_unfolding_all rfl)) (pss_one (ps_ret (pe_cmpR op_eq (pe_callB (call_lenK (K := K) rfl) (by rfl) T.b_len PySem.boot_len (pa_cons (pv 0) pa_nil)) pe_int (nomark _)))) pss_nil)
    (pss_cons (ps_if (pt_cmpR op_eq (pv 3) pe_str (nomark _)) (pss_one ps_never) pss_nil)
    (pss_cons (ps_if (PW.pt (pw_or (pt_cmpR op_notIn_seq (pv 3) (pe_tup (pa_cons pe_str (pa_cons pe_str (pa_cons pe_str pa_nil)))) (by with_unfolding_all rfl)) (pw_or (pt_cmpR op_ne (pe_callB (call_lenK (K := K) rfl) (by rfl) T.b_len PySem.boot_len (pa_cons (pv 0) pa_nil)) pe_int (nomark _)) (pw_or1 (pt_not (pt_val (C8.pe_c C_is_from hr (by decide) rfl (pa_cons (pe_ix (ix_tupK (K := K) rfl) (pv 0) pe_int (fun _ _ => rfl)) (pa_cons pe_int (pa_cons (pv 1) pa_nil)))))))))) (pss_one (ps_ret pe_bl)) pss_nil)
    (pss_cons (ps_set (i := 4) sc_settle_fits.nd rfl (by first | exact .inl rfl | exact .inr rfl) (pe_dget hu (pe_disp (pps_cons pe_str (C8.pe_gc rfl T.g_MOST_PORT) (pps_cons pe_str (pe_op op_sub (pv 2) pe_int) (pps_cons pe_str (pe_op op_sub (C8.pe_gc rfl T.g_MANY_REGISTERS) pe_int) pps_nil))) (by rfl) (by rfl) (fun z => by cases z) (by decide)) (pv 3) (fun _ _ => rfl)))
    (pss_one (ps_ret (C8.pe_c C_is_from hr (by decide) rfl (pa_cons (pe_ix (ix_tupK (K := K) rfl) (pv 0) pe_int (fun _ _ => rfl)) (pa_cons pe_int (pa_cons (pv 4) pa_nil)))))))))))), ?_⟩
    cases c with
    | take b x =>
      obtain ⟨o1, o2, o3⟩ := ok
      iterate 45 first | refine iteF ?_ | refine ⟨_, rfl, ?_⟩ | refine ⟨rfl, ?_⟩ | refine ⟨_, _, _, _, true, rfl, .ty _, .base (.tup (by repeat (first | assumption | exact upd_same .. | refine u1 (by assumption) ?_ | refine um (by assumption) ?_ | refine sa (by assumption) ?_))), kit_ty (by decide +kernel), ?_⟩ | refine ⟨_, _, _, _, true, rfl, .ty _, .base (.str _), kit_ty (by decide +kernel), ?_⟩ | refine ⟨_, _, rfl, .inr (SqT.of (by repeat (first | assumption | exact upd_same .. | refine u1 (by assumption) ?_ | refine um (by assumption) ?_ | refine sa (by assumption) ?_))), ?_⟩ | refine ⟨_, _, _, _, rfl, rfl, SqT.of (by repeat (first | assumption | exact upd_same .. | refine u1 (by assumption) ?_ | refine um (by assumption) ?_ | refine sa (by assumption) ?_)), atI_nat (j := 0) rfl, ?_⟩ | refine ⟨_, _, _, _, rfl, rfl, SqT.of (by repeat (first | assumption | exact upd_same .. | refine u1 (by assumption) ?_ | refine um (by assumption) ?_ | refine sa (by assumption) ?_)), atI_nat (j := 2) rfl, ?_⟩ | refine ⟨_, _, _, true, rfl, rfl, inRt (by omega) (by omega), ?_⟩ | refine ⟨le_line (of_decide_eq_true rfl), fun t ht => ?_⟩
      intro q hq
      iterate 3 first | refine ⟨_, rfl, ?_⟩ | refine ⟨_, _, rfl, rfl, ?_⟩
      refine ⟨upd_same .., [(Sum.inr "show", .int 5), (Sum.inr "turn", .int ((n : Int) - 1)), (Sum.inr "take", .int (8 - 1))], rfl, by simp, _, rfl, _, .int (8 - 1), rfl, ?_, ?_⟩
      · exact (show valV (mergeK [] [(Sum.inr "show", V.int 5), (Sum.inr "turn", V.int ((n : Int) - 1)), (Sum.inr "take", V.int (8 - 1))]) (Sum.inr "take" : Key) = some (.int (8 - 1)) by rfl) ▸ DGet.k (k := Sum.inr "take") (upd_same ..)
      rw [upd_upd]
      iterate 4 first | refine ⟨_, rfl, ?_⟩ | refine ⟨_, _, _, _, rfl, rfl, SqT.of (by repeat (first | assumption | exact upd_same .. | refine u1 (by assumption) ?_ | refine um (by assumption) ?_ | refine sa (by assumption) ?_)), atI_nat (j := 1) rfl, ?_⟩ | refine ⟨_, _, _, true, rfl, rfl, inRt (by omega) (by omega), ?_⟩
      exact k _ (by repeat (first | exact Same.refl _ | assumption | refine same_new ?_ (by assumption) | refine Same.trans ?_ (by assumption)))
    | sho p x =>
      obtain ⟨o1, o2, o3⟩ := ok
      iterate 45 first | refine iteF ?_ | refine ⟨_, rfl, ?_⟩ | refine ⟨rfl, ?_⟩ | refine ⟨_, _, _, _, true, rfl, .ty _, .base (.tup (by repeat (first | assumption | exact upd_same .. | refine u1 (by assumption) ?_ | refine um (by assumption) ?_ | refine sa (by assumption) ?_))), kit_ty (by decide +kernel), ?_⟩ | refine ⟨_, _, _, _, true, rfl, .ty _, .base (.str _), kit_ty (by decide +kernel), ?_⟩ | refine ⟨_, _, rfl, .inr (SqT.of (by repeat (first | assumption | exact upd_same .. | refine u1 (by assumption) ?_ | refine um (by assumption) ?_ | refine sa (by assumption) ?_))), ?_⟩ | refine ⟨_, _, _, _, rfl, rfl, SqT.of (by repeat (first | assumption | exact upd_same .. | refine u1 (by assumption) ?_ | refine um (by assumption) ?_ | refine sa (by assumption) ?_)), atI_nat (j := 0) rfl, ?_⟩ | refine ⟨_, _, _, _, rfl, rfl, SqT.of (by repeat (first | assumption | exact upd_same .. | refine u1 (by assumption) ?_ | refine um (by assumption) ?_ | refine sa (by assumption) ?_)), atI_nat (j := 2) rfl, ?_⟩ | refine ⟨_, _, _, true, rfl, rfl, inRt (by omega) (by omega), ?_⟩ | refine ⟨le_line (of_decide_eq_true rfl), fun t ht => ?_⟩
      intro q hq
      iterate 3 first | refine ⟨_, rfl, ?_⟩ | refine ⟨_, _, rfl, rfl, ?_⟩
      refine ⟨upd_same .., [(Sum.inr "show", .int 5), (Sum.inr "turn", .int ((n : Int) - 1)), (Sum.inr "take", .int (8 - 1))], rfl, by simp, _, rfl, _, .int 5, rfl, ?_, ?_⟩
      · exact (show valV (mergeK [] [(Sum.inr "show", V.int 5), (Sum.inr "turn", V.int ((n : Int) - 1)), (Sum.inr "take", V.int (8 - 1))]) (Sum.inr "show" : Key) = some (.int 5) by rfl) ▸ DGet.k (k := Sum.inr "show") (upd_same ..)
      rw [upd_upd]
      iterate 4 first | refine ⟨_, rfl, ?_⟩ | refine ⟨_, _, _, _, rfl, rfl, SqT.of (by repeat (first | assumption | exact upd_same .. | refine u1 (by assumption) ?_ | refine um (by assumption) ?_ | refine sa (by assumption) ?_)), atI_nat (j := 1) rfl, ?_⟩ | refine ⟨_, _, _, true, rfl, rfl, inRt (by omega) (by omega), ?_⟩
      exact k _ (by repeat (first | exact Same.refl _ | assumption | refine same_new ?_ (by assumption) | refine Same.trans ?_ (by assumption)))
    | mark =>
      iterate 26 first | refine iteT ?_ | refine iteF ?_ | refine ⟨_, rfl, ?_⟩ | refine ⟨rfl, ?_⟩ | refine ⟨_, _, _, _, true, rfl, .ty _, .base (.tup (by repeat (first | assumption | exact upd_same .. | refine u1 (by assumption) ?_ | refine um (by assumption) ?_ | refine sa (by assumption) ?_))), kit_ty (by decide +kernel), ?_⟩ | refine ⟨_, _, _, _, true, rfl, .ty _, .base (.str _), kit_ty (by decide +kernel), ?_⟩ | refine ⟨_, _, rfl, .inr (SqT.of (by repeat (first | assumption | exact upd_same .. | refine u1 (by assumption) ?_ | refine um (by assumption) ?_ | refine sa (by assumption) ?_))), ?_⟩ | refine ⟨_, _, _, _, rfl, rfl, SqT.of (by repeat (first | assumption | exact upd_same .. | refine u1 (by assumption) ?_ | refine um (by assumption) ?_ | refine sa (by assumption) ?_)), atI_nat (j := 0) rfl, ?_⟩ | refine ⟨le_line (of_decide_eq_true rfl), fun t ht => ?_⟩
      exact k _ (by repeat (first | exact Same.refl _ | assumption | refine same_new ?_ (by assumption) | refine Same.trans ?_ (by assumption)))
    | stop =>
      iterate 26 first | refine iteT ?_ | refine iteF ?_ | refine ⟨_, rfl, ?_⟩ | refine ⟨rfl, ?_⟩ | refine ⟨_, _, _, _, true, rfl, .ty _, .base (.tup (by repeat (first | assumption | exact upd_same .. | refine u1 (by assumption) ?_ | refine um (by assumption) ?_ | refine sa (by assumption) ?_))), kit_ty (by decide +kernel), ?_⟩ | refine ⟨_, _, _, _, true, rfl, .ty _, .base (.str _), kit_ty (by decide +kernel), ?_⟩ | refine ⟨_, _, rfl, .inr (SqT.of (by repeat (first | assumption | exact upd_same .. | refine u1 (by assumption) ?_ | refine um (by assumption) ?_ | refine sa (by assumption) ?_))), ?_⟩ | refine ⟨_, _, _, _, rfl, rfl, SqT.of (by repeat (first | assumption | exact upd_same .. | refine u1 (by assumption) ?_ | refine um (by assumption) ?_ | refine sa (by assumption) ?_)), atI_nat (j := 0) rfl, ?_⟩ | refine ⟨le_line (of_decide_eq_true rfl), fun t ht => ?_⟩
      exact k _ (by repeat (first | exact Same.refl _ | assumption | refine same_new ?_ (by assumption) | refine Same.trans ?_ (by assumption)))
    | _ => cases hi
abbrev s_cell_fits : Stmt := top 34
abbrev N_cell_fits : List Str := ["value", "hues", "size", "many", "bank"]
theorem sc_cell_fits : FnScope N_cell_fits ["value", "hues", "size", "many", "bank"] (defScope s_cell_fits) := ⟨rfl, rfl, rfl, by decide +kernel, rfl, by decide +kernel, by decide +kernel⟩
def sp_cell_fits : Sp := fun vs H Q _ => ∃ (a : Addr) (c : Cell) (h size many n : Nat), vs = [.ref a, nV h, nV size, nV n, nV many] ∧ H a = some (.tup (cellV c)) ∧ 1 ≤ h ∧ c.Ok h size many ∧ Ret H Q (.bl true)
theorem hue_ok {c : Cell} {i h size many : Nat} (hi : c.hue = some i) (ok : c.Ok h size many) : i < h := by
  cases c with
  | set => cases hi; exact ok.1
  | get => cases hi; exact ok.1
  | put => cases hi; exact ok.1
  | offer => cases hi; exact ok.1
  | _ => cases hi
theorem hue_v {c : Cell} {i : Nat} (hi : c.hue = some i) : ∃ xs, cellV c = nV i :: xs := by
  cases c with
  | set => cases hi; exact ⟨_, rfl⟩
  | get => cases hi; exact ⟨_, rfl⟩
  | put => cases hi; exact ⟨_, rfl⟩
  | offer => cases hi; exact ⟨_, rfl⟩
  | _ => cases hi
theorem nohue_v {c : Cell} (hi : c.hue = none) : ∃ z xs, cellV c = .str z :: xs := by
  cases c with
  | take => exact ⟨_, _, rfl⟩
  | sho => exact ⟨_, _, rfl⟩
  | mark => exact ⟨_, _, rfl⟩
  | stop => exact ⟨_, _, rfl⟩
  | _ => cases hi
theorem C_cell_fits (T : Txt K mg) : C8.Cal P w K mg base 5 "cell_fits" sp_cell_fits [] := by
  have C_is_from := C_is_from (P := P) (w := w) (base := base) T
  have C_instruction_fits := C_instruction_fits (P := P) (w := w) (base := base) T
  have C_settle_fits := C_settle_fits (P := P) (w := w) (base := base) T
  refine cal (N := N_cell_fits) (ps := ["value", "hues", "size", "many", "bank"]) T.d_cell_fits (fun _ _ _ _ _ _ us hl => match us, hl with | [_, _, _, _, _], _ => rfl) sc_cell_fits (fun vs H Q E h => ?_) (fun f cdv A outer s H vs Q E hr h => ?_)
  · obtain ⟨a, c, h, size, many, n, rfl, _⟩ := h
    rfl
  · obtain ⟨a, c, h, size, many, n, rfl, ha, h1, ok, k⟩ := h
    refine ⟨_, (pss_cons (ps_if (PW.pt (pw_or (pt_not (pt_val (pe_callB call_isi (by rfl) T.b_isinstance (by decide +kernel) (pa_cons (pv 0) (pa_cons (pe_bltn (v := .ty "tuple") (u := .type "tuple") (by rfl) T.b_tuple (by decide +kernel) rfl) pa_nil))))) (pw_or1 (pt_cmpR op_eq (pe_callB (call_lenK (K := K) rfl) (by rfl) T.b_len PySem.boot_len (pa_cons (pv 0) pa_nil)) pe_int (nomark _))))) (pss_one (ps_ret pe_bl)) pss_nil)
    (pss_cons (ps_if (pt_val (C8.pe_c C_is_from hr (by decide) rfl (pa_cons (pe_ix (ix_tupK (K := K) rfl) (pv 0) pe_int (fun _ _ => rfl)) (pa_cons pe_int (pa_cons (pe_op op_sub (pv 1) pe_int) pa_nil))))) (pss_one (ps_ret (C8.pe_c C_instruction_fits hr (by decide) rfl (pa_cons (pv 0) (pa_cons (pe_ix (ix_tupK (K := K) rfl) (pv 0) pe_int (fun _ _ => rfl)) (pa_cons (pv 2) (pa_cons (pv 4) pa_nil))))))) pss_nil)
    (pss_one (ps_ret (C8.pe_c C_settle_fits hr (by decide) rfl (pa_cons (pv 0) (pa_cons (pv 1) (pa_cons (pv 3) pa_nil)))))))), ?_⟩
    cases hi : c.hue with
    | none =>
      obtain ⟨z, xs, e⟩ := nohue_v hi
      have ha2 := ha
      rw [e] at ha2
      iterate 19 first | refine iteF ?_ | refine ⟨_, rfl, ?_⟩ | refine ⟨_, _, rfl, rfl, ?_⟩ | refine ⟨rfl, ?_⟩ | refine ⟨_, _, _, _, true, rfl, .ty _, .base (.tup (by repeat (first | assumption | exact upd_same .. | refine u1 (by assumption) ?_ | refine um (by assumption) ?_ | refine sa (by assumption) ?_))), kit_ty (by decide +kernel), ?_⟩ | refine ⟨_, _, rfl, .inr (SqT.of (by repeat (first | assumption | exact upd_same .. | refine u1 (by assumption) ?_ | refine um (by assumption) ?_ | refine sa (by assumption) ?_))), ?_⟩ | refine ⟨_, _, _, _, rfl, rfl, SqT.of (by repeat (first | assumption | exact upd_same .. | refine u1 (by assumption) ?_ | refine um (by assumption) ?_ | refine sa (by assumption) ?_)), atI_nat (j := 0) rfl, ?_⟩ | refine ⟨_, _, _, false, rfl, rfl, (rfl : inR _ _ (.str _) = false), ?_⟩
      exact ⟨a, c, h, size, many, n, rfl, ha, hi, ok, k⟩
    | some i =>
      obtain ⟨xs, e⟩ := hue_v hi
      have ha2 := ha
      rw [e] at ha2
      have hl := hue_ok hi ok
      iterate 21 first | refine iteT ?_ | refine iteF ?_ | refine ⟨_, rfl, ?_⟩ | refine ⟨_, _, rfl, rfl, ?_⟩ | refine ⟨rfl, ?_⟩ | refine ⟨_, _, _, _, true, rfl, .ty _, .base (.tup (by repeat (first | assumption | exact upd_same .. | refine u1 (by assumption) ?_ | refine um (by assumption) ?_ | refine sa (by assumption) ?_))), kit_ty (by decide +kernel), ?_⟩ | refine ⟨_, _, rfl, .inr (SqT.of (by repeat (first | assumption | exact upd_same .. | refine u1 (by assumption) ?_ | refine um (by assumption) ?_ | refine sa (by assumption) ?_))), ?_⟩ | refine ⟨_, _, _, _, rfl, rfl, SqT.of (by repeat (first | assumption | exact upd_same .. | refine u1 (by assumption) ?_ | refine um (by assumption) ?_ | refine sa (by assumption) ?_)), atI_nat (j := 0) rfl, ?_⟩ | refine ⟨_, _, _, true, rfl, rfl, inRt (by omega) (by omega), ?_⟩
      exact ⟨a, c, i, h, size, many, rfl, ha, hi, ok, k⟩
abbrev s_is_code : Stmt := top 35
abbrev N_is_code : List Str := ["value", "votes", "size", "cells", "bank", "many", "one", "cell"]
theorem sc_is_code : FnScope N_is_code ["value"] (defScope s_is_code) := ⟨rfl, rfl, rfl, by decide +kernel, rfl, by decide +kernel, by decide +kernel⟩
def sp_is_code : Sp := fun vs H Q _ => ∃ (a : Addr) (C : Code), vs = [.ref a] ∧ IsCode H a C ∧ C.Ok ∧ Ret H Q (.bl true)
theorem C_is_code (T : Txt K mg) : C8.Cal P w K mg base 6 "is_code" sp_is_code [] := by
  have C_is_from := C_is_from (P := P) (w := w) (base := base) T
  have C_is_votes := C_is_votes (P := P) (w := w) (base := base) T
  have C_cell_fits := C_cell_fits (P := P) (w := w) (base := base) T
  refine cal (N := N_is_code) (ps := ["value"]) T.d_is_code (fun _ _ _ _ _ _ us hl => match us, hl with | [_], _ => rfl) sc_is_code (fun vs H Q E h => ?_) (fun f cdv A outer s H vs Q E hr h => ?_)
  · obtain ⟨a, C, rfl, _⟩ := h
    rfl
  · obtain ⟨a, C, rfl, ⟨va, ca, ba, vs, hc⟩, ok, k⟩ := h
    refine ⟨_, (pss_cons (ps_if (PW.pt (pw_or (pt_not (pt_val (pe_callB call_isi (by rfl) T.b_isinstance (by decide +kernel) (pa_cons (pv 0) (pa_cons (pe_bltn (v := .ty "tuple") (u := .type "tuple") (by rfl) T.b_tuple (by decide +kernel) rfl) pa_nil))))) (pw_or (pt_cmpR op_ne (pe_callB (call_lenK (K := K) rfl) (by rfl) T.b_len PySem.boot_len (pa_cons (pv 0) pa_nil)) pe_int (nomark _)) (pw_or1 (pt_not (pt_val (C8.pe_c C_is_votes hr (by decide) rfl (pa_cons (pe_ix (ix_tupK (K := K) rfl) (pv 0) pe_int (fun _ _ => rfl)) pa_nil)))))))) (pss_one (ps_ret pe_bl)) pss_nil)
    (pss_cons (ps_asg (pv 0) (pg_tup rfl (pgs_cons (pg_name (i := 1) sc_is_code.nd rfl (by first | exact .inl rfl | exact .inr rfl)) (pgs_cons (pg_name (i := 2) sc_is_code.nd rfl (by first | exact .inl rfl | exact .inr rfl)) (pgs_cons (pg_name (i := 3) sc_is_code.nd rfl (by first | exact .inl rfl | exact .inr rfl)) (pgs_cons (pg_name (i := 4) sc_is_code.nd rfl (by first | exact .inl rfl | exact .inr rfl)) pgs_nil))))))
    (pss_cons (ps_if (PW.pt (pw_or (pt_not (pt_val (C8.pe_c C_is_from hr (by decide) rfl (pa_cons (pv 2) (pa_cons (C8.pe_gc rfl T.g_LEAST_SIZE) (pa_cons (C8.pe_gc rfl T.g_MOST_SIZE) pa_nil)))))) (pw_or (pt_not (pt_val (pe_callB call_isi (by rfl) T.b_isinstance (by decide +kernel) (pa_cons (pv 4) (pa_cons (pe_bltn (v := .ty "tuple") (u := .type "tuple") (by rfl) T.b_tuple (by decide +kernel) rfl) pa_nil))))) (pw_or1 (pt_cmpR op_gt (pe_callB (call_lenK (K := K) rfl) (by rfl) T.b_len PySem.boot_len (pa_cons (pv 4) pa_nil)) (C8.pe_gc rfl T.g_MOST_BANK) (nomark _)))))) (pss_one (ps_ret pe_bl)) pss_nil)
    (pss_cons (ps_if (pt_cmpR (op_neE hr.units0) (pe_lc (own := [("one", 6)]) rfl sc_is_code.nd (pi_tup (pv 4)) (blkOk_by (own := [("one", 6)]) (N := N_is_code) (sc := defScope s_is_code) (by decide +kernel)) (fun _ _ _ _ _ => (pg_name (i := 6) sc_is_code.nd rfl (by first | exact .inl rfl | exact .inr rfl))) (fun _ _ _ _ _ => (pts_one (pt_not (pt_val (C8.pe_c C_is_from hr (by decide) rfl (pa_cons (pv 6) (pa_cons pe_int (pa_cons (pe_op op_sub (pv 2) pe_int) pa_nil)))))))) (fun _ _ _ _ _ => (pv 6))) (pe_lst pa_nil) (nomark _)) (pss_one (ps_ret pe_bl)) pss_nil)
    (pss_cons (ps_if (PW.pt (pw_or (pt_not (pt_val (pe_callB call_isi (by rfl) T.b_isinstance (by decide +kernel) (pa_cons (pv 3) (pa_cons (pe_bltn (v := .ty "tuple") (u := .type "tuple") (by rfl) T.b_tuple (by decide +kernel) rfl) pa_nil))))) (pw_or1 (pt_not (pt_chain op_le op_le pe_int (pe_callB (call_lenK (K := K) rfl) (by rfl) T.b_len PySem.boot_len (pa_cons (pv 3) pa_nil)) (C8.pe_gc rfl T.g_MOST_CELLS)))))) (pss_one (ps_ret pe_bl)) pss_nil)
    (pss_cons (ps_set (i := 5) sc_is_code.nd rfl (by first | exact .inl rfl | exact .inr rfl) (pe_callB (call_lenK (K := K) rfl) (by rfl) T.b_len PySem.boot_len (pa_cons (pv 3) pa_nil)))
    (pss_one (ps_ret (pe_cmpR (op_eqE hr.units0) (pe_lc (own := [("cell", 7)]) rfl sc_is_code.nd (pi_tup (pv 3)) (blkOk_by (own := [("cell", 7)]) (N := N_is_code) (sc := defScope s_is_code) (by decide +kernel)) (fun _ _ _ _ _ => (pg_name (i := 7) sc_is_code.nd rfl (by first | exact .inl rfl | exact .inr rfl))) (fun _ _ _ _ _ => (pts_one (pt_not (pt_val (C8.pe_c C_cell_fits hr (by decide) rfl (pa_cons (pv 7) (pa_cons (pe_callB (call_lenK (K := K) rfl) (by rfl) T.b_len PySem.boot_len (pa_cons (pv 1) pa_nil)) (pa_cons (pv 2) (pa_cons (pv 5) (pa_cons (pe_callB (call_lenK (K := K) rfl) (by rfl) T.b_len PySem.boot_len (pa_cons (pv 4) pa_nil)) pa_nil)))))))))) (fun _ _ _ _ _ => (pv 7))) (pe_lst pa_nil) (nomark _)))))))))), ?_⟩
    have ha := hc.top
    iterate 11 first | refine iteF ?_ | refine ⟨_, rfl, ?_⟩ | refine ⟨rfl, ?_⟩ | refine ⟨_, _, _, _, true, rfl, .ty _, .base (.tup (by repeat (first | assumption | exact upd_same .. | refine u1 (by assumption) ?_ | refine um (by assumption) ?_ | refine sa (by assumption) ?_))), kit_ty (by decide +kernel), ?_⟩ | refine ⟨_, _, rfl, .inr (SqT.of (by repeat (first | assumption | exact upd_same .. | refine u1 (by assumption) ?_ | refine um (by assumption) ?_ | refine sa (by assumption) ?_))), ?_⟩ | refine ⟨_, _, _, _, rfl, rfl, SqT.of (by repeat (first | assumption | exact upd_same .. | refine u1 (by assumption) ?_ | refine um (by assumption) ?_ | refine sa (by assumption) ?_)), atI_nat (j := 0) rfl, ?_⟩
    refine ⟨_, C, rfl, ok, hc.vo, fun H1 s1 => ?_⟩
    have hc1 := hc.same s1
    have ha1 := hc1.top
    have hv1 := hc1.vo
    have hcc1 := hc1.ce
    have hb1 := hc1.ba
    have z1 := ok.s2
    have z2 := ok.s4
    have z3 := ok.b3
    have z4 := ok.c1
    have z5 := ok.c2
    have z6 : (List.map nV C.bank).length ≤ 3 := by simpa using z3
    have z7 : vs.length = C.cells.length := hc1.cs.1
    iterate 19 first | refine iteF ?_ | refine ⟨_, rfl, ?_⟩ | refine ⟨_, _, rfl, rfl, ?_⟩ | refine ⟨_, _, _, _, true, rfl, .ty _, .base (.tup (by repeat (first | assumption | exact upd_same .. | refine u1 (by assumption) ?_ | refine um (by assumption) ?_ | refine sa (by assumption) ?_))), kit_ty (by decide +kernel), ?_⟩ | refine ⟨_, _, rfl, .inr (SqT.of (by repeat (first | assumption | exact upd_same .. | refine u1 (by assumption) ?_ | refine um (by assumption) ?_ | refine sa (by assumption) ?_))), ?_⟩ | refine ⟨_, _, rfl, SqT.of (by repeat (first | assumption | exact upd_same .. | refine u1 (by assumption) ?_ | refine um (by assumption) ?_ | refine sa (by assumption) ?_)), rfl, _, _, rfl, _, _, rfl, _, _, rfl, _, _, rfl, rfl, ?_⟩ | refine ⟨_, _, _, true, rfl, rfl, inRt (by omega) (by omega), ?_⟩ | refine itF (by omega) ?_
    refine ⟨⟨_, SqT.of hb1⟩, fun D hD => ?_⟩
    refine lc_tup (xs := C.bank.map nV) (fun i H' => H' = upd H1 D (.lst [])) rfl (fun i H' _ e => ?_) (fun i x H' hi e => ?_) (fun H' e => ?_)
    · subst e; exact same_t (same_upd hD) (SqT.of hb1)
    · subst e
      obtain ⟨n, hn, rfl⟩ := mapAt hi
      have h9 : n < C.size := ok.ba n (List.mem_of_getElem? hn)
      iterate 7 first | refine iteF ?_ | refine ⟨_, rfl, ?_⟩ | refine ⟨_, _, rfl, rfl, ?_⟩ | refine ⟨rfl, ?_⟩ | refine ⟨_, _, _, true, rfl, rfl, inRt (by omega) (by omega), ?_⟩
      rfl
    · subst e
      refine ⟨by decide, neE upd_same fun p hp => ?_⟩
      iterate 18 first | refine iteF ?_ | refine ⟨_, rfl, ?_⟩ | refine ⟨_, _, rfl, rfl, ?_⟩ | refine ⟨_, _, _, _, true, rfl, .ty _, .base (.tup (by repeat (first | assumption | exact upd_same .. | refine u1 (by assumption) ?_ | refine um (by assumption) ?_ | refine sa (by assumption) ?_))), kit_ty (by decide +kernel), ?_⟩ | refine ⟨_, _, rfl, .inr (SqT.of (by repeat (first | assumption | exact upd_same .. | refine u1 (by assumption) ?_ | refine um (by assumption) ?_ | refine sa (by assumption) ?_))), ?_⟩ | refine itT (by omega) ?_ | refine itNF (by omega) ?_
      refine ⟨⟨_, SqT.of (by repeat (first | assumption | exact upd_same .. | refine u1 (by assumption) ?_ | refine um (by assumption) ?_ | refine sa (by assumption) ?_))⟩, fun D2 hD2 => ?_⟩
      generalize hX : upd (upd H1 D (.lst [])) p (.lst []) = X at *
      have sX : Same H1 X := by rw [← hX]; exact (by repeat (first | exact Same.refl _ | assumption | refine same_new ?_ (by assumption) | refine Same.trans ?_ (by assumption)))
      refine lc_tup (xs := vs) (fun i H' => Same X H' ∧ H' D2 = some (.lst [])) ⟨(by repeat (first | exact Same.refl _ | assumption | refine same_new ?_ (by assumption) | refine Same.trans ?_ (by assumption))), upd_same⟩ (fun i H' _ e => same_t (sX.trans e.1) (SqT.of hcc1)) (fun i x H' hi e => ?_) (fun H' e => ?_)
      · have hcH := (hc1.same sX).same e.1
        have hi2 : i < C.cells.length := by rw [← hc1.cs.1]; exact (List.getElem?_eq_some_iff.mp hi).1
        obtain ⟨q, rfl, hq⟩ := hcH.cs.2 i x C.cells[i] hi (List.getElem?_eq_getElem hi2)
        have okc := ok.ce C.cells[i] (List.getElem_mem hi2)
        have e1 := hcH.vo
        have e2 := hcH.ba
        iterate 8 first | refine ⟨_, rfl, ?_⟩ | refine ⟨rfl, ?_⟩ | refine ⟨_, _, rfl, .inr (SqT.of (by repeat (first | assumption | exact upd_same .. | refine u1 (by assumption) ?_ | refine um (by assumption) ?_ | refine sa (by assumption) ?_))), ?_⟩
        refine ⟨q, _, C.h, C.size, C.bank.length, vs.length, ?_, hq, ok.h1, okc, fun H3 s3 => ?_⟩
        · simp [nV]
        iterate 2 first | refine iteF ?_ | refine ⟨_, rfl, ?_⟩
        exact ⟨e.1.trans s3, s3 _ _ e.2⟩
      · exact ⟨by decide, eqE e.2 fun p2 hp2 => k _ ((s1.trans sX).trans (e.1.trans (by repeat (first | exact Same.refl _ | assumption | refine same_new ?_ (by assumption) | refine Same.trans ?_ (by assumption)))))⟩
abbrev s_need_code : Stmt := top 36
abbrev N_need_code : List Str := ["code"]
theorem sc_need_code : FnScope N_need_code ["code"] (defScope s_need_code) := ⟨rfl, rfl, rfl, by decide +kernel, rfl, by decide +kernel, by decide +kernel⟩
def sp_need_code : Sp := fun vs H Q _ => ∃ (a : Addr) (C : Code), vs = [.ref a] ∧ IsCode H a C ∧ C.Ok ∧ Ret H Q .non
theorem C_need_code (T : Txt K mg) : C8.Cal P w K mg base 7 "need_code" sp_need_code [] := by
  have C_is_code := C_is_code (P := P) (w := w) (base := base) T
  refine cal (N := N_need_code) (ps := ["code"]) T.d_need_code (fun _ _ _ _ _ _ us hl => match us, hl with | [_], _ => rfl) sc_need_code (fun vs H Q E h => ?_) (fun f cdv A outer s H vs Q E hr h => ?_)
  · obtain ⟨a, C, rfl, _⟩ := h
    rfl
  · obtain ⟨a, C, rfl, hc, ok, k⟩ := h
    refine ⟨_, (pss_one (ps_if (pt_not (pt_val (C8.pe_c C_is_code hr (by decide) rfl (pa_cons (pv 0) pa_nil)))) (pss_one ps_never) pss_nil)), ?_⟩
    refine ⟨_, rfl, ?_⟩
    refine ⟨a, C, rfl, hc, ok, fun H1 s1 => ?_⟩
    iterate 2 first | refine iteF ?_ | refine ⟨_, rfl, ?_⟩
    exact k _ s1
abbrev s_need_inputs : Stmt := top 61
abbrev N_need_inputs : List Str := ["inputs"]
theorem sc_need_inputs : FnScope N_need_inputs ["inputs"] (defScope s_need_inputs) := ⟨rfl, rfl, rfl, by decide +kernel, rfl, by decide +kernel, by decide +kernel⟩
def sp_need_inputs : Sp := fun vs H Q _ => ∃ (a : Addr) (ns : List Nat), vs = [.ref a] ∧ H a = some (.lst (ns.map nV)) ∧ ns.length ≤ 400 ∧ (∀ n ∈ ns, n ≤ 9999) ∧ Ret H Q .non
theorem C_need_inputs (T : Txt K mg) : C8.Cal P w K mg base 4 "need_inputs" sp_need_inputs [] := by
  have C_are_inputs := C_are_inputs (P := P) (w := w) (base := base) T
  refine cal (N := N_need_inputs) (ps := ["inputs"]) T.d_need_inputs (fun _ _ _ _ _ _ us hl => match us, hl with | [_], _ => rfl) sc_need_inputs (fun vs H Q E h => ?_) (fun f cdv A outer s H vs Q E hr h => ?_)
  · obtain ⟨a, C, rfl, _⟩ := h
    rfl
  · obtain ⟨a, ns, rfl, hc, h4, h9, k⟩ := h
    refine ⟨_, (pss_one (ps_if (pt_not (pt_val (C8.pe_c C_are_inputs hr (by decide) rfl (pa_cons (pv 0) pa_nil)))) (pss_one ps_never) pss_nil)), ?_⟩
    refine ⟨_, rfl, ?_⟩
    refine ⟨a, ns, rfl, hc, h4, h9, fun H1 s1 => ?_⟩
    iterate 2 first | refine iteF ?_ | refine ⟨_, rfl, ?_⟩
    exact k _ s1
abbrev s_need_steps : Stmt := top 62
abbrev N_need_steps : List Str := ["steps"]
theorem sc_need_steps : FnScope N_need_steps ["steps"] (defScope s_need_steps) := ⟨rfl, rfl, rfl, by decide +kernel, rfl, by decide +kernel, by decide +kernel⟩
def sp_need_steps : Sp := fun vs H Q _ => ∃ (n : Nat), vs = [nV n] ∧ n ≤ 1000000 ∧ Ret H Q .non
theorem C_need_steps (T : Txt K mg) : C8.Cal P w K mg base 3 "need_steps" sp_need_steps [] := by
  have C_is_from := C_is_from (P := P) (w := w) (base := base) T
  refine cal (N := N_need_steps) (ps := ["steps"]) T.d_need_steps (fun _ _ _ _ _ _ us hl => match us, hl with | [_], _ => rfl) sc_need_steps (fun vs H Q E h => ?_) (fun f cdv A outer s H vs Q E hr h => ?_)
  · obtain ⟨n, rfl, _⟩ := h
    rfl
  · obtain ⟨n, rfl, h4, k⟩ := h
    refine ⟨_, (pss_one (ps_if (pt_not (pt_val (C8.pe_c C_is_from hr (by decide) rfl (pa_cons (pv 0) (pa_cons pe_int (pa_cons (C8.pe_gc rfl T.g_MOST_TRIES) pa_nil)))))) (pss_one ps_never) pss_nil)), ?_⟩
    iterate 4 first | refine iteF ?_ | refine ⟨_, rfl, ?_⟩ | refine ⟨_, _, _, true, rfl, rfl, inRt (by omega) (by omega), ?_⟩
    exact k _ (by repeat (first | exact Same.refl _ | assumption | refine same_new ?_ (by assumption) | refine Same.trans ?_ (by assumption)))
def NoTup (K : PySem.W.Frag) (H : Hp) (a : Addr) : Prop := SqT K H a [] ∧ TyX K H (.ref a) (.type "tuple")
abbrev s_is_strike_list : Stmt := top 42
abbrev N_is_strike_list : List Str := ["value"]
theorem sc_is_strike_list : FnScope N_is_strike_list ["value"] (defScope s_is_strike_list) := ⟨rfl, rfl, rfl, by decide +kernel, rfl, by decide +kernel, by decide +kernel⟩
def sp_is_strike_list (K : PySem.W.Frag) : Sp := fun vs H Q _ => ∃ (a : Addr), vs = [.ref a] ∧ SqT K H a [] ∧ (∀ H', Same H H' → TyX K H' (.ref a) (.type "tuple")) ∧ Ret H Q (.bl true)
theorem C_is_strike_list (T : Txt K mg) : C8.Cal P w K mg base 1 "is_strike_list" (sp_is_strike_list K) [] := by
  refine cal (N := N_is_strike_list) (ps := ["value"]) T.d_is_strike_list (fun _ _ _ _ _ _ us hl => match us, hl with | [_], _ => rfl) sc_is_strike_list (fun vs H Q E h => ?_) (fun f cdv A outer s H vs Q E hr h => ?_)
  · obtain ⟨n, rfl, _⟩ := h
    rfl
  · obtain ⟨a, rfl, h4, ty, k⟩ := h
    refine ⟨_, (pss_one (ps_ret (pe_and (pe_callB call_isiT (by rfl) T.b_isinstance (by decide +kernel) (pa_cons (pv 0) (pa_cons (pe_tup (pa_cons (pe_bltn (v := .ty "list") (u := .type "list") (by rfl) T.b_list (by decide +kernel) rfl) (pa_cons (pe_bltn (v := .ty "tuple") (u := .type "tuple") (by rfl) T.b_tuple (by decide +kernel) rfl) pa_nil))) pa_nil))) (pe_one (pe_cmpR op_le (pe_callB (call_lenK (K := K) rfl) (by rfl) T.b_len PySem.boot_len (pa_cons (pv 0) pa_nil)) (C8.pe_gc rfl T.g_MOST_STRIKES) (nomark _)))))), ?_⟩
    iterate 2 first | refine ⟨_, rfl, ?_⟩ | refine ⟨le_line (of_decide_eq_true rfl), fun t ht => ?_⟩
    have s1 : Same H (upd H t (.tup [.ty "list", .ty "tuple"])) := same_upd ht
    refine ⟨_, _, _, _, _, true, rfl, upd_same, .cons (.ty _) (.cons (.ty _) .nil), ty _ s1, kit_any2 (r1 := false) (r2 := true) (by decide +kernel) (by decide +kernel), ?_⟩
    iterate 3 first | refine iteT ?_ | refine ⟨_, rfl, ?_⟩
    refine ⟨_, _, rfl, .inr (same_t s1 h4), ?_⟩
    refine ⟨_, _, rfl, rfl, ?_⟩
    exact k _ s1
abbrev s_first_misfit : Stmt := top 41
abbrev N_first_misfit : List Str := ["code", "strikes", "last", "at", "value"]
theorem sc_first_misfit : FnScope N_first_misfit ["code", "strikes"] (defScope s_first_misfit) := ⟨rfl, rfl, rfl, by decide +kernel, rfl, by decide +kernel, by decide +kernel⟩
def sp_first_misfit (K : PySem.W.Frag) : Sp := fun vs H Q _ => ∃ (c : V) (a : Addr), vs = [c, .ref a] ∧ SqT K H a [] ∧ Ret H Q .non
theorem C_first_misfit (T : Txt K mg) : C8.Cal P w K mg base 1 "first_misfit" (sp_first_misfit K) [] := by
  refine cal (N := N_first_misfit) (ps := ["code", "strikes"]) T.d_first_misfit (fun _ _ _ _ _ _ us hl => match us, hl with | [_, _], _ => rfl) sc_first_misfit (fun vs H Q E h => ?_) (fun f cdv A outer s H vs Q E hr h => ?_)
  · obtain ⟨n, c, rfl, _⟩ := h
    rfl
  · obtain ⟨c, a, rfl, h4, k⟩ := h
    refine ⟨_, (pss_cons (ps_set (i := 2) sc_first_misfit.nd rfl (by first | exact .inl rfl | exact .inr rfl) pe_int)
    (pss_cons (ps_for PassesOwn.never rfl (pi_enumT (by rfl) T.b_enumerate (pa_cons (pv 1) pa_nil)) (pg_tup rfl (pgs_cons (pg_name (i := 3) sc_first_misfit.nd rfl (by first | exact .inl rfl | exact .inr rfl)) (pgs_cons (pg_name (i := 4) sc_first_misfit.nd rfl (by first | exact .inl rfl | exact .inr rfl)) pgs_nil))) (pss_cons ps_never
    (pss_one ps_never)))
    (pss_one (ps_ret pe_non)))), ?_⟩
    refine ⟨_, rfl, ?_⟩
    refine ⟨_, _, rfl, h4, ?_⟩
    refine for_it (walk_enumT (xs := [])) (fun i σ H' => H' = H) rfl (fun i σ H' _ p => by rw [p]; exact h4) (fun i x σ H1 H2 hi p y => absurd hi (Nat.not_lt_zero _)) (fun σ H' p => ?_)
    subst p
    exact k _ (by repeat (first | exact Same.refl _ | assumption | refine same_new ?_ (by assumption) | refine Same.trans ?_ (by assumption)))
abbrev s_need_strikes : Stmt := top 43
abbrev N_need_strikes : List Str := ["code", "strikes", "at"]
theorem sc_need_strikes : FnScope N_need_strikes ["code", "strikes"] (defScope s_need_strikes) := ⟨rfl, rfl, rfl, by decide +kernel, rfl, by decide +kernel, by decide +kernel⟩
def sp_need_strikes (K : PySem.W.Frag) : Sp := fun vs H Q _ => ∃ (c : V) (a : Addr), vs = [c, .ref a] ∧ SqT K H a [] ∧ (∀ H', Same H H' → TyX K H' (.ref a) (.type "tuple")) ∧ Ret H Q .non
theorem C_need_strikes (T : Txt K mg) : C8.Cal P w K mg base 2 "need_strikes" (sp_need_strikes K) [] := by
  have C_is_strike_list := C_is_strike_list (P := P) (w := w) (base := base) T
  have C_first_misfit := C_first_misfit (P := P) (w := w) (base := base) T
  refine cal (N := N_need_strikes) (ps := ["code", "strikes"]) T.d_need_strikes (fun _ _ _ _ _ _ us hl => match us, hl with | [_, _], _ => rfl) sc_need_strikes (fun vs H Q E h => ?_) (fun f cdv A outer s H vs Q E hr h => ?_)
  · obtain ⟨n, c, rfl, _⟩ := h
    rfl
  · obtain ⟨c, a, rfl, h4, ty, k⟩ := h
    refine ⟨_, (pss_cons (ps_if (pt_not (pt_val (C8.pe_c C_is_strike_list hr (by decide) rfl (pa_cons (pv 1) pa_nil)))) (pss_one ps_never) pss_nil)
    (pss_cons (ps_set (i := 2) sc_need_strikes.nd rfl (by first | exact .inl rfl | exact .inr rfl) (C8.pe_c C_first_misfit hr (by decide) rfl (pa_cons (pv 0) (pa_cons (pv 1) pa_nil))))
    (pss_one (ps_if (pt_cmpR op_notN (pv 2) pe_non (nomark _)) (pss_one ps_never) pss_nil)))), ?_⟩
    refine ⟨_, rfl, ?_⟩
    refine ⟨_, rfl, ?_⟩
    refine ⟨h4, ty, fun H1 s1 => ?_⟩
    iterate 4 first | refine iteF ?_ | refine ⟨_, rfl, ?_⟩
    refine ⟨_, _, rfl, same_t s1 h4, fun H2 s2 => ?_⟩
    iterate 4 first | refine iteF ?_ | refine ⟨_, rfl, ?_⟩ | refine ⟨rfl, ?_⟩
    exact k _ (s1.trans s2)
end Hw
namespace Hw
inductive Th where
  | num (n : Nat)
  | take (k : Nat)
  deriving DecidableEq
structure SS (α : Type) where
  F : Nat → Nat → α
  S : Nat → Option α
  t : Nat
inductive Res (α : Type) where
  | stop
  | bad (u : Option (α × α))
  | go (s : SS α)
def setF {α : Type} (F : Nat → Nat → α) (i a : Nat) (x : α) : Nat → Nat → α := fun j b => if j = i ∧ b = a then x else F j b
def setS {α : Type} (S : Nat → Option α) (i : Nat) (x : Option α) : Nat → Option α := fun j => if j = i then x else S j
section
variable {α : Type} [DecidableEq α]
def unlike (l : List (Option α)) : Option (Option (α × α)) :=
  if l.any Option.isNone then some none else
    match l.filterMap id with
    | [] => none
    | x :: xs => (xs.find? fun y => decide (y ≠ x)).map fun y => some (x, y)
def marked (h many : Nat) (F : Nat → Nat → α) : Option (Option (α × α)) := (List.range many).findSome? fun a => unlike ((List.range h).map fun i => some (F i a))
def step (num tk : Nat → α) (h many : Nat) (s : SS α) : Cell → Res α
  | .set i b n => .go { s with F := setF s.F i b (num n) }
  | .get i b _ z => .go { s with F := setF s.F i b (s.F i (8 + z)) }
  | .put i b _ z => .go { s with F := setF s.F i (8 + z) (s.F i b) }
  | .offer i b => .go { s with S := setS s.S i (some (s.F i b)) }
  | .take b w => .go { s with F := fun i a => if i < w ∧ a = b then tk s.t else s.F i a, t := s.t + 1 }
  | .sho _ w => match unlike ((List.range w).map s.S) with
    | some u => .bad u
    | none => .go { s with S := fun _ => none }
  | .mark => match marked h many s.F with
    | some u => .bad u
    | none => .go { s with S := fun _ => none }
  | .stop => .stop
def run (num tk : Nat → α) (h many : Nat) : List Cell → SS α → Nat → Option (Nat × Option (α × α))
  | [], _, d => some (d, none)
  | c :: cs, s, d => match step num tk h many s c with
    | .stop => none
    | .bad u => some (d, u)
    | .go s' => run num tk h many cs s' (d + 1)
theorem unlike_none {l : List (Option α)} (h : unlike l = none) : (∀ o ∈ l, o.isSome) ∧ ∀ o ∈ l, ∀ p ∈ l, o = p := by
  unfold unlike at h
  split at h
  · cases h
  · rename_i hn
    have hs : ∀ o ∈ l, o.isSome := fun o ho => by
      cases o with
      | none => exact absurd (List.any_eq_true.mpr ⟨none, ho, rfl⟩) hn
      | some x => rfl
    refine ⟨hs, ?_⟩
    have key : ∀ x xs, l.filterMap id = x :: xs → ∀ o ∈ l, o = some x := by
      intro x xs e o ho
      rw [e] at h
      have h2 : xs.find? (fun y => decide (y ≠ x)) = none := by simpa using h
      cases o with
      | none => exact absurd (hs none ho) (by simp)
      | some y =>
        have hy : y ∈ l.filterMap id := List.mem_filterMap.mpr ⟨some y, ho, rfl⟩
        rw [e] at hy
        rcases List.mem_cons.mp hy with z | z
        · rw [z]
        · have := List.find?_eq_none.mp h2 y z
          simp at this
          rw [this]
    intro o ho p hp
    cases e : l.filterMap id with
    | nil =>
      cases o with
      | none => exact absurd (hs none ho) (by simp)
      | some y =>
        have hy : y ∈ l.filterMap id := List.mem_filterMap.mpr ⟨some y, ho, rfl⟩
        rw [e] at hy
        cases hy
    | cons x xs => rw [key x xs e o ho, key x xs e p hp]
theorem unlike_blank {l : List (Option α)} (h : unlike l = some none) : none ∈ l := by
  unfold unlike at h
  split at h
  · rename_i hn
    obtain ⟨o, ho, h2⟩ := List.any_eq_true.mp hn
    cases o with
    | none => exact ho
    | some x => cases h2
  · split at h
    · cases h
    · obtain ⟨y, _, e⟩ := Option.map_eq_some_iff.mp h
      cases e
theorem unlike_two {l : List (Option α)} {x y : α} (h : unlike l = some (some (x, y))) : some x ∈ l ∧ some y ∈ l ∧ x ≠ y := by
  unfold unlike at h
  split at h
  · cases h
  · split at h
    · cases h
    · rename_i a as e
      obtain ⟨b, hb, e2⟩ := Option.map_eq_some_iff.mp h
      cases e2
      have h1 := List.find?_some hb
      have h2 := List.mem_of_find?_eq_some hb
      have m1 : x ∈ l.filterMap id := by rw [e]; exact List.mem_cons_self ..
      have m2 : y ∈ l.filterMap id := by rw [e]; exact List.mem_cons_of_mem _ h2
      obtain ⟨o1, q1, r1⟩ := List.mem_filterMap.mp m1
      obtain ⟨o2, q2, r2⟩ := List.mem_filterMap.mp m2
      cases r1; cases r2
      refine ⟨q1, q2, fun z => ?_⟩
      simp at h1
      exact h1 z.symm
theorem unlike_of {l : List (Option α)} (h1 : ∀ o ∈ l, o.isSome) (h2 : ∀ o ∈ l, ∀ p ∈ l, o = p) : unlike l = none := by
  cases e : unlike l with
  | none => rfl
  | some u =>
    cases u with
    | none => have := h1 _ (unlike_blank e); cases this
    | some p =>
      obtain ⟨x, y⟩ := p
      obtain ⟨a, b, c⟩ := unlike_two e
      exact absurd (Option.some.inj (h2 _ a _ b)) c
theorem marked_none {h many : Nat} {F : Nat → Nat → α} (e : marked h many F = none) : ∀ a < many, ∀ i < h, ∀ j < h, F i a = F j a := by
  intro a ha i hi j hj
  have h1 := List.findSome?_eq_none_iff.mp e a (List.mem_range.mpr ha)
  have h2 := (unlike_none h1).2 (some (F i a)) (List.mem_map.mpr ⟨i, List.mem_range.mpr hi, rfl⟩) (some (F j a)) (List.mem_map.mpr ⟨j, List.mem_range.mpr hj, rfl⟩)
  exact Option.some.inj h2
theorem marked_some {h many : Nat} {F : Nat → Nat → α} {u : Option (α × α)} (e : marked h many F = some u) : ∃ a < many, ∃ i < h, ∃ j < h, F i a ≠ F j a ∧ u = some (F i a, F j a) := by
  obtain ⟨l1, a, l2, e1, e2, _⟩ := List.findSome?_eq_some_iff.mp e
  have ha : a < many := List.mem_range.mp (by rw [e1]; simp)
  cases u with
  | none =>
    have := unlike_blank e2
    simp at this
  | some p =>
    obtain ⟨x, y⟩ := p
    obtain ⟨m1, m2, ne⟩ := unlike_two e2
    obtain ⟨i, hi, ei⟩ := List.mem_map.mp m1
    obtain ⟨j, hj, ej⟩ := List.mem_map.mp m2
    cases ei; cases ej
    exact ⟨a, ha, i, List.mem_range.mp hi, j, List.mem_range.mp hj, ne, rfl⟩
theorem marked_of {h many : Nat} {F : Nat → Nat → α} (e : ∀ a < many, ∀ i < h, ∀ j < h, F i a = F j a) : marked h many F = none := by
  cases q : marked h many F with
  | none => rfl
  | some u =>
    obtain ⟨a, ha, i, hi, j, hj, ne, _⟩ := marked_some q
    exact absurd (e a ha i hi j hj) ne
theorem run_le {num tk : Nat → α} {h many : Nat} : ∀ {cs : List Cell} {s : SS α} {d d' : Nat} {u : Option (α × α)}, run num tk h many cs s d = some (d', u) → d ≤ d' ∧ d' ≤ d + cs.length
  | [], s, d, d', u, e => by
    cases e
    exact ⟨Nat.le_refl _, Nat.le_refl _⟩
  | c :: cs, s, d, d', u, e => by
    simp only [run] at e
    split at e
    · cases e
    · cases e
      exact ⟨Nat.le_refl _, Nat.le_add_right _ _⟩
    · obtain ⟨a, b⟩ := run_le e
      rw [List.length_cons]
      omega
end
def Rel (f : Th → Nat) (s : SS Th) (m : SS Nat) : Prop := (∀ i a, m.F i a = f (s.F i a)) ∧ (∀ i, m.S i = (s.S i).map f) ∧ m.t = s.t
variable {f : Th → Nat} {inp : Nat → Nat} {h many : Nat}
def Apart (f : Th → Nat) (u : Option (Th × Th)) : Prop := ∀ x y, u = some (x, y) → f x ≠ f y
theorem step_sim (hn : ∀ n, f (.num n) = n) (ht : ∀ k, f (.take k) = inp k) {s : SS Th} {m : SS Nat} (r : Rel f s m) (c : Cell) :
    match step .num .take h many s c with
    | .stop => step id inp h many m c = .stop
    | .go s' => ∃ m', step id inp h many m c = .go m' ∧ Rel f s' m'
    | .bad u => ((∃ u', step id inp h many m c = .bad u') ∨ ∃ m', step id inp h many m c = .go m') ∧ (Apart f u → ∃ u', step id inp h many m c = .bad u') := by
  obtain ⟨r1, r2, r3⟩ := r
  cases c with
  | set i b n =>
    refine ⟨_, rfl, ⟨fun j a => ?_, r2, r3⟩⟩
    show (if j = i ∧ a = b then n else m.F j a) = f (if j = i ∧ a = b then .num n else s.F j a)
    split
    · exact (hn n).symm
    · exact r1 j a
  | get i b c z =>
    refine ⟨_, rfl, ⟨fun j a => ?_, r2, r3⟩⟩
    show (if j = i ∧ a = b then m.F i (8 + z) else m.F j a) = f (if j = i ∧ a = b then s.F i (8 + z) else s.F j a)
    split
    · exact r1 _ _
    · exact r1 j a
  | put i b c z =>
    refine ⟨_, rfl, ⟨fun j a => ?_, r2, r3⟩⟩
    show (if j = i ∧ a = 8 + z then m.F i b else m.F j a) = f (if j = i ∧ a = 8 + z then s.F i b else s.F j a)
    split
    · exact r1 _ _
    · exact r1 j a
  | offer i b =>
    refine ⟨_, rfl, ⟨r1, fun j => ?_, r3⟩⟩
    show (if j = i then some (m.F i b) else m.S j) = (if j = i then some (s.F i b) else s.S j).map f
    split
    · rw [r1]; rfl
    · exact r2 j
  | take b w =>
    refine ⟨_, rfl, ⟨fun j a => ?_, r2, by show m.t + 1 = s.t + 1; rw [r3]⟩⟩
    show (if j < w ∧ a = b then inp m.t else m.F j a) = f (if j < w ∧ a = b then .take s.t else s.F j a)
    split
    · rw [ht, r3]
    · exact r1 j a
  | sho p w =>
    simp only [step]
    cases e : unlike ((List.range w).map s.S) with
    | none =>
      obtain ⟨a, b⟩ := unlike_none e
      have e2 : unlike ((List.range w).map m.S) = none := by
        refine unlike_of (fun o ho => ?_) (fun o ho p hp => ?_)
        · obtain ⟨i, hi, rfl⟩ := List.mem_map.mp ho
          rw [r2]
          have := a _ (List.mem_map.mpr ⟨i, hi, rfl⟩)
          simpa using this
        · obtain ⟨i, hi, rfl⟩ := List.mem_map.mp ho
          obtain ⟨j, hj, rfl⟩ := List.mem_map.mp hp
          rw [r2, r2, b _ (List.mem_map.mpr ⟨i, hi, rfl⟩) _ (List.mem_map.mpr ⟨j, hj, rfl⟩)]
      rw [e2]
      exact ⟨_, rfl, r1, fun _ => rfl, r3⟩
    | some u =>
      simp only
      constructor
      · cases unlike ((List.range w).map m.S) with
        | none => exact .inr ⟨_, rfl⟩
        | some u' => exact .inl ⟨_, rfl⟩
      · intro ap
        cases e2 : unlike ((List.range w).map m.S) with
        | some u' => exact ⟨_, rfl⟩
        | none =>
          exfalso
          obtain ⟨a, b⟩ := unlike_none e2
          cases u with
          | none =>
            obtain ⟨i, hi, ei⟩ := List.mem_map.mp (unlike_blank e)
            have := a _ (List.mem_map.mpr ⟨i, hi, rfl⟩)
            rw [r2, ei] at this
            cases this
          | some p =>
            obtain ⟨x, y⟩ := p
            obtain ⟨m1, m2, ne⟩ := unlike_two e
            obtain ⟨i, hi, ei⟩ := List.mem_map.mp m1
            obtain ⟨j, hj, ej⟩ := List.mem_map.mp m2
            have q := b _ (List.mem_map.mpr ⟨i, hi, rfl⟩) _ (List.mem_map.mpr ⟨j, hj, rfl⟩)
            rw [r2, r2, ei, ej] at q
            exact ap x y rfl (Option.some.inj q)
  | mark =>
    simp only [step]
    cases e : marked h many s.F with
    | none =>
      have a := marked_none e
      have e2 : marked h many m.F = none := marked_of fun x hx i hi j hj => by rw [r1, r1, a x hx i hi j hj]
      rw [e2]
      exact ⟨_, rfl, r1, fun _ => rfl, r3⟩
    | some u =>
      simp only
      constructor
      · cases marked h many m.F with
        | none => exact .inr ⟨_, rfl⟩
        | some u' => exact .inl ⟨_, rfl⟩
      · intro ap
        cases e2 : marked h many m.F with
        | some u' => exact ⟨_, rfl⟩
        | none =>
          exfalso
          obtain ⟨x, hx, i, hi, j, hj, ne, rfl⟩ := marked_some e
          have q := marked_none e2 x hx i hi j hj
          rw [r1, r1] at q
          exact ap _ _ rfl q
  | stop => exact rfl
theorem run_sim (hn : ∀ n, f (.num n) = n) (ht : ∀ k, f (.take k) = inp k) : ∀ (cs : List Cell) (s : SS Th) (m : SS Nat) (d : Nat), Rel f s m →
    match run .num .take h many cs s d with
    | none => run id inp h many cs m d = none
    | some (e, u) => (∀ e' u', run id inp h many cs m d = some (e', u') → e ≤ e') ∧ (Apart f u → ∃ u', run id inp h many cs m d = some (e, u'))
  | [], s, m, d, r => by
    refine ⟨fun e' u' q => ?_, fun _ => ⟨_, rfl⟩⟩
    cases q
    exact Nat.le_refl _
  | c :: cs, s, m, d, r => by
    have st := step_sim (h := h) (many := many) hn ht r c
    simp only [run]
    cases e : step .num .take h many s c with
    | stop =>
      rw [e] at st
      simp only at st ⊢
      rw [st]
    | go s' =>
      rw [e] at st
      obtain ⟨m', e2, r2⟩ := st
      simp only
      rw [e2]
      exact run_sim hn ht cs s' m' (d + 1) r2
    | bad u =>
      rw [e] at st
      obtain ⟨st1, st2⟩ := st
      simp only
      refine ⟨fun e' u' q => ?_, fun ap => ?_⟩
      · rcases st1 with ⟨u2, e2⟩ | ⟨m', e2⟩
        · rw [e2] at q
          cases q
          exact Nat.le_refl _
        · rw [e2] at q
          exact Nat.le_trans (Nat.le_succ d) (run_le q).1
      · obtain ⟨u', e2⟩ := st2 ap
        rw [e2]
        exact ⟨_, rfl⟩
def ThOk (size t : Nat) : Th → Prop
  | .num n => n < size
  | .take k => k < t
def SSOk (size : Nat) (s : SS Th) (h many : Nat) : Prop := (∀ i < h, ∀ a < many, ThOk size s.t (s.F i a)) ∧ ∀ i x, s.S i = some x → ThOk size s.t x
def takes : List Cell → Nat
  | [] => 0
  | .take _ _ :: cs => takes cs + 1
  | _ :: cs => takes cs
theorem ThOk.mono {size t t' : Nat} {x : Th} (h : ThOk size t x) (le : t ≤ t') : ThOk size t' x := by
  cases x with
  | num n => exact h
  | take k => exact Nat.lt_of_lt_of_le h le
theorem run_ok {size bank : Nat} (hb : many = 8 + bank) : ∀ (cs : List Cell) (s : SS Th) (d e : Nat) (x y : Th), (∀ c ∈ cs, c.Ok h size bank) → SSOk size s h many → run .num .take h many cs s d = some (e, some (x, y)) →
    x ≠ y ∧ ThOk size (s.t + takes cs) x ∧ ThOk size (s.t + takes cs) y
  | [], s, d, e, x, y, ok, so, q => by cases q
  | c :: cs, s, d, e, x, y, ok, so, q => by
    have okc := ok c (List.mem_cons_self ..)
    have okr : ∀ c ∈ cs, c.Ok h size bank := fun z hz => ok z (List.mem_cons_of_mem _ hz)
    obtain ⟨s1, s2⟩ := so
    cases c with
    | set i b n =>
      obtain ⟨o1, o2, o3⟩ := okc
      refine run_ok hb cs { s with F := setF s.F i b (.num n) } (d + 1) e x y okr ⟨fun j hj a ha => ?_, s2⟩ q
      show ThOk size s.t (if j = i ∧ a = b then .num n else s.F j a)
      split
      · exact o3
      · exact s1 j hj a ha
    | get i b c z =>
      obtain ⟨o1, o2, o3, o4⟩ := okc
      refine run_ok hb cs { s with F := setF s.F i b (s.F i (8 + z)) } (d + 1) e x y okr ⟨fun j hj a ha => ?_, s2⟩ q
      show ThOk size s.t (if j = i ∧ a = b then s.F i (8 + z) else s.F j a)
      split
      · exact s1 _ o1 _ (by omega)
      · exact s1 j hj a ha
    | put i b c z =>
      obtain ⟨o1, o2, o3, o4⟩ := okc
      refine run_ok hb cs { s with F := setF s.F i (8 + z) (s.F i b) } (d + 1) e x y okr ⟨fun j hj a ha => ?_, s2⟩ q
      show ThOk size s.t (if j = i ∧ a = 8 + z then s.F i b else s.F j a)
      split
      · exact s1 _ o1 _ (by omega)
      · exact s1 j hj a ha
    | offer i b =>
      obtain ⟨o1, o2⟩ := okc
      refine run_ok hb cs { s with S := setS s.S i (some (s.F i b)) } (d + 1) e x y okr ⟨s1, fun j x hx => ?_⟩ q
      have hx' : (if j = i then some (s.F i b) else s.S j) = some x := hx
      split at hx'
      · cases hx'
        exact s1 _ o1 _ (by omega)
      · exact s2 _ _ hx'
    | take b w =>
      obtain ⟨o1, o2, o3⟩ := okc
      have := run_ok hb cs { s with F := fun i a => if i < w ∧ a = b then .take s.t else s.F i a, t := s.t + 1 } (d + 1) e x y okr ⟨fun j hj a ha => ?_, fun j x hx => (s2 j x hx).mono (Nat.le_succ _)⟩ q
      · simp only [takes]
        have e1 : s.t + (takes cs + 1) = s.t + 1 + takes cs := by omega
        rw [e1]
        exact this
      · show ThOk size (s.t + 1) (if j < w ∧ a = b then .take s.t else s.F j a)
        split
        · exact Nat.lt_succ_self _
        · exact (s1 j hj a ha).mono (Nat.le_succ _)
    | sho p w =>
      obtain ⟨o1, o2, o3⟩ := okc
      simp only [run, step] at q
      cases e2 : unlike ((List.range w).map s.S) with
      | none =>
        rw [e2] at q
        exact run_ok hb cs { s with S := fun _ => none } (d + 1) e x y okr ⟨s1, fun j x hx => by cases hx⟩ q
      | some u =>
        rw [e2] at q
        cases q
        obtain ⟨m1, m2, ne⟩ := unlike_two e2
        obtain ⟨i, hi, ei⟩ := List.mem_map.mp m1
        obtain ⟨j, hj, ej⟩ := List.mem_map.mp m2
        exact ⟨ne, (s2 _ _ ei).mono (Nat.le_add_right _ _), (s2 _ _ ej).mono (Nat.le_add_right _ _)⟩
    | mark =>
      simp only [run, step] at q
      cases e2 : marked h many s.F with
      | none =>
        rw [e2] at q
        exact run_ok hb cs { s with S := fun _ => none } (d + 1) e x y okr ⟨s1, fun j x hx => by cases hx⟩ q
      | some u =>
        rw [e2] at q
        cases q
        obtain ⟨a, ha, i, hi, j, hj, ne, e3⟩ := marked_some e2
        cases e3
        exact ⟨ne, (s1 _ hi _ ha).mono (Nat.le_add_right _ _), (s1 _ hj _ ha).mono (Nat.le_add_right _ _)⟩
    | stop => cases q
end Hw
namespace Hw
open PySem PySem.Spec PyProof.Rows L2
section
variable {X : Cx} {K : PySem.W.Frag}
theorem pe_fldK {e : Expr} {f : Str} {pos : Pos} {ta : TE} (h : X.K = K) (he : PE X e ta) (hb : attributeBase e f X.env (eval e X.env) = eval e X.env) : PE X (.Attribute e f pos) (tFld K ta f) := h ▸ pe_fld he hb
theorem call_tupleK (h : X.K = K) : CallR X (.type "tuple") (fun xs H Q => ∃ p ys, xs = [.ref p] ∧ ((SqL K H p ys ∧ ∀ l, H l = none → Q (.ref l) (upd H l (.tup ys))) ∨ SqT K H p ys ∧ Q (.ref p) H)) := h ▸ call_tuple_of
theorem call_listK (h : X.K = K) : CallR X (.type "list") (fun xs H Q => ∃ p ys, xs = [.ref p] ∧ (SqL K H p ys ∨ SqT K H p ys) ∧ ∀ l, H l = none → Q (.ref l) (upd H l (.lst ys))) := h ▸ call_list_of
theorem op_eqDK (h : X.K = K) (hu : X.A.units + 64 < cLine) : OpR X (compareOp .Eq) (rEqD K) := h ▸ op_eqD hu
theorem op_neDK (h : X.K = K) (hu : X.A.units + 64 < cLine) : OpR X (compareOp .NotEq) (rNeD K) := h ▸ op_neD hu
end
theorem ixNn {n j : Nat} (hj : j < n) : ixN n (j : Int) = some j := by
  unfold ixN
  rw [if_pos (by omega), if_pos (by omega)]
  congr 1
theorem eqv_ints : ∀ (l m : List Int), PyData.eqvAll (l.map PyData.int) (m.map PyData.int) = decide (l = m)
  | [], [] => by simp [PyData.eqvAll]
  | [], y :: ys => by simp [PyData.eqvAll]
  | x :: xs, [] => by simp [PyData.eqvAll]
  | x :: xs, y :: ys => by
    have ih := eqv_ints xs ys
    simp only [List.map_cons, PyData.eqvAll, PyData.eqv, ih]
    by_cases h : x = y
    · subst h; simp
    · simp [h]
theorem eqv_list (l m : List Int) : PyData.eqv (.list (l.map PyData.int)) (.list (m.map PyData.int)) = decide (l = m) := by
  simp only [PyData.eqv]; exact eqv_ints l m
theorem lay_ints : ∀ l : List Int, PyData.canLayAll0 (l.map PyData.int) = true
  | [] => by simp [PyData.canLayAll0]
  | x :: xs => by simp [PyData.canLayAll0, PyData.canLay0, lay_ints xs]
theorem depth_ints : ∀ l : List Int, PyData.depthAll (l.map PyData.int) ≤ 0
  | [] => by simp [PyData.depthAll]
  | x :: xs => by
    have := depth_ints xs
    simp only [List.map_cons, PyData.depthAll, PyData.depth]; omega
theorem shaped_ints (l : List Int) : SeqAt.shaped (.list (l.map PyData.int)) = true := by
  have h1 := depth_ints l
  show ((PyData.list (l.map PyData.int)).canLay0 && decide ((PyData.list (l.map PyData.int)).depth ≤ 64)) = true
  rw [Bool.and_eq_true]
  refine ⟨by simp only [PyData.canLay0]; exact lay_ints l, decide_eq_true ?_⟩
  simp only [PyData.depth]; omega
theorem dp_ints {K : PySem.W.Frag} {H : Hp} : ∀ l : List Int, DpAll K H (l.map V.int) (l.map PyData.int)
  | [] => .nil
  | x :: xs => .cons (.int x) (dp_ints xs)
theorem dp_list {K : PySem.W.Frag} {H : Hp} {a : Addr} {l : List Int} (h : H a = some (.lst (l.map V.int))) : Dp K H (.ref a) (.list (l.map PyData.int)) := .lst (SqL.of h) (dp_ints l)
def HO.kd : HO → Nat
  | .lst _ => 0
  | .tup _ => 1
  | .dK _ => 2
  | .dT _ => 3
  | .ins _ _ _ => 4
  | .own _ => 5
  | _ => 6
def Fr (S : List Addr) (ks : List Nat) (H H' : Hp) : Prop := ∀ b x, H b = some x → (b ∉ S ∨ ks.contains (HO.kd x) = false) → H' b = some x
theorem Fr.refl {S : List Addr} {ks : List Nat} (H : Hp) : Fr S ks H H := fun _ _ h _ => h
theorem Fr.trans {S : List Addr} {ks : List Nat} {H H1 H2 : Hp} (a : Fr S ks H H1) (b : Fr S ks H1 H2) : Fr S ks H H2 := fun c x h n => b c x (a c x h n) n
theorem Fr.of {S : List Addr} {ks : List Nat} {H H' : Hp} (s : Same H H') : Fr S ks H H' := fun b x h _ => s b x h
theorem Fr.mono {S S' : List Addr} {ks ks' : List Nat} {H H' : Hp} (f : Fr S ks H H') (hS : ∀ a ∈ S, a ∈ S') (hk : ∀ k ∈ ks, k ∈ ks') : Fr S' ks' H H' := fun b x h n => f b x h (by
  rcases n with n | n
  · exact .inl fun m => n (hS _ m)
  · refine .inr (Bool.eq_false_iff.mpr fun z => ?_)
    have z2 := hk _ (List.contains_iff_mem.mp z)
    rw [List.contains_iff_mem.mpr z2] at n
    cases n)
theorem Fr.upd {S : List Addr} {ks : List Nat} {H : Hp} {p : Addr} {o x : HO} (hp : H p = some o) (hS : p ∈ S) (hk : HO.kd o ∈ ks) : Fr S ks H (upd H p x) := fun b y h n => by
  by_cases e : b = p
  · subst e
    rw [hp] at h
    cases h
    rcases n with n | n
    · exact absurd hS n
    · rw [List.contains_iff_mem.mpr hk] at n
      cases n
  · rw [upd_ne e]; exact h
theorem Fr.same {S : List Addr} {ks : List Nat} {H0 H H' : Hp} (f : Fr S ks H H') (s : Same H0 H) (n : ∀ a ∈ S, H0 a = none) : Same H0 H' := fun b x h => f b x (s b x h) (.inl fun m => by
  rw [n b m] at h
  cases h)
theorem Fr.k {S : List Addr} {ks : List Nat} {H H' : Hp} {b : Addr} {x : HO} (f : Fr S ks H H') (h : H b = some x) (n : ks.contains (HO.kd x) = false) : H' b = some x := f b x h (.inr n)
theorem Fr.n {S : List Addr} {ks : List Nat} {H H' : Hp} {b : Addr} {x : HO} (f : Fr S ks H H') (h : H b = some x) (n : b ∉ S) : H' b = some x := f b x h (.inl n)
theorem new_kind {H : Hp} {a b : Addr} {x y : HO} (h1 : H a = some x) (h2 : H b = some y) (n : HO.kd x ≠ HO.kd y) : a ≠ b := fun e => by
  subst e
  rw [h1] at h2
  cases h2
  exact n rfl
end Hw
namespace Hw
open PySem PySem.Spec PyProof.Rows L2
variable {P : Program} {w : World} {K : PySem.W.Frag} {mg : Str → Option Value} {base : Heap}
theorem big_line : 100000 ≤ sizeLine := by rw [sizeLine_eq]; decide
def thKey : Th → Nat → List Key
  | .num n, _ => [Sum.inr "number", Sum.inl (n : Int)]
  | .take _, i => [Sum.inr "letter", Sum.inl (i : Int)]
def kvFrom : Nat → List Th → List (List Key × V)
  | _, [] => []
  | i, x :: xs => (thKey x i, nV i) :: kvFrom (i + 1) xs
theorem kv_snoc : ∀ (i : Nat) (tab : List Th) (x : Th), kvFrom i (tab ++ [x]) = kvFrom i tab ++ [(thKey x (i + tab.length), nV (i + tab.length))]
  | i, [], x => rfl
  | i, y :: ys, x => by
    have := kv_snoc (i + 1) ys x
    simp only [List.cons_append, kvFrom, List.length_cons, this]
    rw [show i + 1 + ys.length = i + (ys.length + 1) by omega]
theorem kv_len : ∀ (i : Nat) (tab : List Th), (kvFrom i tab).length = tab.length
  | i, [] => rfl
  | i, y :: ys => by simp only [kvFrom, List.length_cons, kv_len (i + 1) ys]
theorem kv_num {n : Nat} : ∀ (i : Nat) (tab : List Th), .num n ∉ tab → valV (kvFrom i tab) (thKey (.num n) 0) = none
  | i, [], _ => rfl
  | i, y :: ys, h => by
    simp only [kvFrom]
    rw [valV_neg, kv_num (i + 1) ys (fun m => h (List.mem_cons_of_mem _ m))]
    intro e
    cases y with
    | num m =>
      have e2 : (m : Int) = n := by simpa [thKey] using e
      have e3 : m = n := by omega
      exact h (by rw [e3]; exact List.mem_cons_self ..)
    | take k => simp [thKey] at e; exact absurd e.1 (by decide)
theorem kv_num_at {n : Nat} : ∀ (i : Nat) (tab : List Th) (s : Nat), tab.Nodup → tab[s]? = some (.num n) → valV (kvFrom i tab) (thKey (.num n) 0) = some (nV (i + s))
  | i, [], s, _, h => by simp at h
  | i, y :: ys, s, nd, h => by
    simp only [kvFrom]
    cases s with
    | zero =>
      simp at h
      subst h
      exact (valV_pos (p := (thKey (.num n) i, nV i)) rfl)
    | succ s =>
      have h2 : ys[s]? = some (.num n) := by simpa using h
      have hn := List.nodup_cons.mp nd
      rw [valV_neg, kv_num_at (i + 1) ys s hn.2 h2]
      · congr 2; omega
      · intro e
        cases y with
        | num m =>
          have e2 : (m : Int) = n := by simpa [thKey] using e
          have e3 : m = n := by omega
          subst e3
          exact hn.1 (List.mem_of_getElem? h2)
        | take k => simp [thKey] at e; exact absurd e.1 (by decide)
theorem kv_let {k m : Nat} : ∀ (i : Nat) (tab : List Th), i + tab.length ≤ m → valV (kvFrom i tab) (thKey (.take k) m) = none
  | i, [], _ => rfl
  | i, y :: ys, h => by
    simp only [kvFrom]
    rw [List.length_cons] at h
    rw [valV_neg, kv_let (i + 1) ys (by omega)]
    intro e
    cases y with
    | num m => simp [thKey] at e; exact absurd e.1 (by decide)
    | take k =>
      have e2 : (i : Int) = m := by simpa [thKey] using e
      omega
abbrev CSy (K : PySem.W.Frag) : Addr := He.ga K "Symbols"
structure SymAt (K : PySem.W.Frag) (H : Hp) (sy dx fo nu : Addr) (size : Nat) (tab : List Th) (bud : Nat) : Prop where
  ob : H sy = some (.ins (CSy K) dx [("size", nV size), ("found", .ref fo), ("numbers", .ref nu)])
  fo : H fo = some (.dT (kvFrom 0 tab))
  nu : ∃ kvs, H nu = some (.dK kvs) ∧ kvs.length ≤ bud
  bd : tab.length ≤ bud
  nd : tab.Nodup
def Ext (tab tab' : List Th) : Prop := ∃ l, tab' = tab ++ l
theorem Ext.at {tab tab' : List Th} (e : Ext tab tab') {s : Nat} {x : Th} (h : tab[s]? = some x) : tab'[s]? = some x := by
  obtain ⟨l, rfl⟩ := e
  rw [List.getElem?_append_left (List.getElem?_eq_some_iff.mp h).1]; exact h
theorem Ext.trans {a b c : List Th} (h : Ext a b) (g : Ext b c) : Ext a c := by
  obtain ⟨l, rfl⟩ := h
  obtain ⟨m, rfl⟩ := g
  exact ⟨l ++ m, by rw [List.append_assoc]⟩
abbrev s_Symbols___init__ : Stmt := inClass (top 47) 0
abbrev N_Symbols___init__ : List Str := ["self", "size"]
theorem sc_Symbols___init__ : FnScope N_Symbols___init__ ["self", "size"] (defScope s_Symbols___init__) := ⟨rfl, rfl, rfl, by decide +kernel, rfl, by decide +kernel, by decide +kernel⟩
def sp_Symbols_init (K : PySem.W.Frag) : Sp := fun vs H Q _ => ∃ (a dx : Addr) (v : V), vs = [.ref a, v] ∧ H a = some (.ins (CSy K) dx []) ∧
  ∀ fo nu H', H fo = none → H nu = none → H' a = some (.ins (CSy K) dx [("size", v), ("found", .ref fo), ("numbers", .ref nu)]) → H' fo = some (.dT []) → H' nu = some (.dK []) → Fr [a] [4] H H' → Q .non H'
theorem C_Symbols (T : Txt K mg) : C8.Mak P w K mg base 1 "Symbols" (CSy K) (sp_Symbols_init K) [] := by
  refine mak (N := N_Symbols___init__) (ps := ["self", "size"]) T.mg_Symbols T.i_Symbols (fun _ _ _ _ _ _ us hl => match us, hl with | [_, _], _ => rfl) sc_Symbols___init__ (fun vs H Q E h => ?_) (fun f cdv A outer s H vs Q E hr h => ?_)
  · obtain ⟨a, dx, v, rfl, _⟩ := h
    rfl
  · obtain ⟨a, dx, v, rfl, ha, k⟩ := h
    refine ⟨_, (pss_cons (ps_fld (pv 0) (pv 1) rfl)
    (pss_cons (ps_fld (pv 0) pe_dnewT rfl)
    (pss_one (ps_fld (pv 0) pe_dnewK rfl)))), ?_⟩
    iterate 3 first | refine ⟨_, rfl, ?_⟩ | refine ⟨_, _, _, _, rfl, (by repeat (first | assumption | exact upd_same .. | refine u1 (by assumption) ?_ | refine um (by assumption) ?_ | refine sa (by assumption) ?_)), T.cl_Symbols, T.no_Symbols_size, of_decide_eq_true rfl, ?_⟩
    have f1 : Fr [a] [4] H (upd H a (HO.ins (CSy K) dx (putF "size" v []))) := .upd ha (by simp) (by simp [HO.kd])
    intro fo hfo
    iterate 2 first | refine ⟨_, rfl, ?_⟩ | refine ⟨_, _, _, _, rfl, (by repeat (first | assumption | exact upd_same .. | refine u1 (by assumption) ?_ | refine um (by assumption) ?_ | refine sa (by assumption) ?_)), T.cl_Symbols, T.no_Symbols_found, of_decide_eq_true rfl, ?_⟩
    have f2 := f1.trans ((Fr.of (same_upd (o := .dT []) hfo)).trans (.upd (x := HO.ins (CSy K) dx (putF "found" (V.ref fo) (putF "size" v []))) (u1 hfo upd_same) (by simp) (by simp [HO.kd])))
    intro nu hnu
    have hfo2 : fo ≠ a := fun z => by rw [z, upd_same] at hfo; cases hfo
    have hnu2 : nu ≠ a := fun z => by rw [z, upd_same] at hnu; cases hnu
    have hnu3 : nu ≠ fo := fun z => by rw [z, upd_ne hfo2, upd_same] at hnu; cases hnu
    iterate 2 first | refine ⟨_, rfl, ?_⟩ | refine ⟨_, _, _, _, rfl, (by repeat (first | assumption | exact upd_same .. | refine u1 (by assumption) ?_ | refine um (by assumption) ?_ | refine sa (by assumption) ?_)), T.cl_Symbols, T.no_Symbols_numbers, of_decide_eq_true rfl, ?_⟩
    refine k fo nu _ ?_ ?_ upd_same ?_ ?_ ?_
    · rw [upd_ne hfo2] at hfo; exact hfo
    · rw [upd_ne hnu2, upd_ne hnu3, upd_ne hnu2] at hnu; exact hnu
    · rw [upd_ne hfo2, upd_ne hnu3.symm, upd_ne hfo2, upd_same]
    · rw [upd_ne hnu2, upd_same]
    · exact f2.trans ((Fr.of (same_upd hnu)).trans (.upd (u1 hnu upd_same) (by simp) (by simp [HO.kd])))
abbrev s_Symbols_made : Stmt := inClass (top 47) 1
abbrev N_Symbols_made : List Str := ["self", "how"]
theorem sc_Symbols_made : FnScope N_Symbols_made ["self", "how"] (defScope s_Symbols_made) := ⟨rfl, rfl, rfl, by decide +kernel, rfl, by decide +kernel, by decide +kernel⟩
def sp_made (K : PySem.W.Frag) : Sp := fun vs H Q _ => ∃ (sy dx q fo : Addr) (v1 v3 : V) (kvs : List (List Key × V)) (key : List Key), vs = [.ref sy, .ref q] ∧
  H sy = some (.ins (CSy K) dx [("size", v1), ("found", .ref fo), ("numbers", v3)]) ∧ H fo = some (.dT kvs) ∧ H q = some (.tup (key.map kV)) ∧ kvs.length < sizeLine ∧
  (∀ v, valV kvs key = some v → Q v H) ∧ (valV kvs key = none → Q (nV kvs.length) (upd H fo (.dT (kvs ++ [(key, nV kvs.length)]))))
theorem C_made (T : Txt K mg) : C8.Met P w K mg base 1 (CSy K) "made" (sp_made K) [] := by
  refine met (N := N_Symbols_made) (ps := ["self", "how"]) T.cl_Symbols T.m_Symbols_made (fun _ _ _ _ _ _ us hl => match us, hl with | [_, _], _ => rfl) sc_Symbols_made (fun vs H Q E h => ?_) (fun f cdv A outer s H vs Q E hr h => ?_)
  · obtain ⟨sy, dx, q, fo, v1, v3, kvs, key, rfl, _⟩ := h
    rfl
  · obtain ⟨sy, dx, q, fo, v1, v3, kvs, key, rfl, hs, hf, hq, hl, k1, k2⟩ := h
    have hu := hu_of hr
    refine ⟨_, (pss_cons (ps_if (pt_cmp (pc_dnotin hu (pv 1) (pe_fldK (K := K) rfl (pv 0) rfl)) (by with_unfolding_all rfl)) (pss_one (ps_dput hu (pe_fldK (K := K) rfl (pv 0) rfl) (pv 1) (pe_callB call_len_dT (by rfl) T.b_len PySem.boot_len (pa_cons (pe_fldK (K := K) rfl (pv 0) rfl) pa_nil)) rfl)) pss_nil)
    (pss_one (ps_ret (pe_dget hu (pe_fldK (K := K) rfl (pv 0) rfl) (pv 1) (fun _ _ => rfl))))), ?_⟩
    iterate 3 first | refine ⟨_, rfl, ?_⟩ | refine ⟨_, _, _, _, _, rfl, (by repeat (first | assumption | exact upd_same .. | refine u1 (by assumption) ?_ | refine um (by assumption) ?_ | refine sa (by assumption) ?_)), T.cl_Symbols, T.no_Symbols_found, by rfl, ?_⟩
    refine ⟨_, _, rfl, DGet.t hf hq, _, rfl, ?_⟩
    cases e : valV kvs key with
    | some v =>
      refine iteF ?_
      iterate 3 first | refine ⟨_, rfl, ?_⟩ | refine ⟨_, _, _, _, _, rfl, (by repeat (first | assumption | exact upd_same .. | refine u1 (by assumption) ?_ | refine um (by assumption) ?_ | refine sa (by assumption) ?_)), T.cl_Symbols, T.no_Symbols_found, by rfl, ?_⟩
      refine ⟨_, _, rfl, e ▸ DGet.t hf hq, ?_⟩
      exact k1 v e
    | none =>
      refine iteT ?_
      iterate 2 first | refine ⟨_, rfl, ?_⟩ | refine ⟨_, _, _, _, _, rfl, (by repeat (first | assumption | exact upd_same .. | refine u1 (by assumption) ?_ | refine um (by assumption) ?_ | refine sa (by assumption) ?_)), T.cl_Symbols, T.no_Symbols_found, by rfl, ?_⟩
      refine ⟨_, _, rfl, hf, ?_⟩
      iterate 3 first | refine ⟨_, rfl, ?_⟩ | refine ⟨_, _, _, _, _, rfl, (by repeat (first | assumption | exact upd_same .. | refine u1 (by assumption) ?_ | refine um (by assumption) ?_ | refine sa (by assumption) ?_)), T.cl_Symbols, T.no_Symbols_found, by rfl, ?_⟩
      refine ⟨_, _, rfl, DPut.t hf hq hl, ?_⟩
      rw [putK_new _ e]
      have hs2 : upd H fo (.dT (kvs ++ [(key, nV kvs.length)])) sy = _ := (upd_ne (new_kind hs hf (by simp [HO.kd]))).trans hs
      have hq2 : upd H fo (.dT (kvs ++ [(key, nV kvs.length)])) q = _ := (upd_ne (new_kind hq hf (by simp [HO.kd]))).trans hq
      iterate 3 first | refine ⟨_, rfl, ?_⟩ | refine ⟨_, _, _, _, _, rfl, (by repeat (first | assumption | exact upd_same .. | refine u1 (by assumption) ?_ | refine um (by assumption) ?_ | refine sa (by assumption) ?_)), T.cl_Symbols, T.no_Symbols_found, by rfl, ?_⟩
      refine ⟨_, _, rfl, ?_, k2 e⟩
      have q1 := valV_snoc key key (nV kvs.length) kvs e
      rw [if_pos rfl] at q1
      exact q1 ▸ DGet.t upd_same hq2
theorem putK_le {κ : Type} [DecidableEq κ] (kvs : List (κ × V)) (k : κ) (v : V) : (putK kvs k v).length ≤ kvs.length + 1 := by
  unfold putK
  split <;> simp
abbrev s_Symbols_plain : Stmt := inClass (top 47) 2
abbrev N_Symbols_plain : List Str := ["self", "number", "symbol"]
theorem sc_Symbols_plain : FnScope N_Symbols_plain ["self", "number"] (defScope s_Symbols_plain) := ⟨rfl, rfl, rfl, by decide +kernel, rfl, by decide +kernel, by decide +kernel⟩
def sp_plain (K : PySem.W.Frag) : Sp := fun vs H Q _ => ∃ (sy dx fo nu : Addr) (size : Nat) (tab : List Th) (bud n : Nat), vs = [.ref sy, nV n] ∧ SymAt K H sy dx fo nu size tab bud ∧ bud < 50000 ∧
  ∀ s tab' H', Ext tab tab' → (∀ k, Th.take k ∈ tab' → Th.take k ∈ tab) → tab'[s]? = some (.num n) → SymAt K H' sy dx fo nu size tab' (bud + 1) → Fr [fo, nu] [3, 2] H H' → Q (nV s) H'
theorem C_plain (T : Txt K mg) : C8.Met P w K mg base 2 (CSy K) "plain" (sp_plain K) [] := by
  have C_made := C_made (P := P) (w := w) (base := base) T
  refine met (N := N_Symbols_plain) (ps := ["self", "number"]) T.cl_Symbols T.m_Symbols_plain (fun _ _ _ _ _ _ us hl => match us, hl with | [_, _], _ => rfl) sc_Symbols_plain (fun vs H Q E h => ?_) (fun f cdv A outer s H vs Q E hr h => ?_)
  · obtain ⟨sy, dx, fo, nu, size, tab, bud, n, rfl, _⟩ := h
    rfl
  · obtain ⟨sy, dx, fo, nu, size, tab, bud, n, rfl, sa, hb, k⟩ := h
    obtain ⟨hs, hf, ⟨kvs, hn, hl⟩, bd, nd⟩ := sa
    have hu := hu_of hr
    have bl := big_line
    refine ⟨_, (pss_cons (ps_set (i := 2) sc_Symbols_plain.nd rfl (by first | exact .inl rfl | exact .inr rfl) (C8.pe_mt C_made hr (by decide) (pv 0) (pa_cons (pe_tup (pa_cons pe_str (pa_cons (pv 1) pa_nil))) pa_nil)))
    (pss_cons (ps_dput hu (pe_fldK (K := K) rfl (pv 0) rfl) (pv 2) (pv 1) rfl)
    (pss_one (ps_ret (pv 2))))), ?_⟩
    iterate 4 first | refine ⟨_, rfl, ?_⟩ | refine ⟨_, _, _, rfl, (by repeat (first | assumption | exact upd_same .. | refine u1 (by assumption) ?_ | refine um (by assumption) ?_ | refine sa (by assumption) ?_)), by rfl, ?_⟩ | refine ⟨le_line (of_decide_eq_true rfl), fun t ht => ?_⟩
    refine ⟨sy, dx, t, fo, _, _, kvFrom 0 tab, thKey (.num n) 0, rfl, u1 ht hs, u1 ht hf, upd_same, by rw [kv_len]; omega, fun v hv => ?_, fun hv => ?_⟩
    · have hm : Th.num n ∈ tab := Classical.byContradiction fun hm => by rw [kv_num 0 tab hm] at hv; cases hv
      obtain ⟨s, es⟩ := List.mem_iff_getElem?.mp hm
      rw [kv_num_at 0 tab s nd es] at hv
      cases hv
      iterate 4 first | refine ⟨_, rfl, ?_⟩ | refine ⟨_, _, _, _, _, rfl, (by repeat (first | assumption | exact upd_same .. | refine u1 (by assumption) ?_ | refine um (by assumption) ?_ | refine sa (by assumption) ?_)), T.cl_Symbols, T.no_Symbols_numbers, by rfl, ?_⟩
      refine ⟨_, _, rfl, DPut.k (k := Sum.inl ((0 + s : Nat) : Int)) (u1 ht hn) (by omega), ?_⟩
      have f1 : Fr [fo, nu] [3, 2] H (upd (upd H t (.tup [V.str "number", nV n])) nu (.dK (putK kvs (Sum.inl ((0 + s : Nat) : Int)) (nV n)))) := (Fr.of (same_upd ht)).trans (.upd (u1 ht hn) (by simp) (by simp [HO.kd]))
      rw [Nat.zero_add] at f1
      refine ⟨_, rfl, ?_⟩
      rw [Nat.zero_add]
      refine k s tab _ ⟨[], by simp⟩ (fun _ h => h) es ⟨f1.k hs rfl, ?_, ⟨_, upd_same, ?_⟩, by omega, nd⟩ f1
      · exact (upd_ne (new_kind hf hn (by simp [HO.kd]))).trans (u1 ht hf)
      · have := putK_le kvs (Sum.inl ((s : Nat) : Int)) (nV n)
        omega
    · have hm : Th.num n ∉ tab := fun hm => by
        obtain ⟨s, es⟩ := List.mem_iff_getElem?.mp hm
        rw [kv_num_at 0 tab s nd es] at hv
        cases hv
      have e1 : kvFrom 0 tab ++ [(thKey (Th.num n) 0, nV (kvFrom 0 tab).length)] = kvFrom 0 (tab ++ [.num n]) := by rw [kv_snoc, kv_len, Nat.zero_add]; rfl
      rw [e1, kv_len]
      have f1 : Fr [fo, nu] [3, 2] H (upd (upd H t (.tup [V.str "number", nV n])) fo (.dT (kvFrom 0 (tab ++ [.num n])))) := (Fr.of (same_upd ht)).trans (.upd (u1 ht hf) (by simp) (by simp [HO.kd]))
      have hs1 := f1.k hs rfl
      have hn1 : upd (upd H t (.tup [V.str "number", nV n])) fo (.dT (kvFrom 0 (tab ++ [.num n]))) nu = some (.dK kvs) := (upd_ne (new_kind hn hf (by simp [HO.kd]))).trans (u1 ht hn)
      iterate 4 first | refine ⟨_, rfl, ?_⟩ | refine ⟨_, _, _, _, _, rfl, (by repeat (first | assumption | exact upd_same .. | refine u1 (by assumption) ?_ | refine um (by assumption) ?_ | refine sa (by assumption) ?_)), T.cl_Symbols, T.no_Symbols_numbers, by rfl, ?_⟩
      refine ⟨_, _, rfl, DPut.k (k := Sum.inl ((tab.length : Nat) : Int)) hn1 (by omega), ?_⟩
      have f2 := f1.trans (.upd (x := .dK (putK kvs (Sum.inl ((tab.length : Nat) : Int)) (nV n))) hn1 (by simp) (by simp [HO.kd]))
      refine ⟨_, rfl, ?_⟩
      refine k tab.length (tab ++ [.num n]) _ ⟨_, rfl⟩ (fun j h => by simpa using h) (by simp) ⟨f2.k hs rfl, ?_, ⟨_, upd_same, ?_⟩, by simp; omega, ?_⟩ f2
      · exact (upd_ne (new_kind upd_same hn1 (by simp [HO.kd]))).trans upd_same
      · have := putK_le kvs (Sum.inl ((tab.length : Nat) : Int)) (nV n)
        omega
      · exact nd_snoc nd hm
abbrev s_Symbols_letter : Stmt := inClass (top 47) 3
abbrev N_Symbols_letter : List Str := ["self"]
theorem sc_Symbols_letter : FnScope N_Symbols_letter ["self"] (defScope s_Symbols_letter) := ⟨rfl, rfl, rfl, by decide +kernel, rfl, by decide +kernel, by decide +kernel⟩
def sp_letter (K : PySem.W.Frag) : Sp := fun vs H Q _ => ∃ (sy dx fo nu : Addr) (size : Nat) (tab : List Th) (bud k : Nat), vs = [.ref sy] ∧ SymAt K H sy dx fo nu size tab bud ∧ bud < 50000 ∧ .take k ∉ tab ∧
  ∀ H', SymAt K H' sy dx fo nu size (tab ++ [.take k]) (bud + 1) → Fr [fo] [3] H H' → Q (nV tab.length) H'
theorem C_letter (T : Txt K mg) : C8.Met P w K mg base 2 (CSy K) "letter" (sp_letter K) [] := by
  have C_made := C_made (P := P) (w := w) (base := base) T
  refine met (N := N_Symbols_letter) (ps := ["self"]) T.cl_Symbols T.m_Symbols_letter (fun _ _ _ _ _ _ us hl => match us, hl with | [_], _ => rfl) sc_Symbols_letter (fun vs H Q E h => ?_) (fun f cdv A outer s H vs Q E hr h => ?_)
  · obtain ⟨sy, dx, fo, nu, size, tab, bud, n, rfl, _⟩ := h
    rfl
  · obtain ⟨sy, dx, fo, nu, size, tab, bud, n, rfl, sa, hb, hm, k⟩ := h
    obtain ⟨hs, hf, ⟨kvs, hn, hl⟩, bd, nd⟩ := sa
    have hu := hu_of hr
    have bl := big_line
    refine ⟨_, (pss_one (ps_ret (C8.pe_mt C_made hr (by decide) (pv 0) (pa_cons (pe_tup (pa_cons pe_str (pa_cons (pe_callB call_len_dT (by rfl) T.b_len PySem.boot_len (pa_cons (pe_fldK (K := K) rfl (pv 0) rfl) pa_nil)) pa_nil))) pa_nil)))), ?_⟩
    iterate 4 first | refine ⟨_, rfl, ?_⟩ | refine ⟨_, _, _, _, _, rfl, (by repeat (first | assumption | exact upd_same .. | refine u1 (by assumption) ?_ | refine um (by assumption) ?_ | refine sa (by assumption) ?_)), T.cl_Symbols, T.no_Symbols_found, by rfl, ?_⟩ | refine ⟨_, _, _, rfl, (by repeat (first | assumption | exact upd_same .. | refine u1 (by assumption) ?_ | refine um (by assumption) ?_ | refine sa (by assumption) ?_)), by rfl, ?_⟩
    refine ⟨_, _, rfl, hf, ?_⟩
    refine ⟨le_line (of_decide_eq_true rfl), fun t ht => ?_⟩
    refine ⟨sy, dx, t, fo, _, _, kvFrom 0 tab, thKey (.take n) tab.length, rfl, u1 ht hs, u1 ht hf, ?_, by rw [kv_len]; omega, fun v hv => ?_, fun hv => ?_⟩
    · rw [upd_same, kv_len]; rfl
    · rw [kv_let 0 tab (by omega)] at hv
      cases hv
    · have e1 : kvFrom 0 tab ++ [(thKey (Th.take n) tab.length, nV (kvFrom 0 tab).length)] = kvFrom 0 (tab ++ [.take n]) := by rw [kv_snoc, kv_len, Nat.zero_add]
      rw [e1, kv_len]
      have f1 : Fr [fo] [3] H (upd (upd H t (.tup ([V.str "letter", nV (kvFrom 0 tab).length]))) fo (.dT (kvFrom 0 (tab ++ [.take n])))) := (Fr.of (same_upd ht)).trans (.upd (u1 ht hf) (by simp) (by simp [HO.kd]))
      rw [kv_len] at f1
      refine k _ ⟨f1.k hs rfl, upd_same, ⟨kvs, f1.k hn rfl, by omega⟩, by simp; omega, nd_snoc nd hm⟩ f1
end Hw
namespace Hw
open PySem PySem.Spec PyProof.Rows L2
theorem nodup_at {α : Type} : ∀ {l : List α} {i j : Nat} {x : α}, l.Nodup → l[i]? = some x → l[j]? = some x → i = j
  | [], i, j, x, _, h, _ => by simp at h
  | y :: ys, 0, 0, x, _, _, _ => rfl
  | y :: ys, 0, j + 1, x, nd, h, g => by
    have e : y = x := by simpa using h
    have g2 : ys[j]? = some x := by simpa using g
    exact absurd (e ▸ List.mem_of_getElem? g2) (List.nodup_cons.mp nd).1
  | y :: ys, i + 1, 0, x, nd, h, g => by
    have e : y = x := by simpa using g
    have g2 : ys[i]? = some x := by simpa using h
    exact absurd (e ▸ List.mem_of_getElem? g2) (List.nodup_cons.mp nd).1
  | y :: ys, i + 1, j + 1, x, nd, h, g => by
    have h2 : ys[i]? = some x := by simpa using h
    have g2 : ys[j]? = some x := by simpa using g
    rw [nodup_at (List.nodup_cons.mp nd).2 h2 g2]
theorem nV_inj : ∀ {l m : List Nat}, l.map nV = m.map nV → l = m
  | [], [], _ => rfl
  | [], _ :: _, h => by cases h
  | _ :: _, [], h => by cases h
  | y :: ys, z :: zs, h => by
    rw [List.map_cons, List.map_cons] at h
    injection h with p q
    have p2 : (y : Int) = z := V.int.inj p
    rw [nV_inj q, show y = z by omega]
abbrev CW (K : PySem.W.Frag) : Addr := He.ga K "Walk"
def oV : Option Nat → V
  | none => .non
  | some n => nV n
def OAt (tab : List Th) : Option Nat → Option Th → Prop
  | none, none => True
  | some x, some th => tab[x]? = some th
  | _, _ => False
def RowAt (H : Hp) (many : Nat) (tab : List Th) (f : Nat → Th) (r : Addr) : Prop := ∃ ss : List Nat, H r = some (.lst (ss.map nV)) ∧ ss.length = many ∧ ∀ a x, ss[a]? = some x → tab[x]? = some (f a)
structure WalkAt (K : PySem.W.Frag) (H0 H : Hp) (wk dxw sy dxs fo nu sp of : Addr) (rows : List Addr) (size h many : Nat) (s : SS Th) (tab : List Th) (bud : Nat) : Prop where
  ob : H wk = some (.ins (CW K) dxw [("hues", nV h), ("symbols", .ref sy), ("spots", .ref sp), ("offered", .ref of)])
  sya : SymAt K H sy dxs fo nu size tab bud
  spa : H sp = some (.lst (rows.map V.ref))
  nr : rows.length = h
  nd : rows.Nodup
  row : ∀ i r, rows[i]? = some r → RowAt H many tab (s.F i) r
  ofa : ∃ os : List (Option Nat), H of = some (.lst (os.map oV)) ∧ os.length = h ∧ ∀ i o, os[i]? = some o → OAt tab o (s.S i)
  sn : sp ∉ rows
  on : of ∉ rows
  so : of ≠ sp
  tk : ∀ k, Th.take k ∈ tab → k < s.t
  same : Same H0 H
  fr : ∀ a ∈ wk :: fo :: nu :: of :: rows, H0 a = none
theorem OAt.ext {tab tab' : List Th} (e : Ext tab tab') {o : Option Nat} {x : Option Th} (h : OAt tab o x) : OAt tab' o x := by
  cases o with
  | none => cases x with
    | none => exact h
    | some y => exact h
  | some n => cases x with
    | none => exact h
    | some y => exact e.at h
section
variable {K : PySem.W.Frag} {H0 H H1 : Hp} {wk dxw sy dxs fo nu sp of : Addr} {rows : List Addr} {size h many : Nat} {s : SS Th} {tab tab' : List Th} {bud bud' : Nat}
theorem WalkAt.ext (W : WalkAt K H0 H wk dxw sy dxs fo nu sp of rows size h many s tab bud) (S : SymAt K H1 sy dxs fo nu size tab' bud') (e : Ext tab tab') (f : Fr [fo, nu] [3, 2] H H1) (t : Nat) (ht : ∀ k, Th.take k ∈ tab' → k < t) :
    WalkAt K H0 H1 wk dxw sy dxs fo nu sp of rows size h many { s with t := t } tab' bud' where
  ob := f.k W.ob rfl
  sya := S
  spa := f.k W.spa rfl
  nr := W.nr
  nd := W.nd
  row := fun i r hr => let ⟨ss, a, b, c⟩ := W.row i r hr; ⟨ss, f.k a rfl, b, fun x y hx => e.at (c x y hx)⟩
  ofa := let ⟨os, a, b, c⟩ := W.ofa; ⟨os, f.k a rfl, b, fun i o ho => (c i o ho).ext e⟩
  sn := W.sn
  on := W.on
  so := W.so
  tk := ht
  same := f.same W.same fun a ha => W.fr a (by
    rcases List.mem_cons.mp ha with z | z
    · rw [z]; simp
    · rw [List.mem_singleton.mp z]; simp)
  fr := W.fr
theorem SymAt.keep {tab : List Th} (S : SymAt K H sy dxs fo nu size tab bud) (f : ∀ b x, H b = some x → HO.kd x ≠ 0 → H1 b = some x) : SymAt K H1 sy dxs fo nu size tab bud :=
  ⟨f _ _ S.ob (by simp [HO.kd]), f _ _ S.fo (by simp [HO.kd]), let ⟨k, a, b⟩ := S.nu; ⟨k, f _ _ a (by simp [HO.kd]), b⟩, S.bd, S.nd⟩
theorem upd_kd {H : Hp} {p : Addr} {o x : HO} (h : H p = some o) (hk : HO.kd o = 0) : ∀ b y, H b = some y → HO.kd y ≠ 0 → upd H p x b = some y := fun b y hb n => by
  rw [upd_ne (fun e => by rw [e, h] at hb; cases hb; exact n hk)]; exact hb
theorem WalkAt.setRow (W : WalkAt K H0 H wk dxw sy dxs fo nu sp of rows size h many s tab bud) {i b x : Nat} {r : Addr} {ss : List Nat} {th : Th} (hr : rows[i]? = some r) (hs : H r = some (.lst (ss.map nV))) (hx : tab[x]? = some th) :
    WalkAt K H0 (upd H r (.lst ((ss.set b x).map nV))) wk dxw sy dxs fo nu sp of rows size h many { s with F := setF s.F i b th } tab bud := by
  have hm : r ∈ rows := List.mem_of_getElem? hr
  have k1 := upd_kd (x := .lst ((ss.set b x).map nV)) hs rfl
  refine ⟨k1 _ _ W.ob (by simp [HO.kd]), W.sya.keep k1, (upd_ne (fun e => W.sn (by rw [e]; exact hm))).trans W.spa, W.nr, W.nd, fun j q hq => ?_, ?_, W.sn, W.on, W.so, W.tk, ?_, W.fr⟩
  · obtain ⟨tt, t1, t2, t3⟩ := W.row j q hq
    by_cases e : q = r
    · subst e
      have ij : j = i := nodup_at W.nd hq hr
      subst ij
      rw [hs] at t1
      have e3 : ss = tt := nV_inj (by injection t1 with q; injection q)
      subst e3
      refine ⟨ss.set b x, upd_same, by simpa using t2, fun a y hy => ?_⟩
      rw [List.getElem?_set] at hy
      show tab[y]? = some (if j = j ∧ a = b then th else s.F j a)
      split at hy
      · rename_i e4
        split at hy
        · cases hy
          rw [if_pos ⟨rfl, e4.symm⟩]; exact hx
        · cases hy
      · rename_i e4
        rw [if_neg (fun z => e4 z.2.symm)]; exact t3 a y hy
    · refine ⟨tt, (upd_ne e).trans t1, t2, fun a y hy => ?_⟩
      show tab[y]? = some (if j = i ∧ a = b then th else s.F j a)
      have ne : j ≠ i := fun z => e (by subst z; rw [hq] at hr; cases hr; rfl)
      rw [if_neg (fun z => ne z.1)]; exact t3 a y hy
  · obtain ⟨os, o1, o2, o3⟩ := W.ofa
    exact ⟨os, (upd_ne (fun e => W.on (by rw [e]; exact hm))).trans o1, o2, o3⟩
  · exact same_mut W.same (W.fr r (by simp [hm]))
theorem WalkAt.offer (W : WalkAt K H0 H wk dxw sy dxs fo nu sp of rows size h many s tab bud) {i x : Nat} {os : List (Option Nat)} {th : Th} (hs : H of = some (.lst (os.map oV))) (hx : tab[x]? = some th) :
    WalkAt K H0 (upd H of (.lst ((os.set i (some x)).map oV))) wk dxw sy dxs fo nu sp of rows size h many { s with S := setS s.S i (some th) } tab bud := by
  have k1 := upd_kd (x := .lst ((os.set i (some x)).map oV)) hs rfl
  refine ⟨k1 _ _ W.ob (by simp [HO.kd]), W.sya.keep k1, (upd_ne W.so.symm).trans W.spa, W.nr, W.nd, fun j q hq => ?_, ?_, W.sn, W.on, W.so, W.tk, ?_, W.fr⟩
  · obtain ⟨tt, t1, t2, t3⟩ := W.row j q hq
    exact ⟨tt, (upd_ne (fun e => W.on (by rw [← e]; exact List.mem_of_getElem? hq))).trans t1, t2, t3⟩
  · obtain ⟨os', o1, o2, o3⟩ := W.ofa
    rw [hs] at o1
    have inj : ∀ (l m : List (Option Nat)), l.map oV = m.map oV → l = m := by
      intro l
      induction l with
      | nil => intro m hm; cases m with
        | nil => rfl
        | cons => cases hm
      | cons y ys ih => intro m hm; cases m with
        | nil => cases hm
        | cons z zs =>
          rw [List.map_cons, List.map_cons] at hm
          injection hm with p q
          rw [ih zs q]
          cases y with
          | none => cases z with
            | none => rfl
            | some v => cases p
          | some u => cases z with
            | none => cases p
            | some v =>
              have p2 : (u : Int) = v := V.int.inj p
              rw [show u = v by omega]
    have e : os = os' := inj _ _ (by injection o1 with q; injection q)
    subst e
    refine ⟨_, upd_same, by simpa using o2, fun j o ho => ?_⟩
    show OAt tab o (if j = i then some th else s.S j)
    rw [List.getElem?_set] at ho
    split at ho
    · rename_i e4
      split at ho
      · cases ho
        rw [if_pos e4.symm]; exact hx
      · cases ho
    · rename_i e4
      rw [if_neg (fun z => e4 z.symm)]; exact o3 j o ho
  · exact same_mut W.same (W.fr of (by simp))
end
def WalkA (K : PySem.W.Frag) (H0 H : Hp) (wk : Addr) (size h many : Nat) (s : SS Th) (bud : Nat) : Prop := ∃ dxw sy dxs fo nu sp of rows tab, WalkAt K H0 H wk dxw sy dxs fo nu sp of rows size h many s tab bud
theorem WalkAt.bud {K : PySem.W.Frag} {H0 H : Hp} {wk dxw sy dxs fo nu sp of : Addr} {rows : List Addr} {size h many : Nat} {s : SS Th} {tab : List Th} {bud bud' : Nat} (W : WalkAt K H0 H wk dxw sy dxs fo nu sp of rows size h many s tab bud) (le : bud ≤ bud') :
    WalkAt K H0 H wk dxw sy dxs fo nu sp of rows size h many s tab bud' :=
  ⟨W.ob, ⟨W.sya.ob, W.sya.fo, let ⟨k, a, b⟩ := W.sya.nu; ⟨k, a, Nat.le_trans b le⟩, Nat.le_trans W.sya.bd le, W.sya.nd⟩, W.spa, W.nr, W.nd, W.row, W.ofa, W.sn, W.on, W.so, W.tk, W.same, W.fr⟩
variable {P : Program} {w : World} {K : PySem.W.Frag} {mg : Str → Option Value} {base : Heap}
abbrev s_Walk_known : Stmt := inClass (top 48) 3
abbrev N_Walk_known : List Str := ["self", "index", "length", "number"]
theorem sc_Walk_known : FnScope N_Walk_known ["self", "index", "length"] (defScope s_Walk_known) := ⟨rfl, rfl, rfl, by decide +kernel, rfl, by decide +kernel, by decide +kernel⟩
def sp_known : Sp := fun vs H Q _ => ∃ (a b : V), vs = [a, b, .int 1] ∧ Q (.int 0) H
theorem C_known (T : Txt K mg) : C8.Met P w K mg base 1 (CW K) "known" sp_known [] := by
  refine met (N := N_Walk_known) (ps := ["self", "index", "length"]) T.cl_Walk T.m_Walk_known (fun _ _ _ _ _ _ us hl => match us, hl with | [_, _, _], _ => rfl) sc_Walk_known (fun vs H Q E h => ?_) (fun f cdv A outer s H vs Q E hr h => ?_)
  · obtain ⟨a, b, rfl, _⟩ := h
    rfl
  · obtain ⟨a, b, rfl, k⟩ := h
    refine ⟨_, (pss_cons (ps_if (pt_cmpR op_eq (pv 2) pe_int (nomark _)) (pss_one (ps_ret pe_int)) pss_nil)
    (pss_cons ps_never
    (pss_one ps_never))), ?_⟩
    iterate 4 first | refine iteT ?_ | refine ⟨_, rfl, ?_⟩ | refine ⟨rfl, ?_⟩
    exact k
abbrev s_Walk_read : Stmt := inClass (top 48) 4
abbrev N_Walk_read : List Str := ["self", "row", "index", "first", "length", "at"]
theorem sc_Walk_read : FnScope N_Walk_read ["self", "row", "index", "first", "length"] (defScope s_Walk_read) := ⟨rfl, rfl, rfl, by decide +kernel, rfl, by decide +kernel, by decide +kernel⟩
def sp_read (K : PySem.W.Frag) : Sp := fun vs H Q _ => ∃ (wk dx r : Addr) (fs : List (Str × V)) (b v : V) (xs : List V) (j : Nat), vs = [.ref wk, .ref r, b, nV j, .int 1] ∧ H wk = some (.ins (CW K) dx fs) ∧ fs.lookup ("known" : Str) = none ∧ H r = some (.lst xs) ∧ xs[j]? = some v ∧ Q v H
theorem C_read (T : Txt K mg) : C8.Met P w K mg base 2 (CW K) "read" (sp_read K) [] := by
  have C_known := C_known (P := P) (w := w) (base := base) T
  refine met (N := N_Walk_read) (ps := ["self", "row", "index", "first", "length"]) T.cl_Walk T.m_Walk_read (fun _ _ _ _ _ _ us hl => match us, hl with | [_, _, _, _, _], _ => rfl) sc_Walk_read (fun vs H Q E h => ?_) (fun f cdv A outer s H vs Q E hr h => ?_)
  · obtain ⟨wk, dx, r, fs, b, v, xs, j, rfl, _⟩ := h
    rfl
  · obtain ⟨wk, dx, r, fs, b, v, xs, j, rfl, hw, hk, hr', hj, k⟩ := h
    refine ⟨_, (pss_cons (ps_set (i := 5) sc_Walk_read.nd rfl (by first | exact .inl rfl | exact .inr rfl) (C8.pe_mt C_known hr (by decide) (pv 0) (pa_cons (pv 2) (pa_cons (pv 4) pa_nil))))
    (pss_cons (ps_if (pt_cmpR op_notN (pv 5) pe_non (nomark _)) (pss_one (ps_ret (pe_ix (ix_listK (K := K) rfl) (pv 1) (pe_op op_add (pv 3) (pv 5)) (fun _ _ => rfl)))) pss_nil)
    (pss_one ps_never))), ?_⟩
    refine ⟨_, rfl, ?_⟩
    refine ⟨_, _, _, rfl, hw, hk, ?_⟩
    iterate 12 first | refine iteT ?_ | refine ⟨_, rfl, ?_⟩ | refine ⟨_, _, rfl, rfl, ?_⟩ | refine ⟨rfl, ?_⟩ | refine ⟨_, _, rfl, ?_⟩ | refine ⟨_, _, _, _, rfl, rfl, SqL.of (by repeat (first | assumption | exact upd_same .. | refine u1 (by assumption) ?_ | refine um (by assumption) ?_ | refine sa (by assumption) ?_)), atI_nat (by assumption), ?_⟩
    exact k
abbrev s_Walk_write : Stmt := inClass (top 48) 5
abbrev N_Walk_write : List Str := ["self", "row", "index", "first", "length", "symbol", "at", "k"]
theorem sc_Walk_write : FnScope N_Walk_write ["self", "row", "index", "first", "length", "symbol"] (defScope s_Walk_write) := ⟨rfl, rfl, rfl, by decide +kernel, rfl, by decide +kernel, by decide +kernel⟩
def sp_write (K : PySem.W.Frag) : Sp := fun vs H Q _ => ∃ (wk dx r : Addr) (fs : List (Str × V)) (b v : V) (xs : List V) (j : Nat), vs = [.ref wk, .ref r, b, nV j, .int 1, v] ∧ H wk = some (.ins (CW K) dx fs) ∧ fs.lookup ("known" : Str) = none ∧ H r = some (.lst xs) ∧ j < xs.length ∧ Q .non (upd H r (.lst (xs.set j v)))
theorem C_write (T : Txt K mg) : C8.Met P w K mg base 2 (CW K) "write" (sp_write K) [] := by
  have C_known := C_known (P := P) (w := w) (base := base) T
  refine met (N := N_Walk_write) (ps := ["self", "row", "index", "first", "length", "symbol"]) T.cl_Walk T.m_Walk_write (fun _ _ _ _ _ _ us hl => match us, hl with | [_, _, _, _, _, _], _ => rfl) sc_Walk_write (fun vs H Q E h => ?_) (fun f cdv A outer s H vs Q E hr h => ?_)
  · obtain ⟨wk, dx, r, fs, b, v, xs, j, rfl, _⟩ := h
    rfl
  · obtain ⟨wk, dx, r, fs, b, v, xs, j, rfl, hw, hk, hr', hj, k⟩ := h
    refine ⟨_, (pss_cons (ps_set (i := 6) sc_Walk_write.nd rfl (by first | exact .inl rfl | exact .inr rfl) (C8.pe_mt C_known hr (by decide) (pv 0) (pa_cons (pv 2) (pa_cons (pv 4) pa_nil))))
    (pss_cons (ps_if (pt_cmpR op_notN (pv 6) pe_non (nomark _)) (pss_cons (ps_asg (pv 5) (pg_sub (pv 1) (pe_op op_add (pv 3) (pv 6)) set_list))
    (pss_one (ps_retN))) pss_nil)
    (pss_one ps_never))), ?_⟩
    refine ⟨_, rfl, ?_⟩
    refine ⟨_, _, _, rfl, hw, hk, ?_⟩
    iterate 13 first | refine iteT ?_ | refine ⟨_, rfl, ?_⟩ | refine ⟨_, _, rfl, rfl, ?_⟩ | refine ⟨rfl, ?_⟩ | refine ⟨_, _, rfl, ?_⟩ | refine ⟨_, _, _, _, rfl, rfl, (by repeat (first | assumption | exact upd_same .. | refine u1 (by assumption) ?_ | refine um (by assumption) ?_ | refine sa (by assumption) ?_)), ixNn (by first | assumption | omega | (simp; omega)), ?_⟩
    exact k
abbrev s_Walk_instruct : Stmt := inClass (top 48) 2
abbrev N_Walk_instruct : List Str := ["self", "cell", "row", "word"]
theorem sc_Walk_instruct : FnScope N_Walk_instruct ["self", "cell"] (defScope s_Walk_instruct) := ⟨rfl, rfl, rfl, by decide +kernel, rfl, by decide +kernel, by decide +kernel⟩
def sp_instruct (K : PySem.W.Frag) : Sp := fun vs H Q _ => ∃ (H0 : Hp) (wk q : Addr) (c : Cell) (i size h bank : Nat) (s s' : SS Th) (bud : Nat), vs = [.ref wk, .ref q] ∧ WalkA K H0 H wk size h (8 + bank) s bud ∧ H0 q = some (.tup (cellV c)) ∧ c.hue = some i ∧ c.Ok h size bank ∧
  bud < 50000 ∧ step .num .take h (8 + bank) s c = .go s' ∧ ∀ H', WalkA K H0 H' wk size h (8 + bank) s' (bud + 1) → Q .non H'
theorem C_instruct (T : Txt K mg) : C8.Met P w K mg base 3 (CW K) "instruct" (sp_instruct K) [] := by
  have C_plain := C_plain (P := P) (w := w) (base := base) T
  have C_read := C_read (P := P) (w := w) (base := base) T
  have C_write := C_write (P := P) (w := w) (base := base) T
  refine met (N := N_Walk_instruct) (ps := ["self", "cell"]) T.cl_Walk T.m_Walk_instruct (fun _ _ _ _ _ _ us hl => match us, hl with | [_, _], _ => rfl) sc_Walk_instruct (fun vs H Q E h => ?_) (fun f cdv A outer s H vs Q E hr h => ?_)
  · obtain ⟨H0, wk, q, c, i, size, hh, bank, s, s', bud, rfl, _⟩ := h
    rfl
  · obtain ⟨H0, wk, q, c, i, size, hh, bank, s, s', bud, rfl, ⟨dxw, sy, dxs, fo, nu, sp, of, rows, tab, W⟩, hq0, hi, ok, hb, st, k⟩ := h
    have hu := hu_of hr
    have hob := W.ob
    have hsp := W.spa
    have hq := W.same _ _ hq0
    refine ⟨_, (pss_cons (ps_par (i := 2) (j := 3) (by rfl) sc_Walk_instruct.nd rfl rfl (by decide) rfl rfl (pa_cons (pe_ix (ix_listK (K := K) rfl) (pe_fldK (K := K) rfl (pv 0) rfl) (pe_ix (ix_tupK (K := K) rfl) (pv 1) pe_int (fun _ _ => rfl)) (fun _ _ => rfl)) (pa_cons (pe_ix (ix_tupK (K := K) rfl) (pv 1) pe_int (fun _ _ => rfl)) pa_nil)) (by rfl))
    (pss_one (ps_if (pt_cmpR op_eq (pv 3) pe_str (nomark _)) (pss_one (ps_asg (C8.pe_mt C_plain hr (by decide) (pe_fldK (K := K) rfl (pv 0) rfl) (pa_cons (pe_ix (ix_tupK (K := K) rfl) (pv 1) pe_int (fun _ _ => rfl)) pa_nil)) (pg_sub (pv 2) (pe_ix (ix_tupK (K := K) rfl) (pv 1) pe_int (fun _ _ => rfl)) set_list))) (pss_one (ps_if (pt_cmpR op_eq (pv 3) pe_str (nomark _)) (pss_one (ps_asg (pe_ix (ix_listK (K := K) rfl) (pv 2) (pe_ix (ix_tupK (K := K) rfl) (pv 1) pe_int (fun _ _ => rfl)) (fun _ _ => rfl)) (pg_sub (pe_fldK (K := K) rfl (pv 0) rfl) (pe_ix (ix_tupK (K := K) rfl) (pv 1) pe_int (fun _ _ => rfl)) set_list))) (pss_one (ps_if (pt_cmpR op_eq (pv 3) pe_str (nomark _)) (pss_one (ps_asg (C8.pe_mt C_read hr (by decide) (pv 0) (pa_cons (pv 2) (pa_cons (pe_ix (ix_listK (K := K) rfl) (pv 2) (pe_ix (ix_tupK (K := K) rfl) (pv 1) pe_int (fun _ _ => rfl)) (fun _ _ => rfl)) (pa_cons (pe_op op_add (C8.pe_gc rfl T.g_REGISTERS) (pe_ix (ix_tupK (K := K) rfl) (pv 1) pe_int (fun _ _ => rfl))) (pa_cons (pe_ix (ix_tupK (K := K) rfl) (pv 1) pe_int (fun _ _ => rfl)) pa_nil))))) (pg_sub (pv 2) (pe_ix (ix_tupK (K := K) rfl) (pv 1) pe_int (fun _ _ => rfl)) set_list))) (pss_one (ps_if (pt_cmpR op_eq (pv 3) pe_str (nomark _)) (pss_one (ps_expr (C8.pe_mt C_write hr (by decide) (pv 0) (pa_cons (pv 2) (pa_cons (pe_ix (ix_listK (K := K) rfl) (pv 2) (pe_ix (ix_tupK (K := K) rfl) (pv 1) pe_int (fun _ _ => rfl)) (fun _ _ => rfl)) (pa_cons (pe_op op_add (C8.pe_gc rfl T.g_REGISTERS) (pe_ix (ix_tupK (K := K) rfl) (pv 1) pe_int (fun _ _ => rfl))) (pa_cons (pe_ix (ix_tupK (K := K) rfl) (pv 1) pe_int (fun _ _ => rfl)) (pa_cons (pe_ix (ix_listK (K := K) rfl) (pv 2) (pe_ix (ix_tupK (K := K) rfl) (pv 1) pe_int (fun _ _ => rfl)) (fun _ _ => rfl)) pa_nil)))))))) (pss_one ps_never)))))))))), ?_⟩
    have hih := hue_ok hi ok
    have hnr := W.nr
    have hri : rows[i]? = some rows[i] := List.getElem?_eq_getElem (by omega)
    have hrr : (rows.map V.ref)[i]? = some (.ref rows[i]) := by rw [List.getElem?_map, hri]; rfl
    obtain ⟨ss, hrow, hsl, hst⟩ := W.row i _ hri
    have hsy := W.sya.ob
    cases c with
    | set j b n =>
      cases hi
      cases st
      obtain ⟨o1, o2, o3⟩ := ok
      iterate 17 first | refine iteT ?_ | refine ⟨_, rfl, ?_⟩ | refine ⟨rfl, ?_⟩ | refine ⟨_, _, _, _, rfl, rfl, SqT.of (by repeat (first | assumption | exact upd_same .. | refine u1 (by assumption) ?_ | refine um (by assumption) ?_ | refine sa (by assumption) ?_)), atI_nat (j := 0) rfl, ?_⟩ | refine ⟨_, _, _, _, rfl, rfl, SqT.of (by repeat (first | assumption | exact upd_same .. | refine u1 (by assumption) ?_ | refine um (by assumption) ?_ | refine sa (by assumption) ?_)), atI_nat (j := 1) rfl, ?_⟩ | refine ⟨_, _, _, _, rfl, rfl, SqT.of (by repeat (first | assumption | exact upd_same .. | refine u1 (by assumption) ?_ | refine um (by assumption) ?_ | refine sa (by assumption) ?_)), atI_nat (j := 3) rfl, ?_⟩ | refine ⟨_, _, _, _, _, rfl, (by repeat (first | assumption | exact upd_same .. | refine u1 (by assumption) ?_ | refine um (by assumption) ?_ | refine sa (by assumption) ?_)), T.cl_Walk, T.no_Walk_symbols, by rfl, ?_⟩ | refine ⟨_, _, _, _, _, rfl, (by repeat (first | assumption | exact upd_same .. | refine u1 (by assumption) ?_ | refine um (by assumption) ?_ | refine sa (by assumption) ?_)), T.cl_Walk, T.no_Walk_spots, by rfl, ?_⟩ | refine ⟨_, _, rfl, ?_⟩ | refine ⟨_, _, _, _, rfl, rfl, SqL.of (by repeat (first | assumption | exact upd_same .. | refine u1 (by assumption) ?_ | refine um (by assumption) ?_ | refine sa (by assumption) ?_)), atI_nat (by assumption), ?_⟩ | refine ⟨_, _, _, rfl, (by repeat (first | assumption | exact upd_same .. | refine u1 (by assumption) ?_ | refine um (by assumption) ?_ | refine sa (by assumption) ?_)), by rfl, ?_⟩
      refine ⟨sy, dxs, fo, nu, size, tab, bud, n, rfl, W.sya, hb, fun x tab' H1 e1 e2 e3 S1 f1 => ?_⟩
      have W1 := W.ext S1 e1 f1 s.t fun k hk => W.tk k (e2 k hk)
      have hq1 := W1.same _ _ hq0
      have hr1 := f1.k hrow rfl
      iterate 4 first | refine ⟨_, rfl, ?_⟩ | refine ⟨_, _, _, _, rfl, rfl, SqT.of (by repeat (first | assumption | exact upd_same .. | refine u1 (by assumption) ?_ | refine um (by assumption) ?_ | refine sa (by assumption) ?_)), atI_nat (j := 2) rfl, ?_⟩ | refine ⟨_, _, _, _, rfl, rfl, (by repeat (first | assumption | exact upd_same .. | refine u1 (by assumption) ?_ | refine um (by assumption) ?_ | refine sa (by assumption) ?_)), ixNn (by first | assumption | omega | (simp; omega)), ?_⟩
      have W2 := W1.setRow (b := b) hri hr1 e3
      rw [List.map_set] at W2
      exact k _ ⟨dxw, sy, dxs, fo, nu, sp, of, rows, tab', W2⟩
    | get j b c z =>
      cases hi
      cases st
      obtain ⟨o1, o2, o3, o4⟩ := ok
      have hz1 : ss[c]? = some ss[c] := List.getElem?_eq_getElem (by omega)
      have hz2 : (ss.map nV)[c]? = some (nV ss[c]) := by rw [List.getElem?_map, hz1]; rfl
      have hz3 : ss[8 + z]? = some ss[8 + z] := List.getElem?_eq_getElem (by omega)
      have hz4 : (ss.map nV)[8 + z]? = some (nV ss[8 + z]) := by rw [List.getElem?_map, hz3]; rfl
      iterate 32 first | refine iteT ?_ | refine iteF ?_ | refine ⟨_, rfl, ?_⟩ | refine ⟨_, _, rfl, rfl, ?_⟩ | refine ⟨rfl, ?_⟩ | refine ⟨_, _, _, _, rfl, rfl, SqT.of (by repeat (first | assumption | exact upd_same .. | refine u1 (by assumption) ?_ | refine um (by assumption) ?_ | refine sa (by assumption) ?_)), atI_nat (j := 0) rfl, ?_⟩ | refine ⟨_, _, _, _, rfl, rfl, SqT.of (by repeat (first | assumption | exact upd_same .. | refine u1 (by assumption) ?_ | refine um (by assumption) ?_ | refine sa (by assumption) ?_)), atI_nat (j := 1) rfl, ?_⟩ | refine ⟨_, _, _, _, rfl, rfl, SqT.of (by repeat (first | assumption | exact upd_same .. | refine u1 (by assumption) ?_ | refine um (by assumption) ?_ | refine sa (by assumption) ?_)), atI_nat (j := 3) rfl, ?_⟩ | refine ⟨_, _, _, _, rfl, rfl, SqT.of (by repeat (first | assumption | exact upd_same .. | refine u1 (by assumption) ?_ | refine um (by assumption) ?_ | refine sa (by assumption) ?_)), atI_nat (j := 4) rfl, ?_⟩ | refine ⟨_, _, _, _, rfl, rfl, SqT.of (by repeat (first | assumption | exact upd_same .. | refine u1 (by assumption) ?_ | refine um (by assumption) ?_ | refine sa (by assumption) ?_)), atI_nat (j := 5) rfl, ?_⟩ | refine ⟨_, _, _, _, _, rfl, (by repeat (first | assumption | exact upd_same .. | refine u1 (by assumption) ?_ | refine um (by assumption) ?_ | refine sa (by assumption) ?_)), T.cl_Walk, T.no_Walk_spots, by rfl, ?_⟩ | refine ⟨_, _, rfl, ?_⟩ | refine ⟨_, _, _, _, rfl, rfl, SqL.of (by repeat (first | assumption | exact upd_same .. | refine u1 (by assumption) ?_ | refine um (by assumption) ?_ | refine sa (by assumption) ?_)), atI_nat (by assumption), ?_⟩ | refine ⟨_, _, _, rfl, (by repeat (first | assumption | exact upd_same .. | refine u1 (by assumption) ?_ | refine um (by assumption) ?_ | refine sa (by assumption) ?_)), by rfl, ?_⟩
      refine ⟨wk, _, rows[i], _, _, nV ss[8 + z], _, 8 + z, rfl, hob, rfl, hrow, hz4, ?_⟩
      iterate 4 first | refine ⟨_, rfl, ?_⟩ | refine ⟨_, _, _, _, rfl, rfl, SqT.of (by repeat (first | assumption | exact upd_same .. | refine u1 (by assumption) ?_ | refine um (by assumption) ?_ | refine sa (by assumption) ?_)), atI_nat (j := 2) rfl, ?_⟩ | refine ⟨_, _, _, _, rfl, rfl, (by repeat (first | assumption | exact upd_same .. | refine u1 (by assumption) ?_ | refine um (by assumption) ?_ | refine sa (by assumption) ?_)), ixNn (by first | assumption | omega | (simp; omega)), ?_⟩
      have W2 := (W.bud (Nat.le_succ _)).setRow (b := b) hri hrow (hst _ _ hz3)
      rw [List.map_set] at W2
      exact k _ ⟨dxw, sy, dxs, fo, nu, sp, of, rows, tab, W2⟩
    | put j b c z =>
      cases hi
      cases st
      obtain ⟨o1, o2, o3, o4⟩ := ok
      have hz1 : ss[c]? = some ss[c] := List.getElem?_eq_getElem (by omega)
      have hz2 : (ss.map nV)[c]? = some (nV ss[c]) := by rw [List.getElem?_map, hz1]; rfl
      have hz3 : ss[b]? = some ss[b] := List.getElem?_eq_getElem (by omega)
      have hz4 : (ss.map nV)[b]? = some (nV ss[b]) := by rw [List.getElem?_map, hz3]; rfl
      iterate 40 first | refine iteT ?_ | refine iteF ?_ | refine ⟨_, rfl, ?_⟩ | refine ⟨_, _, rfl, rfl, ?_⟩ | refine ⟨rfl, ?_⟩ | refine ⟨_, _, _, _, rfl, rfl, SqT.of (by repeat (first | assumption | exact upd_same .. | refine u1 (by assumption) ?_ | refine um (by assumption) ?_ | refine sa (by assumption) ?_)), atI_nat (j := 0) rfl, ?_⟩ | refine ⟨_, _, _, _, rfl, rfl, SqT.of (by repeat (first | assumption | exact upd_same .. | refine u1 (by assumption) ?_ | refine um (by assumption) ?_ | refine sa (by assumption) ?_)), atI_nat (j := 1) rfl, ?_⟩ | refine ⟨_, _, _, _, rfl, rfl, SqT.of (by repeat (first | assumption | exact upd_same .. | refine u1 (by assumption) ?_ | refine um (by assumption) ?_ | refine sa (by assumption) ?_)), atI_nat (j := 2) rfl, ?_⟩ | refine ⟨_, _, _, _, rfl, rfl, SqT.of (by repeat (first | assumption | exact upd_same .. | refine u1 (by assumption) ?_ | refine um (by assumption) ?_ | refine sa (by assumption) ?_)), atI_nat (j := 3) rfl, ?_⟩ | refine ⟨_, _, _, _, rfl, rfl, SqT.of (by repeat (first | assumption | exact upd_same .. | refine u1 (by assumption) ?_ | refine um (by assumption) ?_ | refine sa (by assumption) ?_)), atI_nat (j := 4) rfl, ?_⟩ | refine ⟨_, _, _, _, rfl, rfl, SqT.of (by repeat (first | assumption | exact upd_same .. | refine u1 (by assumption) ?_ | refine um (by assumption) ?_ | refine sa (by assumption) ?_)), atI_nat (j := 5) rfl, ?_⟩ | refine ⟨_, _, _, _, _, rfl, (by repeat (first | assumption | exact upd_same .. | refine u1 (by assumption) ?_ | refine um (by assumption) ?_ | refine sa (by assumption) ?_)), T.cl_Walk, T.no_Walk_spots, by rfl, ?_⟩ | refine ⟨_, _, rfl, ?_⟩ | refine ⟨_, _, _, _, rfl, rfl, SqL.of (by repeat (first | assumption | exact upd_same .. | refine u1 (by assumption) ?_ | refine um (by assumption) ?_ | refine sa (by assumption) ?_)), atI_nat (by assumption), ?_⟩ | refine ⟨_, _, _, rfl, (by repeat (first | assumption | exact upd_same .. | refine u1 (by assumption) ?_ | refine um (by assumption) ?_ | refine sa (by assumption) ?_)), by rfl, ?_⟩
      refine ⟨wk, _, rows[i], _, _, nV ss[b], _, 8 + z, rfl, hob, rfl, hrow, by simp; omega, ?_⟩
      have W2 := (W.bud (Nat.le_succ _)).setRow (b := 8 + z) hri hrow (hst _ _ hz3)
      rw [List.map_set] at W2
      exact k _ ⟨dxw, sy, dxs, fo, nu, sp, of, rows, tab, W2⟩
    | offer j b =>
      cases hi
      cases st
      obtain ⟨o1, o2⟩ := ok
      have hz3 : ss[b]? = some ss[b] := List.getElem?_eq_getElem (by omega)
      have hz4 : (ss.map nV)[b]? = some (nV ss[b]) := by rw [List.getElem?_map, hz3]; rfl
      obtain ⟨os, ho1, ho2, ho3⟩ := W.ofa
      iterate 25 first | refine iteT ?_ | refine iteF ?_ | refine ⟨_, rfl, ?_⟩ | refine ⟨rfl, ?_⟩ | refine ⟨_, _, _, _, rfl, rfl, SqT.of (by repeat (first | assumption | exact upd_same .. | refine u1 (by assumption) ?_ | refine um (by assumption) ?_ | refine sa (by assumption) ?_)), atI_nat (j := 0) rfl, ?_⟩ | refine ⟨_, _, _, _, rfl, rfl, SqT.of (by repeat (first | assumption | exact upd_same .. | refine u1 (by assumption) ?_ | refine um (by assumption) ?_ | refine sa (by assumption) ?_)), atI_nat (j := 1) rfl, ?_⟩ | refine ⟨_, _, _, _, rfl, rfl, SqT.of (by repeat (first | assumption | exact upd_same .. | refine u1 (by assumption) ?_ | refine um (by assumption) ?_ | refine sa (by assumption) ?_)), atI_nat (j := 2) rfl, ?_⟩ | refine ⟨_, _, _, _, _, rfl, (by repeat (first | assumption | exact upd_same .. | refine u1 (by assumption) ?_ | refine um (by assumption) ?_ | refine sa (by assumption) ?_)), T.cl_Walk, T.no_Walk_spots, by rfl, ?_⟩ | refine ⟨_, _, _, _, _, rfl, (by repeat (first | assumption | exact upd_same .. | refine u1 (by assumption) ?_ | refine um (by assumption) ?_ | refine sa (by assumption) ?_)), T.cl_Walk, T.no_Walk_offered, by rfl, ?_⟩ | refine ⟨_, _, rfl, ?_⟩ | refine ⟨_, _, _, _, rfl, rfl, SqL.of (by repeat (first | assumption | exact upd_same .. | refine u1 (by assumption) ?_ | refine um (by assumption) ?_ | refine sa (by assumption) ?_)), atI_nat (by assumption), ?_⟩ | refine ⟨_, _, _, _, rfl, rfl, (by repeat (first | assumption | exact upd_same .. | refine u1 (by assumption) ?_ | refine um (by assumption) ?_ | refine sa (by assumption) ?_)), ixNn (by first | assumption | omega | (simp; omega)), ?_⟩
      have W2 := (W.bud (Nat.le_succ _)).offer (i := i) ho1 (hst _ _ hz3)
      rw [List.map_set] at W2
      exact k _ ⟨dxw, sy, dxs, fo, nu, sp, of, rows, tab, W2⟩
    | _ => cases hi
end Hw
namespace Hw
open PySem PySem.Spec PyProof.Rows L2
section
variable {K : PySem.W.Frag} {H0 H H1 : Hp} {wk dxw sy dxs fo nu sp of : Addr} {rows : List Addr} {size h many : Nat} {s : SS Th} {tab tab' : List Th} {bud bud' : Nat}
theorem same_none {H H' : Hp} {p : Addr} (s : Same H H') (h : H' p = none) : H p = none := by
  cases e : H p with
  | none => rfl
  | some x => rw [s _ _ e] at h; cases h
theorem WalkAt.keep (W : WalkAt K H0 H wk dxw sy dxs fo nu sp of rows size h many s tab bud) (e : Same H H1) : WalkAt K H0 H1 wk dxw sy dxs fo nu sp of rows size h many s tab bud :=
  ⟨e _ _ W.ob, ⟨e _ _ W.sya.ob, e _ _ W.sya.fo, let ⟨k, a, b⟩ := W.sya.nu; ⟨k, e _ _ a, b⟩, W.sya.bd, W.sya.nd⟩, e _ _ W.spa, W.nr, W.nd, fun i r hr => let ⟨ss, a, b, c⟩ := W.row i r hr; ⟨ss, e _ _ a, b, c⟩,
    let ⟨os, a, b, c⟩ := W.ofa; ⟨os, e _ _ a, b, c⟩, W.sn, W.on, W.so, W.tk, W.same.trans e, W.fr⟩
theorem rep_none (n : Nat) : (List.replicate n [V.non]).flatten = (List.replicate n (none : Option Nat)).map oV := by
  induction n with
  | zero => rfl
  | succ n ih => rw [List.replicate_succ, List.flatten_cons, ih, List.replicate_succ]; rfl
theorem WalkAt.newOf (W : WalkAt K H0 H wk dxw sy dxs fo nu sp of rows size h many s tab bud) {p : Addr} (hp : H p = some (.lst ((List.replicate h (none : Option Nat)).map oV))) (h0 : H0 p = none) (hn : p ∉ rows) (hs : p ≠ sp) :
    WalkAt K H0 (upd H wk (.ins (CW K) dxw [("hues", nV h), ("symbols", .ref sy), ("spots", .ref sp), ("offered", .ref p)])) wk dxw sy dxs fo nu sp p rows size h many { s with S := fun _ => none } tab bud := by
  have k1 : ∀ b y, H b = some y → HO.kd y ≠ 4 → upd H wk (.ins (CW K) dxw [("hues", nV h), ("symbols", .ref sy), ("spots", .ref sp), ("offered", .ref p)]) b = some y := fun b y hb n => by
    rw [upd_ne (fun e => by rw [e, W.ob] at hb; cases hb; exact n rfl)]; exact hb
  have ws : sy ≠ wk := fun e => by
    have h1 := W.sya.ob
    rw [e, W.ob] at h1
    injection h1 with q
    injection q with q1 q2 q3
    simp at q3
  refine ⟨upd_same, ⟨(upd_ne ws).trans W.sya.ob, k1 _ _ W.sya.fo (by simp [HO.kd]), let ⟨k, a, b⟩ := W.sya.nu; ⟨k, k1 _ _ a (by simp [HO.kd]), b⟩, W.sya.bd, W.sya.nd⟩, k1 _ _ W.spa (by simp [HO.kd]), W.nr, W.nd,
    fun i r hr => let ⟨ss, a, b, c⟩ := W.row i r hr; ⟨ss, k1 _ _ a (by simp [HO.kd]), b, c⟩, ⟨_, k1 _ _ hp (by simp [HO.kd]), by simp, fun i o ho => ?_⟩, W.sn, hn, hs, W.tk, same_mut W.same (W.fr wk (by simp)), fun a ha => ?_⟩
  · rw [List.getElem?_replicate] at ho
    split at ho
    · cases ho; exact True.intro
    · cases ho
  · rcases List.mem_cons.mp ha with z | z
    · rw [z]; exact W.fr wk (by simp)
    · rcases List.mem_cons.mp z with z | z
      · rw [z]; exact W.fr fo (by simp)
      · rcases List.mem_cons.mp z with z | z
        · rw [z]; exact W.fr nu (by simp)
        · rcases List.mem_cons.mp z with z | z
          · rw [z]; exact h0
          · exact W.fr a (by simp [z])
end
theorem cut_take (xs : List V) {n : Nat} (h : n ≤ xs.length) : cutV xs none (some (n : Int)) = xs.take n := by
  unfold cutV
  rw [HT.sIx_none, HT.sIx_nat, List.drop_zero, Nat.sub_zero, Nat.min_eq_left h]
theorem tf_t {α : Type} {xs : List α} {i : Nat} {x : α} {p : α → Bool} (h : xs[i]? = some x) (k : p x = true) : (xs.take (i + 1)).filter p = (xs.take i).filter p ++ [x] := by
  rw [List.take_add_one, h, List.filter_append]
  simp [k]
theorem tf_f {α : Type} {xs : List α} {i : Nat} {x : α} {p : α → Bool} (h : xs[i]? = some x) (k : p x = false) : (xs.take (i + 1)).filter p = (xs.take i).filter p := by
  rw [List.take_add_one, h, List.filter_append]
  simp [k]
variable {P : Program} {w : World} {K : PySem.W.Frag} {mg : Str → Option Value} {base : Heap}
theorem take_one {i b : Nat} {th : Th} (F : Nat → Nat → Th) : setF (fun (j a : Nat) => if j < i ∧ a = b then th else F j a) i b th = fun (j a : Nat) => if j < i + 1 ∧ a = b then th else F j a := by
  funext j a
  show (if j = i ∧ a = b then th else if j < i ∧ a = b then th else F j a) = if j < i + 1 ∧ a = b then th else F j a
  by_cases e1 : j = i ∧ a = b
  · rw [if_pos e1, if_pos ⟨by omega, e1.2⟩]
  · rw [if_neg e1]
    by_cases e2 : j < i ∧ a = b
    · rw [if_pos e2, if_pos ⟨by omega, e2.2⟩]
    · rw [if_neg e2, if_neg (fun z => by
        have h1 := z.1
        have h2 := z.2
        by_cases e3 : j = i
        · exact e1 ⟨e3, h2⟩
        · exact e2 ⟨by omega, h2⟩)]
abbrev s_Walk_take : Stmt := inClass (top 48) 8
abbrev N_Walk_take : List Str := ["self", "cell", "letter", "hue"]
theorem sc_Walk_take : FnScope N_Walk_take ["self", "cell"] (defScope s_Walk_take) := ⟨rfl, rfl, rfl, by decide +kernel, rfl, by decide +kernel, by decide +kernel⟩
def sp_take (K : PySem.W.Frag) : Sp := fun vs H Q _ => ∃ (H0 : Hp) (wk q : Addr) (b x size h bank : Nat) (s s' : SS Th) (bud : Nat), vs = [.ref wk, .ref q] ∧ WalkA K H0 H wk size h (8 + bank) s bud ∧ H0 q = some (.tup (cellV (.take b x))) ∧ (Cell.take b x).Ok h size bank ∧
  h ≤ 5 ∧ bud < 50000 ∧ step .num .take h (8 + bank) s (.take b x) = .go s' ∧ ∀ H', WalkA K H0 H' wk size h (8 + bank) s' (bud + 1) → Q .non H'
theorem C_take (T : Txt K mg) : C8.Met P w K mg base 3 (CW K) "take" (sp_take K) [] := by
  have C_letter := C_letter (P := P) (w := w) (base := base) T
  refine met (N := N_Walk_take) (ps := ["self", "cell"]) T.cl_Walk T.m_Walk_take (fun _ _ _ _ _ _ us hl => match us, hl with | [_, _], _ => rfl) sc_Walk_take (fun vs H Q E h => ?_) (fun f cdv A outer s H vs Q E hr h => ?_)
  · obtain ⟨H0, wk, q, b, x, size, hh, bank, s, s', bud, rfl, _⟩ := h
    rfl
  · obtain ⟨H0, wk, q, b, x, size, hh, bank, s, s', bud, rfl, ⟨dxw, sy, dxs, fo, nu, sp, of, rows, tab, W⟩, hq0, ok, h5, hb, st, k⟩ := h
    have hob := W.ob
    have hq := W.same _ _ hq0
    have hsy := W.sya.ob
    obtain ⟨o1, o2, o3⟩ := ok
    cases st
    refine ⟨_, (pss_cons (ps_set (i := 2) sc_Walk_take.nd rfl (by first | exact .inl rfl | exact .inr rfl) (C8.pe_mt0 C_letter hr (by decide) (pe_fldK (K := K) rfl (pv 0) rfl)))
    (pss_one (ps_for PassesOwn.never rfl (pi_range1 (by rfl) T.b_range (pa_cons (pe_ix (ix_tupK (K := K) rfl) (pv 1) pe_int (fun _ _ => rfl)) pa_nil)) (pg_name (i := 3) sc_Walk_take.nd rfl (by first | exact .inl rfl | exact .inr rfl)) (pss_one (ps_asg (pv 2) (pg_sub (pe_ix (ix_listK (K := K) rfl) (pe_fldK (K := K) rfl (pv 0) rfl) (pv 3) (fun _ _ => rfl)) (pe_ix (ix_tupK (K := K) rfl) (pv 1) pe_int (fun _ _ => rfl)) set_list)))))), ?_⟩
    iterate 3 first | refine ⟨_, rfl, ?_⟩ | refine ⟨_, _, _, _, _, rfl, (by repeat (first | assumption | exact upd_same .. | refine u1 (by assumption) ?_ | refine um (by assumption) ?_ | refine sa (by assumption) ?_)), T.cl_Walk, T.no_Walk_symbols, by rfl, ?_⟩ | refine ⟨_, _, _, rfl, (by repeat (first | assumption | exact upd_same .. | refine u1 (by assumption) ?_ | refine um (by assumption) ?_ | refine sa (by assumption) ?_)), by rfl, ?_⟩
    have hm : Th.take s.t ∉ tab := fun m => Nat.lt_irrefl _ (W.tk _ m)
    refine ⟨sy, dxs, fo, nu, size, tab, bud, s.t, rfl, W.sya, hb, hm, fun H1 S1 f1 => ?_⟩
    have f2 : Fr [fo, nu] [3, 2] H H1 := f1.mono (by simp) (by simp)
    have W1 := W.ext S1 ⟨_, rfl⟩ f2 (s.t + 1) fun k hk => by
      rcases List.mem_append.mp hk with z | z
      · exact Nat.lt_succ_of_lt (W.tk k z)
      · simp at z; omega
    have hq1 := W1.same _ _ hq0
    have hob1 := W1.ob
    iterate 3 first | refine ⟨_, rfl, ?_⟩ | refine ⟨_, _, _, _, rfl, rfl, SqT.of (by repeat (first | assumption | exact upd_same .. | refine u1 (by assumption) ?_ | refine um (by assumption) ?_ | refine sa (by assumption) ?_)), atI_nat (j := 2) rfl, ?_⟩
    refine ⟨by omega, by omega, ?_⟩
    rw [Int.toNat_natCast]
    refine for_range (lo := 0) (n := x) (fun i σ H' => (∃ l, σ = [some (V.ref wk), some (.ref q), some (nV tab.length), l]) ∧
      WalkAt K H0 H' wk dxw sy dxs fo nu sp of rows size hh (8 + bank) { s with F := fun j a => if j < i ∧ a = b then .take s.t else s.F j a, t := s.t + 1 } (tab ++ [.take s.t]) (bud + 1)) ⟨⟨_, rfl⟩, ?_⟩ (fun i σ H' hi p => ?_) (fun σ H' p => ?_)
    · have e : (fun (j a : Nat) => if j < 0 ∧ a = b then Th.take s.t else s.F j a) = s.F := by
        funext j a
        rw [if_neg (by omega)]
      rw [e]
      exact W1
    · obtain ⟨⟨l, rfl⟩, W2⟩ := p
      have hnr := W2.nr
      have hob2 := W2.ob
      have hsp2 := W2.spa
      have hq2 := W2.same _ _ hq0
      have hri : rows[i]? = some rows[i] := List.getElem?_eq_getElem (by omega)
      have hrr : (rows.map V.ref)[i]? = some (.ref rows[i]) := by rw [List.getElem?_map, hri]; rfl
      obtain ⟨ss, hrow, hsl, hst⟩ := W2.row i _ hri
      rw [Int.zero_add]
      iterate 8 first | refine ⟨_, rfl, ?_⟩ | refine ⟨_, _, _, _, rfl, rfl, SqT.of (by repeat (first | assumption | exact upd_same .. | refine u1 (by assumption) ?_ | refine um (by assumption) ?_ | refine sa (by assumption) ?_)), atI_nat (j := 1) rfl, ?_⟩ | refine ⟨_, _, _, _, _, rfl, (by repeat (first | assumption | exact upd_same .. | refine u1 (by assumption) ?_ | refine um (by assumption) ?_ | refine sa (by assumption) ?_)), T.cl_Walk, T.no_Walk_spots, by rfl, ?_⟩ | refine ⟨_, _, _, _, rfl, rfl, SqL.of (by repeat (first | assumption | exact upd_same .. | refine u1 (by assumption) ?_ | refine um (by assumption) ?_ | refine sa (by assumption) ?_)), atI_nat (by assumption), ?_⟩ | refine ⟨_, _, _, _, rfl, rfl, (by repeat (first | assumption | exact upd_same .. | refine u1 (by assumption) ?_ | refine um (by assumption) ?_ | refine sa (by assumption) ?_)), ixNn (by first | assumption | omega | (simp; omega)), ?_⟩
      refine ⟨⟨_, rfl⟩, ?_⟩
      have W3 := W2.setRow (b := b) (x := tab.length) (th := .take s.t) hri hrow (by simp)
      rw [List.map_set] at W3
      have e := take_one (i := i) (b := b) (th := .take s.t) s.F
      rw [← e]
      exact W3
    · obtain ⟨⟨l, rfl⟩, W2⟩ := p
      exact k _ ⟨dxw, sy, dxs, fo, nu, sp, of, rows, _, W2⟩
theorem flt_lt {α : Type} {xs : List α} {p : α → Bool} (h : xs.length < 1000) (i : Nat) : ((xs.take i).filter p).length < sizeLine := by
  have h1 := List.length_filter_le p (xs.take i)
  have h2 : (xs.take i).length ≤ xs.length := by rw [List.length_take]; omega
  have := big_line
  omega
theorem scal_o (o p : Option Nat) : scal (oV o) (oV p) = true := by cases o <;> cases p <;> rfl
theorem oV_non {o : Option Nat} (h : oV o = .non) : o = none := by
  cases o with
  | none => rfl
  | some n => cases h
theorem oV_inj {o p : Option Nat} (h : oV o = oV p) : o = p := by
  cases o with
  | none => cases p with
    | none => rfl
    | some n => cases h
  | some m => cases p with
    | none => cases h
    | some n =>
      have e : (m : Int) = n := V.int.inj h
      rw [show m = n by omega]
theorem unlike_iff {tab : List Th} (nd : tab.Nodup) {os : List (Option Nat)} {S : Nat → Option Th} {x : Nat} {o0 : Option Nat} (hx : x ≤ os.length) (h0 : (os.take x)[0]? = some o0) (ho : ∀ i o, os[i]? = some o → OAt tab o (S i)) :
    (((os.take x).map oV).filter fun y => decide (y = .non) || !decide (y = oV o0)) = [] ↔ unlike ((List.range x).map S) = none := by
  have hat : ∀ i < x, ∃ o, (os.take x)[i]? = some o ∧ os[i]? = some o := fun i hi => by
    have h1 : os[i]? = some os[i] := List.getElem?_eq_getElem (by omega)
    exact ⟨os[i], by rw [List.getElem?_take, if_pos hi]; exact h1, h1⟩
  constructor
  · intro e
    have key : ∀ i < x, ∃ n, os[i]? = some (some n) ∧ o0 = some n := fun i hi => by
      obtain ⟨o, h1, h2⟩ := hat i hi
      have h3 := List.filter_eq_nil_iff.mp e (oV o) (List.mem_map.mpr ⟨o, List.mem_of_getElem? h1, rfl⟩)
      simp only [Bool.or_eq_true, decide_eq_true_eq, Bool.not_eq_true', decide_eq_false_iff_not, not_or, Classical.not_not] at h3
      have h4 : oV o = oV o0 := h3.2
      have h5 := oV_inj h4
      cases o with
      | none => exact absurd rfl h3.1
      | some n => exact ⟨n, h2, h5.symm⟩
    refine unlike_of (fun o h => ?_) (fun o h p h' => ?_)
    · obtain ⟨i, hi, rfl⟩ := List.mem_map.mp h
      obtain ⟨n, a, b⟩ := key i (List.mem_range.mp hi)
      have c := ho i _ a
      cases e2 : S i with
      | none => rw [e2] at c; exact c.elim
      | some y => rfl
    · obtain ⟨i, hi, rfl⟩ := List.mem_map.mp h
      obtain ⟨j, hj, rfl⟩ := List.mem_map.mp h'
      obtain ⟨n, a, b⟩ := key i (List.mem_range.mp hi)
      obtain ⟨m, a', b'⟩ := key j (List.mem_range.mp hj)
      have enm : n = m := by rw [b] at b'; cases b'; rfl
      subst enm
      have c := ho i _ a
      have c' := ho j _ a'
      cases e2 : S i with
      | none => rw [e2] at c; exact c.elim
      | some y => cases e3 : S j with
        | none => rw [e3] at c'; exact c'.elim
        | some z =>
          rw [e2] at c
          rw [e3] at c'
          have c1 : tab[n]? = some y := c
          have c2 : tab[n]? = some z := c'
          rw [c1] at c2
          exact c2
  · intro e
    obtain ⟨e1, e2⟩ := unlike_none e
    have key : ∀ i < x, ∃ n, os[i]? = some (some n) ∧ ∃ y, S i = some y ∧ tab[n]? = some y := fun i hi => by
      obtain ⟨o, h1, h2⟩ := hat i hi
      have c := ho i _ h2
      have d := e1 (S i) (List.mem_map.mpr ⟨i, List.mem_range.mpr hi, rfl⟩)
      cases e3 : S i with
      | none => rw [e3] at d; cases d
      | some y => cases o with
        | none => rw [e3] at c; exact c.elim
        | some n => rw [e3] at c; exact ⟨n, h2, y, rfl, c⟩
    have hx0 : 0 < x := by
      have := (List.getElem?_eq_some_iff.mp h0).1
      rw [List.length_take] at this; omega
    obtain ⟨n0, a0, y0, b0, c0⟩ := key 0 hx0
    have eo : o0 = some n0 := by
      obtain ⟨o, h1, h2⟩ := hat 0 hx0
      rw [h0] at h1
      cases h1
      rw [a0] at h2
      cases h2; rfl
    refine List.filter_eq_nil_iff.mpr fun v hv => ?_
    obtain ⟨o, hm, rfl⟩ := List.mem_map.mp hv
    obtain ⟨i, hi⟩ := List.mem_iff_getElem?.mp hm
    have hix : i < x := by
      have := (List.getElem?_eq_some_iff.mp hi).1
      rw [List.length_take] at this; omega
    obtain ⟨n, a, y, b, c⟩ := key i hix
    rw [List.getElem?_take, if_pos hix, a] at hi
    cases hi
    have ey : S i = S 0 := e2 _ (List.mem_map.mpr ⟨i, List.mem_range.mpr hix, rfl⟩) _ (List.mem_map.mpr ⟨0, List.mem_range.mpr hx0, rfl⟩)
    rw [b, b0] at ey
    cases ey
    have en : n = n0 := nodup_at nd c c0
    subst en
    rw [eo]
    simp [oV]
abbrev s_Walk_agreed : Stmt := inClass (top 48) 6
abbrev N_Walk_agreed : List Str := ["self", "width", "some", "one"]
theorem sc_Walk_agreed : FnScope N_Walk_agreed ["self", "width"] (defScope s_Walk_agreed) := ⟨rfl, rfl, rfl, by decide +kernel, rfl, by decide +kernel, by decide +kernel⟩
def sp_agreed (K : PySem.W.Frag) : Sp := fun vs H Q _ => ∃ (H0 : Hp) (wk : Addr) (x size h bank : Nat) (s : SS Th) (bud : Nat), vs = [.ref wk, nV x] ∧ WalkA K H0 H wk size h (8 + bank) s bud ∧ 1 ≤ x ∧ x ≤ h ∧ h ≤ 5 ∧
  ∀ H', WalkA K H0 H' wk size h (8 + bank) { s with S := fun _ => none } bud → (unlike ((List.range x).map s.S) = none → ∀ n, Q (nV n) H') ∧ (unlike ((List.range x).map s.S) ≠ none → Q .non H')
theorem C_agreed (T : Txt K mg) : C8.Met P w K mg base 1 (CW K) "agreed" (sp_agreed K) [] := by
  refine met (N := N_Walk_agreed) (ps := ["self", "width"]) T.cl_Walk T.m_Walk_agreed (fun _ _ _ _ _ _ us hl => match us, hl with | [_, _], _ => rfl) sc_Walk_agreed (fun vs H Q E h => ?_) (fun f cdv A outer s H vs Q E hr h => ?_)
  · obtain ⟨H0, wk, x, size, hh, bank, s, bud, rfl, _⟩ := h
    rfl
  · obtain ⟨H0, wk, x, size, hh, bank, s, bud, rfl, ⟨dxw, sy, dxs, fo, nu, sp, of, rows, tab, W⟩, h1, hx, h5, k⟩ := h
    have hob := W.ob
    obtain ⟨os, ho1, ho2, ho3⟩ := W.ofa
    refine ⟨_, (pss_cons (ps_set (i := 2) sc_Walk_agreed.nd rfl (by first | exact .inl rfl | exact .inr rfl) (pe_slice (sl_listK (K := K) rfl) (pe_fldK (K := K) rfl (pv 0) rfl) po_none (po_some (pv 1))))
    (pss_cons (ps_fld (pv 0) (pe_op op_rep (pe_lst (pa_cons pe_non pa_nil)) (pe_fldK (K := K) rfl (pv 0) rfl)) rfl)
    (pss_one (ps_ret (pe_ifExp (pt_cmpR (op_eqE hr.units0) (pe_lc (own := [("one", 3)]) rfl sc_Walk_agreed.nd (pi_list (pv 2)) (blkOk_by (own := [("one", 3)]) (N := N_Walk_agreed) (sc := defScope s_Walk_agreed) (by decide +kernel)) (fun _ _ _ _ _ => (pg_name (i := 3) sc_Walk_agreed.nd rfl (by first | exact .inl rfl | exact .inr rfl))) (fun _ _ _ _ _ => (pts_one (PW.pt (pw_or (pt_cmpR op_isN (pv 3) pe_non (nomark _)) (pw_or1 (pt_cmpR op_ne (pv 3) (pe_ix (ix_listK (K := K) rfl) (pv 2) pe_int (fun _ _ => rfl)) (nomark _))))))) (fun _ _ _ _ _ => (pv 3))) (pe_lst pa_nil) (nomark _)) (pe_ix (ix_listK (K := K) rfl) (pv 2) pe_int (fun _ _ => rfl)) pe_non))))), ?_⟩
    iterate 4 first | refine ⟨_, rfl, ?_⟩ | refine ⟨_, _, _, _, _, rfl, (by repeat (first | assumption | exact upd_same .. | refine u1 (by assumption) ?_ | refine um (by assumption) ?_ | refine sa (by assumption) ?_)), T.cl_Walk, T.no_Walk_offered, by rfl, ?_⟩
    refine ⟨_, _, rfl, SqL.of ho1, fun q1 hq1 => ?_⟩
    rw [cut_take _ (by rw [List.length_map]; omega), ← List.map_take]
    obtain ⟨xs, hxs⟩ : ∃ xs, xs = (os.take x).map oV := ⟨_, rfl⟩
    rw [← hxs]
    have hlen : xs.length = x := by rw [hxs, List.length_map, List.length_take]; omega
    obtain ⟨o0, h00⟩ : ∃ o, (os.take x)[0]? = some o := ⟨_, List.getElem?_eq_getElem (by rw [List.length_take]; omega)⟩
    obtain ⟨v0, he0⟩ : ∃ v, v = oV o0 := ⟨_, rfl⟩
    have h0 : xs[0]? = some v0 := by rw [hxs, List.getElem?_map, h00, he0]; rfl
    iterate 8 first | refine ⟨_, rfl, ?_⟩ | refine ⟨_, _, _, _, _, rfl, (by repeat (first | assumption | exact upd_same .. | refine u1 (by assumption) ?_ | refine um (by assumption) ?_ | refine sa (by assumption) ?_)), T.cl_Walk, T.no_Walk_hues, by rfl, ?_⟩ | refine ⟨_, _, _, _, rfl, (by repeat (first | assumption | exact upd_same .. | refine u1 (by assumption) ?_ | refine um (by assumption) ?_ | refine sa (by assumption) ?_)), T.cl_Walk, T.no_Walk_offered, of_decide_eq_true rfl, ?_⟩ | refine ⟨le_line (of_decide_eq_true rfl), fun t ht => ?_⟩ | refine ⟨_, _, _, rfl, rfl, upd_same, by omega, by omega, le_line (by first | (simp; done) | (simp; omega)), fun t ht => ?_⟩
    rename_i t1 ht1
    rw [Int.toNat_natCast, rep_none]
    have W1 := W.keep (((same_upd hq1).trans (same_upd ht1)).trans (same_upd (o := .lst ((List.replicate hh (none : Option Nat)).map oV)) ht))
    have n1 : ∀ r ∈ rows, ∃ y, upd (upd H q1 (.lst xs)) t1 (.lst [V.non]) r = some y := fun r hm => by
      obtain ⟨i, hi⟩ := List.mem_iff_getElem?.mp hm
      obtain ⟨ss, z, _⟩ := W.row i r hi
      exact ⟨_, u1 ht1 (u1 hq1 z)⟩
    have n2 : upd (upd H q1 (.lst xs)) t1 (.lst [V.non]) sp = _ := u1 ht1 (u1 hq1 W.spa)
    have W2 := W1.newOf (p := t) upd_same (same_none (W.same.trans ((same_upd hq1).trans (same_upd ht1))) ht)
      (fun m => by obtain ⟨y, z⟩ := n1 t m; rw [ht] at z; cases z) (fun e => by rw [← e, ht] at n2; cases n2)
    have hq2 : q1 ≠ wk := ne_of_none hob hq1 |>.symm
    have hsm : upd (upd (upd (upd H q1 (HO.lst xs)) t1 (.lst [V.non])) t (.lst ((List.replicate hh (none : Option Nat)).map oV))) wk
      (.ins (He.ga K "Walk") dxw (putF "offered" (V.ref t) [("hues", nV hh), ("symbols", .ref sy), ("spots", .ref sp), ("offered", .ref of)])) q1 = some (.lst xs) := by
      rw [upd_ne hq2]; exact u1 ht (u1 ht1 upd_same)
    refine ⟨⟨_, SqL.of hsm⟩, fun D hD => ?_⟩
    refine lc_list (xs := xs) (fun i H' => H' = upd _ D (.lst ((xs.take i).filter fun y => decide (y = .non) || !decide (y = v0)))) rfl (fun i H' _ e => ?_) (fun i y H' hi e => ?_) (fun H' e => ?_)
    · subst e; exact SqL.of (u1 hD hsm)
    · subst e
      have hsm2 := u1 (o := .lst ((xs.take i).filter fun y => decide (y = .non) || !decide (y = v0))) hD hsm
      have hl9 : xs.length < 1000 := by omega
      obtain ⟨o, ho, rfl⟩ : ∃ o, os[i]? = some o ∧ oV o = y := by
        rw [hxs, List.getElem?_map] at hi
        obtain ⟨o, h1, h2⟩ := Option.map_eq_some_iff.mp hi
        have hix : i < x := by
          have := (List.getElem?_eq_some_iff.mp h1).1
          rw [List.length_take] at this; omega
        rw [List.getElem?_take, if_pos hix] at h1
        exact ⟨o, h1, h2⟩
      iterate 4 first | refine ⟨_, rfl, ?_⟩ | refine ⟨rfl, ?_⟩
      by_cases hy : oV o = V.non
      · refine itT hy ?_
        refine iteT ⟨_, rfl, _, upd_same, flt_lt hl9 i, ?_⟩
        rw [upd_upd, tf_t hi (by simp [hy])]
      · refine itF hy ?_
        iterate 3 first | refine ⟨_, rfl, ?_⟩ | refine ⟨_, _, _, _, rfl, rfl, SqL.of (by repeat (first | assumption | exact upd_same .. | refine u1 (by assumption) ?_ | refine um (by assumption) ?_ | refine sa (by assumption) ?_)), atI_nat (by assumption), ?_⟩
        refine ⟨by rw [he0]; exact scal_o _ _, _, rfl, ?_⟩
        by_cases hz : oV o = v0
        · refine itNF hz ?_
          rw [tf_f hi (by rw [← hz]; simp [hy])]
        · refine itNT hz ?_
          refine ⟨_, rfl, _, upd_same, flt_lt hl9 i, ?_⟩
          rw [upd_upd, tf_t hi (by simp [hz])]
    · subst e
      rw [show List.take xs.length xs = xs from List.take_length]
      refine ⟨le_line (of_decide_eq_true rfl), fun p2 hp2 => ⟨_, _, _, rfl, rfl, SqL.of (u1 hp2 upd_same), SqL.of upd_same, _, rfl, ?_⟩⟩
      have iff := unlike_iff W.sya.nd (by omega) h00 ho3 (x := x)
      rw [← hxs, ← he0] at iff
      have W3 := (W2.keep (same_upd (o := .lst (xs.filter fun y => decide (y = .non) || !decide (y = v0))) hD)).keep (same_upd (o := .lst []) hp2)
      obtain ⟨k1, k2⟩ := k _ ⟨dxw, sy, dxs, fo, nu, sp, t, rows, tab, W3⟩
      by_cases hf : (xs.filter fun y => decide (y = .non) || !decide (y = v0)) = []
      · refine itBT (by rw [hf]; rfl) ?_
        have hq9 := u1 (o := .lst []) hp2 (u1 (o := .lst (xs.filter fun y => decide (y = .non) || !decide (y = v0))) hD hsm)
        iterate 2 first | refine ⟨_, rfl, ?_⟩ | refine ⟨_, _, _, _, rfl, rfl, SqL.of (by repeat (first | assumption | exact upd_same .. | refine u1 (by assumption) ?_ | refine um (by assumption) ?_ | refine sa (by assumption) ?_)), atI_nat (by assumption), ?_⟩
        have hv := List.filter_eq_nil_iff.mp hf v0 (List.mem_of_getElem? h0)
        cases o0 with
        | none => rw [he0] at hv; simp [oV] at hv
        | some n => subst he0; exact k1 (iff.mp hf) n
      · refine itBF (by cases q : (xs.filter fun y => decide (y = .non) || !decide (y = v0)) with
          | nil => exact absurd q hf
          | cons => rfl) ?_
        exact k2 fun e => hf (iff.mpr e)
abbrev s_Walk_are_alike : Stmt := inClass (top 48) 7
abbrev N_Walk_are_alike : List Str := ["self", "row"]
theorem sc_Walk_are_alike : FnScope N_Walk_are_alike ["self"] (defScope s_Walk_are_alike) := ⟨rfl, rfl, rfl, by decide +kernel, rfl, by decide +kernel, by decide +kernel⟩
def sp_are_alike (K : PySem.W.Frag) : Sp := fun vs H Q _ => ∃ (H0 : Hp) (wk : Addr) (size h bank : Nat) (s : SS Th) (bud : Nat), vs = [.ref wk] ∧ WalkA K H0 H wk size h (8 + bank) s bud ∧ 1 ≤ h ∧ h ≤ 5 ∧
  ∀ H', WalkA K H0 H' wk size h (8 + bank) { s with S := fun _ => none } bud → Q (.bl (marked h (8 + bank) s.F).isNone) H'
theorem alike_iff {tab : List Th} (nd : tab.Nodup) {F : Nat → Nat → Th} {h many : Nat} {sss : List (List Nat)} {s0 : List Nat} (hl : sss.length = h) (h0 : sss[0]? = some s0) (hm : ∀ ss ∈ sss, ss.length = many) (hs : ∀ i ss, sss[i]? = some ss → ∀ a x, ss[a]? = some x → tab[x]? = some (F i a)) :
    (∀ ss ∈ sss, ss = s0) ↔ marked h many F = none := by
  have hat : ∀ i < h, ∃ ss, sss[i]? = some ss := fun i hi => ⟨_, List.getElem?_eq_getElem (by omega)⟩
  constructor
  · intro e
    refine marked_of fun a ha i hi j hj => ?_
    obtain ⟨s1, e1⟩ := hat i hi
    obtain ⟨s2, e2⟩ := hat j hj
    have f1 := e _ (List.mem_of_getElem? e1)
    have f2 := e _ (List.mem_of_getElem? e2)
    rw [f1] at e1
    rw [f2] at e2
    have hla := hm _ (List.mem_of_getElem? e1)
    have g : s0[a]? = some s0[a] := List.getElem?_eq_getElem (by omega)
    have q1 := hs i _ e1 a _ g
    have q2 := hs j _ e2 a _ g
    rw [q1] at q2
    exact Option.some.inj q2
  · intro e ss hss
    have m := marked_none e
    obtain ⟨i, hi⟩ := List.mem_iff_getElem?.mp hss
    have hih : i < h := by rw [← hl]; exact (List.getElem?_eq_some_iff.mp hi).1
    have h0h : 0 < h := by omega
    refine List.ext_getElem? fun a => ?_
    by_cases ha : a < many
    · have l1 := hm _ hss
      have l2 := hm _ (List.mem_of_getElem? h0)
      have g1 : ss[a]? = some ss[a] := List.getElem?_eq_getElem (by omega)
      have g2 : s0[a]? = some s0[a] := List.getElem?_eq_getElem (by omega)
      have q1 := hs i _ hi a _ g1
      have q2 := hs 0 _ h0 a _ g2
      rw [m a ha i hih 0 h0h] at q1
      rw [g1, g2, nodup_at nd q1 q2]
    · have l1 := hm _ hss
      have l2 := hm _ (List.mem_of_getElem? h0)
      rw [List.getElem?_eq_none (by omega), List.getElem?_eq_none (by omega)]
theorem rows_ss {H : Hp} {many : Nat} {tab : List Th} {F : Nat → Nat → Th} : ∀ (rows : List Addr) (k : Nat), (∀ i r, rows[i]? = some r → RowAt H many tab (F (k + i)) r) →
    ∃ sss : List (List Nat), sss.length = rows.length ∧ (∀ (i : Nat) (r : Addr) (ss : List Nat), rows[i]? = some r → sss[i]? = some ss → H r = some (.lst (ss.map nV))) ∧ (∀ ss ∈ sss, ss.length = many) ∧ ∀ i ss, sss[i]? = some ss → ∀ a x, ss[a]? = some x → tab[x]? = some (F (k + i) a)
  | [], k, _ => ⟨[], rfl, fun i r ss h _ => by simp at h, fun ss h => (by cases h), fun i ss h => by simp at h⟩
  | r :: rows, k, hr => by
    obtain ⟨ss, a, b, c⟩ := hr 0 r rfl
    obtain ⟨sss, e1, e2, e3, e4⟩ := rows_ss (F := F) rows (k + 1) (fun i q hq => by
      have := hr (i + 1) q (by simpa using hq)
      rw [show k + 1 + i = k + (i + 1) by omega]; exact this)
    refine ⟨ss :: sss, by simp [e1], fun i q s2 h1 h2 => ?_, fun s2 h => ?_, fun i s2 h => ?_⟩
    · cases i with
      | zero => simp at h1 h2; subst h1; subst h2; exact a
      | succ i => exact e2 i q s2 (by simpa using h1) (by simpa using h2)
    · rcases List.mem_cons.mp h with z | z
      · rw [z]; exact b
      · exact e3 _ z
    · cases i with
      | zero => simp at h; subst h; exact c
      | succ i =>
        have := e4 i s2 (by simpa using h)
        rw [show k + 1 + i = k + (i + 1) by omega] at this; exact this
theorem map_nV (l : List Nat) : l.map nV = (l.map fun (n : Nat) => (n : Int)).map V.int := by rw [List.map_map]; rfl
theorem C_are_alike (T : Txt K mg) : C8.Met P w K mg base 1 (CW K) "are_alike" (sp_are_alike K) [] := by
  refine met (N := N_Walk_are_alike) (ps := ["self"]) T.cl_Walk T.m_Walk_are_alike (fun _ _ _ _ _ _ us hl => match us, hl with | [_], _ => rfl) sc_Walk_are_alike (fun vs H Q E h => ?_) (fun f cdv A outer s H vs Q E hr h => ?_)
  · obtain ⟨H0, wk, size, hh, bank, s, bud, rfl, _⟩ := h
    rfl
  · obtain ⟨H0, wk, size, hh, bank, s, bud, rfl, ⟨dxw, sy, dxs, fo, nu, sp, of, rows, tab, W⟩, h1, h5, k⟩ := h
    have hob := W.ob
    obtain ⟨os, ho1, ho2, ho3⟩ := W.ofa
    refine ⟨_, (pss_cons (ps_fld (pv 0) (pe_op op_rep (pe_lst (pa_cons pe_non pa_nil)) (pe_fldK (K := K) rfl (pv 0) rfl)) rfl)
    (pss_one (ps_ret (pe_cmpR (op_eqE hr.units0) (pe_lc (own := [("row", 1)]) rfl sc_Walk_are_alike.nd (pi_list (pe_fldK (K := K) rfl (pv 0) rfl)) (blkOk_by (own := [("row", 1)]) (N := N_Walk_are_alike) (sc := defScope s_Walk_are_alike) (by decide +kernel)) (fun _ _ _ _ _ => (pg_name (i := 1) sc_Walk_are_alike.nd rfl (by first | exact .inl rfl | exact .inr rfl))) (fun _ _ _ _ _ => (pts_one (pt_cmpR (op_neDK (K := K) rfl hr.units) (pv 1) (pe_ix (ix_listK (K := K) rfl) (pe_fldK (K := K) rfl (pv 0) rfl) pe_int (fun _ _ => rfl)) (nomark _)))) (fun _ _ _ _ _ => (pv 1))) (pe_lst pa_nil) (nomark _))))), ?_⟩
    iterate 9 first | refine ⟨_, rfl, ?_⟩ | refine ⟨_, _, _, _, _, rfl, (by repeat (first | assumption | exact upd_same .. | refine u1 (by assumption) ?_ | refine um (by assumption) ?_ | refine sa (by assumption) ?_)), T.cl_Walk, T.no_Walk_hues, by rfl, ?_⟩ | refine ⟨_, _, _, _, _, rfl, (by repeat (first | assumption | exact upd_same .. | refine u1 (by assumption) ?_ | refine um (by assumption) ?_ | refine sa (by assumption) ?_)), T.cl_Walk, T.no_Walk_spots, by rfl, ?_⟩ | refine ⟨_, _, _, _, rfl, (by repeat (first | assumption | exact upd_same .. | refine u1 (by assumption) ?_ | refine um (by assumption) ?_ | refine sa (by assumption) ?_)), T.cl_Walk, T.no_Walk_offered, of_decide_eq_true rfl, ?_⟩ | refine ⟨le_line (of_decide_eq_true rfl), fun t ht => ?_⟩ | refine ⟨_, _, _, rfl, rfl, upd_same, by omega, by omega, le_line (by first | (simp; done) | (simp; omega)), fun t ht => ?_⟩
    rename_i t1 ht1
    rw [Int.toNat_natCast, rep_none]
    have W1 := W.keep ((same_upd (o := .lst [V.non]) ht1).trans (same_upd (o := .lst ((List.replicate hh (none : Option Nat)).map oV)) ht))
    have n1 : ∀ r ∈ rows, ∃ y, upd H t1 (.lst [V.non]) r = some y := fun r hm => by
      obtain ⟨i, hi⟩ := List.mem_iff_getElem?.mp hm
      obtain ⟨ss, z, _⟩ := W.row i r hi
      exact ⟨_, u1 ht1 z⟩
    have n2 : upd H t1 (.lst [V.non]) sp = _ := u1 ht1 W.spa
    have W2 := W1.newOf (p := t) upd_same (same_none (W.same.trans (same_upd ht1)) ht)
      (fun m => by obtain ⟨y, z⟩ := n1 t m; rw [ht] at z; cases z) (fun e => by rw [← e, ht] at n2; cases n2)
    have hob2 := W2.ob
    obtain ⟨sss, z1, z2, z3, z4⟩ := rows_ss (H := upd (upd (upd H t1 (.lst [V.non])) t (.lst ((List.replicate hh (none : Option Nat)).map oV))) wk
      (.ins (He.ga K "Walk") dxw (putF "offered" (V.ref t) [("hues", nV hh), ("symbols", .ref sy), ("spots", .ref sp), ("offered", .ref of)]))) (F := s.F) (many := 8 + bank) (tab := tab) rows 0 (fun i r hr => by rw [Nat.zero_add]; exact W2.row i r hr)
    have hnr := W.nr
    obtain ⟨s0, e0⟩ : ∃ s0, sss[0]? = some s0 := ⟨_, List.getElem?_eq_getElem (by omega)⟩
    obtain ⟨r0, q0⟩ : ∃ r, rows[0]? = some r := ⟨_, List.getElem?_eq_getElem (by omega)⟩
    have hspx := W2.spa
    refine ⟨⟨_, SqL.of hspx⟩, fun D hD => ?_⟩
    refine lc_list (xs := rows.map V.ref) (fun i H' => ∃ acc, acc.length ≤ i ∧ (acc = [] ↔ ∀ j < i, ∀ ss, sss[j]? = some ss → ss = s0) ∧ H' = upd _ D (.lst acc)) ⟨[], Nat.le_refl _, ⟨fun _ j hj => absurd hj (Nat.not_lt_zero _), fun _ => rfl⟩, rfl⟩ (fun i H' _ e => ?_) (fun i y H' hi e => ?_) (fun H' e => ?_)
    · obtain ⟨acc, _, _, rfl⟩ := e
      exact SqL.of (u1 hD hspx)
    · obtain ⟨acc, el, ei, rfl⟩ := e
      rw [List.getElem?_map] at hi
      obtain ⟨r, hri, rfl⟩ := Option.map_eq_some_iff.mp hi
      have hix : i < rows.length := (List.getElem?_eq_some_iff.mp hri).1
      obtain ⟨ss, es⟩ : ∃ ss, sss[i]? = some ss := ⟨_, List.getElem?_eq_getElem (by omega)⟩
      have hob3 := u1 (o := .lst acc) hD hob2
      have hsp3 := u1 (o := .lst acc) hD hspx
      have hr3 := u1 (o := .lst acc) hD (z2 i r ss hri es)
      have hr0 := u1 (o := .lst acc) hD (z2 0 r0 s0 q0 e0)
      have hrr : (rows.map V.ref)[0]? = some (.ref r0) := by rw [List.getElem?_map, q0]; rfl
      iterate 5 first | refine ⟨_, rfl, ?_⟩ | refine ⟨rfl, ?_⟩ | refine ⟨_, _, _, _, _, rfl, (by repeat (first | assumption | exact upd_same .. | refine u1 (by assumption) ?_ | refine um (by assumption) ?_ | refine sa (by assumption) ?_)), T.cl_Walk, T.no_Walk_spots, by rfl, ?_⟩ | refine ⟨_, _, _, _, rfl, rfl, SqL.of (by repeat (first | assumption | exact upd_same .. | refine u1 (by assumption) ?_ | refine um (by assumption) ?_ | refine sa (by assumption) ?_)), atI_nat (by assumption), ?_⟩
      rw [map_nV] at hr3 hr0
      refine ⟨_, _, dp_list hr3, dp_list hr0, shaped_ints _, shaped_ints _, _, rfl, ?_⟩
      rw [eqv_list]
      have step : (ss = s0 → ∀ (p : acc = [] ↔ ∀ j < i, ∀ ss, sss[j]? = some ss → ss = s0), (acc = [] ↔ ∀ j < i + 1, ∀ ss, sss[j]? = some ss → ss = s0)) := fun e p => by
        rw [p]
        constructor
        · intro g j hj s2 h2
          by_cases ej : j = i
          · subst ej; rw [es] at h2; cases h2; exact e
          · exact g j (by omega) s2 h2
        · intro g j hj s2 h2
          exact g j (by omega) s2 h2
      by_cases hz : ss = s0
      · refine itNF (by rw [hz]) ?_
        exact ⟨acc, Nat.le_succ_of_le el, step hz ei, rfl⟩
      · refine itNT (fun e => hz (nV_inj (by rw [map_nV, map_nV, e]))) ?_
        have bl := big_line
        refine ⟨_, rfl, acc, upd_same, by omega, acc ++ [.ref r], by simp; omega, ⟨fun e => by simp at e, fun g => absurd (g i (Nat.lt_succ_self i) ss es) hz⟩, upd_upd⟩
    · obtain ⟨acc, el, ei, rfl⟩ := e
      have iff := alike_iff W.sya.nd (F := s.F) (many := 8 + bank) (h := hh) (by omega) e0 z3 (fun i ss h => by have := z4 i ss h; rw [Nat.zero_add] at this; exact this)
      have iff2 : acc = [] ↔ marked hh (8 + bank) s.F = none := by
        rw [← iff, ei]
        constructor
        · intro g ss hm
          obtain ⟨j, hj⟩ := List.mem_iff_getElem?.mp hm
          have := (List.getElem?_eq_some_iff.mp hj).1
          exact g j (by rw [List.length_map]; omega) ss hj
        · intro g j hj ss h2
          exact g ss (List.mem_of_getElem? h2)
      refine ⟨le_line (of_decide_eq_true rfl), fun p2 hp2 => ⟨_, _, _, rfl, rfl, SqL.of (u1 hp2 upd_same), SqL.of upd_same, ?_⟩⟩
      have W3 := (W2.keep (same_upd (o := .lst acc) hD)).keep (same_upd (o := .lst []) hp2)
      have k1 := k _ ⟨dxw, sy, dxs, fo, nu, sp, t, rows, tab, W3⟩
      have e9 : acc.isEmpty = (marked hh (8 + bank) s.F).isNone := by
        cases acc with
        | nil => rw [iff2.mp rfl]; rfl
        | cons a b =>
          cases q : marked hh (8 + bank) s.F with
          | none => exact absurd (iff2.mpr q) (by simp)
          | some u => rfl
      rw [e9]
      exact k1
end Hw
namespace Hw
open PySem PySem.Spec PyProof.Rows L2
def AllAt {α : Type} (R : V → α → Prop) (vs : List V) (xs : List α) : Prop := vs.length = xs.length ∧ ∀ (i : Nat) (v : V) (x : α), vs[i]? = some v → xs[i]? = some x → R v x
theorem AllAt.mono {α : Type} {R R' : V → α → Prop} (f : ∀ v x, R v x → R' v x) {vs : List V} {xs : List α} (h : AllAt R vs xs) : AllAt R' vs xs := ⟨h.1, fun i v x a b => f v x (h.2 i v x a b)⟩
theorem AllAt.nil {α : Type} {R : V → α → Prop} : AllAt R [] [] := ⟨rfl, fun i v x h => by simp at h⟩
theorem AllAt.snoc {α : Type} {R : V → α → Prop} {vs : List V} {xs : List α} {v : V} {x : α} (h : AllAt R vs xs) (hv : R v x) : AllAt R (vs ++ [v]) (xs ++ [x]) := by
  refine ⟨by simp [h.1], fun i u y a b => ?_⟩
  by_cases hi : i < vs.length
  · rw [List.getElem?_append_left hi] at a
    rw [List.getElem?_append_left (by rw [← h.1]; exact hi)] at b
    exact h.2 i u y a b
  · have e : i = vs.length := by
      have := (List.getElem?_eq_some_iff.mp a).1
      simp at this; omega
    subst e
    rw [List.getElem?_append_right (Nat.le_refl _)] at a
    rw [List.getElem?_append_right (by rw [h.1]; exact Nat.le_refl _)] at b
    rw [h.1] at b
    simp at a b
    subst a; subst b; exact hv
theorem AllAt.get {α : Type} {R : V → α → Prop} {vs : List V} {xs : List α} (h : AllAt R vs xs) {i : Nat} {v : V} (hv : vs[i]? = some v) : ∃ x, xs[i]? = some x ∧ R v x := by
  have hi : i < xs.length := by rw [← h.1]; exact (List.getElem?_eq_some_iff.mp hv).1
  exact ⟨xs[i], List.getElem?_eq_getElem hi, h.2 i v _ hv (List.getElem?_eq_getElem hi)⟩
abbrev Spot := Nat × Nat
abbrev Grp := Nat × List Spot
def IsSpot (H : Hp) (v : V) (x : Spot) : Prop := ∃ q, v = .ref q ∧ H q = some (.tup [nV x.1, nV x.2])
def IsGrp (H : Hp) (v : V) (g : Grp) : Prop := ∃ p sp vs, v = .ref p ∧ H p = some (.tup [nV g.1, .ref sp]) ∧ H sp = some (.tup vs) ∧ AllAt (IsSpot H) vs g.2
def IsTab (H : Hp) (a : Addr) (G : List Grp) : Prop := ∃ vs, H a = some (.lst vs) ∧ AllAt (IsGrp H) vs G
theorem IsSpot.same {H H' : Hp} (e : Same H H') {v : V} {x : Spot} (h : IsSpot H v x) : IsSpot H' v x := let ⟨q, a, b⟩ := h; ⟨q, a, e _ _ b⟩
theorem IsGrp.same {H H' : Hp} (e : Same H H') {v : V} {x : Grp} (h : IsGrp H v x) : IsGrp H' v x := let ⟨p, sp, vs, a, b, c, d⟩ := h; ⟨p, sp, vs, a, e _ _ b, e _ _ c, d.mono fun _ _ => IsSpot.same e⟩
theorem IsTab.same {H H' : Hp} (e : Same H H') {a : Addr} {G : List Grp} (h : IsTab H a G) : IsTab H' a G := let ⟨vs, b, c⟩ := h; ⟨vs, e _ _ b, c.mono fun _ _ => IsGrp.same e⟩
def ini (bank : List Nat) (a : Nat) : Nat := if a < 8 then 0 else bank.getD (a - 8) 0
structure TabOk (h : Nat) (bank : List Nat) (G : List Grp) : Prop where
  of : ∀ g ∈ G, ∀ x ∈ g.2, x.1 < h ∧ x.2 < 8 + bank.length ∧ ini bank x.2 = g.1
  all : ∀ i < h, ∀ a < 8 + bank.length, ∃ g ∈ G, (i, a) ∈ g.2
  few : G.length ≤ 100
def RowP (H : Hp) (many : Nat) (tab : List Th) (f : Nat → Th) (cov : Nat → Prop) (r : Addr) : Prop :=
  ∃ os : List (Option Nat), H r = some (.lst (os.map oV)) ∧ os.length = many ∧ (∀ a x, os[a]? = some (some x) → tab[x]? = some (f a)) ∧ ∀ a, cov a → ∃ x, os[a]? = some (some x)
structure WalkP (K : PySem.W.Frag) (H0 H : Hp) (wk dxw sy dxs fo nu sp of : Addr) (rows : List Addr) (size h many : Nat) (F : Nat → Nat → Th) (cov : Nat → Nat → Prop) (tab : List Th) (bud : Nat) : Prop where
  ob : H wk = some (.ins (CW K) dxw [("hues", nV h), ("symbols", .ref sy), ("spots", .ref sp), ("offered", .ref of)])
  sya : SymAt K H sy dxs fo nu size tab bud
  spa : H sp = some (.lst (rows.map V.ref))
  nr : rows.length = h
  nd : rows.Nodup
  row : ∀ i r, rows[i]? = some r → RowP H many tab (F i) (cov i) r
  ofa : H of = some (.lst ((List.replicate h (none : Option Nat)).map oV))
  sn : sp ∉ rows
  on : of ∉ rows
  so : of ≠ sp
  tk : ∀ k, Th.take k ∉ tab
  same : Same H0 H
  fr : ∀ a ∈ wk :: fo :: nu :: of :: rows, H0 a = none
section
variable {K : PySem.W.Frag} {H0 H H1 : Hp} {wk dxw sy dxs fo nu sp of : Addr} {rows : List Addr} {size h many : Nat} {F : Nat → Nat → Th} {cov : Nat → Nat → Prop} {tab tab' : List Th} {bud bud' : Nat}
theorem WalkP.ext (W : WalkP K H0 H wk dxw sy dxs fo nu sp of rows size h many F cov tab bud) (S : SymAt K H1 sy dxs fo nu size tab' bud') (e : Ext tab tab') (f : Fr [fo, nu] [3, 2] H H1) (ht : ∀ k, Th.take k ∉ tab') :
    WalkP K H0 H1 wk dxw sy dxs fo nu sp of rows size h many F cov tab' bud' where
  ob := f.k W.ob rfl
  sya := S
  spa := f.k W.spa rfl
  nr := W.nr
  nd := W.nd
  row := fun i r hr => let ⟨ss, a, b, c, d⟩ := W.row i r hr; ⟨ss, f.k a rfl, b, fun x y hx => e.at (c x y hx), d⟩
  ofa := f.k W.ofa rfl
  sn := W.sn
  on := W.on
  so := W.so
  tk := ht
  same := f.same W.same fun a ha => W.fr a (by
    rcases List.mem_cons.mp ha with z | z
    · rw [z]; simp
    · rw [List.mem_singleton.mp z]; simp)
  fr := W.fr
theorem WalkP.keep (W : WalkP K H0 H wk dxw sy dxs fo nu sp of rows size h many F cov tab bud) (e : Same H H1) : WalkP K H0 H1 wk dxw sy dxs fo nu sp of rows size h many F cov tab bud :=
  ⟨e _ _ W.ob, ⟨e _ _ W.sya.ob, e _ _ W.sya.fo, let ⟨k, a, b⟩ := W.sya.nu; ⟨k, e _ _ a, b⟩, W.sya.bd, W.sya.nd⟩, e _ _ W.spa, W.nr, W.nd, fun i r hr => let ⟨ss, a, b, c⟩ := W.row i r hr; ⟨ss, e _ _ a, b, c⟩,
    e _ _ W.ofa, W.sn, W.on, W.so, W.tk, W.same.trans e, W.fr⟩
theorem oVs_inj : ∀ {l m : List (Option Nat)}, l.map oV = m.map oV → l = m
  | [], [], _ => rfl
  | [], _ :: _, h => by cases h
  | _ :: _, [], h => by cases h
  | y :: ys, z :: zs, h => by
    rw [List.map_cons, List.map_cons] at h
    injection h with p q
    rw [oVs_inj q, oV_inj p]
theorem WalkP.set (W : WalkP K H0 H wk dxw sy dxs fo nu sp of rows size h many F cov tab bud) {i b x : Nat} {r : Addr} {os : List (Option Nat)} (hb : b < many) (hr : rows[i]? = some r) (hs : H r = some (.lst (os.map oV))) (hx : tab[x]? = some (F i b)) :
    WalkP K H0 (upd H r (.lst ((os.set b (some x)).map oV))) wk dxw sy dxs fo nu sp of rows size h many F (fun j a => cov j a ∨ (j = i ∧ a = b)) tab bud := by
  have hm : r ∈ rows := List.mem_of_getElem? hr
  have k1 := upd_kd (x := .lst ((os.set b (some x)).map oV)) hs rfl
  refine ⟨k1 _ _ W.ob (by simp [HO.kd]), W.sya.keep k1, (upd_ne (fun e => W.sn (by rw [e]; exact hm))).trans W.spa, W.nr, W.nd, fun j q hq => ?_, (upd_ne (fun e => W.on (by rw [e]; exact hm))).trans W.ofa, W.sn, W.on, W.so, W.tk, same_mut W.same (W.fr r (by simp [hm])), W.fr⟩
  obtain ⟨tt, t1, t2, t3, t4⟩ := W.row j q hq
  by_cases e : q = r
  · subst e
    have ij : j = i := nodup_at W.nd hq hr
    subst ij
    rw [hs] at t1
    have e3 : os = tt := oVs_inj (by injection t1 with q; injection q)
    subst e3
    refine ⟨os.set b (some x), upd_same, by simpa using t2, fun a y hy => ?_, fun a ca => ?_⟩
    · rw [List.getElem?_set] at hy
      split at hy
      · rename_i e4
        split at hy
        · cases hy
          rw [← e4]; exact hx
        · cases hy
      · exact t3 a y hy
    · rw [List.getElem?_set]
      by_cases e5 : b = a
      · rw [if_pos e5, if_pos (by omega)]; exact ⟨_, rfl⟩
      · rw [if_neg e5]
        rcases ca with z | z
        · exact t4 a z
        · exact absurd z.2.symm e5
  · refine ⟨tt, (upd_ne e).trans t1, t2, t3, fun a ca => ?_⟩
    rcases ca with z | z
    · exact t4 a z
    · have ij : j = i := z.1
      subst ij
      rw [hq] at hr
      cases hr
      exact absurd rfl e
theorem WalkP.sub (W : WalkP K H0 H wk dxw sy dxs fo nu sp of rows size h many F cov tab bud) {cov' : Nat → Nat → Prop} (c : ∀ i a, i < h → cov' i a → cov i a) : WalkP K H0 H wk dxw sy dxs fo nu sp of rows size h many F cov' tab bud :=
  { W with row := fun i r hr => let ⟨ss, a, b, d, e⟩ := W.row i r hr; ⟨ss, a, b, d, fun x hx => e x (c i x (by rw [← W.nr]; exact (List.getElem?_eq_some_iff.mp hr).1) hx)⟩ }
theorem os_some : ∀ {os : List (Option Nat)}, (∀ a, a < os.length → ∃ x, os[a]? = some (some x)) → ∃ ss : List Nat, os = ss.map some
  | [], _ => ⟨[], rfl⟩
  | o :: os, h => by
    obtain ⟨x, hx⟩ := h 0 (by simp)
    obtain ⟨ss, e⟩ := os_some (os := os) fun a ha => by
      have := h (a + 1) (by simp; omega)
      simpa using this
    simp at hx
    exact ⟨x :: ss, by rw [hx, e]; rfl⟩
theorem WalkP.whole (W : WalkP K H0 H wk dxw sy dxs fo nu sp of rows size h many F cov tab bud) (c : ∀ i < h, ∀ a < many, cov i a) :
    WalkAt K H0 H wk dxw sy dxs fo nu sp of rows size h many ⟨F, fun _ => none, 0⟩ tab bud :=
  { ob := W.ob, sya := W.sya, spa := W.spa, nr := W.nr, nd := W.nd, sn := W.sn, on := W.on, so := W.so, tk := fun k hk => absurd hk (W.tk k), same := W.same, fr := W.fr
    row := fun i r hr => by
      obtain ⟨os, a, b, d, e⟩ := W.row i r hr
      have hi : i < h := by rw [← W.nr]; exact (List.getElem?_eq_some_iff.mp hr).1
      obtain ⟨ss, rfl⟩ := os_some (os := os) fun x hx => e x (c i hi x (by omega))
      refine ⟨ss, by rw [a, List.map_map]; rfl, by simpa using b, fun x y hy => d x y (by rw [List.getElem?_map, hy]; rfl)⟩
    ofa := ⟨_, W.ofa, by simp, fun i o ho => by
      rw [List.getElem?_replicate] at ho
      split at ho
      · cases ho; exact True.intro
      · cases ho⟩ }
end
variable {P : Program} {w : World} {K : PySem.W.Frag} {mg : Str → Option Value} {base : Heap}
abbrev CE (K : PySem.W.Frag) : Addr := He.ga K "Ended"
abbrev s_Ended___init__ : Stmt := inClass (top 49) 0
abbrev N_Ended___init__ : List Str := ["self", "word", "address", "goals", "walk"]
theorem sc_Ended___init__ : FnScope N_Ended___init__ ["self", "word", "address", "goals", "walk"] (defScope s_Ended___init__) := ⟨rfl, rfl, rfl, by decide +kernel, rfl, by decide +kernel, by decide +kernel⟩
def sp_Ended (K : PySem.W.Frag) : Sp := fun vs H Q _ => ∃ (a dx : Addr) (v1 v2 v3 v4 : V), vs = [.ref a, v1, v2, v3, v4] ∧ H a = some (.ins (CE K) dx []) ∧
  Q .non (upd H a (.ins (CE K) dx [("word", v1), ("address", v2), ("goals", v3), ("walk", v4)]))
theorem C_Ended (T : Txt K mg) : C8.Mak P w K mg base 1 "Ended" (CE K) (sp_Ended K) [] := by
  refine mak (N := N_Ended___init__) (ps := ["self", "word", "address", "goals", "walk"]) T.mg_Ended T.i_Ended (fun _ _ _ _ _ _ us hl => match us, hl with | [_, _, _, _, _], _ => rfl) sc_Ended___init__ (fun vs H Q E h => ?_) (fun f cdv A outer s H vs Q E hr h => ?_)
  · obtain ⟨a, dx, v1, v2, v3, v4, rfl, _⟩ := h
    rfl
  · obtain ⟨a, dx, v1, v2, v3, v4, rfl, ha, k⟩ := h
    refine ⟨_, (pss_cons (ps_fld (pv 0) (pv 1) rfl)
    (pss_cons (ps_fld (pv 0) (pv 2) rfl)
    (pss_cons (ps_fld (pv 0) (pv 3) rfl)
    (pss_one (ps_fld (pv 0) (pv 4) rfl))))), ?_⟩
    iterate 12 first | refine ⟨_, rfl, ?_⟩ | refine ⟨_, _, _, _, rfl, (by repeat (first | assumption | exact upd_same .. | refine u1 (by assumption) ?_ | refine um (by assumption) ?_ | refine sa (by assumption) ?_)), T.cl_Ended, T.no_Ended_word, of_decide_eq_true rfl, ?_⟩ | refine ⟨_, _, _, _, rfl, (by repeat (first | assumption | exact upd_same .. | refine u1 (by assumption) ?_ | refine um (by assumption) ?_ | refine sa (by assumption) ?_)), T.cl_Ended, T.no_Ended_address, of_decide_eq_true rfl, ?_⟩ | refine ⟨_, _, _, _, rfl, (by repeat (first | assumption | exact upd_same .. | refine u1 (by assumption) ?_ | refine um (by assumption) ?_ | refine sa (by assumption) ?_)), T.cl_Ended, T.no_Ended_goals, of_decide_eq_true rfl, ?_⟩ | refine ⟨_, _, _, _, rfl, (by repeat (first | assumption | exact upd_same .. | refine u1 (by assumption) ?_ | refine um (by assumption) ?_ | refine sa (by assumption) ?_)), T.cl_Ended, T.no_Ended_walk, of_decide_eq_true rfl, ?_⟩
    rw [upd_upd, upd_upd, upd_upd]
    exact k
abbrev s_Walk___init__ : Stmt := inClass (top 48) 0
abbrev N_Walk___init__ : List Str := ["self", "code", "table", "number", "spots", "symbol", "hue", "at", "row"]
theorem sc_Walk___init__ : FnScope N_Walk___init__ ["self", "code", "table"] (defScope s_Walk___init__) := ⟨rfl, rfl, rfl, by decide +kernel, rfl, by decide +kernel, by decide +kernel⟩
def inF (bank : List Nat) : Nat → Nat → Th := fun _ a => .num (ini bank a)
def sp_Walk (K : PySem.W.Frag) : Sp := fun vs H Q _ => ∃ (H0 : Hp) (wk dx a ta : Addr) (C : Code) (G : List Grp), vs = [.ref wk, .ref a, .ref ta] ∧ H wk = some (.ins (CW K) dx []) ∧ H0 wk = none ∧ Same H0 H ∧ IsCode H0 a C ∧ C.Ok ∧ IsTab H0 ta G ∧ TabOk C.h C.bank G ∧
  ∀ H', WalkA K H0 H' wk C.size C.h (8 + C.bank.length) ⟨inF C.bank, fun _ => none, 0⟩ (G.length + 1) → Q .non H'
theorem C_Walk (T : Txt K mg) : C8.Mak P w K mg base 3 "Walk" (CW K) (sp_Walk K) [] := by
  have C_Symbols := C_Symbols (P := P) (w := w) (base := base) T
  have C_letter := C_letter (P := P) (w := w) (base := base) T
  have C_plain := C_plain (P := P) (w := w) (base := base) T
  refine mak (N := N_Walk___init__) (ps := ["self", "code", "table"]) T.mg_Walk T.i_Walk (fun _ _ _ _ _ _ us hl => match us, hl with | [_, _, _], _ => rfl) sc_Walk___init__ (fun vs H Q E h => ?_) (fun f cdv A outer s H vs Q E hr h => ?_)
  · obtain ⟨H0, wk, dx, a, ta, C, G, rfl, _⟩ := h
    rfl
  · obtain ⟨H0, wk, dx, a, ta, C, G, rfl, hw, hw0, s0, hc, ok, htb, tok, k⟩ := h
    obtain ⟨va, ca, ba, vs, hc⟩ := hc
    have hc1 := hc.same s0
    have c1 := hc1.top
    have c2 := hc1.vo
    refine ⟨_, (pss_cons (ps_fld (pv 0) (pe_callB (call_lenK (K := K) rfl) (by rfl) T.b_len PySem.boot_len (pa_cons (pe_ix (ix_tupK (K := K) rfl) (pv 1) pe_int (fun _ _ => rfl)) pa_nil)) rfl)
    (pss_cons (ps_fld (pv 0) (C8.pe_mk C_Symbols hr (by decide) rfl (pa_cons (pe_ix (ix_tupK (K := K) rfl) (pv 1) pe_int (fun _ _ => rfl)) pa_nil)) rfl)
    (pss_cons (ps_fld (pv 0) (pe_lc (own := [("hue", 6)]) rfl sc_Walk___init__.nd (pi_range1 (by rfl) T.b_range (pa_cons (pe_fldK (K := K) rfl (pv 0) rfl) pa_nil)) (blkOk_by (own := [("hue", 6)]) (N := N_Walk___init__) (sc := defScope s_Walk___init__) (by decide +kernel)) (fun _ _ _ _ _ => (pg_name (i := 6) sc_Walk___init__.nd rfl (by first | exact .inl rfl | exact .inr rfl))) (fun _ _ _ _ _ => pts_nil) (fun _ _ _ _ _ => (pe_op op_rep (pe_lst (pa_cons pe_non pa_nil)) (pe_op op_add (C8.pe_gc rfl T.g_REGISTERS) (pe_callB (call_lenK (K := K) rfl) (by rfl) T.b_len PySem.boot_len (pa_cons (pe_ix (ix_tupK (K := K) rfl) (pv 1) pe_int (fun _ _ => rfl)) pa_nil)))))) rfl)
    (pss_cons (ps_fld (pv 0) (pe_op op_rep (pe_lst (pa_cons pe_non pa_nil)) (pe_fldK (K := K) rfl (pv 0) rfl)) rfl)
    (pss_cons (ps_for PassesOwn.never rfl (pi_list (pv 2)) (pg_tup rfl (pgs_cons (pg_name (i := 3) sc_Walk___init__.nd rfl (by first | exact .inl rfl | exact .inr rfl)) (pgs_cons (pg_name (i := 4) sc_Walk___init__.nd rfl (by first | exact .inl rfl | exact .inr rfl)) pgs_nil))) (pss_cons (ps_set (i := 5) sc_Walk___init__.nd rfl (by first | exact .inl rfl | exact .inr rfl) (pe_ifExp (pt_cmpR op_isN (pv 3) pe_non (nomark _)) (C8.pe_mt0 C_letter hr (by decide) (pe_fldK (K := K) rfl (pv 0) rfl)) (C8.pe_mt C_plain hr (by decide) (pe_fldK (K := K) rfl (pv 0) rfl) (pa_cons (pv 3) pa_nil))))
    (pss_one (ps_for PassesOwn.never rfl (pi_tup (pv 4)) (pg_tup rfl (pgs_cons (pg_name (i := 6) sc_Walk___init__.nd rfl (by first | exact .inl rfl | exact .inr rfl)) (pgs_cons (pg_name (i := 7) sc_Walk___init__.nd rfl (by first | exact .inl rfl | exact .inr rfl)) pgs_nil))) (pss_one (ps_asg (pv 5) (pg_sub (pe_ix (ix_listK (K := K) rfl) (pe_fldK (K := K) rfl (pv 0) rfl) (pv 6) (fun _ _ => rfl)) (pv 7) set_list)))))))
    (pss_one (ps_for PassesOwn.never rfl (pi_list (pe_fldK (K := K) rfl (pv 0) rfl)) (pg_name (i := 8) sc_Walk___init__.nd rfl (by first | exact .inl rfl | exact .inr rfl)) (pss_one (ps_for PassesOwn.never rfl (pi_range1 (by rfl) T.b_range (pa_cons (pe_callB (call_lenK (K := K) rfl) (by rfl) T.b_len PySem.boot_len (pa_cons (pv 8) pa_nil)) pa_nil)) (pg_name (i := 7) sc_Walk___init__.nd rfl (by first | exact .inl rfl | exact .inr rfl)) (pss_one (ps_if (pt_cmpR op_isN (pe_ix (ix_listK (K := K) rfl) (pv 8) (pv 7) (fun _ _ => rfl)) pe_non (nomark _)) (pss_one (ps_asg (C8.pe_mt0 C_letter hr (by decide) (pe_fldK (K := K) rfl (pv 0) rfl)) (pg_sub (pv 8) (pv 7) set_list))) pss_nil))))))))))), ?_⟩
    have na : a ≠ wk := ne_of_none hc.top hw0
    have nva : va ≠ wk := ne_of_none hc.vo hw0
    have nba : ba ≠ wk := ne_of_none hc.ba hw0
    have c4 := hc1.ba
    have hta : ∃ vs, H ta = some (.lst vs) ∧ H0 ta = some (.lst vs) := let ⟨vs, b, _⟩ := htb; ⟨vs, s0 _ _ b, b⟩
    iterate 7 first | refine ⟨_, rfl, ?_⟩ | refine ⟨_, _, rfl, .inr (SqT.of (by repeat (first | assumption | exact upd_same .. | refine u1 (by assumption) ?_ | refine um (by assumption) ?_ | refine sa (by assumption) ?_))), ?_⟩ | refine ⟨_, _, _, _, rfl, rfl, SqT.of (by repeat (first | assumption | exact upd_same .. | refine u1 (by assumption) ?_ | refine um (by assumption) ?_ | refine sa (by assumption) ?_)), atI_nat (j := 0) rfl, ?_⟩ | refine ⟨_, _, _, _, rfl, rfl, SqT.of (by repeat (first | assumption | exact upd_same .. | refine u1 (by assumption) ?_ | refine um (by assumption) ?_ | refine sa (by assumption) ?_)), atI_nat (j := 1) rfl, ?_⟩ | refine ⟨_, _, _, _, rfl, (by repeat (first | assumption | exact upd_same .. | refine u1 (by assumption) ?_ | refine um (by assumption) ?_ | refine sa (by assumption) ?_)), T.cl_Walk, T.no_Walk_hues, of_decide_eq_true rfl, ?_⟩
    intro sy dxs nsy ndxs nes
    have e1 : Same H0 (upd H wk (.ins (CW K) dx [("hues", nV C.votes.length)])) := same_mut s0 hw0
    have w1 : upd H wk (.ins (CW K) dx [("hues", nV C.votes.length)]) wk = some (.ins (CW K) dx [("hues", nV C.votes.length)]) := upd_same
    have eh : HO.ins (He.ga K "Walk") dx (putF "hues" (V.int ((List.map nV C.votes).length : Nat)) []) = .ins (CW K) dx [("hues", nV C.votes.length)] := by
      rw [List.length_map]; rfl
    rw [eh] at nsy ndxs ⊢
    generalize upd H wk (.ins (CW K) dx [("hues", nV C.votes.length)]) = X1 at nsy ndxs e1 w1 ⊢
    refine ⟨sy, dxs, _, rfl, upd_same, fun fo nu H2 nfo nnu f1 f2 f3 fr1 => ⟨rfl, ?_⟩⟩
    have sd : Same X1 (upd (upd X1 dxs (.own sy)) sy (.ins (CSy K) dxs [])) := (same_upd ndxs).trans (same_upd (by rw [upd_ne nes.symm]; exact nsy))
    have e2 : Same X1 H2 := fr1.same sd fun a ha => by rw [List.mem_singleton.mp ha]; exact nsy
    have w2 := e2 _ _ w1
    have e20 := e1.trans e2
    have nfo1 : X1 fo = none := same_none sd nfo
    have nnu1 : X1 nu = none := same_none sd nnu
    iterate 5 first | refine ⟨_, rfl, ?_⟩ | refine ⟨_, _, _, _, _, rfl, (by repeat (first | assumption | exact upd_same .. | refine u1 (by assumption) ?_ | refine um (by assumption) ?_ | refine sa (by assumption) ?_)), T.cl_Walk, T.no_Walk_hues, by rfl, ?_⟩ | refine ⟨_, _, _, _, rfl, (by repeat (first | assumption | exact upd_same .. | refine u1 (by assumption) ?_ | refine um (by assumption) ?_ | refine sa (by assumption) ?_)), T.cl_Walk, T.no_Walk_symbols, of_decide_eq_true rfl, ?_⟩
    have e3 : Same H0 (upd H2 wk (.ins (CW K) dx [("hues", nV C.votes.length), ("symbols", .ref sy)])) := same_mut e20 hw0
    have w3 : upd H2 wk (.ins (CW K) dx [("hues", nV C.votes.length), ("symbols", .ref sy)]) wk = _ := upd_same
    have nfw : fo ≠ wk := (ne_of_none w1 nfo1).symm
    have nnw : nu ≠ wk := (ne_of_none w1 nnu1).symm
    have nsw : sy ≠ wk := (ne_of_none w1 nsy).symm
    have g1 : upd H2 wk (.ins (CW K) dx [("hues", nV C.votes.length), ("symbols", .ref sy)]) sy = _ := um nsw f1
    have g2 : upd H2 wk (.ins (CW K) dx [("hues", nV C.votes.length), ("symbols", .ref sy)]) fo = _ := um nfw f2
    have g3 : upd H2 wk (.ins (CW K) dx [("hues", nV C.votes.length), ("symbols", .ref sy)]) nu = _ := um nnw f3
    have eh2 : upd H2 wk (HO.ins (He.ga K "Walk") dx (putF "symbols" (V.ref sy) [("hues", nV C.votes.length)])) = upd H2 wk (.ins (CW K) dx [("hues", nV C.votes.length), ("symbols", .ref sy)]) := rfl
    rw [eh2]
    generalize upd H2 wk (.ins (CW K) dx [("hues", nV C.votes.length), ("symbols", .ref sy)]) = X2 at e3 w3 g1 g2 g3 ⊢
    have hcx := hc.same e3
    have d1 := hcx.top
    have d4 := hcx.ba
    have z1 : 1 ≤ C.votes.length := ok.h1
    have z5 : C.votes.length ≤ 5 := ok.h5
    have z3 : C.bank.length ≤ 3 := ok.b3
    refine ⟨by omega, by omega, fun D hD => ?_⟩
    rw [Int.toNat_natCast]
    have hmb : (C.bank.map nV).length = C.bank.length := List.length_map ..
    refine lc_range (lo := 0) (n := C.votes.length) (fun i H' => ∃ rows : List Addr, rows.length = i ∧ rows.Nodup ∧ H' D = some (.lst (rows.map V.ref)) ∧ (∀ r ∈ rows, H' r = some (.lst ((List.replicate (8 + C.bank.length) (none : Option Nat)).map oV)) ∧ X2 r = none ∧ r ≠ D) ∧ Same X2 H')
      ⟨[], rfl, List.nodup_nil, upd_same, fun r h => (by cases h), same_upd hD⟩ (fun i H' hi e => ?_) (fun H' e => ?_)
    · obtain ⟨rows, r1, r2, r3, r4, r5⟩ := e
      have q1 := r5 _ _ d1
      have q4 := r5 _ _ d4
      iterate 7 first | refine ⟨_, rfl, ?_⟩ | refine ⟨_, _, rfl, rfl, ?_⟩ | refine ⟨rfl, ?_⟩ | refine ⟨_, _, rfl, .inr (SqT.of (by repeat (first | assumption | exact upd_same .. | refine u1 (by assumption) ?_ | refine um (by assumption) ?_ | refine sa (by assumption) ?_))), ?_⟩ | refine ⟨_, _, _, _, rfl, rfl, SqT.of (by repeat (first | assumption | exact upd_same .. | refine u1 (by assumption) ?_ | refine um (by assumption) ?_ | refine sa (by assumption) ?_)), atI_nat (j := 3) rfl, ?_⟩ | refine ⟨le_line (of_decide_eq_true rfl), fun t ht => ?_⟩ | refine ⟨_, _, _, rfl, rfl, upd_same, by omega, by omega, le_line (by first | (simp; done) | (simp; omega)), fun t ht => ?_⟩
      rename_i t1 ht1
      have ez : ((8 : Int) + ((List.map nV C.bank).length : Nat)).toNat = 8 + C.bank.length := by rw [hmb]; omega
      rw [ez, rep_none]
      have bl := big_line
      have ntD : t ≠ D := fun z => by have := u1 (o := .lst [V.non]) ht1 r3; rw [← z, ht] at this; cases this
      refine ⟨_, u1 ht (u1 ht1 r3), by rw [List.length_map]; omega, rows ++ [t], by simp [r1], nd_snoc r2 fun m => ?_, by rw [upd_same, List.map_append]; rfl, fun r hm => ?_, ?_⟩
      · have := u1 (o := .lst [V.non]) ht1 (r4 t m).1
        rw [ht] at this; cases this
      · rcases List.mem_append.mp hm with z | z
        · obtain ⟨y1, y2, y3⟩ := r4 r z
          exact ⟨(upd_ne y3).trans (u1 ht (u1 ht1 y1)), y2, y3⟩
        · rw [List.mem_singleton.mp z]
          exact ⟨(upd_ne ntD).trans upd_same, same_none (r5.trans (same_upd ht1)) ht, ntD⟩
      · exact same_mut ((r5.trans (same_upd ht1)).trans (same_upd ht)) hD
    · obtain ⟨rows, r1, r2, r3, r4, r5⟩ := e
      have w4 := r5 _ _ w3
      have h1 := r5 _ _ g1
      have h2 := r5 _ _ g2
      have h3 := r5 _ _ g3
      have e4 := e3.trans r5
      iterate 10 first | refine ⟨_, rfl, ?_⟩ | refine ⟨_, _, _, _, _, rfl, (by repeat (first | assumption | exact upd_same .. | refine u1 (by assumption) ?_ | refine um (by assumption) ?_ | refine sa (by assumption) ?_)), T.cl_Walk, T.no_Walk_hues, by rfl, ?_⟩ | refine ⟨_, _, _, _, rfl, (by repeat (first | assumption | exact upd_same .. | refine u1 (by assumption) ?_ | refine um (by assumption) ?_ | refine sa (by assumption) ?_)), T.cl_Walk, T.no_Walk_spots, of_decide_eq_true rfl, ?_⟩ | refine ⟨_, _, _, _, rfl, (by repeat (first | assumption | exact upd_same .. | refine u1 (by assumption) ?_ | refine um (by assumption) ?_ | refine sa (by assumption) ?_)), T.cl_Walk, T.no_Walk_offered, of_decide_eq_true rfl, ?_⟩ | refine ⟨le_line (of_decide_eq_true rfl), fun t ht => ?_⟩ | refine ⟨_, _, _, rfl, rfl, upd_same, by omega, by omega, le_line (by first | (simp; done) | (simp; omega)), fun t ht => ?_⟩
      rename_i t1 ht1
      rw [Int.toNat_natCast, rep_none]
      have nDw : D ≠ wk := (ne_of_none w3 hD).symm
      have W0 : WalkP K H0 (upd (upd (upd (upd H' wk (.ins (CW K) dx [("hues", nV C.votes.length), ("symbols", .ref sy), ("spots", .ref D)])) t1 (.lst [.non])) t (.lst ((List.replicate C.votes.length (none : Option Nat)).map oV))) wk
          (.ins (CW K) dx [("hues", nV C.votes.length), ("symbols", .ref sy), ("spots", .ref D), ("offered", .ref t)])) wk dx sy dxs fo nu D t rows C.size C.votes.length (8 + C.bank.length) (inF C.bank) (fun _ _ => False) [] 1 := by
        have e5 : Same H0 (upd H' wk (.ins (CW K) dx [("hues", nV C.votes.length), ("symbols", .ref sy), ("spots", .ref D)])) := same_mut e4 hw0
        have tD : t ≠ D := (ne_of_none (u1 (o := .lst [.non]) ht1 (um (o := .ins (CW K) dx [("hues", nV C.votes.length), ("symbols", .ref sy), ("spots", .ref D)]) nDw r3)) ht).symm
        have rw' : ∀ r ∈ rows, r ≠ wk := fun r hm z => by have := (r4 r hm).2.1; rw [z, w3] at this; cases this
        have tr : t ∉ rows := fun m => (ne_of_none (u1 (o := .lst [.non]) ht1 (um (o := .ins (CW K) dx [("hues", nV C.votes.length), ("symbols", .ref sy), ("spots", .ref D)]) (rw' t m) (r4 t m).1)) ht) rfl
        have tw : t ≠ wk := (ne_of_none (u1 (o := .lst [.non]) ht1 (upd_same (H := H') (a := wk) (o := .ins (CW K) dx [("hues", nV C.votes.length), ("symbols", .ref sy), ("spots", .ref D)]))) ht).symm
        refine ⟨upd_same, ⟨um nsw (u1 ht (u1 ht1 (um nsw h1))), um nfw (u1 ht (u1 ht1 (um nfw h2))), ⟨[], um nnw (u1 ht (u1 ht1 (um nnw h3))), by simp⟩, by simp, List.nodup_nil⟩, um nDw (u1 ht (u1 ht1 (um nDw r3))), r1, r2, fun i r hr' => ?_, um tw upd_same, fun m => (r4 D m).2.2 rfl, tr, tD, by simp, same_mut ((e5.trans (same_upd ht1)).trans (same_upd ht)) hw0, fun x hx => ?_⟩
        · have hm := List.mem_of_getElem? hr'
          refine ⟨_, um (rw' r hm) (u1 ht (u1 ht1 (um (rw' r hm) (r4 r hm).1))), by simp, fun a x hx => ?_, fun a z => z.elim⟩
          rw [List.getElem?_replicate] at hx
          split at hx <;> cases hx
        · rcases List.mem_cons.mp hx with z | z
          · rw [z]; exact hw0
          · rcases List.mem_cons.mp z with z | z
            · rw [z]; exact same_none e1 nfo1
            · rcases List.mem_cons.mp z with z | z
              · rw [z]; exact same_none e1 nnu1
              · rcases List.mem_cons.mp z with z | z
                · rw [z]; exact same_none (e5.trans (same_upd ht1)) ht
                · exact same_none e3 (r4 x z).2.1
      have eh3 : HO.ins (He.ga K "Walk") dx (putF "offered" (V.ref t) (putF "spots" (V.ref D) [("hues", nV C.votes.length), ("symbols", V.ref sy)])) = .ins (CW K) dx [("hues", nV C.votes.length), ("symbols", .ref sy), ("spots", .ref D), ("offered", .ref t)] := rfl
      have eh4 : HO.ins (He.ga K "Walk") dx (putF "spots" (V.ref D) [("hues", nV C.votes.length), ("symbols", V.ref sy)]) = .ins (CW K) dx [("hues", nV C.votes.length), ("symbols", .ref sy), ("spots", .ref D)] := rfl
      rw [eh3, eh4]
      generalize upd (upd (upd (upd H' wk _) t1 _) t _) wk _ = X3 at W0 ⊢
      obtain ⟨gs, hgs, hgs2⟩ := htb
      have hgx := W0.same _ _ hgs
      refine ⟨⟨_, SqL.of hgx⟩, ?_⟩
      refine for_list (xs := gs) (fun i σ H' => (∃ l1 l2 l3 l4 l5 l6, σ = [some (V.ref wk), some (.ref a), some (.ref ta), l1, l2, l3, l4, l5, l6]) ∧
        ∃ tab, WalkP K H0 H' wk dx sy dxs fo nu D t rows C.size C.votes.length (8 + C.bank.length) (inF C.bank) (fun j b => ∃ m < i, ∃ g, G[m]? = some g ∧ (j, b) ∈ g.2) tab (1 + i))
        ⟨⟨_, _, _, _, _, _, rfl⟩, [], W0.sub fun _ _ _ z => by obtain ⟨m, hm, _⟩ := z; exact absurd hm (Nat.not_lt_zero _)⟩ (fun i σ H' _ p => ?_) (fun i v σ H' hi p => ?_) (fun σ H' p => ?_)
      · obtain ⟨_, tab, W1⟩ := p
        exact SqL.of (W1.same _ _ hgs)
      · obtain ⟨⟨l1, l2, l3, l4, l5, l6, rfl⟩, tab, W1⟩ := p
        obtain ⟨g, hg, p1, sp1, vs1, rfl, hp1, hsp1, hall⟩ := hgs2.get hi
        have hp2 := W1.same _ _ hp1
        have hsp2 := W1.same _ _ hsp1
        have hob := W1.ob
        have hsya := W1.sya.ob
        have hgl : i < G.length := (List.getElem?_eq_some_iff.mp hg).1
        have htf := tok.few
        iterate 9 first | refine iteF ?_ | refine ⟨_, rfl, ?_⟩ | refine ⟨rfl, ?_⟩ | refine ⟨_, _, rfl, SqT.of (by repeat (first | assumption | exact upd_same .. | refine u1 (by assumption) ?_ | refine um (by assumption) ?_ | refine sa (by assumption) ?_)), rfl, _, _, rfl, _, _, rfl, rfl, ?_⟩ | refine ⟨_, _, _, _, _, rfl, (by repeat (first | assumption | exact upd_same .. | refine u1 (by assumption) ?_ | refine um (by assumption) ?_ | refine sa (by assumption) ?_)), T.cl_Walk, T.no_Walk_symbols, by rfl, ?_⟩ | refine ⟨_, _, _, rfl, (by repeat (first | assumption | exact upd_same .. | refine u1 (by assumption) ?_ | refine um (by assumption) ?_ | refine sa (by assumption) ?_)), by rfl, ?_⟩
        refine ⟨sy, dxs, fo, nu, C.size, tab, 1 + i, g.1, rfl, W1.sya, by omega, fun sN tab' H4 x1 x2 x3 S4 f4 => ?_⟩
        have W2 := W1.ext S4 x1 f4 fun k hk => W1.tk k (x2 k hk)
        have hsp4 := W2.same _ _ hsp1
        refine ⟨_, rfl, ?_⟩
        refine ⟨_, rfl, ?_⟩
        refine ⟨⟨_, SqT.of hsp4⟩, ?_⟩
        refine for_tup (xs := vs1) (fun q σ H' => (∃ l1 l2, σ = [some (V.ref wk), some (.ref a), some (.ref ta), some (nV g.1), some (.ref sp1), some (nV sN), l1, l2, l6]) ∧
          WalkP K H0 H' wk dx sy dxs fo nu D t rows C.size C.votes.length (8 + C.bank.length) (inF C.bank) (fun j b => (∃ m < i, ∃ g, G[m]? = some g ∧ (j, b) ∈ g.2) ∨ ∃ m < q, g.2[m]? = some (j, b)) tab' (1 + i + 1))
          ⟨⟨_, _, rfl⟩, W2.sub fun j b _ z => z.elim id fun z => by obtain ⟨m, hm, _⟩ := z; exact absurd hm (Nat.not_lt_zero _)⟩ (fun q σ H' _ p => SqT.of (p.2.same _ _ hsp1)) (fun q v σ H' hq p => ?_) (fun σ H' p => ?_)
        · obtain ⟨⟨l1, l2, rfl⟩, W3⟩ := p
          obtain ⟨x, hx, pq, rfl, hpq⟩ := hall.get hq
          have hpq2 := W3.same _ _ hpq
          have hob3 := W3.ob
          have hsp3 := W3.spa
          obtain ⟨xo1, xo2, xo3⟩ := tok.of g (List.mem_of_getElem? hg) x (List.mem_of_getElem? hx)
          have hnr := W3.nr
          have hxl : x.1 < rows.length := by rw [hnr]; exact xo1
          have hri : rows[x.1]? = some rows[x.1] := List.getElem?_eq_getElem hxl
          have hrr : (rows.map V.ref)[x.1]? = some (.ref rows[x.1]) := by rw [List.getElem?_map, hri]; rfl
          obtain ⟨os, o1, o2, o3, o4⟩ := W3.row x.1 _ hri
          iterate 8 first | refine ⟨_, rfl, ?_⟩ | refine ⟨_, _, rfl, SqT.of (by repeat (first | assumption | exact upd_same .. | refine u1 (by assumption) ?_ | refine um (by assumption) ?_ | refine sa (by assumption) ?_)), rfl, _, _, rfl, _, _, rfl, rfl, ?_⟩ | refine ⟨_, _, _, _, _, rfl, (by repeat (first | assumption | exact upd_same .. | refine u1 (by assumption) ?_ | refine um (by assumption) ?_ | refine sa (by assumption) ?_)), T.cl_Walk, T.no_Walk_spots, by rfl, ?_⟩ | refine ⟨_, _, _, _, rfl, rfl, SqL.of (by repeat (first | assumption | exact upd_same .. | refine u1 (by assumption) ?_ | refine um (by assumption) ?_ | refine sa (by assumption) ?_)), atI_nat (by assumption), ?_⟩ | refine ⟨_, _, _, _, rfl, rfl, (by repeat (first | assumption | exact upd_same .. | refine u1 (by assumption) ?_ | refine um (by assumption) ?_ | refine sa (by assumption) ?_)), ixNn (by first | assumption | omega | (simp; omega)), ?_⟩
          have W4 := W3.set (b := x.2) (x := sN) xo2 hri o1 (by rw [x3]; show _ = some (Th.num (ini C.bank x.2)); rw [xo3])
          rw [List.map_set] at W4
          refine ⟨⟨_, _, rfl⟩, W4.sub fun j b hj z => ?_⟩
          rcases z with z | ⟨m, hm, hm2⟩
          · exact .inl (.inl z)
          · by_cases em : m = q
            · subst em
              rw [hx] at hm2
              cases hm2
              exact .inr ⟨rfl, rfl⟩
            · exact .inl (.inr ⟨m, by omega, hm2⟩)
        · obtain ⟨⟨l1, l2, rfl⟩, W3⟩ := p
          refine ⟨⟨_, _, _, _, _, _, rfl⟩, tab', ?_⟩
          rw [show 1 + (i + 1) = 1 + i + 1 by omega]
          refine W3.sub fun j b hj z => ?_
          obtain ⟨m, hm, g', hg', hm2⟩ := z
          by_cases em : m = i
          · subst em
            rw [hg] at hg'
            cases hg'
            obtain ⟨m2, h2⟩ := List.mem_iff_getElem?.mp hm2
            exact .inr ⟨m2, by rw [hall.1]; exact (List.getElem?_eq_some_iff.mp h2).1, h2⟩
          · exact .inl ⟨m, by omega, g', hg', hm2⟩
      · obtain ⟨⟨l1, l2, l3, l4, l5, l6, rfl⟩, tab, W1⟩ := p
        have WA := W1.whole fun i hi b hb => by
          obtain ⟨g, hg, hm⟩ := tok.all i hi b hb
          obtain ⟨m, hm2⟩ := List.mem_iff_getElem?.mp hg
          exact ⟨m, by rw [hgs2.1]; exact (List.getElem?_eq_some_iff.mp hm2).1, g, hm2, hm⟩
        have hk := k H' ⟨dx, sy, dxs, fo, nu, D, t, rows, tab, by rw [show G.length + 1 = 1 + gs.length by rw [hgs2.1]; omega]; exact WA⟩
        have hob := WA.ob
        have hsp := WA.spa
        iterate 3 first | refine ⟨_, rfl, ?_⟩ | refine ⟨_, _, _, _, _, rfl, (by repeat (first | assumption | exact upd_same .. | refine u1 (by assumption) ?_ | refine um (by assumption) ?_ | refine sa (by assumption) ?_)), T.cl_Walk, T.no_Walk_spots, by rfl, ?_⟩
        refine ⟨⟨_, SqL.of hsp⟩, ?_⟩
        refine for_list (xs := rows.map V.ref) (fun i σ H2 => (∃ l1 l2 l3 l4 l5 l6, σ = [some (V.ref wk), some (.ref a), some (.ref ta), l1, l2, l3, l4, l5, l6]) ∧ H2 = H') ⟨⟨_, _, _, _, _, _, rfl⟩, rfl⟩ (fun i σ H2 _ p => by rw [p.2]; exact SqL.of hsp) (fun i v σ H2 hi p => ?_) (fun σ H2 p => ?_)
        · obtain ⟨⟨l1, l2, l3, l4, l5, l6, rfl⟩, rfl⟩ := p
          rw [List.getElem?_map] at hi
          obtain ⟨r, hri, rfl⟩ := Option.map_eq_some_iff.mp hi
          obtain ⟨ss, s1, s2, s3⟩ := WA.row i r hri
          have hsl : (ss.map nV).length = 8 + C.bank.length := by rw [List.length_map, s2]
          iterate 3 first | refine ⟨_, rfl, ?_⟩ | refine ⟨_, _, rfl, .inl (SqL.of (by repeat (first | assumption | exact upd_same .. | refine u1 (by assumption) ?_ | refine um (by assumption) ?_ | refine sa (by assumption) ?_))), ?_⟩
          refine ⟨by omega, by omega, ?_⟩
          rw [Int.toNat_natCast]
          refine for_range (lo := 0) (n := (ss.map nV).length) (fun i σ H3 => (∃ l1 l2 l3 l4 l5, σ = [some (V.ref wk), some (.ref a), some (.ref ta), l1, l2, l3, l4, l5, some (.ref r)]) ∧ H3 = H2) ⟨⟨_, _, _, _, _, rfl⟩, rfl⟩ (fun q σ H3 hq p => ?_) (fun σ H3 p => ?_)
          · obtain ⟨⟨l1, l2, l3, l4, l5, rfl⟩, rfl⟩ := p
            have hsq : ss[q]? = some ss[q] := List.getElem?_eq_getElem (by omega)
            have hsq2 : (ss.map nV)[q]? = some (nV ss[q]) := by rw [List.getElem?_map, hsq]; rfl
            rw [Int.zero_add]
            iterate 6 first | refine iteF ?_ | refine ⟨_, rfl, ?_⟩ | refine ⟨rfl, ?_⟩ | refine ⟨_, _, _, _, rfl, rfl, SqL.of (by repeat (first | assumption | exact upd_same .. | refine u1 (by assumption) ?_ | refine um (by assumption) ?_ | refine sa (by assumption) ?_)), atI_nat (by assumption), ?_⟩
            exact ⟨⟨_, _, _, _, _, rfl⟩, rfl⟩
          · obtain ⟨⟨l1, l2, l3, l4, l5, rfl⟩, rfl⟩ := p
            exact ⟨⟨_, _, _, _, _, _, rfl⟩, rfl⟩
        · obtain ⟨⟨l1, l2, l3, l4, l5, l6, rfl⟩, rfl⟩ := p
          exact hk
end Hw
namespace Hw
open PySem PySem.Spec PyProof.Rows L2
variable {P : Program} {w : World} {K : PySem.W.Frag} {mg : Str → Option Value} {base : Heap}
def EndAt (K : PySem.W.Frag) (H : Hp) (e : Addr) (wd : Str) (ad : V) (gs : List V) : Prop := ∃ dx gl wv, H e = some (.ins (CE K) dx [("word", .str wd), ("address", ad), ("goals", .ref gl), ("walk", wv)]) ∧ H gl = some (.lst gs)
theorem EndAt.same {H H' : Hp} {e : Addr} {wd : Str} {ad : V} {gs : List V} (s : Same H H') (h : EndAt K H e wd ad gs) : EndAt K H' e wd ad gs := let ⟨dx, gl, wv, a, b⟩ := h; ⟨dx, gl, wv, s _ _ a, s _ _ b⟩
theorem WalkA.same {H0 H : Hp} {wk : Addr} {size h many : Nat} {s : SS Th} {bud : Nat} (W : WalkA K H0 H wk size h many s bud) : Same H0 H := let ⟨_, _, _, _, _, _, _, _, _, W⟩ := W; W.same
theorem WalkA.ob {H0 H : Hp} {wk : Addr} {size h many : Nat} {s : SS Th} {bud : Nat} (W : WalkA K H0 H wk size h many s bud) : ∃ dx fs, H wk = some (.ins (CW K) dx fs) ∧ (∀ m : Str, m ≠ "hues" → m ≠ "symbols" → m ≠ "spots" → m ≠ "offered" → fs.lookup m = none) := by
  obtain ⟨_, _, _, _, _, _, _, _, _, W⟩ := W
  refine ⟨_, _, W.ob, fun m h1 h2 h3 h4 => ?_⟩
  simp only [List.lookup]
  rw [beq_eq_false_iff_ne.mpr h1, beq_eq_false_iff_ne.mpr h2, beq_eq_false_iff_ne.mpr h3, beq_eq_false_iff_ne.mpr h4]
theorem same_mk {H1 : Hp} {e dx : Addr} {o1 o2 : HO} (ne : H1 e = none) (nd : H1 dx = none) (nee : dx ≠ e) : Same H1 (upd (upd (upd H1 dx (.own e)) e o1) e o2) := by
  rw [upd_upd]
  exact (same_upd nd).trans (same_upd (by rw [upd_ne nee.symm]; exact ne))
abbrev s_settled : Stmt := top 51
abbrev N_settled : List Str := ["walk", "cell", "here", "word"]
theorem sc_settled : FnScope N_settled ["walk", "cell", "here"] (defScope s_settled) := ⟨rfl, rfl, rfl, by decide +kernel, rfl, by decide +kernel, by decide +kernel⟩
def sp_settled (K : PySem.W.Frag) : Sp := fun vs H Q _ => ∃ (H0 : Hp) (wk q : Addr) (c : Cell) (size h bank d : Nat) (s : SS Th) (bud : Nat), vs = [.ref wk, .ref q, nV d] ∧ WalkA K H0 H wk size h (8 + bank) s bud ∧ H0 q = some (.tup (cellV c)) ∧ c.hue = none ∧ c.Ok h size bank ∧
  1 ≤ h ∧ h ≤ 5 ∧ bud < 50000 ∧ match step .num .take h (8 + bank) s c with
    | .go s' => ∀ H', WalkA K H0 H' wk size h (8 + bank) s' (bud + 1) → Q .non H'
    | .bad _ => ∀ e H', Same H0 H' → (∃ wd, wd ≠ ("" : Str) ∧ EndAt K H' e wd (nV d) []) → Q (.ref e) H'
    | .stop => ∀ e H', Same H0 H' → EndAt K H' e "" (nV d) [] → Q (.ref e) H'
theorem WalkA.bud {H0 H : Hp} {wk : Addr} {size h many : Nat} {s : SS Th} {bud bud' : Nat} (W : WalkA K H0 H wk size h many s bud) (le : bud ≤ bud') : WalkA K H0 H wk size h many s bud' :=
  let ⟨a, b, c, d, e, f, g, i, j, W⟩ := W; ⟨a, b, c, d, e, f, g, i, j, W.bud le⟩
theorem C_settled (T : Txt K mg) : C8.Cal P w K mg base 4 "settled" (sp_settled K) [] := by
  have C_take := C_take (P := P) (w := w) (base := base) T
  have C_agreed := C_agreed (P := P) (w := w) (base := base) T
  have C_are_alike := C_are_alike (P := P) (w := w) (base := base) T
  have C_Ended := C_Ended (P := P) (w := w) (base := base) T
  refine cal (N := N_settled) (ps := ["walk", "cell", "here"]) T.d_settled (fun _ _ _ _ _ _ us hl => match us, hl with | [_, _, _], _ => rfl) sc_settled (fun vs H Q E h => ?_) (fun f cdv A outer s H vs Q E hr h => ?_)
  · obtain ⟨H0, wk, q, c, size, hh, bank, d, s, bud, rfl, _⟩ := h
    rfl
  · obtain ⟨H0, wk, q, c, size, hh, bank, d, s, bud, rfl, W, hq0, hi, ok, h1, h5, hb, k⟩ := h
    have hq := W.same _ _ hq0
    obtain ⟨dx, fs, hob, hno⟩ := W.ob
    have hno1 := hno "take" (by decide) (by decide) (by decide) (by decide)
    have hno2 := hno "agreed" (by decide) (by decide) (by decide) (by decide)
    have hno3 := hno "are_alike" (by decide) (by decide) (by decide) (by decide)
    refine ⟨_, (pss_cons (ps_set (i := 3) sc_settled.nd rfl (by first | exact .inl rfl | exact .inr rfl) (pe_ix (ix_tupK (K := K) rfl) (pv 1) pe_int (fun _ _ => rfl)))
    (pss_cons (ps_if (pt_cmpR op_eq (pv 3) pe_str (nomark _)) (pss_one (ps_expr (C8.pe_mt C_take hr (by decide) (pv 0) (pa_cons (pv 1) pa_nil)))) (pss_one (ps_if (pt_cmpR op_eq (pv 3) pe_str (nomark _)) (pss_one ps_never) (pss_one (ps_if (pt_cmpR op_eq (pv 3) pe_str (nomark _)) (pss_one (ps_if (pt_cmpR op_isN (C8.pe_mt C_agreed hr (by decide) (pv 0) (pa_cons (pe_ix (ix_tupK (K := K) rfl) (pv 1) pe_int (fun _ _ => rfl)) pa_nil)) pe_non (nomark _)) (pss_one (ps_ret (C8.pe_mk C_Ended hr (by decide) rfl (pa_cons pe_str (pa_cons (pv 2) (pa_cons (pe_lst pa_nil) (pa_cons (pv 0) pa_nil))))))) pss_nil)) (pss_one (ps_if (pt_cmpR op_eq (pv 3) pe_str (nomark _)) (pss_one (ps_if (pt_not (pt_val (C8.pe_mt0 C_are_alike hr (by decide) (pv 0)))) (pss_one (ps_ret (C8.pe_mk C_Ended hr (by decide) rfl (pa_cons pe_str (pa_cons (pv 2) (pa_cons (pe_lst pa_nil) (pa_cons (pv 0) pa_nil))))))) pss_nil)) (pss_one (ps_ret (C8.pe_mk C_Ended hr (by decide) rfl (pa_cons pe_str (pa_cons (pv 2) (pa_cons (pe_ifExp (pt_cmpR op_eq (pv 3) pe_str (nomark _)) (pe_lst (pa_cons (pe_ix (ix_tupK (K := K) rfl) (pv 1) pe_int (fun _ _ => rfl)) pa_nil)) (pe_lst pa_nil)) (pa_cons (pv 0) pa_nil))))))))))))))
    (pss_one (ps_ret pe_non)))), ?_⟩
    cases c with
    | take b x =>
      iterate 7 first | refine iteT ?_ | refine ⟨_, rfl, ?_⟩ | refine ⟨rfl, ?_⟩ | refine ⟨_, _, _, _, rfl, rfl, SqT.of (by repeat (first | assumption | exact upd_same .. | refine u1 (by assumption) ?_ | refine um (by assumption) ?_ | refine sa (by assumption) ?_)), atI_nat (j := 0) rfl, ?_⟩
      refine ⟨_, _, _, rfl, hob, hno1, ?_⟩
      refine ⟨_, rfl, ?_⟩
      refine ⟨H0, wk, q, b, x, size, hh, bank, s, _, bud, rfl, W, hq0, ok, h5, hb, rfl, fun H' W' => ?_⟩
      exact k _ W'
    | sho p x =>
      obtain ⟨o1, o2, o3⟩ := ok
      iterate 15 first | refine iteT ?_ | refine iteF ?_ | refine ⟨_, rfl, ?_⟩ | refine ⟨rfl, ?_⟩ | refine ⟨_, _, _, _, rfl, rfl, SqT.of (by repeat (first | assumption | exact upd_same .. | refine u1 (by assumption) ?_ | refine um (by assumption) ?_ | refine sa (by assumption) ?_)), atI_nat (j := 0) rfl, ?_⟩
      refine ⟨_, _, _, rfl, hob, hno2, ?_⟩
      iterate 2 first | refine ⟨_, rfl, ?_⟩ | refine ⟨_, _, _, _, rfl, rfl, SqT.of (by repeat (first | assumption | exact upd_same .. | refine u1 (by assumption) ?_ | refine um (by assumption) ?_ | refine sa (by assumption) ?_)), atI_nat (j := 2) rfl, ?_⟩
      refine ⟨H0, wk, x, size, hh, bank, s, bud, rfl, W, o2, o3, h5, fun H' W' => ⟨fun e n => ?_, fun e => ?_⟩⟩
      · simp only [step, e] at k
        iterate 3 first | refine iteF ?_ | refine ⟨_, rfl, ?_⟩ | refine ⟨rfl, ?_⟩
        exact k _ (W'.bud (Nat.le_succ _))
      · obtain ⟨u, hu⟩ : ∃ u, unlike ((List.range x).map s.S) = some u := by
          cases e2 : unlike ((List.range x).map s.S) with
          | none => exact absurd e2 e
          | some u => exact ⟨u, rfl⟩
        simp only [step, hu] at k
        iterate 6 first | refine iteT ?_ | refine ⟨_, rfl, ?_⟩ | refine ⟨rfl, ?_⟩ | refine ⟨le_line (of_decide_eq_true rfl), fun t ht => ?_⟩
        intro e dxe ne nde nee
        have sm := same_mk (o1 := .ins (CE K) dxe []) (o2 := .ins (CE K) dxe [("word", .str "slots"), ("address", nV d), ("goals", .ref t), ("walk", .ref wk)]) ne nde nee
        exact ⟨e, dxe, _, _, _, _, rfl, upd_same, rfl, k e _ ((W'.same.trans (same_upd ht)).trans sm) ⟨"slots", by decide, dxe, t, _, upd_same, sm _ _ upd_same⟩⟩
    | mark =>
      iterate 19 first | refine iteT ?_ | refine iteF ?_ | refine ⟨_, rfl, ?_⟩ | refine ⟨rfl, ?_⟩ | refine ⟨_, _, _, _, rfl, rfl, SqT.of (by repeat (first | assumption | exact upd_same .. | refine u1 (by assumption) ?_ | refine um (by assumption) ?_ | refine sa (by assumption) ?_)), atI_nat (j := 0) rfl, ?_⟩
      refine ⟨_, _, _, rfl, hob, hno3, ?_⟩
      refine ⟨H0, wk, size, hh, bank, s, bud, rfl, W, h1, h5, fun H' W' => ?_⟩
      cases e2 : marked hh (8 + bank) s.F with
      | none =>
        simp only [step, e2] at k
        iterate 2 first | refine iteF ?_ | refine ⟨_, rfl, ?_⟩
        exact k _ (W'.bud (Nat.le_succ _))
      | some u =>
        simp only [step, e2] at k
        iterate 5 first | refine iteT ?_ | refine ⟨_, rfl, ?_⟩ | refine ⟨le_line (of_decide_eq_true rfl), fun t ht => ?_⟩
        intro e dxe ne nde nee
        have sm := same_mk (o1 := .ins (CE K) dxe []) (o2 := .ins (CE K) dxe [("word", .str "mark"), ("address", nV d), ("goals", .ref t), ("walk", .ref wk)]) ne nde nee
        exact ⟨e, dxe, _, _, _, _, rfl, upd_same, rfl, k e _ ((W'.same.trans (same_upd ht)).trans sm) ⟨"mark", by decide, dxe, t, _, upd_same, sm _ _ upd_same⟩⟩
    | stop =>
      iterate 25 first | refine iteF ?_ | refine ⟨_, rfl, ?_⟩ | refine ⟨rfl, ?_⟩ | refine ⟨_, _, _, _, rfl, rfl, SqT.of (by repeat (first | assumption | exact upd_same .. | refine u1 (by assumption) ?_ | refine um (by assumption) ?_ | refine sa (by assumption) ?_)), atI_nat (j := 0) rfl, ?_⟩ | refine ⟨le_line (of_decide_eq_true rfl), fun t ht => ?_⟩
      intro e dxe ne nde nee
      have sm := same_mk (o1 := .ins (CE K) dxe []) (o2 := .ins (CE K) dxe [("word", .str ""), ("address", nV d), ("goals", .ref t), ("walk", .ref wk)]) ne nde nee
      exact ⟨e, dxe, _, _, _, _, rfl, upd_same, rfl, k e _ ((W.same.trans (same_upd ht)).trans sm) ⟨dxe, t, _, upd_same, sm _ _ upd_same⟩⟩
    | _ => cases hi
abbrev s_walked : Stmt := top 52
abbrev N_walked : List Str := ["code", "ends", "first", "table", "walk", "here", "cell", "ended"]
theorem sc_walked : FnScope N_walked ["code", "ends", "first", "table"] (defScope s_walked) := ⟨rfl, rfl, rfl, by decide +kernel, rfl, by decide +kernel, by decide +kernel⟩
def EndOut (K : PySem.W.Frag) (H : Hp) (e : Addr) (len : Nat) : Option (Nat × Option (Th × Th)) → Prop
  | none => ∃ ad, EndAt K H e "" ad []
  | some (d, _) => (d = len ∧ ∃ ad, EndAt K H e "" ad [nV d]) ∨ (∃ wd, wd ≠ ("" : Str) ∧ EndAt K H e wd (nV d) [])
theorem EndOut.same {H H' : Hp} {e : Addr} {len : Nat} {r : Option (Nat × Option (Th × Th))} (s : Same H H') (h : EndOut K H e len r) : EndOut K H' e len r := by
  cases r with
  | none => exact let ⟨ad, x⟩ := h; ⟨ad, x.same s⟩
  | some p => exact h.imp (fun ⟨a, ad, x⟩ => ⟨a, ad, x.same s⟩) fun ⟨wd, a, x⟩ => ⟨wd, a, x.same s⟩
def s0 (C : Code) : SS Th := ⟨inF C.bank, fun _ => none, 0⟩
def runT (C : Code) : Option (Nat × Option (Th × Th)) := run .num .take C.h (8 + C.bank.length) C.cells (s0 C) 0
def sp_walked (K : PySem.W.Frag) : Sp := fun vs H Q _ => ∃ (a en ta : Addr) (C : Code) (G : List Grp), vs = [.ref a, .ref en, .int 0, .ref ta] ∧ IsCode H a C ∧ C.Ok ∧ H en = some (.dK [(Sum.inl 0, .bl true)]) ∧ IsTab H ta G ∧ TabOk C.h C.bank G ∧
  ∀ e H', Same H H' → EndOut K H' e C.cells.length (runT C) → Q (.ref e) H'
theorem C_walked (T : Txt K mg) : C8.Cal P w K mg base 5 "walked" (sp_walked K) [] := by
  have C_Walk := C_Walk (P := P) (w := w) (base := base) T
  have C_instruct := C_instruct (P := P) (w := w) (base := base) T
  have C_settled := C_settled (P := P) (w := w) (base := base) T
  have C_Ended := C_Ended (P := P) (w := w) (base := base) T
  refine cal (N := N_walked) (ps := ["code", "ends", "first", "table"]) T.d_walked (fun _ _ _ _ _ _ us hl => match us, hl with | [_, _, _, _], _ => rfl) sc_walked (fun vs H Q E h => ?_) (fun f cdv A outer s H vs Q E hr h => ?_)
  · obtain ⟨a, en, ta, C, G, rfl, _⟩ := h
    rfl
  · obtain ⟨a, en, ta, C, G, rfl, hc0, ok, hen, htb, tok, k⟩ := h
    have hu := hu_of hr
    refine ⟨_, (pss_cons (ps_par (i := 4) (j := 5) (by rfl) sc_walked.nd rfl rfl (by decide) rfl rfl (pa_cons (C8.pe_mk C_Walk hr (by decide) rfl (pa_cons (pv 0) (pa_cons (pv 3) pa_nil))) (pa_cons (pv 2) pa_nil)) (by rfl))
    (pss_one (ps_while PassesOwn.never (pt_val pe_bl) (pss_cons (ps_set (i := 6) sc_walked.nd rfl (by first | exact .inl rfl | exact .inr rfl) (pe_ix (ix_tupK (K := K) rfl) (pe_ix (ix_tupK (K := K) rfl) (pv 0) pe_int (fun _ _ => rfl)) (pv 5) (fun _ _ => rfl)))
    (pss_cons (ps_if (pt_val (pe_callB call_isi (by rfl) T.b_isinstance (by decide +kernel) (pa_cons (pe_ix (ix_tupK (K := K) rfl) (pv 6) pe_int (fun _ _ => rfl)) (pa_cons (pe_bltn (v := .ty "int") (u := .type "int") (by rfl) T.b_int (by decide +kernel) rfl) pa_nil)))) (pss_one (ps_expr (C8.pe_mt C_instruct hr (by decide) (pv 4) (pa_cons (pv 6) pa_nil)))) (pss_cons (ps_set (i := 7) sc_walked.nd rfl (by first | exact .inl rfl | exact .inr rfl) (C8.pe_c C_settled hr (by decide) rfl (pa_cons (pv 4) (pa_cons (pv 6) (pa_cons (pv 5) pa_nil)))))
    (pss_one (ps_if (pt_cmpR op_notN (pv 7) pe_non (nomark _)) (pss_one (ps_ret (pv 7))) pss_nil))))
    (pss_cons (ps_set (i := 5) sc_walked.nd rfl (by first | exact .inl rfl | exact .inr rfl) (pe_op op_add (pv 5) pe_int))
    (pss_one (ps_if (PW.pt (pw_or (pt_cmp (pc_din hu (pv 5) (pv 1)) (by with_unfolding_all rfl)) (pw_or1 (pt_cmpR op_eq (pv 5) (pe_callB (call_lenK (K := K) rfl) (by rfl) T.b_len PySem.boot_len (pa_cons (pe_ix (ix_tupK (K := K) rfl) (pv 0) pe_int (fun _ _ => rfl)) pa_nil)) (nomark _))))) (pss_one (ps_ret (C8.pe_mk C_Ended hr (by decide) rfl (pa_cons pe_str (pa_cons (pv 5) (pa_cons (pe_lst (pa_cons (pv 5) pa_nil)) (pa_cons (pv 4) pa_nil))))))) pss_nil)))))))), ?_⟩
    refine ⟨_, rfl, ?_⟩
    refine ⟨_, rfl, ?_⟩
    intro wk dxw nwk ndxw nee
    have sm0 : Same H (upd (upd H dxw (.own wk)) wk (.ins (CW K) dxw [])) := (same_upd ndxw).trans (same_upd (by rw [upd_ne nee.symm]; exact nwk))
    refine ⟨H, wk, dxw, a, ta, C, G, rfl, upd_same, nwk, sm0, hc0, ok, htb, tok, fun H1 W => ⟨rfl, ?_⟩⟩
    iterate 2 first | refine ⟨_, rfl, ?_⟩ | refine ⟨_, _, rfl, ?_⟩
    obtain ⟨va, ca, ba, vs, hc⟩ := hc0
    have h5 := ok.h5
    have h1 := ok.h1
    have c1 := ok.c1
    have c2 := ok.c2
    have tf := tok.few
    refine ⟨fun m σ H' => ∃ d s, m = C.cells.length - d ∧ d < C.cells.length ∧ (∃ l1 l2, σ = [some (V.ref a), some (.ref en), some (.int 0), some (.ref ta), some (.ref wk), some (nV d), l1, l2]) ∧
      WalkA K H H' wk C.size C.h (8 + C.bank.length) s (G.length + 1 + d) ∧ runT C = run .num .take C.h (8 + C.bank.length) (C.cells.drop d) s d,
      ⟨_, 0, s0 C, rfl, by omega, ⟨_, _, rfl⟩, W, rfl⟩, fun m σ H' p => ?_⟩
    obtain ⟨d, s, rfl, hd, ⟨l1, l2, rfl⟩, W1, hrun⟩ := p
    refine ⟨_, rfl, iteT ⟨fun σ H' => ∃ s', d + 1 < C.cells.length ∧ (∃ l1 l2, σ = [some (V.ref a), some (.ref en), some (.int 0), some (.ref ta), some (.ref wk), some (nV (d + 1)), l1, l2]) ∧
      WalkA K H H' wk C.size C.h (8 + C.bank.length) s' (G.length + 1 + (d + 1)) ∧ runT C = run .num .take C.h (8 + C.bank.length) (C.cells.drop (d + 1)) s' (d + 1), fun σ' H' q => ?_, ?_⟩⟩
    · obtain ⟨s', q1, q2, q3, q4⟩ := q
      exact ⟨_, by omega, d + 1, s', rfl, q1, q2, q3, q4⟩
    have hcH := hc.same W1.same
    have e1 := hcH.top
    have e2 := hcH.ce
    have hvl : d < vs.length := by rw [hc.cs.1]; exact hd
    have hv : vs[d]? = some vs[d] := List.getElem?_eq_getElem hvl
    have hcd : C.cells[d]? = some C.cells[d] := List.getElem?_eq_getElem hd
    obtain ⟨q, hq, hqc⟩ := hc.cs.2 d _ _ hv hcd
    rw [hq] at hv
    have hqH := W1.same _ _ hqc
    have okc := ok.ce C.cells[d] (List.getElem_mem hd)
    have hdrop : C.cells.drop d = C.cells[d] :: C.cells.drop (d + 1) := List.drop_eq_getElem_cons hd
    obtain ⟨dx, fs, hob, hno⟩ := W1.ob
    have hno1 := hno "instruct" (by decide) (by decide) (by decide) (by decide)
    rw [hdrop] at hrun
    generalize C.cells[d] = c at *
    have bl : G.length + 1 + d < 50000 := by omega
    iterate 5 first | refine ⟨_, rfl, ?_⟩ | refine ⟨_, _, _, _, rfl, rfl, SqT.of (by repeat (first | assumption | exact upd_same .. | refine u1 (by assumption) ?_ | refine um (by assumption) ?_ | refine sa (by assumption) ?_)), atI_nat (j := 2) rfl, ?_⟩ | refine ⟨_, _, _, _, rfl, rfl, SqT.of (by repeat (first | assumption | exact upd_same .. | refine u1 (by assumption) ?_ | refine um (by assumption) ?_ | refine sa (by assumption) ?_)), atI_nat (by assumption), ?_⟩
    have nin : valV [((Sum.inl 0 : Key), V.bl true)] (Sum.inl ((d : Int) + 1)) = none := by
      rw [valV_neg, valV_nil]
      intro e
      have : (0 : Int) = (d : Int) + 1 := Sum.inl.inj e
      omega
    cases hh : c.hue with
    | some i =>
      obtain ⟨xs, ex⟩ := hue_v hh
      have hqx := hqH
      rw [ex] at hqx
      obtain ⟨s', hst⟩ : ∃ s', step .num .take C.h (8 + C.bank.length) s c = .go s' := by
        cases c with
        | set => exact ⟨_, rfl⟩
        | get => exact ⟨_, rfl⟩
        | put => exact ⟨_, rfl⟩
        | offer => exact ⟨_, rfl⟩
        | _ => cases hh
      simp only [run, hst] at hrun
      iterate 5 first | refine iteT ?_ | refine ⟨_, rfl, ?_⟩ | refine ⟨_, _, _, _, rfl, rfl, SqT.of (by repeat (first | assumption | exact upd_same .. | refine u1 (by assumption) ?_ | refine um (by assumption) ?_ | refine sa (by assumption) ?_)), atI_nat (j := 0) rfl, ?_⟩ | refine ⟨_, _, _, _, true, rfl, .ty _, .base (.int _), kit_ty (by decide +kernel), ?_⟩
      refine ⟨_, _, _, rfl, hob, hno1, ?_⟩
      refine ⟨_, rfl, ?_⟩
      refine ⟨H, wk, q, c, i, C.size, C.h, C.bank.length, s, s', G.length + 1 + d, rfl, W1, hqc, hh, okc, bl, hst, fun H2 W2 => ?_⟩
      have en2 := W2.same _ _ hen
      have a2 := (hc.same W2.same).top
      have ce2 := (hc.same W2.same).ce
      have ed : ((d : Int) + 1) = ((d + 1 : Nat) : Int) := by omega
      have hvl2 : vs.length = C.cells.length := hc.cs.1
      iterate 4 first | refine ⟨_, rfl, ?_⟩ | refine ⟨_, _, rfl, rfl, ?_⟩
      refine ⟨_, _, rfl, DGet.k (k := Sum.inl ((d : Int) + 1)) en2, _, rfl, ?_⟩
      rw [nin]
      refine iteF ?_
      by_cases hend : d + 1 = C.cells.length
      · rw [hend, List.drop_length] at hrun
        simp only [run] at hrun
        iterate 6 first | refine ⟨_, rfl, ?_⟩ | refine ⟨rfl, ?_⟩ | refine ⟨_, _, rfl, .inr (SqT.of (by repeat (first | assumption | exact upd_same .. | refine u1 (by assumption) ?_ | refine um (by assumption) ?_ | refine sa (by assumption) ?_))), ?_⟩ | refine ⟨_, _, _, _, rfl, rfl, SqT.of (by repeat (first | assumption | exact upd_same .. | refine u1 (by assumption) ?_ | refine um (by assumption) ?_ | refine sa (by assumption) ?_)), atI_nat (j := 2) rfl, ?_⟩
        refine itT (congrArg V.int (by omega)) ?_
        iterate 4 first | refine ⟨_, rfl, ?_⟩ | refine ⟨le_line (of_decide_eq_true rfl), fun t ht => ?_⟩
        intro e dxe ne nde nee
        refine ⟨e, dxe, _, _, _, _, rfl, upd_same, rfl, k e _ ((W2.same.trans (same_upd ht)).trans (same_mk ne nde nee)) ?_⟩
        rw [hrun]
        exact .inl ⟨rfl, _, dxe, t, _, upd_same, by
          have := same_mk (o1 := .ins (CE K) dxe []) (o2 := .ins (CE K) dxe [("word", .str ""), ("address", .int ((d : Int) + 1)), ("goals", .ref t), ("walk", .ref wk)]) ne nde nee _ _ upd_same
          rw [← hend, show nV (d + 1) = V.int ((d : Int) + 1) from congrArg V.int ed.symm]
          exact this⟩
      · iterate 6 first | refine ⟨_, rfl, ?_⟩ | refine ⟨rfl, ?_⟩ | refine ⟨_, _, rfl, .inr (SqT.of (by repeat (first | assumption | exact upd_same .. | refine u1 (by assumption) ?_ | refine um (by assumption) ?_ | refine sa (by assumption) ?_))), ?_⟩ | refine ⟨_, _, _, _, rfl, rfl, SqT.of (by repeat (first | assumption | exact upd_same .. | refine u1 (by assumption) ?_ | refine um (by assumption) ?_ | refine sa (by assumption) ?_)), atI_nat (j := 2) rfl, ?_⟩
        refine itF (fun e => hend (by have := V.int.inj e; omega)) ?_
        refine ⟨s', by omega, ?_, W2, hrun⟩
        rw [show nV (d + 1) = V.int ((d : Int) + 1) from congrArg V.int ed.symm]
        exact ⟨_, _, rfl⟩
    | none =>
      obtain ⟨z, xs, ex⟩ := nohue_v hh
      have hqx := hqH
      rw [ex] at hqx
      iterate 7 first | refine iteF ?_ | refine ⟨_, rfl, ?_⟩ | refine ⟨_, _, _, _, rfl, rfl, SqT.of (by repeat (first | assumption | exact upd_same .. | refine u1 (by assumption) ?_ | refine um (by assumption) ?_ | refine sa (by assumption) ?_)), atI_nat (j := 0) rfl, ?_⟩ | refine ⟨_, _, _, _, false, rfl, .ty _, .base (.str _), kit_ty (by decide +kernel), ?_⟩
      refine ⟨H, wk, q, c, C.size, C.h, C.bank.length, d, s, G.length + 1 + d, rfl, W1, hqc, hh, okc, h1, h5, bl, ?_⟩
      simp only [run] at hrun
      cases hst : step .num .take C.h (8 + C.bank.length) s c with
      | go s' =>
      rw [hst] at hrun
      simp only at hrun ⊢
      intro H2 W2
      have en2 := W2.same _ _ hen
      have a2 := (hc.same W2.same).top
      have ce2 := (hc.same W2.same).ce
      have ed : ((d : Int) + 1) = ((d + 1 : Nat) : Int) := by omega
      have hvl2 : vs.length = C.cells.length := hc.cs.1
      iterate 8 first | refine iteF ?_ | refine ⟨_, rfl, ?_⟩ | refine ⟨_, _, rfl, rfl, ?_⟩ | refine ⟨rfl, ?_⟩
      refine ⟨_, _, rfl, DGet.k (k := Sum.inl ((d : Int) + 1)) en2, _, rfl, ?_⟩
      rw [nin]
      refine iteF ?_
      by_cases hend : d + 1 = C.cells.length
      · rw [hend, List.drop_length] at hrun
        simp only [run] at hrun
        iterate 6 first | refine ⟨_, rfl, ?_⟩ | refine ⟨rfl, ?_⟩ | refine ⟨_, _, rfl, .inr (SqT.of (by repeat (first | assumption | exact upd_same .. | refine u1 (by assumption) ?_ | refine um (by assumption) ?_ | refine sa (by assumption) ?_))), ?_⟩ | refine ⟨_, _, _, _, rfl, rfl, SqT.of (by repeat (first | assumption | exact upd_same .. | refine u1 (by assumption) ?_ | refine um (by assumption) ?_ | refine sa (by assumption) ?_)), atI_nat (j := 2) rfl, ?_⟩
        refine itT (congrArg V.int (by omega)) ?_
        iterate 4 first | refine ⟨_, rfl, ?_⟩ | refine ⟨le_line (of_decide_eq_true rfl), fun t ht => ?_⟩
        intro e dxe ne nde nee
        refine ⟨e, dxe, _, _, _, _, rfl, upd_same, rfl, k e _ ((W2.same.trans (same_upd ht)).trans (same_mk ne nde nee)) ?_⟩
        rw [hrun]
        exact .inl ⟨rfl, _, dxe, t, _, upd_same, by
          have := same_mk (o1 := .ins (CE K) dxe []) (o2 := .ins (CE K) dxe [("word", .str ""), ("address", .int ((d : Int) + 1)), ("goals", .ref t), ("walk", .ref wk)]) ne nde nee _ _ upd_same
          rw [← hend, show nV (d + 1) = V.int ((d : Int) + 1) from congrArg V.int ed.symm]
          exact this⟩
      · iterate 6 first | refine ⟨_, rfl, ?_⟩ | refine ⟨rfl, ?_⟩ | refine ⟨_, _, rfl, .inr (SqT.of (by repeat (first | assumption | exact upd_same .. | refine u1 (by assumption) ?_ | refine um (by assumption) ?_ | refine sa (by assumption) ?_))), ?_⟩ | refine ⟨_, _, _, _, rfl, rfl, SqT.of (by repeat (first | assumption | exact upd_same .. | refine u1 (by assumption) ?_ | refine um (by assumption) ?_ | refine sa (by assumption) ?_)), atI_nat (j := 2) rfl, ?_⟩
        refine itF (fun e => hend (by have := V.int.inj e; omega)) ?_
        refine ⟨s', by omega, ?_, W2, hrun⟩
        rw [show nV (d + 1) = V.int ((d : Int) + 1) from congrArg V.int ed.symm]
        exact ⟨_, _, rfl⟩
      | bad u =>
        rw [hst] at hrun
        simp only at hrun ⊢
        intro e H2 sm he
        iterate 5 first | refine iteT ?_ | refine ⟨_, rfl, ?_⟩ | refine ⟨rfl, ?_⟩
        exact k e _ sm (by rw [hrun]; exact .inr he)
      | stop =>
        rw [hst] at hrun
        simp only at hrun ⊢
        intro e H2 sm he
        iterate 5 first | refine iteT ?_ | refine ⟨_, rfl, ?_⟩ | refine ⟨rfl, ?_⟩
        exact k e _ sm (by rw [hrun]; exact ⟨_, he⟩)
end Hw
namespace Hw
open PySem PySem.Spec PyProof.Rows L2 LamX
section
variable {prog : Program} {w : World} {A : Around} {s : Shared}
theorem kin_turn {y : Str} {q : Str} {params : Arguments} {scope : Scope} {pm ctv : Value} {f c' : Addr} {k1 k2 : Nat} {p1 p2 p3 p4 p5 : Pos} {p pq z : Addr} {i0 : Value} {r : List Value} {a b : Int} {t1 t2 : Tok}
    (hf : s.heap.get? f = some (PySem.W.kla_obj "<lambda>" q params (.Subscript (.Subscript (.Name y p1) (.Constant (.int 1) k1 p2) p3) (.Constant (.int 0) k2 p4) p5) scope [] pm c' ctv))
    (hco : scope.isCoroutine = false) (hgen : scope.isGenerator = false) (hkind : scope.kind = .function) (hcell : ∀ x ∈ scope.names, x.2 ≠ .cell) (hy : scope.names.lookup y = some .local) (hdy : (y == ("__debug__" : Str)) = false)
    (hcd : ∃ (oc : Obj) (vs : Array Value) (t : Tok), s.heap.get? c' = some oc ∧ oc.data = .fields vs ∧ vs[1]? = some (.str q t))
    (hbind : ∀ u, bindArgs (PySem.W.kla_fn "<lambda>" q params (.Subscript (.Subscript (.Name y p1) (.Constant (.int 1) k1 p2) p3) (.Constant (.int 0) k2 p4) p5) scope [] pm (.ref c') ctv) ⟨[u], []⟩ = pure [(y, u)])
    (hroom : A.depth < recursionLimit) (hlim : s.heap.NoLimit)
    (hp : IsTup s.heap p #[i0, .ref pq]) (hq : IsTup s.heap pq ((.ref z :: r).toArray)) (hz : IsTup s.heap z #[.int a t1, .int b t2]) :
    wpAny (model prog w) A (call (.ref f) [.ref p]) (PySem.W.KeyPure (.tuple [.int a, .int b]) s) (fun _ _ => False) s := by
  obtain ⟨oc, vs, t, hoc, hdc, hvc⟩ := hcd
  refine wpAny_call ?_
  refine PySem.W.kla_callFunE hroom hf rfl hco hgen rfl ⟨c', oc, vs, t, rfl, hoc, hdc, hvc⟩ ?_
  rw [hbind]
  refine wpAny_pure (wpAny_newFunctionEnv hcell (fun x hx => ?_) (fun h₁ hns hsb => ⟨hlim.fresh _ hsb, ?_⟩) hkind)
  · rw [List.mem_singleton.mp hx]; exact hy
  have kp : ∀ b o, s.heap.get? b = some o → h₁.get? b = some o := fun b o e => hsb.extBut b o (Nat.ne_of_lt (Heap.lt_size e)) (Heap.get?_push_of_some _ e)
  have up : ∀ {a items}, IsTup s.heap a items → IsTup h₁ a items := fun {a items} ⟨o, h1, h2, n, h3⟩ => ⟨o, kp _ _ h1, h2, n, h3⟩
  show codeAny _ _ (.expr _ _) _ _
  refine PySem.W.kla_codeExpr ?_
  have tp : ∀ {a items} {g : Heap} {tk : Nat}, IsTup g a items → ({ s with heap := g, toks := tk } : Shared).TypeIs (.ref a) "tuple" := fun {a items g tk} ⟨o, h1, h2, _⟩ => ⟨o, h1, h2⟩
  refine Subscript_ (Subscript_ (wpAny_Name (wpAny_loadName_local (v := .ref p) hkind hy hns (by simp) ?_) hdy))
  refine wpAny_Constant_int ?_
  refine subscriptTail_builtinR (x := .ref pq) (tp (up hp)) slot_tuple_getitem.lookup (getItem_tuple (j := 1) (up hp) (by decide) (by decide) (by rfl) (by rfl) ⟨rfl, ?_⟩)
  refine wpAny_Constant_int ?_
  refine subscriptTail_builtinR (x := .ref z) (tp (up hq)) slot_tuple_getitem.lookup (getItem_tuple (j := 0) (up hq) (by decide) (by decide) (by
    show seqIndex? 0 ((Value.ref z :: r).toArray.size) = some 0
    rw [List.size_toArray, List.length_cons]
    simp [seqIndex?]) (by simp) ⟨rfl, ?_⟩)
  refine ⟨h₁, _, rfl, kp, ?_⟩
  obtain ⟨o, h1, h2, n, h3⟩ := up hz
  exact .tuple h1 h2 h3 (.cons (.int _ _) (.cons (.int _ _) .nil))
end
def KeyAt (H : Hp) (v : V) (k : Int × Int) : Prop := ∃ p x pq z ys, v = .ref p ∧ H p = some (.tup [x, .ref pq]) ∧ H pq = some (.tup (.ref z :: ys)) ∧ H z = some (.tup [.int k.1, .int k.2])
def lexLt (a b : Int × Int) : Prop := a.1 < b.1 ∨ (a.1 = b.1 ∧ a.2 < b.2)
def tSortL (T : List (Addr × Str)) (ta : TA) : TE := fun σ H Q => ta σ H fun vs H1 => Tabs T H1 ∧ ∃ (a : Addr) (xs : List V) (ks : List (Int × Int)), vs = [.ref a] ∧ H1 a = some (.lst xs) ∧ AllAt (KeyAt H1) xs ks ∧ ks.Pairwise lexLt ∧ ks.length ≤ 1000 ∧
  ∀ p H2, ExtN H1 H2 → Tabs T H2 → H2 p = none → Q (.ref p) (upd H2 p (.lst xs))
def KeyIn (h : Heap) (v : Value) (x : Value × Int × Int) : Prop := v = x.1 ∧ ∃ p pq z i0 r t1 t2, v = .ref p ∧ IsTup h p #[i0, .ref pq] ∧ IsTup h pq ((Value.ref z :: r).toArray) ∧ IsTup h z #[.int x.2.1 t1, .int x.2.2 t2]
variable {X : Cx}
theorem keys_in {pins : List (Addr × Obj)} {σ : L2.St} {H : Hp} {s : Shared} (I : Inv X pins σ H s) : ∀ {xs : List V} {us : List Value} {ks : List (Int × Int)}, Vals xs us → AllAt (KeyAt H) xs ks →
    PySem.W.EachIs (KeyIn s.heap) us (us.zip ks)
  | [], [], ks, .nil, h => .nil
  | x :: xs, u :: us, [], .cons r rs, h => by have := h.1; simp at this
  | x :: xs, u :: us, k :: ks, .cons r rs, h => by
    have h0 := h.2 0 x k rfl rfl
    obtain ⟨p, y, pq, z, ys, rfl, e1, e2, e3⟩ := h0
    cases r
    obtain ⟨i1, v1, q1, _⟩ := I.tuple (SqT.of e1)
    obtain ⟨i2, v2, q2, _⟩ := I.tuple (SqT.of e2)
    obtain ⟨i3, v3, q3, _⟩ := I.tuple (SqT.of e3)
    refine .cons ⟨rfl, ?_⟩ (keys_in I rs ⟨by simpa using h.1, fun i v x a b => h.2 (i + 1) v x (by simpa using a) (by simpa using b)⟩)
    cases v1 with
    | cons r1 v1 => cases v1 with
      | cons r2 v1 => cases v1
                      cases r2
                      cases v2 with
                      | cons r3 v2 =>
                        cases r3
                        cases v3 with
                        | cons r4 v3 => cases v3 with
                          | cons r5 v3 =>
                            cases v3
                            obtain ⟨t1, rfl⟩ := r4
                            obtain ⟨t2, rfl⟩ := r5
                            exact ⟨p, pq, z, _, _, t1, t2, rfl, q1, q2, q3⟩
theorem each_out {h : Heap} : ∀ {us : List Value} {bs : List (Value × Int × Int)}, PySem.W.EachIs (KeyIn h) us bs → us = bs.map (·.1)
  | [], [], .nil => rfl
  | u :: us, b :: bs, .cons a r => by
    rw [List.map_cons, ← each_out r, a.1]
theorem zip_fst {α β : Type} : ∀ {us : List α} {ks : List β}, us.length = ks.length → (us.zip ks).map (·.1) = us
  | [], [], _ => rfl
  | u :: us, k :: ks, h => by
    rw [List.zip_cons_cons, List.map_cons, zip_fst (by simpa using h)]
theorem zip_snd {α β : Type} : ∀ {us : List α} {ks : List β}, us.length = ks.length → (us.zip ks).map (·.2) = ks
  | [], [], _ => rfl
  | u :: us, k :: ks, h => by
    rw [List.zip_cons_cons, List.map_cons, zip_snd (by simpa using h)]
theorem pe_sortL {T : List (Addr × Str)} {x y : Str} {e : Expr} {ta : TA} {p lpos kpos pos p1 p2 p3 p4 p5 : Pos} {k1 k2 k : Nat} {params : Arguments} {scope : Scope} {c P : Addr}
    (hg : Gl X x) (hm : X.mg x = none) (hv : bootBuiltins x = some (.builtin "sorted")) (ha : PA X [e] ta)
    (TB : TabB X.base X.mg c P) (hcode : X.env.code = .ref c) (hmT : (P, X.env.qual ++ "<lambda>") ∈ T) (hu : ∀ p ∈ T, p.1 = P → p.2 = X.env.qual ++ "<lambda>") (hr : Room (k + 1) X.A) (hdef : defaultsOf params X.env = ([], []))
    (hco : scope.isCoroutine = false) (hgen : scope.isGenerator = false) (hkind : scope.kind = .function) (hcell : ∀ x ∈ scope.names, x.2 ≠ .cell) (hfree : ∀ x ∈ scope.names, x.2 ≠ .free) (hy : scope.names.lookup y = some .local) (hdy : (y == ("__debug__" : Str)) = false)
    (hbind : ∀ (q : Str) (pm cv ctv u : Value), bindArgs (PySem.W.kla_fn "<lambda>" q params (.Subscript (.Subscript (.Name y p1) (.Constant (.int 1) k1 p2) p3) (.Constant (.int 0) k2 p4) p5) scope [] pm cv ctv) ⟨[u], []⟩ = pure [(y, u)])
    (hn : x ≠ "__name__" := by decide) (hdb : (x == ("__debug__" : Str)) = false := by decide)
    (he : backTo pos (starEach [e] X.env) = (false, eval e X.env) :: backTo pos (starEach [] X.env) := by rfl) (hpl : (backTo pos (starEach [e] X.env)).any (·.1) = false := by rfl) :
    PE X (.Call (.Name x p) [e] [⟨some "key", .Lambda params (.Subscript (.Subscript (.Name y p1) (.Constant (.int 1) k1 p2) p3) (.Constant (.int 0) k2 p4) p5) scope lpos, kpos⟩] pos) (tSortL T ta) := by
  refine ⟨fun pins s σ H Q I h => ?_⟩
  refine wpAny_Call_Name_kw (ld_blt I hg hm hv ?_ hn hdb)
  refine PyProof.Rows.callWith_kw (thn (ha.run pos pins s σ H _ I h) fun us s1 ⟨vs, H1, I1, r1, q1⟩ => ?_) he hpl (by rfl) (by rfl)
  obtain ⟨hT, a, xs, ks, rfl, ex, hall, hpw, hkl, q⟩ := q1
  cases r1 with
  | cons r rr =>
  cases rr
  cases r
  show wpAny _ _ (evalAll ((do let v ← eval (.Lambda params _ scope lpos) X.env; standAt pos; pure v) :: [])) _ _ s1
  refine wpAny_evalAll_cons (wpAny_bind ?_)
  refine lam_make2 I1 TB hcode hmT hu hT hdef (fun y hy e => absurd e (hfree y hy)) fun f c' pm' ctv H2 s2 I2 eN T2 hf hfn hfr hco' => ?_
  refine wpAny_bind (wpAny_standAt (wpAny_pure (wpAny_evalAll_nil ?_)))
  have tup2 : ∀ {a xs}, H1 a = some (.tup xs) → H2 a = some (.tup xs) := fun h => eN _ _ h (fun _ z => by cases z)
  have hlst : H2 a = some (.lst xs) := eN _ _ ex (fun _ z => by cases z)
  have hall2 : AllAt (KeyAt H2) xs ks := hall.mono fun v k ⟨p, x, pq, z, ys, e0, e1, e2, e3⟩ => ⟨p, x, pq, z, ys, e0, tup2 e1, tup2 e2, tup2 e3⟩
  have hclo : cloFrom X.env.cells scope.names [] = [] := by
    refine List.eq_nil_iff_forall_not_mem.mpr fun e he => ?_
    rcases cloFrom_mem he with z | ⟨h1, _⟩
    · cases z
    · exact hfree _ h1 rfl
  rw [hclo] at hf
  obtain ⟨its, rv, hl, hz⟩ := I2.list (SqL.of hlst)
  have ei := keys_in I2 rv hall2
  have hlen : its.length = ks.length := rv.length.symm.trans hall2.1
  have ecr := I2.hok c' _ hco'
  obtain ⟨⟨oc, vs, t, hoc, hdc, hvc⟩, _, _⟩ := ecr
  have hru := hr.un
  have hrd := hr.depth
  refine PySem.W.sorted_key_data (b := false) (fun p : Value × Int × Int => .tuple [.int p.2.1, .int p.2.2]) hl.isList ei (PySem.W.AllAlike.of fun _ _ => by simp [PySem.W.alike, PySem.W.alikeAll]) (PySem.W.Sortable.tuples fun _ => ⟨_, _, rfl⟩) (by rw [sizeLine_eq]; rw [List.length_zip]; omega) (fun p _ => ?_) (ksk_s1 _ _) (fun _ => ksk_l1 _ _) (fun _ => ksk_t1 _ _)
    (fun v p hv _ h tk kp => ?_) fun out c9 h' tk kp hfresh hD hlo eo => ?_
  · have hd : (PyData.tuple [.int p.2.1, .int p.2.2]).depth = 1 := by simp [PyData.depth, PyData.depthAll]
    omega
  · obtain ⟨_, p, pq, z, i0, r, t1, t2, rfl, q1, q2, q3⟩ := hv
    have up : ∀ {a items}, IsTup s2.heap a items → IsTup h a items := fun {a items} ⟨o, h1, h2, n, h3⟩ => ⟨o, kp _ _ h1, h2, n, h3⟩
    exact kin_turn (s := { s2 with heap := h, toks := tk }) (kp _ _ hf) hco hgen hkind hcell hy hdy ⟨oc, vs, t, kp _ _ hoc, hdc, hvc⟩ (fun u => hbind _ _ _ _ u) hrd (I2.nolimit.keeps kp) (up q1) (up q2) (up q3)
  · rw [PySem.W.dataLe_ii (β := Value × Int × Int) (fun p => p.2.1) (fun p => p.2.2)] at eo
    have hsorted : (its.zip ks).Pairwise fun a b => decide (a.2.1 < b.2.1 ∨ (a.2.1 = b.2.1 ∧ a.2.2 ≤ b.2.2)) = true := by
      have e : ((its.zip ks).map (·.2)).Pairwise lexLt := by rw [zip_snd hlen]; exact hpw
      refine (List.pairwise_map.mp e).imp fun {a b} hab => decide_eq_true ?_
      rcases hab with z | z
      · exact .inl z
      · exact .inr ⟨z.1, by omega⟩
    rw [List.mergeSort_of_pairwise hsorted] at eo
    have eout : out = its := by rw [each_out eo, zip_fst hlen]
    subst eout
    refine ⟨.ref _, upd H2 (s2.heap.objs.size + 1) (.lst xs), I2.laid kp (Nat.le_succ _) ⟨?_, _, _, rv, hD⟩, rfl, q _ _ eN T2 (I2.hok.fresh (Nat.le_succ _))⟩
    rw [hall2.1, sizeLine_eq]; omega
end Hw
namespace Hw
def grpAdd : List Grp → Nat → Spot → List Grp
  | [], n, x => [(n, [x])]
  | g :: gs, n, x => if g.1 = n then (g.1, g.2 ++ [x]) :: gs else g :: grpAdd gs n x
def groupsOf (bank : List Nat) (xs : List Spot) : List Grp := xs.foldl (fun G x => grpAdd G (ini bank x.2) x) []
def rowOf (i m : Nat) : List Spot := (List.range m).map fun a => (i, a)
def spots : Nat → Nat → List Spot
  | 0, _ => []
  | h + 1, m => spots h m ++ rowOf h m
def tableOf (C : Code) : List Grp := groupsOf C.bank (spots C.h (8 + C.bank.length))
theorem rowOf_succ (i m : Nat) : rowOf i (m + 1) = rowOf i m ++ [(i, m)] := by simp [rowOf, List.range_succ]
theorem groups_snoc (bank : List Nat) (xs : List Spot) (x : Spot) : groupsOf bank (xs ++ [x]) = grpAdd (groupsOf bank xs) (ini bank x.2) x := by simp [groupsOf, List.foldl_append]
theorem grp_new : ∀ {G : List Grp} {n : Nat} {x : Spot}, (∀ g ∈ G, g.1 ≠ n) → grpAdd G n x = G ++ [(n, [x])]
  | [], n, x, _ => rfl
  | g :: gs, n, x, h => by
    rw [grpAdd, if_neg (h g (List.mem_cons_self ..)), grp_new fun g hg => h g (List.mem_cons_of_mem _ hg)]; rfl
theorem grp_at : ∀ {G : List Grp} {n : Nat} {x : Spot} {i : Nat} {g : Grp}, G[i]? = some g → g.1 = n → (∀ j g', j < i → G[j]? = some g' → g'.1 ≠ n) → grpAdd G n x = G.set i (g.1, g.2 ++ [x])
  | [], n, x, i, g, h, _, _ => by simp at h
  | g0 :: gs, n, x, 0, g, h, e, _ => by
    simp at h
    subst h
    rw [grpAdd, if_pos e]; rfl
  | g0 :: gs, n, x, i + 1, g, h, e, f => by
    rw [grpAdd, if_neg (f 0 g0 (by omega) rfl), grp_at (by simpa using h) e fun j g' hj h' => f (j + 1) g' (by omega) (by simpa using h')]; rfl
theorem grp_cases (n : Nat) : ∀ G : List Grp, (∀ g ∈ G, g.1 ≠ n) ∨ ∃ (i : Nat) (g : Grp), G[i]? = some g ∧ g.1 = n ∧ ∀ (j : Nat) (g' : Grp), j < i → G[j]? = some g' → g'.1 ≠ n
  | [] => .inl fun g h => by cases h
  | g0 :: gs => by
    by_cases e : g0.1 = n
    · exact .inr ⟨0, g0, rfl, e, fun j g' hj => absurd hj (Nat.not_lt_zero _)⟩
    · rcases grp_cases n gs with h | ⟨i, g, h1, h2, h3⟩
      · exact .inl fun g hg => by
          rcases List.mem_cons.mp hg with z | z
          · rw [z]; exact e
          · exact h g z
      · exact .inr ⟨i + 1, g, by simpa using h1, h2, fun j g' hj h' => by
          cases j with
          | zero => simp at h'; rw [← h']; exact e
          | succ j => exact h3 j g' (by omega) (by simpa using h')⟩
def slt (a b : Spot) : Prop := a.1 < b.1 ∨ (a.1 = b.1 ∧ a.2 < b.2)
def hd (g : Grp) : Spot := g.2.head?.getD (0, 0)
structure GOk (bank : List Nat) (xs : List Spot) (G : List Grp) : Prop where
  sub : ∀ g ∈ G, ∀ x ∈ g.2, x ∈ xs ∧ ini bank x.2 = g.1
  ne : ∀ g ∈ G, g.2 ≠ []
  all : ∀ x ∈ xs, ∃ g ∈ G, x ∈ g.2
  len : G.length ≤ xs.length
  pw : (G.map hd).Pairwise slt
  pg : ∀ g ∈ G, g.2.Pairwise slt
  cnt : ∀ g ∈ G, g.2.length ≤ xs.length
theorem hd_mem {g : Grp} (h : g.2 ≠ []) : hd g ∈ g.2 := by
  unfold hd
  cases e : g.2 with
  | nil => exact absurd e h
  | cons a l => simp
theorem hd_app {n : Nat} {l : List Spot} {x : Spot} (h : l ≠ []) : hd (n, l ++ [x]) = hd (n, l) := by
  unfold hd
  cases l with
  | nil => exact absurd rfl h
  | cons a l => simp
theorem GOk.add {bank : List Nat} {xs : List Spot} {G : List Grp} (o : GOk bank xs G) {x : Spot} (hx : ∀ y ∈ xs, slt y x) : GOk bank (xs ++ [x]) (grpAdd G (ini bank x.2) x) := by
  rcases grp_cases (ini bank x.2) G with h | ⟨i, g, h1, h2, h3⟩
  · rw [grp_new h]
    refine ⟨fun g hg y hy => ?_, fun g hg => ?_, fun y hy => ?_, by simp; exact o.len, ?_, fun g hg => ?_, fun g hg => ?_⟩
    · rcases List.mem_append.mp hg with z | z
      · obtain ⟨a, b⟩ := o.sub g z y hy
        exact ⟨List.mem_append_left _ a, b⟩
      · rw [List.mem_singleton.mp z] at hy ⊢
        rw [List.mem_singleton.mp hy]
        exact ⟨by simp, rfl⟩
    · rcases List.mem_append.mp hg with z | z
      · exact o.ne g z
      · rw [List.mem_singleton.mp z]; simp
    · rcases List.mem_append.mp hy with z | z
      · obtain ⟨g, a, b⟩ := o.all y z
        exact ⟨g, List.mem_append_left _ a, b⟩
      · exact ⟨(ini bank x.2, [x]), by simp, z⟩
    · rw [List.map_append]
      refine List.pairwise_append.mpr ⟨o.pw, by simp, fun a ha b hb => ?_⟩
      obtain ⟨g, hg, rfl⟩ := List.mem_map.mp ha
      have e : b = x := by simpa [hd] using hb
      rw [e]
      exact hx _ (o.sub g hg _ (hd_mem (o.ne g hg))).1
    · rcases List.mem_append.mp hg with z | z
      · exact o.pg g z
      · rw [List.mem_singleton.mp z]; simp
    · rcases List.mem_append.mp hg with z | z
      · have := o.cnt g z; simp; omega
      · rw [List.mem_singleton.mp z]; simp
  · rw [grp_at h1 h2 h3]
    have hi : i < G.length := (List.getElem?_eq_some_iff.mp h1).1
    have hgm : g ∈ G := List.mem_of_getElem? h1
    have hset : ∀ g' ∈ G.set i (g.1, g.2 ++ [x]), g' ∈ G ∨ g' = (g.1, g.2 ++ [x]) := fun g' hg => List.mem_or_eq_of_mem_set hg
    have hnew : (g.1, g.2 ++ [x]) ∈ G.set i (g.1, g.2 ++ [x]) := List.mem_of_getElem? (i := i) (by rw [List.getElem?_set_self hi])
    refine ⟨fun g' hg y hy => ?_, fun g' hg => ?_, fun y hy => ?_, by simp; have := o.len; omega, ?_, fun g' hg => ?_, fun g' hg => ?_⟩
    · rcases hset g' hg with z | z
      · obtain ⟨a, b⟩ := o.sub g' z y hy
        exact ⟨List.mem_append_left _ a, b⟩
      · rw [z] at hy ⊢
        rcases List.mem_append.mp hy with q | q
        · obtain ⟨a, b⟩ := o.sub g hgm y q
          exact ⟨List.mem_append_left _ a, b⟩
        · rw [List.mem_singleton.mp q]
          exact ⟨by simp, h2.symm⟩
    · rcases hset g' hg with z | z
      · exact o.ne g' z
      · rw [z]; simp
    · rcases List.mem_append.mp hy with z | z
      · obtain ⟨g', a, b⟩ := o.all y z
        obtain ⟨j, hj⟩ := List.mem_iff_getElem?.mp a
        by_cases e : j = i
        · subst e
          rw [h1] at hj
          cases hj
          exact ⟨_, hnew, List.mem_append_left _ b⟩
        · refine ⟨g', List.mem_of_getElem? (i := j) ?_, b⟩
          rw [List.getElem?_set_ne (fun z => e z.symm)]; exact hj
      · exact ⟨_, hnew, List.mem_append_right _ z⟩
    · have e : (G.set i (g.1, g.2 ++ [x])).map hd = G.map hd := by
        rw [List.map_set, hd_app (o.ne g hgm)]
        refine List.ext_getElem? fun j => ?_
        by_cases ej : i = j
        · subst ej
          rw [List.getElem?_set_self (by simpa using hi), List.getElem?_map, h1]; rfl
        · rw [List.getElem?_set_ne ej]
      rw [e]; exact o.pw
    · rcases hset g' hg with z | z
      · exact o.pg g' z
      · rw [z]
        refine List.pairwise_append.mpr ⟨o.pg g hgm, by simp, fun a ha b hb => ?_⟩
        rw [List.mem_singleton.mp hb]
        exact hx _ (o.sub g hgm a ha).1
    · rcases hset g' hg with z | z
      · have := o.cnt g' z; simp; omega
      · rw [z]; have := o.cnt g hgm; simp; omega
theorem snoc_ind {α : Type} {p : List α → Prop} (h0 : p []) (hs : ∀ l a, p l → p (l ++ [a])) (l : List α) : p l := by
  rw [← List.reverse_reverse l]
  induction l.reverse with
  | nil => exact h0
  | cons a t ih => rw [List.reverse_cons]; exact hs _ _ ih
theorem groups_ok (bank : List Nat) : ∀ xs : List Spot, xs.Pairwise slt → GOk bank xs (groupsOf bank xs) := by
  refine snoc_ind ?_ fun xs x ih h => ?_
  · intro _
    exact ⟨fun g h => (by cases h), fun g h => (by cases h), fun g h => (by cases h), Nat.le_refl _, List.Pairwise.nil, fun g h => (by cases h), fun g h => (by cases h)⟩
  · rw [groups_snoc]
    obtain ⟨a, _, b⟩ := List.pairwise_append.mp h
    exact (ih a).add fun y hy => b y hy x (by simp)
theorem rowOf_mem {i m : Nat} {x : Spot} : x ∈ rowOf i m ↔ x.1 = i ∧ x.2 < m := by
  unfold rowOf
  rw [List.mem_map]
  constructor
  · rintro ⟨a, ha, rfl⟩
    exact ⟨rfl, List.mem_range.mp ha⟩
  · rintro ⟨h1, h2⟩
    exact ⟨x.2, List.mem_range.mpr h2, by rw [← h1]⟩
theorem spots_mem {m : Nat} {x : Spot} : ∀ {h : Nat}, x ∈ spots h m ↔ x.1 < h ∧ x.2 < m
  | 0 => by simp [spots]
  | h + 1 => by
    rw [spots, List.mem_append, spots_mem, rowOf_mem]
    constructor
    · rintro (⟨a, b⟩ | ⟨a, b⟩)
      · exact ⟨by omega, b⟩
      · exact ⟨by omega, b⟩
    · rintro ⟨a, b⟩
      by_cases e : x.1 = h
      · exact .inr ⟨e, b⟩
      · exact .inl ⟨by omega, b⟩
theorem rowOf_pw (i : Nat) : ∀ m : Nat, (rowOf i m).Pairwise slt
  | 0 => List.Pairwise.nil
  | m + 1 => by
    rw [rowOf_succ]
    refine List.pairwise_append.mpr ⟨rowOf_pw i m, by simp, fun a ha b hb => ?_⟩
    rw [List.mem_singleton.mp hb]
    obtain ⟨h1, h2⟩ := rowOf_mem.mp ha
    exact .inr ⟨h1, h2⟩
theorem spots_pw (m : Nat) : ∀ h : Nat, (spots h m).Pairwise slt
  | 0 => List.Pairwise.nil
  | h + 1 => by
    rw [spots]
    refine List.pairwise_append.mpr ⟨spots_pw m h, rowOf_pw h m, fun a ha b hb => ?_⟩
    have h1 := (spots_mem.mp ha).1
    have h2 := (rowOf_mem.mp hb).1
    exact .inl (by omega)
theorem spots_len (m : Nat) : ∀ h : Nat, (spots h m).length = h * m
  | 0 => by simp [spots]
  | h + 1 => by
    rw [spots, List.length_append, spots_len m h]
    simp [rowOf, Nat.succ_mul]
theorem table_gok (C : Code) : GOk C.bank (spots C.h (8 + C.bank.length)) (tableOf C) := groups_ok _ _ (spots_pw _ _)
theorem table_ok (C : Code) (ok : C.Ok) : TabOk C.h C.bank (tableOf C) := by
  have o := table_gok C
  refine ⟨fun g hg x hx => ?_, fun i hi a ha => o.all (i, a) (spots_mem.mpr ⟨hi, ha⟩), ?_⟩
  · obtain ⟨a, b⟩ := o.sub g hg x hx
    obtain ⟨c, d⟩ := spots_mem.mp a
    exact ⟨c, d, b⟩
  · have h1 := o.len
    rw [spots_len] at h1
    have h5 := ok.h5
    have h3 := ok.b3
    have : C.h * (8 + C.bank.length) ≤ 5 * 11 := Nat.mul_le_mul h5 (by omega)
    omega
theorem grp_keys {G : List Grp} {n : Nat} {x : Spot} (h : (G.map (·.1)).Nodup) : ((grpAdd G n x).map (·.1)).Nodup := by
  rcases grp_cases n G with hn | ⟨i, g, h1, h2, h3⟩
  · rw [grp_new hn, List.map_append]
    exact List.nodup_append.mpr ⟨h, by simp, fun a ha b hb => by
      obtain ⟨g, hg, rfl⟩ := List.mem_map.mp ha
      have e : b = n := by simpa using hb
      rw [e]; exact hn g hg⟩
  · rw [grp_at h1 h2 h3]
    have e : (G.set i (g.1, g.2 ++ [x])).map (·.1) = G.map (·.1) := by
      rw [List.map_set]
      refine List.ext_getElem? fun j => ?_
      by_cases ej : i = j
      · subst ej
        rw [List.getElem?_set_self (by simpa using (List.getElem?_eq_some_iff.mp h1).1), List.getElem?_map, h1]; rfl
      · rw [List.getElem?_set_ne ej]
    rw [e]; exact h
theorem groups_keys (bank : List Nat) (xs : List Spot) : ((groupsOf bank xs).map (·.1)).Nodup := by
  refine snoc_ind (p := fun xs => ((groupsOf bank xs).map (·.1)).Nodup) ?_ (fun l a h => ?_) xs
  · exact List.nodup_nil
  · rw [groups_snoc]; exact grp_keys h
theorem table_keys (C : Code) : ((tableOf C).map (·.1)).Nodup := groups_keys _ _
end Hw
namespace Hw
open PySem PySem.Spec PyProof.Rows L2 LamX
def IsDefC (K : PySem.W.Frag) (mg : Str → Option Value) (x : Str) (st : Stmt) (c : Addr) : Prop := ∃ f fd, FunD K x x (defArgs st) (defBody st) (defScope st) [] [] f fd ∧ mg x = some (.ref f) ∧ fd.code = .ref c
def BodyC (P : Program) (w : World) (K : PySem.W.Frag) (mg : Str → Option Value) (base : Heap) (N : List Str) (qual : Str) (st : Stmt) (k : Nat) (sp : Sp) (c : Addr) : Prop :=
  ∀ (f : Addr) (A : Around) (outer : List Env) (s : Shared) (H : Hp) (vs : List V) (Q : VK) (E : XK), Room k (A.deeper (envOfC qual (defScope st) s.heap.objs.size f (.ref c))) → sp vs H Q E →
      ∃ t, PSs (cxOf C8.CX0 P w K mg base N qual (defScope st) f (.ref c) A outer s H E).nox (defBody st) t ∧ t { nx := fun _ H' => Q .non H', rt := Q } (start N vs) H
theorem calC {P : Program} {w : World} {K : PySem.W.Frag} {mg : Str → Option Value} {base : Heap} {N ps : List Str} {k : Nat} {sp : Sp} {x : Str} {st : Stmt} {c : Addr} (D : IsDefC K mg x st c)
    (hbi : ∀ (kV doc pm : Value) (an : Option Addr) (cdv ct : Value) (us : List Value), us.length = ps.length → bindArgs (PySem.W.fnOf x x (defArgs st) (defBody st) (defScope st) .none kV doc pm an cdv ct) ⟨us, []⟩ = pure (ps.zip us))
    (S : FnScope N ps (defScope st)) (len : ∀ vs H Q E, sp vs H Q E → vs.length = ps.length) (hb : BodyC P w K mg base N x st k sp c) : C8.Cal P w K mg base (k + 1) x sp [] := by
  obtain ⟨f, fd, F, hm, hc⟩ := D
  have F' := F
  obtain ⟨oc, od, dV, kV, doc, pm, an, cdv, ct, osl, rfl, lk, hcd, _, _⟩ := F.ex
  have e : cdv = .ref c := hc
  subst e
  refine ⟨f, _, ps, [], fn_of lk hcd S len fun A outer s H vs Q E hr hsp => ?_, hm, F'.kp, F'.bindsN hbi, .nil⟩
  obtain ⟨t, h, q⟩ := hb f A outer s H vs Q E hr hsp
  exact ⟨t, h.nox, q⟩
abbrev qL (x : Str) : Str := (x ++ ".<locals>.") ++ "<lambda>"
def TT (K : PySem.W.Frag) : List (Addr × Str) := [(P1 K, qL "start_table"), (P2 K, qL "_law_pp_tidy"), (P3 K, qL "_law_pp_told")]
structure Lams (K : PySem.W.Frag) (mg : Str → Option Value) (base : Heap) : Prop where
  tb1 : TabB base mg (He.cT K ("start_table", none)).1 (P1 K)
  tb2 : TabB base mg (He.cT K ("_law_pp_tidy", none)).1 (P2 K)
  tb3 : TabB base mg (He.cT K ("_law_pp_told", none)).1 (P3 K)
  n12 : P1 K ≠ P2 K
  n13 : P1 K ≠ P3 K
  n23 : P2 K ≠ P3 K
  d1 : IsDefC K mg "start_table" (top 53) (He.cT K ("start_table", none)).1
  d2 : IsDefC K mg "_law_pp_tidy" (top 87) (He.cT K ("_law_pp_tidy", none)).1
  d3 : IsDefC K mg "_law_pp_told" (top 90) (He.cT K ("_law_pp_told", none)).1
section
variable {K : PySem.W.Frag} {mg : Str → Option Value} {base : Heap}
theorem Lams.mem1 (_ : Lams K mg base) : (P1 K, qL "start_table") ∈ TT K := List.mem_cons_self ..
theorem Lams.mem2 (_ : Lams K mg base) : (P2 K, qL "_law_pp_tidy") ∈ TT K := List.mem_cons_of_mem _ (List.mem_cons_self ..)
theorem Lams.mem3 (_ : Lams K mg base) : (P3 K, qL "_law_pp_told") ∈ TT K := List.mem_cons_of_mem _ (List.mem_cons_of_mem _ (List.mem_cons_self ..))
theorem tt_cases {K : PySem.W.Frag} {p : Addr × Str} (h : p ∈ TT K) : p = (P1 K, qL "start_table") ∨ p = (P2 K, qL "_law_pp_tidy") ∨ p = (P3 K, qL "_law_pp_told") := by
  rcases List.mem_cons.mp h with z | z
  · exact .inl z
  · rcases List.mem_cons.mp z with z | z
    · exact .inr (.inl z)
    · exact .inr (.inr (List.mem_singleton.mp z))
theorem Lams.hu1 (L : Lams K mg base) : ∀ p ∈ TT K, p.1 = P1 K → p.2 = qL "start_table" := fun p hp e => by
  rcases tt_cases hp with rfl | rfl | rfl
  · rfl
  · exact absurd e.symm L.n12
  · exact absurd e.symm L.n13
theorem Lams.hu2 (L : Lams K mg base) : ∀ p ∈ TT K, p.1 = P2 K → p.2 = qL "_law_pp_tidy" := fun p hp e => by
  rcases tt_cases hp with rfl | rfl | rfl
  · exact absurd e L.n12
  · rfl
  · exact absurd e.symm L.n23
theorem Lams.hu3 (L : Lams K mg base) : ∀ p ∈ TT K, p.1 = P3 K → p.2 = qL "_law_pp_told" := fun p hp e => by
  rcases tt_cases hp with rfl | rfl | rfl
  · exact absurd e L.n13
  · exact absurd e L.n23
  · rfl
end
def kvOf : List Grp → List Addr → List (Key × V)
  | g :: gs, l :: ls => (Sum.inl (g.1 : Int), V.ref l) :: kvOf gs ls
  | _, _ => []
theorem kvOf_len : ∀ {G : List Grp} {ls : List Addr}, ls.length = G.length → (kvOf G ls).length = G.length
  | [], [], _ => rfl
  | g :: gs, l :: ls, h => by simp only [kvOf, List.length_cons, kvOf_len (G := gs) (ls := ls) (by simpa using h)]
theorem kvOf_none {n : Nat} : ∀ {G : List Grp} {ls : List Addr}, (∀ g ∈ G, g.1 ≠ n) → valV (kvOf G ls) (Sum.inl (n : Int)) = none
  | [], _, _ => rfl
  | g :: gs, [], _ => rfl
  | g :: gs, l :: ls, h => by
    rw [kvOf, valV_neg, kvOf_none fun g hg => h g (List.mem_cons_of_mem _ hg)]
    intro e
    have e2 : (g.1 : Int) = n := Sum.inl.inj e
    exact h g (List.mem_cons_self ..) (by omega)
theorem kvOf_at {n : Nat} : ∀ {G : List Grp} {ls : List Addr} {i : Nat} {g : Grp} {l : Addr}, G[i]? = some g → g.1 = n → ls[i]? = some l → (∀ (j : Nat) (g' : Grp), j < i → G[j]? = some g' → g'.1 ≠ n) → valV (kvOf G ls) (Sum.inl (n : Int)) = some (.ref l)
  | [], _, i, g, l, h, _, _, _ => by simp at h
  | g0 :: gs, [], i, g, l, _, _, h, _ => by simp at h
  | g0 :: gs, l0 :: ls, 0, g, l, h1, h2, h3, _ => by
    simp at h1 h3
    subst h1; subst h3
    exact valV_pos (p := (Sum.inl (g0.1 : Int), V.ref l0)) (by show Sum.inl (g0.1 : Int) = Sum.inl (n : Int); rw [h2])
  | g0 :: gs, l0 :: ls, i + 1, g, l, h1, h2, h3, h4 => by
    rw [kvOf, valV_neg, kvOf_at (by simpa using h1) h2 (by simpa using h3) fun j g' hj hg => h4 (j + 1) g' (by omega) (by simpa using hg)]
    intro e
    have e2 : (g0.1 : Int) = n := Sum.inl.inj e
    exact h4 0 g0 (by omega) rfl (by omega)
theorem kvOf_snoc {n : Nat} {g : Grp} {l : Addr} : ∀ {G : List Grp} {ls : List Addr}, ls.length = G.length → kvOf (G ++ [g]) (ls ++ [l]) = kvOf G ls ++ [(Sum.inl (g.1 : Int), .ref l)]
  | [], [], _ => rfl
  | g0 :: gs, l0 :: ls, h => by simp only [List.cons_append, kvOf, kvOf_snoc (n := n) (G := gs) (ls := ls) (by simpa using h)]
theorem kvOf_set {i : Nat} {g g' : Grp} : ∀ {G : List Grp} {ls : List Addr}, G[i]? = some g → g'.1 = g.1 → kvOf (G.set i g') ls = kvOf G ls := by
  induction i with
  | zero => intro G ls h e; cases G with
    | nil => simp at h
    | cons g0 gs =>
      simp at h
      subst h
      cases ls with
      | nil => rfl
      | cons l ls => simp [kvOf, e]
  | succ i ih => intro G ls h e; cases G with
    | nil => simp at h
    | cons g0 gs => cases ls with
      | nil => rfl
      | cons l ls => simp only [List.set_cons_succ, kvOf, ih (by simpa using h) e]
theorem kvOf_get : ∀ {G : List Grp} {ls : List Addr} {i : Nat} {g : Grp} {l : Addr}, G[i]? = some g → ls[i]? = some l → (kvOf G ls)[i]? = some (Sum.inl (g.1 : Int), V.ref l)
  | [], _, i, g, l, h, _ => by simp at h
  | g0 :: gs, [], i, g, l, _, h => by simp at h
  | g0 :: gs, l0 :: ls, 0, g, l, h1, h2 => by simp at h1 h2; subst h1; subst h2; rfl
  | g0 :: gs, l0 :: ls, i + 1, g, l, h1, h2 => by
    simp only [kvOf]
    exact kvOf_get (G := gs) (ls := ls) (by simpa using h1) (by simpa using h2)
theorem IsSpot.k {H H' : Hp} (f : ∀ b xs, H b = some (.tup xs) → H' b = some (.tup xs)) {v : V} {x : Spot} (h : IsSpot H v x) : IsSpot H' v x := let ⟨q, a, b⟩ := h; ⟨q, a, f _ _ b⟩
theorem IsGrp.k {H H' : Hp} (f : ∀ b xs, H b = some (.tup xs) → H' b = some (.tup xs)) {v : V} {x : Grp} (h : IsGrp H v x) : IsGrp H' v x := let ⟨p, sp, vs, a, b, c, d⟩ := h; ⟨p, sp, vs, a, f _ _ b, f _ _ c, d.mono fun _ _ => IsSpot.k f⟩
theorem grp_first {G : List Grp} (nd : (G.map (·.1)).Nodup) (i : Nat) {g : Grp} (hg : G[i]? = some g) : ∀ (j : Nat) (g' : Grp), j < i → G[j]? = some g' → g'.1 ≠ g.1 := fun j g' hj h e => by
  have := nodup_at nd (i := j) (j := i) (x := g.1) (by rw [List.getElem?_map, h]; simp [e]) (by rw [List.getElem?_map, hg]; rfl)
  omega
structure GrpsAt (H : Hp) (gd : Addr) (G : List Grp) (ls : List Addr) : Prop where
  d : H gd = some (.dK (kvOf G ls))
  len : ls.length = G.length
  nd : ls.Nodup
  at_ : ∀ (i : Nat) (g : Grp) (l : Addr), G[i]? = some g → ls[i]? = some l → ∃ vs, H l = some (.lst vs) ∧ AllAt (IsSpot H) vs g.2
theorem GrpsAt.same {H H' : Hp} {gd : Addr} {G : List Grp} {ls : List Addr} (e : Same H H') (h : GrpsAt H gd G ls) : GrpsAt H' gd G ls :=
  ⟨e _ _ h.d, h.len, h.nd, fun i g l a b => let ⟨vs, c, d⟩ := h.at_ i g l a b; ⟨vs, e _ _ c, d.mono fun _ _ => IsSpot.same e⟩⟩
theorem GrpsAt.addNew {H H' : Hp} {gd t : Addr} {G : List Grp} {ls : List Addr} {n : Nat} {v : V} {x : Spot} (g : GrpsAt H gd G ls) (hn : ∀ g ∈ G, g.1 ≠ n) (keep : ∀ b y, H b = some y → HO.kd y ≠ 2 → H' b = some y)
    (hd : H' gd = some (.dK (kvOf G ls ++ [(Sum.inl (n : Int), .ref t)]))) (ht : H' t = some (.lst [v])) (hv : IsSpot H' v x) (htn : t ∉ ls) : GrpsAt H' gd (grpAdd G n x) (ls ++ [t]) := by
  rw [grp_new hn]
  refine ⟨by rw [hd, kvOf_snoc (n := n) g.len], by simp [g.len], nd_snoc g.nd htn, fun i g' l h1 h2 => ?_⟩
  by_cases hi : i < G.length
  · rw [List.getElem?_append_left hi] at h1
    rw [List.getElem?_append_left (by rw [g.len]; exact hi)] at h2
    obtain ⟨vs, a, b⟩ := g.at_ i g' l h1 h2
    exact ⟨vs, keep _ _ a (by simp [HO.kd]), b.mono fun _ _ => IsSpot.k fun b xs h => keep _ _ h (by simp [HO.kd])⟩
  · have e : i = G.length := by
      have := (List.getElem?_eq_some_iff.mp h1).1
      simp at this; omega
    subst e
    rw [List.getElem?_append_right (Nat.le_refl _)] at h1
    rw [List.getElem?_append_right (by rw [g.len]; exact Nat.le_refl _)] at h2
    rw [g.len] at h2
    simp at h1 h2
    subst h1; subst h2
    exact ⟨[v], ht, AllAt.nil.snoc hv⟩
theorem GrpsAt.addOld {H H' : Hp} {gd l : Addr} {G : List Grp} {ls : List Addr} {n i : Nat} {v : V} {x : Spot} {g0 : Grp} {vs : List V} (g : GrpsAt H gd G ls) (h1 : G[i]? = some g0) (h2 : g0.1 = n) (h3 : ∀ (j : Nat) (g' : Grp), j < i → G[j]? = some g' → g'.1 ≠ n) (hl : ls[i]? = some l)
    (hvs : H l = some (.lst vs)) (keep : ∀ b y, H b = some y → b ≠ l → H' b = some y) (hd : H' l = some (.lst (vs ++ [v]))) (hv : IsSpot H' v x) : GrpsAt H' gd (grpAdd G n x) ls := by
  rw [grp_at h1 h2 h3]
  have kt : ∀ b xs, H b = some (.tup xs) → H' b = some (.tup xs) := fun b xs h => keep _ _ h (new_kind h hvs (by simp [HO.kd]))
  refine ⟨(by rw [kvOf_set (g := g0) (g' := (g0.1, g0.2 ++ [x])) h1 rfl]; exact keep _ _ g.d (new_kind g.d hvs (by simp [HO.kd]))), by simp [g.len], g.nd, fun j g' l' a b => ?_⟩
  by_cases e : j = i
  · subst e
    rw [hl] at b
    cases b
    rw [List.getElem?_set_self (List.getElem?_eq_some_iff.mp h1).1] at a
    cases a
    obtain ⟨vs', c, d⟩ := g.at_ j g0 l h1 hl
    rw [hvs] at c
    cases c
    exact ⟨_, hd, (d.mono fun _ _ => IsSpot.k kt).snoc hv⟩
  · rw [List.getElem?_set_ne (fun z => e z.symm)] at a
    obtain ⟨vs', c, d⟩ := g.at_ j g' l' a b
    exact ⟨vs', keep _ _ c fun z => e (by subst z; exact nodup_at g.nd b hl), d.mono fun _ _ => IsSpot.k kt⟩
variable {P : Program} {w : World} {K : PySem.W.Frag} {mg : Str → Option Value} {base : Heap}
abbrev s_start_table : Stmt := top 53
abbrev N_start_table : List Str := ["code", "groups", "hue", "at", "number", "found"]
theorem sc_start_table : FnScope N_start_table ["code"] (defScope s_start_table) := ⟨rfl, rfl, rfl, by decide +kernel, rfl, by decide +kernel, by decide +kernel⟩
def sp_start_table (K : PySem.W.Frag) : Sp := fun vs H Q _ => ∃ (a : Addr) (C : Code), vs = [.ref a] ∧ IsCode H a C ∧ C.Ok ∧ Tabs (TT K) H ∧ ∀ p H', ExtN H H' → Tabs (TT K) H' → IsTab H' p (tableOf C) → Q (.ref p) H'
theorem C_start_table (T : Txt K mg) (L : Lams K mg base) : C8.Cal P w K mg base 2 "start_table" (sp_start_table K) [] := by
  refine calC (N := N_start_table) (ps := ["code"]) L.d1 (fun _ _ _ _ _ _ us hl => match us, hl with | [_], _ => rfl) sc_start_table (fun vs H Q E h => ?_) (fun f A outer s H vs Q E hr h => ?_)
  · obtain ⟨a, C, rfl, _⟩ := h
    rfl
  · obtain ⟨a, C, rfl, ⟨va, ca, ba, vs, hc⟩, ok, hT, k⟩ := h
    have hu := hu_of hr
    refine ⟨_, (pss_cons (ps_set (i := 1) sc_start_table.nd rfl (by first | exact .inl rfl | exact .inr rfl) pe_dnewK)
    (pss_cons (ps_for PassesOwn.never rfl (pi_range1 (by rfl) T.b_range (pa_cons (pe_callB (call_lenK (K := K) rfl) (by rfl) T.b_len PySem.boot_len (pa_cons (pe_ix (ix_tupK (K := K) rfl) (pv 0) pe_int (fun _ _ => rfl)) pa_nil)) pa_nil)) (pg_name (i := 2) sc_start_table.nd rfl (by first | exact .inl rfl | exact .inr rfl)) (pss_one (ps_for PassesOwn.never rfl (pi_enum (by rfl) T.b_enumerate (pa_cons (pe_op op_cat (pe_op op_rep (pe_lst (pa_cons pe_int pa_nil)) (C8.pe_gc rfl T.g_REGISTERS)) (pe_callTy (call_listK (K := K) rfl) (by rfl) T.b_list (by decide +kernel) (pa_cons (pe_ix (ix_tupK (K := K) rfl) (pv 0) pe_int (fun _ _ => rfl)) pa_nil))) pa_nil)) (pg_tup rfl (pgs_cons (pg_name (i := 3) sc_start_table.nd rfl (by first | exact .inl rfl | exact .inr rfl)) (pgs_cons (pg_name (i := 4) sc_start_table.nd rfl (by first | exact .inl rfl | exact .inr rfl)) pgs_nil))) (pss_one (ps_expr (pe_bm PySem.F.plainAttrs_list PySem.F.slot_list_append PySem.F.type_list_append mt_append (pe_dsetd (pv 1) (pv 4) (pe_lst pa_nil) ⟨by rfl, by rfl, by rfl, by rfl⟩) (pa_cons (pe_tup (pa_cons (pv 2) (pa_cons (pv 3) pa_nil))) pa_nil)))))))
    (pss_cons (ps_lock (ps_setLc (i := 5) (own := [("number", 4)]) rfl sc_start_table.nd rfl rfl (sw_true rfl rfl rfl (by decide +kernel)) (pi_keys (pv 1)) (blkOk_by (own := [("number", 4)]) (N := N_start_table) (sc := defScope s_start_table) (by decide +kernel)) (fun _ _ _ _ _ => (pg_name (i := 4) sc_start_table.nd rfl (by first | exact .inl rfl | exact .inr rfl))) (fun _ _ _ _ _ => pts_nil) (fun _ _ _ _ _ => (pe_tup (pa_cons (pv 4) (pa_cons (pe_callTy (call_tupleK (K := K) rfl) (by rfl) T.b_tuple (by decide +kernel) (pa_cons (pe_dget hu (pv 1) (pv 4) (fun _ _ => rfl)) pa_nil)) pa_nil))))))
    (pss_one (ps_ret (pe_sortL (T := TT K) (by rfl) T.b_sorted (by decide +kernel) (pa_cons (pv 5) pa_nil) L.tb1 rfl (L.mem1) (L.hu1) hr (by rfl) rfl rfl rfl (by decide) (by decide) rfl rfl (fun _ _ _ _ _ => rfl))))))), ?_⟩
    have h1 : 1 ≤ C.votes.length := ok.h1
    have h5 : C.votes.length ≤ 5 := ok.h5
    have z3 : C.bank.length ≤ 3 := ok.b3
    have bl := big_line
    intro gd hgd
    have s1 : Same H (upd H gd (.dK [])) := same_upd hgd
    have hc1 := (hc.same s1).top
    have hc2 := (hc.same s1).vo
    have hml : (C.votes.map nV).length = C.votes.length := List.length_map ..
    iterate 4 first | refine ⟨_, rfl, ?_⟩ | refine ⟨_, _, rfl, .inr (SqT.of (by repeat (first | assumption | exact upd_same .. | refine u1 (by assumption) ?_ | refine um (by assumption) ?_ | refine sa (by assumption) ?_))), ?_⟩ | refine ⟨_, _, _, _, rfl, rfl, SqT.of (by repeat (first | assumption | exact upd_same .. | refine u1 (by assumption) ?_ | refine um (by assumption) ?_ | refine sa (by assumption) ?_)), atI_nat (j := 0) rfl, ?_⟩
    refine ⟨by omega, by omega, ?_⟩
    rw [show ((List.map nV C.votes).length : Int).toNat = C.votes.length by rw [List.length_map, Int.toNat_natCast]]
    refine for_range (lo := 0) (n := C.votes.length) (fun i σ H' => (∃ l2 l3 l4 l5, σ = [some (V.ref a), some (.ref gd), l2, l3, l4, l5]) ∧ Same H H' ∧ ∃ ls, GrpsAt H' gd (groupsOf C.bank (spots i (8 + C.bank.length))) ls ∧ ∀ l ∈ ls, H l = none)
      ⟨⟨_, _, _, _, rfl⟩, s1, [], ⟨upd_same, rfl, List.nodup_nil, fun i g l h => by simp [groupsOf, spots] at h⟩, fun l h => (by cases h)⟩ (fun i σ H' hi p => ?_) (fun σ H' p => ?_)
    · obtain ⟨⟨l2, l3, l4, l5, rfl⟩, s2, ls, g1, g2⟩ := p
      have hcx := hc.same s2
      have e1 := hcx.top
      have e2 := hcx.ba
      rw [Int.zero_add]
      iterate 5 first | refine ⟨_, rfl, ?_⟩ | refine ⟨_, _, rfl, .inr (SqT.of (by repeat (first | assumption | exact upd_same .. | refine u1 (by assumption) ?_ | refine um (by assumption) ?_ | refine sa (by assumption) ?_))), ?_⟩ | refine ⟨_, _, _, _, rfl, rfl, SqT.of (by repeat (first | assumption | exact upd_same .. | refine u1 (by assumption) ?_ | refine um (by assumption) ?_ | refine sa (by assumption) ?_)), atI_nat (j := 3) rfl, ?_⟩ | refine ⟨le_line (of_decide_eq_true rfl), fun t ht => ?_⟩ | refine ⟨_, _, _, rfl, rfl, upd_same, by omega, by omega, le_line (by first | (simp; done) | (simp; omega)), fun t ht => ?_⟩
      rename_i t1 ht1
      intro q1 hq1
      have rc : (List.replicate (Int.toNat 8) [V.int 0]).flatten = (List.replicate 8 0).map nV := rfl
      rw [rc]
      have fr8 : upd (upd (upd H' t1 (.lst [V.int 0])) t (.lst ((List.replicate 8 0).map nV))) q1 (.lst (C.bank.map nV)) t = some (.lst ((List.replicate 8 0).map nV)) := u1 hq1 upd_same
      refine ⟨_, _, _, _, rfl, rfl, fr8, upd_same, by simp; omega, fun q hq => ?_⟩
      have ecat : (List.replicate 8 0).map nV ++ C.bank.map nV = (List.replicate 8 0 ++ C.bank).map nV := (List.map_append ..).symm
      rw [ecat]
      have sq : Same H' (upd (upd (upd (upd H' t1 (.lst [V.int 0])) t (.lst ((List.replicate 8 0).map nV))) q1 (.lst (C.bank.map nV))) q (.lst ((List.replicate 8 0 ++ C.bank).map nV))) := (((same_upd ht1).trans (same_upd ht)).trans (same_upd hq1)).trans (same_upd hq)
      have g3 := g1.same sq
      have hqn : H q = none := same_none (s2.trans (((same_upd ht1).trans (same_upd ht)).trans (same_upd hq1))) hq
      have hql : q ∉ ls := fun m => by
        obtain ⟨i', hi'⟩ := List.mem_iff_getElem?.mp m
        obtain ⟨vs', z, _⟩ := g1.at_ i' _ _ (List.getElem?_eq_getElem (by rw [← g1.len]; exact (List.getElem?_eq_some_iff.mp hi').1)) hi'
        exact (ne_of_none (u1 (o := .lst (C.bank.map nV)) hq1 (u1 (o := .lst ((List.replicate 8 0).map nV)) ht (u1 (o := .lst [.int 0]) ht1 z))) hq) rfl
      have s3 := s2.trans sq
      have hXq : upd (upd (upd (upd H' t1 (.lst [V.int 0])) t (.lst ((List.replicate 8 0).map nV))) q1 (.lst (C.bank.map nV))) q (.lst ((List.replicate 8 0 ++ C.bank).map nV)) q = _ := upd_same
      generalize upd (upd (upd (upd H' t1 _) t _) q1 _) q (.lst ((List.replicate 8 0 ++ C.bank).map nV)) = X at sq g3 s3 hXq ⊢
      have nul : (List.replicate 8 0 ++ C.bank).length = 8 + C.bank.length := by rw [List.length_append, List.length_replicate]
      have nuat : ∀ j n, (List.replicate 8 0 ++ C.bank)[j]? = some n → n = ini C.bank j := fun j n hj => by
        unfold ini
        by_cases hj8 : j < 8
        · rw [List.getElem?_append_left (by simpa using hj8), List.getElem?_replicate, if_pos hj8] at hj
          rw [if_pos hj8]; cases hj; rfl
        · rw [List.getElem?_append_right (by simpa using Nat.le_of_not_lt hj8), List.length_replicate] at hj
          rw [if_neg hj8, List.getD_eq_getElem?_getD, hj]; rfl
      generalize List.replicate 8 0 ++ C.bank = nu at *
      refine ⟨_, _, rfl, SqL.of hXq, ?_⟩
      refine for_it walk_enum (fun j σ H' => (∃ l3 l4 l5, σ = [some (V.ref a), some (.ref gd), some (nV i), l3, l4, l5]) ∧ Same H H' ∧ H' q = some (.lst (nu.map nV)) ∧ ∃ ls, GrpsAt H' gd (groupsOf C.bank (spots i (8 + C.bank.length) ++ rowOf i j)) ls ∧ (∀ l ∈ ls, H l = none) ∧ q ∉ ls)
        ⟨⟨_, _, _, rfl⟩, s3, hXq, ls, by simpa [rowOf] using g3, g2, hql⟩ (fun j σ H' _ p => SqL.of p.2.2.1) (fun j x σ H1 H2 hj p y => ?_) (fun σ H' p => ?_)
      · obtain ⟨⟨l3, l4, l5, rfl⟩, s4, hq4, ls, g4, g5, g6⟩ := p
        obtain ⟨tp, x1, x2, rfl, htp, rfl, ex1, ex2⟩ := y
        cases ex1
        obtain ⟨n, hn, rfl⟩ := mapAt ex2
        have en := nuat j n hn
        have hjm : j < 8 + C.bank.length := by rw [← nul]; exact (List.getElem?_eq_some_iff.mp hn).1
        have hd1 := u1 (o := .tup [.int (j : Nat), nV n]) htp g4.d
        have gok := groups_ok C.bank (spots i (8 + C.bank.length) ++ rowOf i j)
        have e9 : groupsOf C.bank (spots i (8 + C.bank.length) ++ rowOf i (j + 1)) = grpAdd (groupsOf C.bank (spots i (8 + C.bank.length) ++ rowOf i j)) n (i, j) := by
          rw [rowOf_succ, ← List.append_assoc, groups_snoc]
          rw [en]
        have gok := gok (by
            have hp := spots_pw (8 + C.bank.length) (i + 1)
            rw [spots] at hp
            refine hp.sublist (List.Sublist.append (List.Sublist.refl _) ?_)
            unfold rowOf
            exact (List.range_sublist.mpr (by omega)).map _)
        have hxl : (spots i (8 + C.bank.length) ++ rowOf i j).length ≤ 1000 := by
          rw [List.length_append, spots_len]
          have : i * (8 + C.bank.length) ≤ 5 * 11 := Nat.mul_le_mul (by omega) (by omega)
          have h3 : (rowOf i j).length = j := by simp [rowOf]
          omega
        have hGl : (groupsOf C.bank (spots i (8 + C.bank.length) ++ rowOf i j)).length ≤ 1000 := Nat.le_trans gok.len hxl
        have hkl := kvOf_len (G := groupsOf C.bank (spots i (8 + C.bank.length) ++ rowOf i j)) (ls := ls) g4.len
        iterate 3 first | refine ⟨_, rfl, ?_⟩ | refine ⟨_, _, rfl, SqT.of (by repeat (first | assumption | exact upd_same .. | refine u1 (by assumption) ?_ | refine um (by assumption) ?_ | refine sa (by assumption) ?_)), rfl, _, _, rfl, _, _, rfl, rfl, ?_⟩
        refine ⟨.inl ⟨_, .inl hd1⟩, ?_⟩
        iterate 2 first | refine ⟨_, rfl, ?_⟩ | refine ⟨le_line (of_decide_eq_true rfl), fun t ht => ?_⟩
        rename_i t9 ht9
        refine ⟨_, Sum.inl (n : Int), u1 ht hd1, rfl, by omega, fun v hv => ?_, fun hv => ?_⟩
        · rcases grp_cases n (groupsOf C.bank (spots i (8 + C.bank.length) ++ rowOf i j)) with hnew | ⟨m, g0, m1, m2, m3⟩
          · rw [kvOf_none hnew] at hv; cases hv
          have hml : m < ls.length := by rw [g4.len]; exact (List.getElem?_eq_some_iff.mp m1).1
          have hlm : ls[m]? = some ls[m] := List.getElem?_eq_getElem hml
          rw [kvOf_at m1 m2 hlm m3] at hv
          cases hv
          obtain ⟨vs0, v1, v2⟩ := g4.at_ m g0 _ m1 hlm
          have hl2 := u1 (o := .lst []) ht (u1 (o := .tup [.int (j : Nat), nV n]) htp v1)
          refine ⟨.inl ⟨rfl, _, SqL.of hl2⟩, ?_⟩
          iterate 3 first | refine ⟨_, rfl, ?_⟩ | refine ⟨le_line (of_decide_eq_true rfl), fun t ht => ?_⟩
          rename_i t0 ht0 t9 ht9
          have hl3 := u1 (o := .tup [nV i, .int (j : Nat)]) ht hl2
          have hcnt := gok.cnt g0 (List.mem_of_getElem? m1)
          refine ⟨_, _, _, rfl, rfl, hl3, by rw [v2.1]; omega, ?_⟩
          have keep0 : Same H1 (upd (upd (upd H1 tp (.tup [.int (j : Nat), nV n])) t9 (.lst [])) t (.tup [nV i, .int (j : Nat)])) := ((same_upd htp).trans (same_upd ht9)).trans (same_upd ht)
          have hqm : q ≠ ls[m] := fun e => g6 (by rw [e]; exact List.getElem_mem hml)
          refine ⟨⟨_, _, _, rfl⟩, same_mut (s4.trans keep0) (g5 _ (List.getElem_mem hml)), um hqm (keep0 _ _ hq4), ls, ?_, g5, g6⟩
          rw [e9]
          exact (g4.same keep0).addOld m1 m2 m3 hlm (keep0 _ _ v1) (fun b y hb n => um n hb) upd_same ⟨t, rfl, um (new_kind upd_same (keep0 _ _ v1) (by simp [HO.kd])) upd_same⟩
        · rcases grp_cases n (groupsOf C.bank (spots i (8 + C.bank.length) ++ rowOf i j)) with hnew | ⟨m, g0, m1, m2, m3⟩
          · rw [putK_new _ hv]
            generalize t = tl at *
            have htl := ht
            have s12 : Same H1 (upd (upd H1 tp (.tup [.int (j : Nat), nV n])) tl (.lst [])) := (same_upd htp).trans (same_upd htl)
            have tgd : tl ≠ gd := (ne_of_none hd1 htl).symm
            have hls : upd (upd (upd H1 tp (.tup [.int (j : Nat), nV n])) tl (.lst [])) gd (.dK (kvOf (groupsOf C.bank (spots i (8 + C.bank.length) ++ rowOf i j)) ls ++ [(Sum.inl (n : Int), .ref tl)])) tl = some (.lst []) := um tgd upd_same
            refine ⟨.inl ⟨rfl, _, SqL.of hls⟩, ?_⟩
            iterate 3 first | refine ⟨_, rfl, ?_⟩ | refine ⟨le_line (of_decide_eq_true rfl), fun t ht => ?_⟩
            refine ⟨_, _, _, rfl, rfl, u1 ht hls, by simp; omega, ?_⟩
            have hgdH : H gd = none := hgd
            have htlH : H tl = none := same_none (s4.trans (same_upd htp)) htl
            have hgd3 := u1 (o := .tup [nV i, .int (j : Nat)]) ht (upd_same (H := upd (upd H1 tp (.tup [.int (j : Nat), nV n])) tl (.lst [])) (a := gd) (o := .dK (kvOf (groupsOf C.bank (spots i (8 + C.bank.length) ++ rowOf i j)) ls ++ [(Sum.inl (n : Int), .ref tl)])))
            have keep : ∀ b y, H1 b = some y → HO.kd y ≠ 2 → upd (upd (upd (upd (upd H1 tp (.tup [.int (j : Nat), nV n])) tl (.lst [])) gd (.dK (kvOf (groupsOf C.bank (spots i (8 + C.bank.length) ++ rowOf i j)) ls ++ [(Sum.inl (n : Int), .ref tl)]))) t (.tup [nV i, .int (j : Nat)])) tl (.lst [.ref t]) b = some y := fun b y hb n => by
              have nb : b ≠ gd := fun e => by rw [e, g4.d] at hb; cases hb; exact n rfl
              have nb2 : b ≠ tl := ne_of_none hb (same_none (same_upd htp) htl)
              exact um nb2 (u1 ht (um nb (s12 _ _ hb)))
            refine ⟨⟨_, _, _, rfl⟩, same_mut ((same_mut (s4.trans s12) hgdH).trans (same_upd ht)) htlH, keep _ _ hq4 (by simp [HO.kd]), ls ++ [tl], ?_, fun l hl => ?_, fun m => ?_⟩
            · rw [e9]
              refine g4.addNew hnew keep ((um (Ne.symm tgd) hgd3)) upd_same ⟨t, rfl, um (ne_of_none hls ht).symm upd_same⟩ fun m => ?_
              obtain ⟨m', hm'⟩ := List.mem_iff_getElem?.mp m
              obtain ⟨vs', z, _⟩ := g4.at_ m' _ _ (List.getElem?_eq_getElem (by rw [← g4.len]; exact (List.getElem?_eq_some_iff.mp hm').1)) hm'
              exact (ne_of_none z (same_none (same_upd htp) htl)) rfl
            · rcases List.mem_append.mp hl with z | z
              · exact g5 l z
              · rw [List.mem_singleton.mp z]; exact htlH
            · rcases List.mem_append.mp m with z | z
              · exact g6 z
              · rw [List.mem_singleton.mp z] at hq4
                exact (ne_of_none hq4 (same_none (same_upd htp) htl)) rfl
          · have hlm : ls[m]? = some (ls[m]'(by rw [g4.len]; exact (List.getElem?_eq_some_iff.mp m1).1)) := List.getElem?_eq_getElem _
            rw [kvOf_at m1 m2 hlm m3] at hv
            cases hv
      · obtain ⟨⟨l3, l4, l5, rfl⟩, s4, hq4, ls, g4, g5, g6⟩ := p
        exact ⟨⟨_, _, _, _, rfl⟩, s4, ls, by rw [List.length_map, nul] at g4; exact g4, g5⟩
    · obtain ⟨⟨l2, l3, l4, l5, rfl⟩, s4, ls, g4, g5⟩ := p
      have gok := table_gok C
      have eT : groupsOf C.bank (spots C.votes.length (8 + C.bank.length)) = tableOf C := rfl
      rw [eT] at g4
      have hGl : (tableOf C).length ≤ 100 := (table_ok C ok).few
      have hGok : ((tableOf C).map (·.1)).Nodup := table_keys C
      generalize hG : tableOf C = G at *
      have hgdH : H gd = none := hgd
      refine ⟨gd, _, g4.d, trivial, fun od => ?_⟩
      have sL : Same H (upd H' gd (.frz od (.dK (kvOf G ls)))) := same_mut s4 hgdH
      have fL : upd H' gd (.frz od (.dK (kvOf G ls))) gd = some (.frz od (.dK (kvOf G ls))) := upd_same
      have gat : ∀ (i : Nat) (g : Grp) (l : Addr), G[i]? = some g → ls[i]? = some l → ∃ vs, upd H' gd (.frz od (.dK (kvOf G ls))) l = some (.lst vs) ∧ AllAt (IsSpot (upd H' gd (.frz od (.dK (kvOf G ls))))) vs g.2 := fun i g l h1 h2 => by
        obtain ⟨vs, a, b⟩ := g4.at_ i g l h1 h2
        exact ⟨vs, um (new_kind a g4.d (by simp [HO.kd])) a, b.mono fun _ _ => IsSpot.k fun b xs h => um (new_kind h g4.d (by simp [HO.kd])) h⟩
      generalize upd H' gd (.frz od (.dK (kvOf G ls))) = XL at sL fL gat ⊢
      refine ⟨_, rfl, gd, od, rfl, .inl ⟨_, fL, fun D hD => ?_⟩⟩
      have hkl := kvOf_len g4.len
      refine lc_it walk_keys (fun i H2 => Same XL H2 ∧ ∃ vs, H2 D = some (.lst vs) ∧ AllAt (IsGrp H2) vs (G.take i)) ⟨same_upd hD, [], upd_same, by simpa using AllAt.nil⟩ (fun i H2 _ p => p.1 _ _ fL) (fun i x H2 H3 hi p y => ?_) (fun H2 p => ?_)
      · obtain ⟨sX, vs, hDv, hav⟩ := p
        obtain ⟨rfl, kk, vv, hkv, rfl⟩ := y
        have hiG : i < G.length := by omega
        have hg : G[i]? = some G[i] := List.getElem?_eq_getElem hiG
        have hil : i < ls.length := by rw [g4.len]; exact hiG
        have hl : ls[i]? = some ls[i] := List.getElem?_eq_getElem hil
        have hkk : (kvOf G ls)[i]? = some (Sum.inl (G[i].1 : Int), V.ref ls[i]) := kvOf_get hg hl
        rw [hkk] at hkv
        cases hkv
        obtain ⟨ws, w1, w2⟩ := gat i _ _ hg hl
        have w3 := sX _ _ w1
        have nd9 := (gok.pw)
        have hval : valV (kvOf G ls) (Sum.inl (G[i].1 : Int)) = some (.ref ls[i]) := kvOf_at hg rfl hl (grp_first hGok i hg)
        have bl := big_line
        have hvl : vs.length = i := by rw [hav.1, List.length_take]; omega
        refine ⟨rfl, ?_⟩
        refine ⟨_, rfl, _, rfl, _, rfl, gd, .ref ls[i], rfl, ?_, ?_⟩
        · rw [← hval]
          exact .inl ⟨_, _, .inr ⟨od, sX _ _ fL⟩, rfl, rfl⟩
        refine ⟨_, _, rfl, .inl ⟨SqL.of w3, fun t ht => ?_⟩⟩
        refine ⟨le_line (of_decide_eq_true rfl), fun p hp => ?_⟩
        have sm : Same H3 (upd (upd H3 t (.tup ws)) p (.tup [nV G[i].1, .ref t])) := (same_upd ht).trans (same_upd hp)
        have pD : D ≠ p := ne_of_none (u1 (o := .tup ws) ht hDv) hp
        have tD : D ≠ t := ne_of_none hDv ht
        refine ⟨vs, sm _ _ hDv, by omega, same_mut (sX.trans sm) hD, _, upd_same, ?_⟩
        have tk : G.take (i + 1) = G.take i ++ [G[i]] := by rw [List.take_add_one, hg]; rfl
        rw [tk]
        have kt : ∀ b xs, H3 b = some (.tup xs) → upd (upd (upd H3 t (.tup ws)) p (.tup [nV G[i].1, .ref t])) D (.lst (vs ++ [.ref p])) b = some (.tup xs) := fun b xs h => um (new_kind h hDv (by simp [HO.kd])) (sm _ _ h)
        refine (hav.mono fun v g h => h.k kt).snoc ⟨p, t, ws, rfl, um (Ne.symm pD) upd_same, um (Ne.symm tD) (u1 hp upd_same), w2.mono fun v x h => (h.same sX).k kt⟩
      · obtain ⟨sX, vs, hDv, hav⟩ := p
        rw [hkl, List.take_length] at hav
        refine ⟨sX _ _ fL, ?_⟩
        have sF := same_mut (o := .dK (kvOf G ls)) (sL.trans sX) hgdH
        have fD : upd H2 gd (.dK (kvOf G ls)) D = some (.lst vs) := um (ne_of_none fL hD).symm hDv
        have kt : ∀ b xs, H2 b = some (.tup xs) → upd H2 gd (.dK (kvOf G ls)) b = some (.tup xs) := fun b xs h => um (fun e => by rw [e, sX _ _ fL] at h; cases h) h
        have hav2 := hav.mono fun v g h => h.k kt
        generalize upd H2 gd (.dK (kvOf G ls)) = XF at sF fD hav2 ⊢
        refine ⟨_, rfl, hT.ext sF, D, vs, G.map fun g => (((hd g).1 : Int), ((hd g).2 : Int)), rfl, fD, ?_, ?_, by simp; omega, fun p H9 eN T9 hp => ?_⟩
        · refine ⟨by rw [List.length_map]; exact hav2.1, fun i v x a b => ?_⟩
          rw [List.getElem?_map] at b
          obtain ⟨g, hg, rfl⟩ := Option.map_eq_some_iff.mp b
          obtain ⟨p, sp, ws, e0, e1, e2, e3⟩ := hav2.2 i v g a hg
          have hne := gok.ne g (List.mem_of_getElem? hg)
          cases hws : ws with
          | nil =>
            have := e3.1
            rw [hws] at this
            exact absurd (List.length_eq_zero_iff.mp this.symm) hne
          | cons y ys =>
            obtain ⟨x0, hx0, q0, r1, r2⟩ := e3.get (i := 0) (v := y) (by rw [hws]; rfl)
            have ehd : hd g = x0 := by
              unfold hd
              cases hgl : g.2 with
              | nil => exact absurd hgl hne
              | cons c l => rw [hgl] at hx0; simp at hx0; rw [hx0]; rfl
            refine ⟨p, nV g.1, sp, q0, ys, e0, e1, by rw [e2, hws, r1], ?_⟩
            rw [ehd]; exact r2
        · refine List.pairwise_map.mpr ((List.pairwise_map.mp gok.pw).imp fun {a b} h => ?_)
          rcases h with z | z
          · exact .inl (by show ((hd a).1 : Int) < (hd b).1; omega)
          · exact .inr ⟨by show ((hd a).1 : Int) = (hd b).1; omega, by show ((hd a).2 : Int) < (hd b).2; omega⟩
        · have hnT : ∀ b o, H b = some o → (∀ ps, o ≠ .tbl ps) → H9 b = some o := fun b o h n => eN b o (sF _ _ h) n
          refine k p _ (fun b o h n => ?_) (T9.ext (same_upd hp)) ⟨vs, upd_same, hav2.mono fun v g h => h.k fun b xs h => u1 hp (eN _ _ h fun _ z => by cases z)⟩
          exact u1 hp (hnT b o h n)
end Hw
namespace Hw
open PySem PySem.Spec PyProof.Rows L2 NdefX
def NFn (cda cc : Addr) : NF := ⟨"__init__", "NoPaper.__init__", defArgs sNP, defBody sNP, defScope sNP, [("__class__", cc)], cda⟩
structure NPF (P : Program) (K : PySem.W.Frag) (mg : Str → Option Value) : Prop where
  fn : ∃ (cda cc : Addr) (oc : Value) (od : Option Addr) (doc pm ctv : Value) (osl : Array (Option Value)), K.lookup (fI K) = some ⟨oc, od, .func ((NFn cda cc).fd doc pm ctv), osl⟩ ∧ PySem.W.codeIn K (.ref cda) "NoPaper.__init__" = true ∧
    (∃ (a : Value) (b : Option Addr) (vs : Array Value) (c : Array (Option Value)) (file : Str) (tf : Tok), K.lookup cda = some ⟨a, b, .fields vs, c⟩ ∧ vs[2]? = some (.str file tf) ∧ ((P.main.file : Str) == file) = true) ∧
    ∃ (a : Value) (b : Option Addr) (c : Array (Option Value)), K.lookup cc = some ⟨a, b, .cell (some (.ref (CN K))), c⟩
  oex : OexC K (CN K)
  sup : PySem.W.ks_superIn K (CN K) (CN K) "__init__" = some (some (.builtin "ValueError.__init__"))
  subV : PySem.W.subIn K (.ref (CN K)) (.type "ValueError") = some true
  opq : PySem.W.nsIn K cStatics "thirdparty.any" = some none
  iC : PySem.W.findIn K (.ref (CN K)) "__init__" = some (some (.ref (fI K)))
  tI : PySem.W.typeIn K (.ref (fI K)) = some (.type "function")
  no : PySem.W.findIn K (.ref (CN K)) "address" = some none
  mgC : mg "NoPaper" = some (.ref (CN K))
  mgS : mg "super" = none
  mgH : mg "HueError" = some (.ref (CH K))
  mroS : PySem.W.mroIn K (CN K) (.ref (CN K)) = some true
  top : (P.main.scope.names.lookup ("super" : Str)).isSome = false
abbrev N_NP : List Str := ["self", "address", "__class__"]
theorem sc_NP (cda cc : Addr) : NScope N_NP ["self", "address"] ["__class__"] (NFn cda cc).scope := nscope_by (show nscB N_NP ["self", "address"] ["__class__"] (defScope sNP) = true by decide +kernel)
def sp_np (K : PySem.W.Frag) : Sp := fun vs H Q _ => ∃ (a : Addr) (v : V), vs = [.ref a, v] ∧ H a = some (exo a (CN K) none) ∧
  ∀ dx, H dx = none → dx ≠ a → Q .non (upd (upd H dx (exd dx [("address", v)])) a (exo a (CN K) (some dx)))
theorem np_ok {P : Program} {w : World} {K : PySem.W.Frag} {mg : Str → Option Value} {base : Heap} (N : NPF P K mg) : ∃ fd, FnOk P w K mg base C8.CX0 1 (fI K) fd ["self", "address"] (sp_np K) ∧ Binds K fd ["self", "address"] [] := by
  obtain ⟨cda, cc, oc, od, doc, pm, ctv, osl, lk, hcd, ⟨ca, cb, cvs, cs, file, tf, lkc, hvs, hfile⟩, ⟨la, lb, lc, lkk⟩⟩ := N.fn
  refine ⟨(NFn cda cc).fd doc pm ctv, ⟨fun vs H Q E h => ?_, fun A outer s H args us vs Q E hr e0 hb r hsp => ?_⟩, ?_⟩
  · obtain ⟨a, v, rfl, _⟩ := h
    rfl
  · obtain ⟨a, v, rfl, ha, k0'⟩ := hsp
    have KX : K.In s.heap := e0.mod.kin.keeps fun b o e => (e0.bs b o e).1
    have lim : s.heap.NoLimit := e0.mod.nolimit.keeps fun b o e => (e0.bs b o e).1
    obtain ⟨u1, u2, rfl, r1, r2⟩ := vals2 r
    cases r1
    refine PySem.ks_codeAny_call_defAt (fd := (NFn cda cc).fd doc pm ctv) (body := (NFn cda cc).body) hr.depth (KX _ _ lk) rfl lim (PySem.W.codeRec_of KX hcd) rfl hb (sc_NP cda cc).nocell (fun x hx => ?_) (fun h₁ hns kp => ?_) (sc_NP cda cc).co (sc_NP cda cc).gen (sc_NP cda cc).kind
    · exact (sc_NP cda cc).par x.1 (List.of_mem_zip hx).1
    have hcell : CellsAt (NFn cda cc).cl ["__class__"] [some (V.ref (CN K))] s.heap H := by
      have hl : ∀ y c, ([("__class__", cc)] : List (Str × Addr)).lookup y = some c → y = "__class__" ∧ c = cc := fun y c h => by
        simp only [List.lookup] at h
        split at h
        · rename_i e
          cases h
          exact ⟨by simpa using e, rfl⟩
        · cases h
      have hck : s.heap.IsCell cc (some (.ref (CN K))) := ⟨_, KX _ _ lkk, rfl⟩
      refine ⟨rfl, fun y c h => ?_, fun x y c h1 h2 => ?_, fun i y hi => ?_⟩
      · obtain ⟨_, rfl⟩ := hl y c h
        exact ⟨(e0.bs _ _ (e0.mod.kin _ _ lkk)).2, _, hck⟩
      · rw [(hl x c h1).1, (hl y c h2).1]
      · cases i with
        | zero =>
          simp at hi
          subst hi
          refine ⟨cc, rfl, fun v hv => ?_⟩
          simp at hv
          subst hv
          exact ⟨.ref (CN K), rfl, hck⟩
        | succ i => simp at hi
    have J : Inv (ncx C8.CX0 P w K mg base N_NP (NFn cda cc) (fI K) A outer s H E) [] (startF N_NP [.ref a, v] [some (V.ref (CN K))]) H { s with heap := h₁, toks := s.toks + (["self", "address"].zip [Value.ref a, u2]).length } :=
      inv_startN (sc_NP cda cc) hr.hd e0 rfl r hcell hns kp
    have hs : ((NFn cda cc).scope.names.lookup ("super" : Str)) = some .globalImplicit := rfl
    have hc : ((NFn cda cc).scope.names.lookup ("__class__" : Str)) = some .free := rfl
    have hself : ((NFn cda cc).scope.names.lookup ("self" : Str)) = some .local := rfl
    obtain ⟨nm, q, N0, bs, bm, sn, sub, ab, col, dd, k0, k1, k2, k3, k5, hC, hbm⟩ := N.oex.cls
    have hcl : PySem.W.clsIn K (CN K) = some { name := nm, bases := bs, mro := .ref (CN K) :: bm, ns := N0, qualname := q, hasDict := true, slotNames := sn, subclasses := sub, abstract := ab, collection := col, hasDel := false } := by unfold PySem.W.clsIn; rw [hC] <;> rfl
    have KX1 : K.In h₁ := fun b o e => kp _ _ (KX b o e)
    obtain ⟨t1, hx1⟩ := exo_at J.hok ha
    refine PySem.ks_wpAt_execs_cons (PySem.ks_wpAt_Expr_any (PySem.ks_wpAt_MethodCall (PySem.ks_wpAt_super_base (f := fI K) (cc := cda) hs hc (by decide) rfl (KX1 _ _ lk) rfl rfl rfl (KX1 _ _ lkc) rfl hvs hfile N.top ?_)))
    obtain ⟨mb, hb1, hb2⟩ := J.mod.blt
    refine PySem.W.ks_loadName_global (sc_NP cda cc).kind hs (Calls.loadGlobal_builtin (J.mod.glob.keeps J.bk) N.mgS (hb1.keeps J.bk) ((hb2 _ (by decide)).trans (show bootBuiltins "super" = some (.type "super") by decide +kernel)) ⟨rfl, ?_⟩)
    refine wpAny_loadName_free (sc_NP cda cc).kind hc rfl ⟨_, KX1 _ _ lkk, rfl⟩ ?_
    refine wpAny_loadName_local (sc_NP cda cc).kind hself hns (v := .ref a) rfl ?_
    refine PySem.ks_wpAny_isType_cls (KX1 _ _ hC) rfl ⟨rfl, ?_⟩
    refine PySem.ks_wpAny_call_super (C := CN K) (KX1 _ _ hC) rfl hx1 rfl (fun c z => by cases z) (PySem.W.looks_mroIn KX1 N.mroS) fun h2 hso kp2 => ?_
    have KX2 : K.In h2 := fun b o e => kp2 _ _ (KX1 b o e)
    have hx2 := kp2 _ _ hx1
    have hne : a ≠ CN K := fun e => by rw [e, KX1 _ _ hC] at hx1; cases hx1
    have I2 : PySem.W.InstAt h2 a { cls := .ref (CN K), dict := none, data := .fields #[.ref t1, .none, .none, .none, .bool false, .none] } (CN K) none := ⟨hx2, rfl, rfl, trivial⟩
    have hsup := N.sup
    unfold PySem.W.ks_superIn at hsup
    rw [hcl] at hsup
    refine PySem.W.kxs_getMethod PySem.W.kxs_ValueError hso (PySem.W.looks_opaque KX2 N.opq) (l₀ := .ref (CN K) :: bm) (fun A Q E s k q => wpAny_bind ((PySem.W.looks_clsIn KX2 hcl) A _ E s k (wpAny_pure q))) rfl KX2 hsup (I2.type.andThen (PySem.W.looks_subIn KX2 N.subV)) hne (by decide) ?_
    refine PySem.W.kxs_callWith (i := "ValueError.__init__") (x := a) rfl ?_
    refine Calls.evalArgs_plain (Calls.spliced_cons (Calls.Constant_str (k := 0) (pos := ⟨27, 25, 27, 41⟩) (Calls.spliced_nil ⟨?_, ?_⟩)))
    · exact Heap.get?_push_size _ rfl
    have hC2 : (h2.push (PySem.W.kxs_mw "ValueError.__init__" a)).get? (CN K) = _ := Heap.get?_push_of_some _ (KX2 _ _ hC)
    have hx3 : (h2.push (PySem.W.kxs_mw "ValueError.__init__" a)).get? a = _ := Heap.get?_push_of_some _ hx2
    have hmw : (h2.push (PySem.W.kxs_mw "ValueError.__init__" a)).get? h2.objs.size = some (PySem.W.kxs_mw "ValueError.__init__" a) := Heap.get?_push_size _ rfl
    have J3 : Inv (ncx C8.CX0 P w K mg base N_NP (NFn cda cc) (fI K) A outer s H E) [] (startF N_NP [.ref a, v] [some (V.ref (CN K))]) H { s with heap := h2.push (PySem.W.kxs_mw "ValueError.__init__" a), toks := s.toks + (["self", "address"].zip [Value.ref a, u2]).length + 1 + 1 } := J.kept fun b o e => Heap.get?_push_of_some _ (kp2 _ _ e)
    have fin : ∀ h', (∀ b o, b ≠ a → (h2.push (PySem.W.kxs_mw "ValueError.__init__" a)).get? b = some o → h'.get? b = some o) → (∃ t2 : Addr, h'.get? a = some ({ cls := .ref (CN K), dict := none, data := .fields #[.ref t2, .none, .none, .none, .bool false, .none] } : Obj)) →
        Inv (ncx C8.CX0 P w K mg base N_NP (NFn cda cc) (fI K) A outer s H E) [] (startF N_NP [.ref a, v] [some (V.ref (CN K))]) H { s with heap := h', toks := s.toks + (["self", "address"].zip [Value.ref a, u2]).length + 1 + 1 } := fun h' k ⟨t2, hx⟩ => by
      have J4 := J3.write (t' := s.toks + (["self", "address"].zip [Value.ref a, u2]).length + 1 + 1) (x := a) (e := a) (o := exo a (CN K) none) (by rw [ha]; exact True.intro) (.inl rfl) k ⟨_, hx⟩ (exo_ok hx)
      have eu : upd H a (exo a (CN K) none) = H := by
        funext b
        by_cases hb : b = a
        · rw [hb, upd_same, ha]
        · rw [upd_ne hb]
      rw [eu] at J4
      exact J4
    refine wpAny_call (codeAny_of_tree ?_)
    show wpAny _ _ (callAny (.ref h2.objs.size) ⟨_, []⟩) _ _ _
    simp only [callAny]
    refine wpAny_bind (wpAny_load hmw ?_)
    simp only [PySem.W.kxs_mw, show (Value.type "method-wrapper" == Value.type "method" || Value.type "method-wrapper" == Value.type "builtin_function_or_method" || Value.type "method-wrapper" == Value.type "method-wrapper") = true by decide, if_true]
    refine PySem.W.KFB.if_so (by decide) ?_
    refine wpAny_bind (PySem.W.check_bound_init F.excBase_ValueError.toExcCallFacts hC2 hx3 rfl ?_)
    refine wpAny_bind (wpAny_pure (wpAny_pure ?_))
    refine ⟨PySem.plainId_quiet F.excBase_ValueError.init.plain _, codeAny_builtin F.excBase_ValueError.initEntry ?_⟩
    refine PySem.W.exc_init_tree (cls := .ref (CN K)) (t0 := t1) (dv := none) (c2 := .none) (c3 := .none) (b4 := .bool false) hx3 (le_line (of_decide_eq_true rfl)) fun h' k hx ht => ?_
    have J5 := fin h' k ⟨_, hx⟩
    refine wpAt_of_wpAny ?_
    have hps := pss_one (ps_ost (X := ncx C8.CX0 P w K mg base N_NP (NFn cda cc) (fI K) A outer s H E) (f := "address") (p' := ⟨28, 8, 28, 20⟩) (pos := ⟨28, 8, 28, 30⟩) (pv (i := 0) (x := "self") (pos := ⟨28, 8, 28, 12⟩)) (pv (i := 1) (x := "address") (pos := ⟨28, 23, 28, 30⟩)))
    refine wpAny_mono (hps.run [] _ _ H { nx := fun _ H' => Q .non H', rt := Q } J5 ⟨v, rfl, _, rfl, a, CN K, rfl, N.oex, N.no, .inl ⟨ha, fun dx n ne => k0' dx n ne⟩⟩) (fun fl s' hs => ?_) fun e s' hs => hs
    have fin : ∀ {σ' : L2.St} {H' : Hp} {v : V} {u : Value}, Inv (ncx C8.CX0 P w K mg base N_NP (NFn cda cc) (fI K) A outer s H E) [] σ' H' s' → L2.RelV v u → Q v H' → L2.CE outer P w H s Q u s' :=
      fun {σ' H' v u} J rv q => ⟨v, H', J.os, J.bare, J.base, J.hok, rv, q⟩
    cases fl with
    | ret u =>
      obtain ⟨v, σ', H', J, rv, q⟩ := hs
      exact fin J rv q
    | next =>
      obtain ⟨σ', H', J, q⟩ := hs
      exact fin (v := V.non) (u := Value.none) J rfl q
    | brk =>
      obtain ⟨_, _, _, q⟩ := hs
      exact False.elim q
    | cont =>
      obtain ⟨_, _, _, q⟩ := hs
      exact False.elim q
  · exact fun s us _ hl => .of_eq (match us, hl with | [_, _], _ => rfl)
end Hw
namespace Hw
open PySem PySem.Spec PyProof.Rows L2 LamX
section
variable {X : Cx}
theorem ps_setDc {i : Nat} {y : Str} {py : Pos} {kx vx tg iter : Expr} {ifs : List Expr} {scope : Scope} {own : List (Str × Nat)} {pos spos : Pos} {wi : TI} {g : TG} {tt : L2.TT} {tk tv : TE} (hc : X.calm = true) (hN : X.N.Nodup) (hy : X.N[i]? = some y) (hyl : X.env.scope.names.lookup y = some .local)
    (hsw : swapsWith (.DictComp kx vx [⟨tg, iter, ifs, 0⟩] scope pos) (some (.Name y py)) spos.line X.env = pure true) (hi : PI X tg iter wi) (ok : BlkOk X.N X.env.scope scope own)
    (hg : ∀ (s : Shared) (H : Hp) (C : Addr) (cl : List (Str × Addr)) (fp : List Addr), PG (X.blk s H scope (compEnvC scope cl C X.env) fp) tg g) (ht : ∀ (s : Shared) (H : Hp) (C : Addr) (cl : List (Str × Addr)) (fp : List Addr), PTs (X.blk s H scope (compEnvC scope cl C X.env) fp) ifs tt)
    (hk : ∀ (s : Shared) (H : Hp) (C : Addr) (cl : List (Str × Addr)) (fp : List Addr), PE (X.blk s H scope (compEnvC scope cl C X.env) fp) kx tk)
    (he : ∀ (s : Shared) (H : Hp) (C : Addr) (cl : List (Str × Addr)) (fp : List Addr), PE (X.blk s H scope (compEnvC scope cl C X.env) fp) vx tv) (hs : ∀ x, foldedSetIterable iter X.env x = pure x := by intro _; rfl) :
    PS X (.Assign [.Name y py] (.DictComp kx vx [⟨tg, iter, ifs, 0⟩] scope pos) spos) (tAsg (tDc wi g tt tk tv (own.map (·.2))) (gName i)) := by
  refine ⟨fun pins s σ H D I h => ?_⟩
  rw [exec_Assign_Name_used _ _ _ _ hsw]
  refine wpAny_bind (wpAny_standAt (wpAny_bind ?_))
  show wpAny _ X.A (do let _ ← comprehension (.DictComp kx vx [⟨tg, iter, ifs, 0⟩] scope pos) scope X.env (firstIterPos [⟨tg, iter, ifs, 0⟩] pos) (newDict #[]) false (eval iter X.env) (some (assign (.Name y py) X.env))) _ _ s
  have h : tDc wi g tt tk tv (own.map (·.2)) σ H (fun x H1 => gName i x σ H1 D.nx) := h
  refine wpAny_bind (thn (dc_core (Qf := fun _ s' => SP X pins D .next s') hc hN I hi ok hg ht hk he hs h fun L C s' m H' I' q hn f => ?_) fun _ s' hq => wpAny_pure (wpAny_pure hq))
  show wpAny _ _ (assign (.Name y py) X.env (.ref L)) _ _ _
  refine wpAny_assign_Name (store_ok2 (v := V.ref L) I' hN hy (.inl hyl) rfl (fun s2 I2 ⟨a, sb, ha⟩ => ?_) (.inr hyl))
  obtain ⟨f0, f1, f2, f3, f4, f5⟩ := f
  have haC : C ≠ a := by
    rcases ha with z | z
    · rw [z]; exact f1
    · exact fun e => f4 y a z e.symm
  refine ⟨m, hn.sameBut sb haC, fun h3 sb3 => ?_⟩
  exact ⟨_, H', I2.turned (t' := s2.toks) (fun b o hb e => (sb3.2 b hb).trans e) f0 f1 f3 f4 f5, q⟩
theorem sw_trueD {kx vx : Expr} {gs : List Comprehension} {scope : Scope} {pos py : Pos} {y : Str} {l : Nat} {env : Env} (hk : env.scope.kind = .function) (hy : env.scope.names.lookup y = some .local) (hl : (py.line == pos.line) = true)
    (ha : (scope.names.any fun (n, k) => n == y && (k == .local || k == .cell)) = false) : swapsWith (.DictComp kx vx gs scope pos) (some (.Name y py)) l env = pure true := by
  have ky : env.kindOf y = some .local := hy
  have hb : env.blockKind = .function := by unfold Env.blockKind; rw [hk]; rfl
  unfold swapsWith
  simp only [hb, ky, ha, Expr.pos, hl]
  rfl
end
theorem dc_it {J : It} {n : Nat} {G : Hp → Prop} {Y : Nat → Hp → V → Hp → Prop} (w : Walk J n G Y) {g : TG} {tt : L2.TT} {tk tv : TE} {vs : List Nat} {σ : L2.St} {H1 : Hp} {D : Addr} {Qd : Hp → Prop} (Pv : Nat → Hp → Prop) (h0 : Pv 0 (upd H1 D (.dK []))) (hG : ∀ i H, i ≤ n → Pv i H → G H)
    (hs : ∀ i x H H', i < n → Pv i H → Y i H x H' → g x (wipe σ vs) H' fun σ2 H2 => wipe σ2 vs = wipe σ vs ∧ tt σ2 H2 fun b H3 =>
      if b = true then tk σ2 H3 fun y H4 => tv σ2 H4 fun z H5 => ∃ kvs k, y = kV k ∧ H5 D = some (.dK kvs) ∧ kvs.length < sizeLine ∧ Pv (i + 1) (upd H5 D (.dK (putK kvs k z))) else Pv (i + 1) H3) (hd : ∀ H, Pv n H → Qd H) :
    ∃ W : Nat → Nat → Hp → Prop, (∃ m, W 0 m (upd H1 D (.dK []))) ∧ ∀ i m H, W i m H →
      (J.stop i H ∧ Qd H) ∨ (J.go i H ∧ ∃ Nx : Hp → Prop, (∀ H', Nx H' → ∃ m', m' < m ∧ W (i + 1) m' H') ∧ ∀ x H', J.yld i H x H' → g x (wipe σ vs) H' fun σ2 H2 => wipe σ2 vs = wipe σ vs ∧ tt σ2 H2 fun b H3 =>
        if b = true then tk σ2 H3 fun y H4 => tv σ2 H4 fun z H5 => ∃ kvs k, y = kV k ∧ H5 D = some (.dK kvs) ∧ kvs.length < sizeLine ∧ Nx (upd H5 D (.dK (putK kvs k z))) else Nx H3) := by
  refine ⟨fun i m H => m = n - i ∧ i ≤ n ∧ Pv i H, ⟨n, by simp, Nat.zero_le _, h0⟩, ?_⟩
  rintro i m H ⟨rfl, hi, p⟩
  have q := hG i H hi p
  by_cases hlt : i < n
  · refine .inr ⟨w.goes i H hlt q, Pv (i + 1), fun H' p' => ⟨n - (i + 1), by omega, rfl, hlt, p'⟩, fun x H' y => hs i x H H' hlt p (w.yields i H x H' hlt q y)⟩
  · have e : i = n := by omega
    subst e
    exact .inl ⟨w.stops H q, hd H p⟩
variable {P : Program} {w : World} {K : PySem.W.Frag} {mg : Str → Option Value} {base : Heap}
theorem cell_head (c : Cell) : ∃ x xs, cellV c = x :: xs ∧ flatV x = true ∧ inV x [.str "turn", .str "goto"] = false := by
  cases c with
  | set i => exact ⟨_, _, rfl, rfl, by simp [inV, eqV]⟩
  | get i => exact ⟨_, _, rfl, rfl, by simp [inV, eqV]⟩
  | put i => exact ⟨_, _, rfl, rfl, by simp [inV, eqV]⟩
  | offer i => exact ⟨_, _, rfl, rfl, by simp [inV, eqV]⟩
  | take => exact ⟨_, _, rfl, rfl, by decide⟩
  | sho => exact ⟨_, _, rfl, rfl, by decide⟩
  | mark => exact ⟨_, _, rfl, rfl, by decide⟩
  | stop => exact ⟨_, _, rfl, rfl, by decide⟩
abbrev s_joints : Stmt := top 55
abbrev N_joints : List Str := ["code", "found", "address", "cell"]
theorem sc_joints : FnScope N_joints ["code"] (defScope s_joints) := ⟨rfl, rfl, rfl, by decide +kernel, rfl, by decide +kernel, by decide +kernel⟩
def sp_joints : Sp := fun vs H Q _ => ∃ (a : Addr) (C : Code), vs = [.ref a] ∧ IsCode H a C ∧ C.Ok ∧ ∀ p H', Same H H' → H' p = some (.lst [.int 0]) → Q (.ref p) H'
theorem C_joints (T : Txt K mg) : C8.Cal P w K mg base 8 "joints" sp_joints [] := by
  have C_need_code := C_need_code (P := P) (w := w) (base := base) T
  refine cal (N := N_joints) (ps := ["code"]) T.d_joints (fun _ _ _ _ _ _ us hl => match us, hl with | [_], _ => rfl) sc_joints (fun vs H Q E h => ?_) (fun f cdv A outer s H vs Q E hr h => ?_)
  · obtain ⟨a, C, rfl, _⟩ := h
    rfl
  · obtain ⟨a, C, rfl, hc0, ok, k⟩ := h
    refine ⟨_, (pss_cons (ps_expr (C8.pe_c C_need_code hr (by decide) rfl (pa_cons (pv 0) pa_nil)))
    (pss_cons (ps_set (i := 1) sc_joints.nd rfl (by first | exact .inl rfl | exact .inr rfl) (pe_disp (pps_cons pe_int pe_bl pps_nil) (by rfl) (by rfl) (fun z => by cases z) (by decide)))
    (pss_cons (ps_for PassesOwn.never rfl (pi_enumT (by rfl) T.b_enumerate (pa_cons (pe_ix (ix_tupK (K := K) rfl) (pv 0) pe_int (fun _ _ => rfl)) pa_nil)) (pg_tup rfl (pgs_cons (pg_name (i := 2) sc_joints.nd rfl (by first | exact .inl rfl | exact .inr rfl)) (pgs_cons (pg_name (i := 3) sc_joints.nd rfl (by first | exact .inl rfl | exact .inr rfl)) pgs_nil))) (pss_one (ps_if (pt_cmpR op_in_seq (pe_ix (ix_tupK (K := K) rfl) (pv 3) pe_int (fun _ _ => rfl)) (pe_tup (pa_cons pe_str (pa_cons pe_str pa_nil))) (by with_unfolding_all rfl)) (pss_cons ps_never
    (pss_one ps_never)) pss_nil)))
    (pss_one (ps_ret (pe_callB cr_sorted (by rfl) T.b_sorted (by decide +kernel) (pa_cons (pe_callTy (call_list_dK rfl) (by rfl) T.b_list (by decide +kernel) (pa_cons (pv 1) pa_nil)) pa_nil))))))), ?_⟩
    refine ⟨_, rfl, ?_⟩
    refine ⟨a, C, rfl, hc0, ok, fun H1 s1 => ?_⟩
    obtain ⟨va, ca, ba, vs, hc⟩ := hc0.same s1
    have e1 := hc.top
    have e2 := hc.ce
    intro p hp
    refine ⟨upd_same, [(Sum.inl 0, .bl true)], rfl, by simp, ?_⟩
    rw [upd_upd, show mergeK [] [((Sum.inl 0 : Key), V.bl true)] = [(Sum.inl 0, .bl true)] from rfl]
    iterate 2 first | refine ⟨_, rfl, ?_⟩ | refine ⟨_, _, _, _, rfl, rfl, SqT.of (by repeat (first | assumption | exact upd_same .. | refine u1 (by assumption) ?_ | refine um (by assumption) ?_ | refine sa (by assumption) ?_)), atI_nat (j := 2) rfl, ?_⟩
    have s2 : Same H1 (upd H1 p (.dK [(Sum.inl 0, .bl true)])) := same_upd hp
    have sp2 : Same H (upd H1 p (.dK [(Sum.inl 0, .bl true)])) := s1.trans s2
    have hpd : upd H1 p (.dK [(Sum.inl 0, .bl true)]) p = some (.dK [(Sum.inl 0, .bl true)]) := upd_same
    have e3 := s2 _ _ e2
    have hcs := hc.cs.same s2
    generalize upd H1 p (.dK [(Sum.inl 0, .bl true)]) = X at sp2 hpd e3 hcs ⊢
    refine ⟨_, _, rfl, SqT.of e3, ?_⟩
    refine for_it walk_enumT (fun i σ H' => Same X H' ∧ ∃ l1 l2, σ = [some (V.ref a), some (.ref p), l1, l2]) ⟨.refl _, _, _, rfl⟩ (fun i σ H' _ q => same_t q.1 (SqT.of e3)) (fun i x σ H2 H3 hi q y => ?_) (fun σ H' q => ?_)
    · obtain ⟨sx, l1, l2, rfl⟩ := q
      obtain ⟨t, x1, x2, rfl, htp, rfl, y1, y2⟩ := y
      cases y1
      have hil : i < C.cells.length := by rw [← hcs.1]; exact (List.getElem?_eq_some_iff.mp y2).1
      obtain ⟨q, rfl, hq⟩ := hcs.2 i x2 C.cells[i] y2 (List.getElem?_eq_getElem hil)
      obtain ⟨z, zs, ez, z1, z2⟩ := cell_head C.cells[i]
      rw [ez] at hq
      have hq2 := u1 (o := .tup [.int (0 + (i : Nat)), .ref q]) htp (sx _ _ hq)
      iterate 5 first | refine ⟨_, rfl, ?_⟩ | refine ⟨_, _, rfl, .inr (SqT.of (by repeat (first | assumption | exact upd_same .. | refine u1 (by assumption) ?_ | refine um (by assumption) ?_ | refine sa (by assumption) ?_))), ?_⟩ | refine ⟨_, _, _, _, rfl, rfl, SqT.of (by repeat (first | assumption | exact upd_same .. | refine u1 (by assumption) ?_ | refine um (by assumption) ?_ | refine sa (by assumption) ?_)), atI_nat (j := 0) rfl, ?_⟩ | refine ⟨_, _, rfl, SqT.of (by repeat (first | assumption | exact upd_same .. | refine u1 (by assumption) ?_ | refine um (by assumption) ?_ | refine sa (by assumption) ?_)), rfl, _, _, rfl, _, _, rfl, rfl, ?_⟩ | refine ⟨le_line (of_decide_eq_true rfl), fun t ht => ?_⟩
      refine ⟨z1, rfl, _, rfl, ?_⟩
      refine itBF z2 ?_
      exact ⟨(sx.trans (same_upd htp)).trans (same_upd ht), _, _, rfl⟩
    · obtain ⟨sx, l1, l2, rfl⟩ := q
      have hp3 := sx _ _ hpd
      refine ⟨_, rfl, ?_⟩
      refine ⟨_, _, rfl, hp3, fun q hq => ?_⟩
      refine ⟨q, [0], rfl, SqL.of upd_same, by decide, fun ns p9 hperm _ hp9 => ?_⟩
      have e0 : ns = [0] := List.perm_singleton.mp hperm
      subst e0
      exact k _ _ (((sp2.trans sx).trans (same_upd hq)).trans (same_upd hp9)) upd_same
theorem extN_mut {H H' : Hp} {t : Addr} {o : HO} (e : ExtN H H') (n : H t = none) : ExtN H (upd H' t o) := fun b x h k => um (ne_of_none h n) (e b x h k)
theorem extN_mut2 {H H5 H' : Hp} {t : Addr} {o : HO} (e5 : ExtN H H5) (n : H5 t = none) (e : ExtN H H') : ExtN H (upd H' t o) := fun b x h k => um (ne_of_none (e5 b x h k) n) (e b x h k)
theorem IsCode.k {H H' : Hp} {a : Addr} {C : Code} (h : IsCode H a C) (f : ∀ b xs, H b = some (.tup xs) → H' b = some (.tup xs)) : IsCode H' a C :=
  let ⟨va, ca, ba, vs, hc⟩ := h; ⟨va, ca, ba, vs, f _ _ hc.top, f _ _ hc.vo, f _ _ hc.ce, ⟨hc.cs.1, fun i v c x y => let ⟨q, e1, e2⟩ := hc.cs.2 i v c x y; ⟨q, e1, f _ _ e2⟩⟩, f _ _ hc.ba⟩
theorem _root_.LamX.Tabs.mut {T : List (Addr × Str)} {H : Hp} {p : Addr} {o x : HO} (h : Tabs T H) (hp : H p = some o) (k : HO.kd o ≠ 6) (n : True) : Tabs T (upd H p x) := fun q hq => by
  obtain ⟨ps, h1, h2, h3⟩ := h q hq
  refine ⟨ps, um (new_kind h1 hp (by show 6 ≠ _; exact Ne.symm k)) h1, h2, fun pos cv hc => ?_⟩
  obtain ⟨c, e1, e2⟩ := h3 pos cv hc
  exact ⟨c, e1, um (new_kind e2 hp (by show 6 ≠ _; exact Ne.symm k)) e2⟩
abbrev s_made_paper : Stmt := top 58
abbrev N_made_paper : List Str := ["code", "ends", "tables", "waits", "label", "ended", "goal", "table", "address"]
theorem sc_made_paper : FnScope N_made_paper ["code"] (defScope s_made_paper) := ⟨rfl, rfl, rfl, by decide +kernel, rfl, by decide +kernel, by decide +kernel⟩
def sp_made_paper (K : PySem.W.Frag) : Sp := fun vs H Q E => ∃ (a : Addr) (C : Code), vs = [.ref a] ∧ IsCode H a C ∧ C.Ok ∧ Tabs (TT K) H ∧ match runT C with
  | none => ∀ p t H', ExtN H H' → Tabs (TT K) H' → H' p = some (.dK [(Sum.inl 0, .ref t)]) → IsTab H' t (tableOf C) → Q (.ref p) H'
  | some (d, _) => ∀ dx H', ExtN H H' → Tabs (TT K) H' → H' dx = some (.xd [("address", nV d)]) → E (.ref (CN K)) (some dx) H'
theorem C_made_paper (T : Txt K mg) (L : Lams K mg base) (N : NPF P K mg) : ∃ f fd, mg "made_paper" = some (.ref f) ∧ PySem.W.keepIn K (.ref f) = true ∧ FnOk P w K mg base (L2.CX P w) 9 f fd ["code"] (sp_made_paper K) ∧ Binds K fd ["code"] [] := by
  have C_need_code := C_need_code (P := P) (w := w) (base := base) T
  have C_joints := C_joints (P := P) (w := w) (base := base) T
  have C_start_table := C_start_table (P := P) (w := w) (base := base) T L
  have C_walked := C_walked (P := P) (w := w) (base := base) T
  obtain ⟨f, fd, F, hm⟩ := T.d_made_paper
  have F' := F
  refine ⟨f, fd, hm, F.kp, ?_, F'.bindsN (fun _ _ _ _ _ _ us hl => match us, hl with | [_], _ => rfl)⟩
  obtain ⟨fdI, F1, b1⟩ := np_ok (w := w) (base := base) N
  refine F.ok sc_made_paper (fun vs H Q E h => ?_) (fun cdv A outer s H vs Q E hr h => ?_)
  · obtain ⟨a, C, rfl, _⟩ := h
    rfl
  · obtain ⟨a, C, rfl, hc0, ok, hT, k⟩ := h
    have hu := hu_of hr
    refine ⟨_, (pss_cons (ps_expr (C8.pe_c C_need_code hr (by decide) rfl (pa_cons (pv 0) pa_nil)))
    (pss_cons (ps_setDc (i := 1) (own := [("address", 8)]) rfl sc_made_paper.nd rfl rfl (sw_trueD rfl rfl rfl (by decide +kernel)) (pi_list (C8.pe_c C_joints hr (by decide) rfl (pa_cons (pv 0) pa_nil))) (blkOk_by (own := [("address", 8)]) (N := N_made_paper) (sc := defScope s_made_paper) (by decide +kernel)) (fun _ _ _ _ _ => (pg_name (i := 8) sc_made_paper.nd rfl (by first | exact .inl rfl | exact .inr rfl))) (fun _ _ _ _ _ => pts_nil) (fun _ _ _ _ _ => (pv 8)) (fun _ _ _ _ _ => pe_bl))
    (pss_cons (ps_asg (pe_tup (pa_cons (pe_disp (pps_cons pe_int (C8.pe_c C_start_table hr (by decide) rfl (pa_cons (pv 0) pa_nil)) pps_nil) (by rfl) (by rfl) (fun z => by cases z) (by decide)) (pa_cons (pe_disp (pps_cons pe_int pe_bl pps_nil) (by rfl) (by rfl) (fun z => by cases z) (by decide)) pa_nil))) (pg_tup rfl (pgs_cons (pg_name (i := 2) sc_made_paper.nd rfl (by first | exact .inl rfl | exact .inr rfl)) (pgs_cons (pg_name (i := 3) sc_made_paper.nd rfl (by first | exact .inl rfl | exact .inr rfl)) pgs_nil))))
    (pss_cons (ps_while (passes_of rfl) (pt_cmpR (op_neDE hr.units0) (pv 3) pe_dnewK (nomark _)) (pss_cons (ps_set (i := 4) sc_made_paper.nd rfl (by first | exact .inl rfl | exact .inr rfl) (pe_callB (cr_min rfl) (by rfl) T.b_min (by decide +kernel) (pa_cons (pe_callTy (call_list_dK rfl) (by rfl) T.b_list (by decide +kernel) (pa_cons (pv 3) pa_nil)) pa_nil)))
    (pss_cons (ps_ddel (pv 3) (pv 4))
    (pss_cons (ps_set (i := 5) sc_made_paper.nd rfl (by first | exact .inl rfl | exact .inr rfl) (C8.pe_c C_walked hr (by decide) rfl (pa_cons (pv 0) (pa_cons (pv 1) (pa_cons (pv 4) (pa_cons (pe_dget hu (pv 2) (pv 4) (fun _ _ => rfl)) pa_nil))))))
    (pss_cons (ps_if (pt_cmpR op_ne (pe_fldK (K := K) rfl (pv 5) rfl) pe_str (nomark _)) (pss_one (ps_raise rfl (takes_of rfl rfl rfl rfl) (pmk_oex N.oex N.iC N.tI F1 (hr.mono (by decide)) b1 .nil pass0 (by rfl) N.mgC (pa_cons (pe_fldK (K := K) rfl (pv 5) rfl) pa_nil)))) pss_nil)
    (pss_cons (ps_if (pt_cmpR op_in_seq (pe_callB (call_lenK (K := K) rfl) (by rfl) T.b_len PySem.boot_len (pa_cons (pe_ix (ix_tupK (K := K) rfl) (pv 0) pe_int (fun _ _ => rfl)) pa_nil)) (pe_fldK (K := K) rfl (pv 5) rfl) (by with_unfolding_all rfl)) (pss_one (ps_raise rfl (takes_of rfl rfl rfl rfl) (pmk_oex N.oex N.iC N.tI F1 (hr.mono (by decide)) b1 .nil pass0 (by rfl) N.mgC (pa_cons (pe_callB (call_lenK (K := K) rfl) (by rfl) T.b_len PySem.boot_len (pa_cons (pe_ix (ix_tupK (K := K) rfl) (pv 0) pe_int (fun _ _ => rfl)) pa_nil)) pa_nil)))) pss_nil)
    (pss_one (ps_for (passes_of rfl) rfl (pi_list (pe_fldK (K := K) rfl (pv 5) rfl)) (pg_name (i := 6) sc_made_paper.nd rfl (by first | exact .inl rfl | exact .inr rfl)) (pss_cons ps_never
    (pss_one ps_never))))))))))
    (pss_one (ps_ret (pe_dc (own := [("label", 4)]) rfl sc_made_paper.nd (pi_list (pe_callB cr_sorted (by rfl) T.b_sorted (by decide +kernel) (pa_cons (pe_callTy (call_list_dK rfl) (by rfl) T.b_list (by decide +kernel) (pa_cons (pv 2) pa_nil)) pa_nil))) (blkOk_by (own := [("label", 4)]) (N := N_made_paper) (sc := defScope s_made_paper) (by decide +kernel)) (fun _ _ _ _ _ => (pg_name (i := 4) sc_made_paper.nd rfl (by first | exact .inl rfl | exact .inr rfl))) (fun _ _ _ _ _ => pts_nil) (fun _ _ _ _ _ => (pv 4)) (fun _ _ _ _ _ => (pe_dget hu (pv 2) (pv 4) (fun _ _ => rfl)))))))))), ?_⟩
    refine ⟨_, rfl, ?_⟩
    refine ⟨a, C, rfl, hc0, ok, fun H1 s1 => ?_⟩
    have hc1 := hc0.same s1
    refine ⟨_, rfl, ?_⟩
    refine ⟨a, C, rfl, hc1, ok, fun pj H2 s2 hpj => ?_⟩
    refine ⟨_, rfl, ⟨_, SqL.of hpj⟩, fun D hD => ?_⟩
    refine dc_it (walk_list (xs := [V.int 0])) (fun i H3 => Same H2 H3 ∧ H3 D = some (.dK (if i = 0 then [] else [(Sum.inl 0, .bl true)]))) ⟨same_upd hD, upd_same⟩ (fun i H3 _ q => SqL.of (q.1 _ _ hpj)) (fun i x H3 H4 hi q y => ?_) (fun H3 q => ?_)
    · obtain ⟨rfl, y⟩ := y
      have hi0 : i = 0 := by simp at hi; exact hi
      subst hi0
      simp at y
      subst y
      have bl := big_line
      refine ⟨rfl, ?_⟩
      exact ⟨_, rfl, [], Sum.inl 0, rfl, q.2, by simp; omega, same_mut q.1 hD, upd_same⟩
    obtain ⟨s3, hDk⟩ := q
    have hDk : H3 D = some (.dK [(Sum.inl 0, .bl true)]) := hDk
    have s03 := (s1.trans s2).trans s3
    have hc3 := hc0.same s03
    intro t1 ht1
    refine ⟨_, rfl, ?_⟩
    have s04 := s03.trans (same_upd (o := .dK []) ht1)
    refine ⟨a, C, rfl, hc0.same s04, ok, hT.ext s04, fun ts H4 eN T4 htab => ?_⟩
    have s34 : ExtN H H4 := fun b o h n => eN b o (s04 _ _ h) n
    have hD4 : H4 D = some (.dK [(Sum.inl 0, .bl true)]) := eN _ _ (u1 ht1 hDk) fun _ z => by cases z
    have ht4 : H4 t1 = some (.dK []) := eN _ _ upd_same fun _ z => by cases z
    have hc4 : IsCode H4 a C := let ⟨va, ca, ba, vs, hc⟩ := hc3; ⟨va, ca, ba, vs, eN _ _ (u1 ht1 hc.top) (fun _ z => by cases z), eN _ _ (u1 ht1 hc.vo) (fun _ z => by cases z), eN _ _ (u1 ht1 hc.ce) (fun _ z => by cases z), ⟨hc.cs.1, fun i v c x y => let ⟨q, e1, e2⟩ := hc.cs.2 i v c x y; ⟨q, e1, eN _ _ (u1 ht1 e2) (fun _ z => by cases z)⟩⟩, eN _ _ (u1 ht1 hc.ba) (fun _ z => by cases z)⟩
    refine ⟨ht4, [(Sum.inl 0, .ref ts)], rfl, by simp, ?_⟩
    rw [show mergeK [] [((Sum.inl 0 : Key), V.ref ts)] = [(Sum.inl 0, .ref ts)] from rfl]
    have nt1 : H t1 = none := same_none s03 ht1
    have d5 : upd H4 t1 (.dK [(Sum.inl 0, .ref ts)]) t1 = some (.dK [(Sum.inl 0, .ref ts)]) := upd_same
    have s35 : ExtN H (upd H4 t1 (.dK [(Sum.inl 0, .ref ts)])) := extN_mut s34 nt1
    have nD1 : D ≠ t1 := ne_of_none hDk ht1
    have D5 : upd H4 t1 (.dK [(Sum.inl 0, .ref ts)]) D = some (.dK [(Sum.inl 0, .bl true)]) := um nD1 hD4
    have kt5 : ∀ b xs, H4 b = some (.tup xs) → upd H4 t1 (.dK [(Sum.inl 0, .ref ts)]) b = some (.tup xs) := fun b xs h => um (new_kind h ht4 (by simp [HO.kd])) h
    have c5 := hc4.k kt5
    have tab5 : IsTab (upd H4 t1 (.dK [(Sum.inl 0, .ref ts)])) ts (tableOf C) := let ⟨vs, x, y⟩ := htab; ⟨vs, um (new_kind x ht4 (by simp [HO.kd])) x, y.mono fun _ _ h => h.k kt5⟩
    have T5 : Tabs (TT K) (upd H4 t1 (.dK [(Sum.inl 0, .ref ts)])) := T4.mut ht4 (by simp [HO.kd]) trivial
    generalize upd H4 t1 (.dK [(Sum.inl 0, .ref ts)]) = H5 at d5 s35 D5 c5 tab5 T5 ⊢
    intro t2 ht2
    refine ⟨upd_same, [(Sum.inl 0, .bl true)], rfl, by simp, ?_⟩
    rw [upd_upd, show mergeK [] [((Sum.inl 0 : Key), V.bl true)] = [(Sum.inl 0, .bl true)] from rfl]
    iterate 2 first | refine ⟨_, _, rfl, SqT.of (by repeat (first | assumption | exact upd_same .. | refine u1 (by assumption) ?_ | refine um (by assumption) ?_ | refine sa (by assumption) ?_)), rfl, _, _, rfl, _, _, rfl, rfl, ?_⟩ | refine ⟨le_line (of_decide_eq_true rfl), fun t ht => ?_⟩
    have s6 : Same H5 (upd (upd H5 t2 (.dK [(Sum.inl 0, .bl true)])) t (.tup [.ref t1, .ref t2])) := (same_upd ht2).trans (same_upd ht)
    have d6 := s6 _ _ d5
    have D6 := s6 _ _ D5
    have w6 : upd (upd H5 t2 (.dK [(Sum.inl 0, .bl true)])) t (.tup [.ref t1, .ref t2]) t2 = _ := u1 ht upd_same
    have c6 := c5.same s6
    have tab6 := tab5.same s6
    have T6 := T5.ext s6
    have s36 : ExtN H (upd (upd H5 t2 (.dK [(Sum.inl 0, .bl true)])) t (.tup [.ref t1, .ref t2])) := s35.trans (.of s6)
    have n12 : t1 ≠ t2 := ne_of_none d5 ht2
    have nD2 : D ≠ t2 := ne_of_none D5 ht2
    generalize upd (upd H5 t2 (.dK [(Sum.inl 0, .bl true)])) t (.tup [.ref t1, .ref t2]) = H6 at d6 D6 w6 c6 tab6 T6 s36 ⊢
    have m2 : ∀ {H' : Hp} {o : HO}, ExtN H H' → ExtN H (upd H' t2 o) := fun e => extN_mut2 s35 ht2 e
    refine ⟨fun m σ H' => (∃ l4 l5 l6 l7 l8, σ = [some (V.ref a), some (.ref D), some (.ref t1), some (.ref t2), l4, l5, l6, l7, l8]) ∧ ((m = 1 ∧ H' = H6) ∨ (m = 0 ∧ runT C = none ∧ ExtN H H' ∧ Tabs (TT K) H' ∧ H' t2 = some (.dK []) ∧ H' t1 = some (.dK [(Sum.inl 0, .ref ts)]) ∧ IsTab H' ts (tableOf C))), ⟨1, ⟨_, _, _, _, _, rfl⟩, .inl ⟨rfl, rfl⟩⟩, fun m σ H' p => ?_⟩
    obtain ⟨⟨l4, l5, l6, l7, l8, rfl⟩, ⟨rfl, rfl⟩ | ⟨rfl, hrun, p1, p2, p3, p4, p5⟩⟩ := p
    · refine ⟨_, rfl, ?_⟩
      intro q hq
      refine ⟨_, _, _, rfl, rfl, u1 hq w6, upd_same, _, rfl, ?_⟩
      refine iteT ⟨fun σ H' => (∃ l4 l5 l6 l7 l8, σ = [some (V.ref a), some (.ref D), some (.ref t1), some (.ref t2), l4, l5, l6, l7, l8]) ∧ runT C = none ∧ ExtN H H' ∧ Tabs (TT K) H' ∧ H' t2 = some (.dK []) ∧ H' t1 = some (.dK [(Sum.inl 0, .ref ts)]) ∧ IsTab H' ts (tableOf C), fun σ' H'' p => ⟨0, by omega, p.1, .inr ⟨rfl, p.2⟩⟩, ?_⟩
      have s7 : Same H' (upd H' q (.dK [])) := same_upd hq
      have d7 := s7 _ _ d6
      have D7 := s7 _ _ D6
      have w7 := s7 _ _ w6
      have c7 := c6.same s7
      have tab7 := tab6.same s7
      have T7 := T6.ext s7
      have s37 := s36.trans (.of s7)
      generalize upd H' q (.dK []) = X at d7 D7 w7 c7 tab7 T7 s37 ⊢
      refine ⟨_, rfl, ?_⟩
      refine ⟨_, _, rfl, w7, fun ql hql => ?_⟩
      refine ⟨ql, [0], rfl, SqL.of upd_same, by decide, fun m hm _ => ?_⟩
      have hm0 : m = 0 := by simpa using hm
      subst hm0
      have w8 := u1 (o := .lst [kV (Sum.inl 0)]) hql w7
      refine ⟨_, rfl, ?_⟩
      refine ⟨_, rfl, ?_⟩
      refine ⟨_, _, Sum.inl 0, rfl, w8, rfl, rfl, ?_⟩
      rw [show dropK [((Sum.inl 0 : Key), V.bl true)] (Sum.inl 0) = [] from rfl, show List.map (fun (kv : Key × V) => kV kv.fst) [((Sum.inl 0 : Key), V.bl true)] = [kV (Sum.inl 0)] from rfl]
      have d9 : upd (upd X ql (.lst [kV (Sum.inl 0)])) t2 (.dK []) t1 = _ := um n12 (u1 hql d7)
      have D9 : upd (upd X ql (.lst [kV (Sum.inl 0)])) t2 (.dK []) D = _ := um nD2 (u1 hql D7)
      have w9 : upd (upd X ql (.lst [kV (Sum.inl 0)])) t2 (.dK []) t2 = some (.dK []) := upd_same
      have kt9 : ∀ b xs, X b = some (.tup xs) → upd (upd X ql (.lst [kV (Sum.inl 0)])) t2 (.dK []) b = some (.tup xs) := fun b xs h => um (new_kind h w7 (by simp [HO.kd])) (u1 hql h)
      have c9 := c7.k kt9
      have tab9 : IsTab (upd (upd X ql (.lst [kV (Sum.inl 0)])) t2 (.dK [])) ts (tableOf C) := let ⟨vs, x, y⟩ := tab7; ⟨vs, um (new_kind x w7 (by simp [HO.kd])) (u1 hql x), y.mono fun _ _ h => h.k kt9⟩
      have T9 : Tabs (TT K) (upd (upd X ql (.lst [kV (Sum.inl 0)])) t2 (.dK [])) := (T7.ext (same_upd hql)).mut (u1 hql w7) (by simp [HO.kd]) trivial
      have s39 : ExtN H (upd (upd X ql (.lst [kV (Sum.inl 0)])) t2 (.dK [])) := m2 (s37.trans (.of (same_upd hql)))
      generalize upd (upd X ql (.lst [kV (Sum.inl 0)])) t2 (.dK []) = Y at d9 D9 w9 c9 tab9 T9 s39 ⊢
      refine ⟨_, rfl, ?_⟩
      refine ⟨_, rfl, ?_⟩
      refine ⟨_, rfl, ?_⟩
      refine ⟨_, rfl, ?_⟩
      refine ⟨_, rfl, ?_⟩
      refine ⟨_, .ref ts, rfl, ?_, ?_⟩
      · exact (show valV [((Sum.inl 0 : Key), V.ref ts)] (Sum.inl 0) = some (.ref ts) from rfl) ▸ DGet.k (k := Sum.inl 0) d9
      refine ⟨a, D, ts, C, tableOf C, rfl, c9, ok, D9, tab9, table_ok C ok, fun e H10 s10 out => ?_⟩
      have d10 := s10 _ _ d9
      have w10 := s10 _ _ w9
      have tab10 := tab9.same s10
      have T10 := T9.ext s10
      have s310 := s39.trans (.of s10)
      obtain ⟨va, ca, ba, vs, hcd⟩ := c9.same s10
      have e1 := hcd.top
      have e2 := hcd.ce
      have hvl := hcd.cs.1
      cases hrun : runT C with
      | none =>
        rw [hrun] at out k
        obtain ⟨ad, dxe, gl, wv, g1, g2⟩ := out
        iterate 18 first | refine iteF ?_ | refine ⟨_, rfl, ?_⟩ | refine ⟨rfl, ?_⟩ | refine ⟨_, _, rfl, .inr (SqT.of (by repeat (first | assumption | exact upd_same .. | refine u1 (by assumption) ?_ | refine um (by assumption) ?_ | refine sa (by assumption) ?_))), ?_⟩ | refine ⟨_, _, rfl, .inl (SqL.of (by repeat (first | assumption | exact upd_same .. | refine u1 (by assumption) ?_ | refine um (by assumption) ?_ | refine sa (by assumption) ?_))), ?_⟩ | refine ⟨_, _, _, _, rfl, rfl, SqT.of (by repeat (first | assumption | exact upd_same .. | refine u1 (by assumption) ?_ | refine um (by assumption) ?_ | refine sa (by assumption) ?_)), atI_nat (j := 2) rfl, ?_⟩ | refine ⟨_, _, _, _, _, rfl, (by repeat (first | assumption | exact upd_same .. | refine u1 (by assumption) ?_ | refine um (by assumption) ?_ | refine sa (by assumption) ?_)), T.cl_Ended, T.no_Ended_word, by rfl, ?_⟩ | refine ⟨_, _, _, _, _, rfl, (by repeat (first | assumption | exact upd_same .. | refine u1 (by assumption) ?_ | refine um (by assumption) ?_ | refine sa (by assumption) ?_)), T.cl_Ended, T.no_Ended_goals, by rfl, ?_⟩
        refine ⟨⟨_, SqL.of g2⟩, ?_⟩
        refine for_list (xs := []) (fun i σ H' => (∃ l4 l5 l6 l7 l8, σ = [some (V.ref a), some (.ref D), some (.ref t1), some (.ref t2), l4, l5, l6, l7, l8]) ∧ H' = H10) ⟨⟨_, _, _, _, _, rfl⟩, rfl⟩ (fun i σ H' _ q => by rw [q.2]; exact SqL.of g2) (fun i x σ H' hi q => by simp at hi) (fun σ H' q => ?_)
        obtain ⟨q1, rfl⟩ := q
        exact ⟨q1, rfl, s310, T10, w10, d10, tab10⟩
      | some p =>
        obtain ⟨d, u⟩ := p
        rw [hrun] at out k
        rcases out with ⟨rfl, ad, dxe, gl, wv, g1, g2⟩ | ⟨wd, hwd, dxe, gl, wv, g1, g2⟩
        · iterate 14 first | refine iteF ?_ | refine ⟨_, rfl, ?_⟩ | refine ⟨rfl, ?_⟩ | refine ⟨_, _, rfl, .inr (SqT.of (by repeat (first | assumption | exact upd_same .. | refine u1 (by assumption) ?_ | refine um (by assumption) ?_ | refine sa (by assumption) ?_))), ?_⟩ | refine ⟨_, _, rfl, .inl (SqL.of (by repeat (first | assumption | exact upd_same .. | refine u1 (by assumption) ?_ | refine um (by assumption) ?_ | refine sa (by assumption) ?_))), ?_⟩ | refine ⟨_, _, _, _, rfl, rfl, SqT.of (by repeat (first | assumption | exact upd_same .. | refine u1 (by assumption) ?_ | refine um (by assumption) ?_ | refine sa (by assumption) ?_)), atI_nat (j := 2) rfl, ?_⟩ | refine ⟨_, _, _, _, _, rfl, (by repeat (first | assumption | exact upd_same .. | refine u1 (by assumption) ?_ | refine um (by assumption) ?_ | refine sa (by assumption) ?_)), T.cl_Ended, T.no_Ended_word, by rfl, ?_⟩ | refine ⟨_, _, _, _, _, rfl, (by repeat (first | assumption | exact upd_same .. | refine u1 (by assumption) ?_ | refine um (by assumption) ?_ | refine sa (by assumption) ?_)), T.cl_Ended, T.no_Ended_goals, by rfl, ?_⟩
          refine itBT (by rw [hvl]; simp [inV, eqV]) ?_
          iterate 3 first | refine ⟨_, rfl, ?_⟩ | refine ⟨_, _, rfl, .inr (SqT.of (by repeat (first | assumption | exact upd_same .. | refine u1 (by assumption) ?_ | refine um (by assumption) ?_ | refine sa (by assumption) ?_))), ?_⟩ | refine ⟨_, _, _, _, rfl, rfl, SqT.of (by repeat (first | assumption | exact upd_same .. | refine u1 (by assumption) ?_ | refine um (by assumption) ?_ | refine sa (by assumption) ?_)), atI_nat (j := 2) rfl, ?_⟩
          refine ⟨by simp, fun ex hex => ?_⟩
          refine ⟨ex, .int (vs.length : Nat), rfl, upd_same, fun dx hdx hne => ⟨rfl, dx, [("address", .int (vs.length : Nat))], upd_same, um hne upd_same, ?_, ?_⟩⟩
          · rw [upd_ne hne] at hdx; exact hdx
          have hdxY : H10 dx = none := by rw [upd_ne hne] at hdx; exact hdx
          have keep : ∀ b o, H10 b = some o → upd (L2.del (upd (upd (upd H10 ex (exo ex (CN K) none)) dx (exd dx [("address", .int (vs.length : Nat))])) ex (exo ex (CN K) (some dx))) ex) dx (.xd [("address", .int (vs.length : Nat))]) b = some o := fun b o h => by
            have h1 : b ≠ dx := ne_of_none h hdxY
            have h2 : b ≠ ex := ne_of_none h hex
            rw [upd_ne h1, del_ne h2, upd_ne h2, upd_ne h1, upd_ne h2]; exact h
          exact k dx _ (s310.trans (.of keep)) (T10.ext keep) (by rw [upd_same, hvl])
        · iterate 4 first | refine ⟨_, rfl, ?_⟩ | refine ⟨rfl, ?_⟩ | refine ⟨_, _, _, _, _, rfl, (by repeat (first | assumption | exact upd_same .. | refine u1 (by assumption) ?_ | refine um (by assumption) ?_ | refine sa (by assumption) ?_)), T.cl_Ended, T.no_Ended_word, by rfl, ?_⟩
          refine itNT (fun e => hwd (V.str.inj e)) ?_
          iterate 2 first | refine ⟨_, rfl, ?_⟩ | refine ⟨_, _, _, _, _, rfl, (by repeat (first | assumption | exact upd_same .. | refine u1 (by assumption) ?_ | refine um (by assumption) ?_ | refine sa (by assumption) ?_)), T.cl_Ended, T.no_Ended_address, by rfl, ?_⟩
          refine ⟨by simp, fun ex hex => ?_⟩
          refine ⟨ex, nV d, rfl, upd_same, fun dx hdx hne => ⟨rfl, dx, [("address", nV d)], upd_same, um hne upd_same, ?_, ?_⟩⟩
          · rw [upd_ne hne] at hdx; exact hdx
          have hdxY : H10 dx = none := by rw [upd_ne hne] at hdx; exact hdx
          have keep : ∀ b o, H10 b = some o → upd (L2.del (upd (upd (upd H10 ex (exo ex (CN K) none)) dx (exd dx [("address", nV d)])) ex (exo ex (CN K) (some dx))) ex) dx (.xd [("address", nV d)]) b = some o := fun b o h => by
            have h1 : b ≠ dx := ne_of_none h hdxY
            have h2 : b ≠ ex := ne_of_none h hex
            rw [upd_ne h1, del_ne h2, upd_ne h2, upd_ne h1, upd_ne h2]; exact h
          exact k dx _ (s310.trans (.of keep)) (T10.ext keep) upd_same
    · refine ⟨_, rfl, ?_⟩
      intro q hq
      refine ⟨_, _, _, rfl, rfl, u1 hq p3, upd_same, _, rfl, ?_⟩
      refine iteF ?_
      have s7 : Same H' (upd H' q (.dK [])) := same_upd hq
      have d7 := s7 _ _ p4
      have tab7 := p5.same s7
      have T7 := p2.ext s7
      have s37 := p1.trans (.of s7)
      generalize upd H' q (.dK []) = X at d7 tab7 T7 s37 ⊢
      refine ⟨_, rfl, ?_⟩
      refine ⟨_, _, rfl, d7, fun ql hql => ?_⟩
      refine ⟨ql, [0], rfl, SqL.of upd_same, by decide, fun ns p9 hperm _ hp9 => ?_⟩
      have e0 : ns = [0] := List.perm_singleton.mp hperm
      subst e0
      have s8 : Same X (upd (upd X ql (.lst (List.map (fun (kv : Key × V) => kV kv.fst) [((Sum.inl 0 : Key), V.ref ts)]))) p9 (.lst ([0].map V.int))) := (same_upd hql).trans (same_upd hp9)
      have hl9 : upd (upd X ql (.lst (List.map (fun (kv : Key × V) => kV kv.fst) [((Sum.inl 0 : Key), V.ref ts)]))) p9 (.lst ([0].map V.int)) p9 = some (.lst [.int 0]) := upd_same
      have d8 := s8 _ _ d7
      have tab8 := tab7.same s8
      have T8 := T7.ext s8
      have s38 := s37.trans (.of s8)
      generalize upd (upd X ql _) p9 (.lst ([0].map V.int)) = Y at hl9 d8 tab8 T8 s38 ⊢
      refine ⟨p9, rfl, ⟨_, SqL.of hl9⟩, fun D9 hD9 => ?_⟩
      refine dc_it (walk_list (xs := [V.int 0])) (fun i H3 => Same Y H3 ∧ H3 D9 = some (.dK (if i = 0 then [] else [(Sum.inl 0, .ref ts)]))) ⟨same_upd hD9, upd_same⟩ (fun i H3 _ q => SqL.of (q.1 _ _ hl9)) (fun i x H3 H4 hi q y => ?_) (fun H3 q => ?_)
      · obtain ⟨rfl, y⟩ := y
        have hi0 : i = 0 := by simp at hi; exact hi
        subst hi0
        simp at y
        subst y
        have bl := big_line
        refine ⟨rfl, ?_⟩
        refine ⟨_, rfl, _, rfl, _, rfl, t1, .ref ts, rfl, ?_, [], Sum.inl 0, rfl, q.2, by simp; omega, same_mut q.1 hD9, upd_same⟩
        exact (show valV [((Sum.inl 0 : Key), V.ref ts)] (Sum.inl 0) = some (.ref ts) from rfl) ▸ DGet.k (k := Sum.inl 0) (q.1 _ _ d8)
      · rw [hrun] at k
        exact k D9 ts H3 (s38.trans (.of q.1)) (T8.ext q.1) q.2 (tab8.same q.1)
end Hw
namespace Hw
open PySem PySem.Spec PyProof.Rows L2
theorem room65 {k : Nat} {A : Around} (r : Room k A) : A.units + 65 < cLine := by have := r.un; omega
section
variable {X : Cx}
def rCountD (K : PySem.W.Frag) : V → List V → Hp → VK → Prop := fun x xs H Q => ∃ (a : Addr) (y : V) (d : PyData) (ds : List PyData), x = V.ref a ∧ xs = [y] ∧ Dp K H (V.ref a) (.list ds) ∧ Dp K H y d ∧
  SeqAt.shaped (.list ds) = true ∧ SeqAt.shaped d = true ∧ Q (.int (ds.countP fun z => PyData.eqv z d : Nat)) H
theorem mt_countD (hu : X.A.units + 65 < cLine) : MtR X "list.count" (rCountD X.K) := by
  intro pins s σ H x xs v us Q I rx rxs h
  obtain ⟨a, y, d, ds, rfl, rfl, hl, hy, sl, sd, q⟩ := h
  cases rx
  cases rxs with
  | cons ry rt =>
    rename_i uy ut
    cases rt
    obtain ⟨bs, r1⟩ := Dp.reads I d y uy hy ry
    have hxs : PyData.canLayAll0 ds = true := SeqAt.canLay_of_shaped sl
    have hroom : X.A.units + 1 + min (PyData.depthAll ds) d.depth < cLine := by
      have h1 := SeqAt.depth_of_shaped sd
      have h2 : min (PyData.depthAll ds) d.depth ≤ d.depth := Nat.min_le_right _ _
      omega
    cases hl with
    | lst hs ha =>
      obtain ⟨its, rv, ⟨⟨cls, dd, data, sls⟩, n, ho, hc, hdn, hdt⟩, hlen⟩ := I.list hs
      simp only at hc hdt
      subst hc hdt
      obtain ⟨as, h4⟩ := Dp.readsAll I ds _ its ha rv
      have hmap : its.map (SeqAt.readOf s.heap) = ds := SeqAt.readsAll_map ds its as hxs h4
      refine call_meets PySem.F.slot_list_count ⟨_, ho, rfl⟩ PySem.F.entry_list_count (PySem.F.args_list_count_2 _ _)
        (SeqAt.list_countAt a its.toArray n dd sls uy (fun u => PyData.eqv (SeqAt.readOf s.heap u) d)) ⟨ho, ?_, ?_⟩
      · have he := SeqAt.items_eqAt (vs := its.toArray) (show ReadsAll s.heap its.toArray.toList ds as from h4) r1 hxs (SeqAt.canLay_of_shaped sd) hroom
        exact he
      · have ec : its.toArray.toList.countP (fun u => PyData.eqv (SeqAt.readOf s.heap u) d) = ds.countP fun z => PyData.eqv z d := by
          rw [← hmap, List.countP_map]; rfl
        refine ⟨.int (ds.countP fun z => PyData.eqv z d : Nat), H, I.tok _, ⟨s.toks, ?_⟩, q⟩
        show Value.int ((its.toArray.toList.countP (fun u => PyData.eqv (SeqAt.readOf s.heap u) d) : Nat) : Int) s.toks = _
        rw [ec]
end
variable {P : Program} {w : World} {K : PySem.W.Frag} {mg : Str → Option Value} {base : Heap}
abbrev s_most_agreed : Stmt := top 64
abbrev N_most_agreed : List Str := ["values", "need", "first", "value"]
theorem sc_most_agreed : FnScope N_most_agreed ["values", "need"] (defScope s_most_agreed) := ⟨rfl, rfl, rfl, by decide +kernel, rfl, by decide +kernel, by decide +kernel⟩
def sp_most_agreed (K : PySem.W.Frag) : Sp := fun vs H Q _ => ∃ (a : Addr) (d : PyData) (n : Nat) (need : Int) (v0 : V) (xs : List V), vs = [.ref a, .int need] ∧ H a = some (.lst xs) ∧ xs[0]? = some v0 ∧ Dp K H (.ref a) (.list (List.replicate n d)) ∧ Dp K H v0 d ∧
  SeqAt.shaped (.list (List.replicate n d)) = true ∧ SeqAt.shaped d = true ∧ PyData.eqv d d = true ∧ need ≤ n ∧ Q v0 H
theorem C_most_agreed (T : Txt K mg) : C8.Cal P w K mg base 1 "most_agreed" (sp_most_agreed K) [] := by
  refine cal (N := N_most_agreed) (ps := ["values", "need"]) T.d_most_agreed (fun _ _ _ _ _ _ us hl => match us, hl with | [_, _], _ => rfl) sc_most_agreed (fun vs H Q E h => ?_) (fun f cdv A outer s H vs Q E hr h => ?_)
  · obtain ⟨a, d, n, need, v0, xs, rfl, _⟩ := h
    rfl
  · obtain ⟨a, d, n, need, v0, xs, rfl, ha, h0, hd, hd0, sl, sd, ed, hn, k⟩ := h
    refine ⟨_, (pss_cons (ps_set (i := 2) sc_most_agreed.nd rfl (by first | exact .inl rfl | exact .inr rfl) (pe_ix (ix_listK (K := K) rfl) (pv 0) pe_int (fun _ _ => rfl)))
    (pss_cons (ps_if (pt_cmpR op_ge (pe_bm PySem.F.plainAttrs_list PySem.F.slot_list_count PySem.F.type_list_count (mt_countD (room65 hr)) (pv 0) (pa_cons (pv 2) pa_nil)) (pv 1) (nomark _)) (pss_one (ps_ret (pv 2))) pss_nil)
    (pss_cons ps_never
    (pss_one ps_never)))), ?_⟩
    iterate 3 first | refine ⟨_, rfl, ?_⟩ | refine ⟨_, _, _, _, rfl, rfl, SqL.of (by repeat (first | assumption | exact upd_same .. | refine u1 (by assumption) ?_ | refine um (by assumption) ?_ | refine sa (by assumption) ?_)), atI_nat (by assumption), ?_⟩
    have hcount : (List.replicate n d).countP (fun z => PyData.eqv z d) = n := by
      rw [List.countP_replicate, ed]; rfl
    refine ⟨.inl ⟨rfl, _, SqL.of ha⟩, _, rfl, ?_⟩
    refine ⟨a, v0, d, List.replicate n d, rfl, rfl, hd, hd0, sl, sd, ?_⟩
    rw [hcount]
    iterate 5 first | refine ⟨_, rfl, ?_⟩ | refine ⟨_, _, rfl, rfl, ?_⟩ | refine itT (by omega) ?_
    exact k
abbrev CHs (K : PySem.W.Frag) : Addr := He.ga K "HueState"
abbrev CM (K : PySem.W.Frag) : Addr := He.ga K "Machine"
abbrev s_HueState___init__ : Stmt := inClass (top 66) 0
abbrev N_HueState___init__ : List Str := ["self", "bank"]
theorem sc_HueState___init__ : FnScope N_HueState___init__ ["self", "bank"] (defScope s_HueState___init__) := ⟨rfl, rfl, rfl, by decide +kernel, rfl, by decide +kernel, by decide +kernel⟩
def sp_HueState (K : PySem.W.Frag) : Sp := fun vs H Q _ => ∃ (a dx b : Addr) (bs : List Nat), vs = [.ref a, .ref b] ∧ H a = some (.ins (CHs K) dx []) ∧ H b = some (.tup (bs.map nV)) ∧ bs.length ≤ 100 ∧
  ∀ rg bk ch H', H rg = none → H bk = none → H ch = none → rg ≠ bk → H' a = some (.ins (CHs K) dx [("m_registers", .ref rg), ("m_bank", .ref bk), ("m_pointer", .int 0), ("m_slot", .non), ("m_changed", .ref ch)]) →
    H' rg = some (.lst ((List.replicate 8 0).map nV)) → H' bk = some (.lst (bs.map nV)) → H' ch = some (.dK []) → Fr [a] [4] H H' → Q .non H'
theorem C_HueState (T : Txt K mg) : C8.Mak P w K mg base 1 "HueState" (CHs K) (sp_HueState K) [] := by
  refine mak (N := N_HueState___init__) (ps := ["self", "bank"]) T.mg_HueState T.i_HueState (fun _ _ _ _ _ _ us hl => match us, hl with | [_, _], _ => rfl) sc_HueState___init__ (fun vs H Q E h => ?_) (fun f cdv A outer s H vs Q E hr h => ?_)
  · obtain ⟨a, dx, b, bs, rfl, _⟩ := h
    rfl
  · obtain ⟨a, dx, b, bs, rfl, ha, hb, hbl, k⟩ := h
    refine ⟨_, (pss_cons (ps_fld (pv 0) (pe_op op_rep (pe_lst (pa_cons pe_int pa_nil)) (C8.pe_gc rfl T.g_MANY_REGISTERS)) rfl)
    (pss_cons (ps_fld (pv 0) (pe_callTy (call_listK (K := K) rfl) (by rfl) T.b_list (by decide +kernel) (pa_cons (pv 1) pa_nil)) rfl)
    (pss_cons (ps_fld (pv 0) pe_int rfl)
    (pss_cons (ps_fld (pv 0) pe_non rfl)
    (pss_one (ps_fld (pv 0) pe_dnewK rfl)))))), ?_⟩
    iterate 5 first | refine ⟨_, rfl, ?_⟩ | refine ⟨_, _, _, _, rfl, (by repeat (first | assumption | exact upd_same .. | refine u1 (by assumption) ?_ | refine um (by assumption) ?_ | refine sa (by assumption) ?_)), T.cl_HueState, T.no_HueState_m_registers, of_decide_eq_true rfl, ?_⟩ | refine ⟨le_line (of_decide_eq_true rfl), fun t ht => ?_⟩ | refine ⟨_, _, _, rfl, rfl, upd_same, by omega, by omega, le_line (by first | (simp; done) | (simp; omega)), fun t ht => ?_⟩
    rename_i t1 ht1
    rw [show (List.replicate (Int.toNat 8) [V.int 0]).flatten = (List.replicate 8 0).map nV from rfl]
    have ha2 : upd (upd H t1 (.lst [.int 0])) t (.lst ((List.replicate 8 0).map nV)) a = _ := u1 ht (u1 ht1 ha)
    have hta : t ≠ a := (ne_of_none (u1 (o := .lst [.int 0]) ht1 ha) ht).symm
    have f1 : Fr [a] [4] H (upd (upd (upd H t1 (.lst [.int 0])) t (.lst ((List.replicate 8 0).map nV))) a (.ins (CHs K) dx [("m_registers", .ref t)])) := (Fr.of ((same_upd ht1).trans (same_upd ht))).trans (.upd ha2 (by simp) (by simp [HO.kd]))
    have hb1 := f1.k hb rfl
    have hrt : upd (upd (upd H t1 (.lst [.int 0])) t (.lst ((List.replicate 8 0).map nV))) a (.ins (CHs K) dx [("m_registers", .ref t)]) t = some (.lst ((List.replicate 8 0).map nV)) := um hta upd_same
    have ha3 : upd (upd (upd H t1 (.lst [.int 0])) t (.lst ((List.replicate 8 0).map nV))) a (.ins (CHs K) dx [("m_registers", .ref t)]) a = _ := upd_same
    have hHt : H t = none := same_none (same_upd ht1) ht
    rw [show HO.ins (He.ga K "HueState") dx (putF "m_registers" (V.ref t) []) = .ins (CHs K) dx [("m_registers", .ref t)] from rfl]
    generalize upd (upd (upd H t1 (.lst [.int 0])) t (.lst ((List.replicate 8 0).map nV))) a (.ins (CHs K) dx [("m_registers", .ref t)]) = X at f1 hb1 hrt ha3 ⊢
    refine ⟨_, _, rfl, .inr (SqT.of (by repeat (first | assumption | exact upd_same .. | refine u1 (by assumption) ?_ | refine um (by assumption) ?_ | refine sa (by assumption) ?_))), ?_⟩
    intro bk hbk
    iterate 6 first | refine ⟨_, rfl, ?_⟩ | refine ⟨_, _, _, _, rfl, (by repeat (first | assumption | exact upd_same .. | refine u1 (by assumption) ?_ | refine um (by assumption) ?_ | refine sa (by assumption) ?_)), T.cl_HueState, T.no_HueState_m_bank, of_decide_eq_true rfl, ?_⟩ | refine ⟨_, _, _, _, rfl, (by repeat (first | assumption | exact upd_same .. | refine u1 (by assumption) ?_ | refine um (by assumption) ?_ | refine sa (by assumption) ?_)), T.cl_HueState, T.no_HueState_m_pointer, of_decide_eq_true rfl, ?_⟩ | refine ⟨_, _, _, _, rfl, (by repeat (first | assumption | exact upd_same .. | refine u1 (by assumption) ?_ | refine um (by assumption) ?_ | refine sa (by assumption) ?_)), T.cl_HueState, T.no_HueState_m_slot, of_decide_eq_true rfl, ?_⟩
    have hba : bk ≠ a := (ne_of_none ha3 hbk).symm
    have hbt : t ≠ bk := ne_of_none hrt hbk
    have hta : t ≠ a := fun e => by rw [e, ha3] at hrt; cases hrt
    have hHb : H bk = none := by
      cases e : H bk with
      | none => rfl
      | some y => rw [f1.n e (by simp [hba])] at hbk; cases hbk
    rw [upd_upd, upd_upd]
    rw [show HO.ins (He.ga K "HueState") dx (putF "m_slot" V.non (putF "m_pointer" (V.int 0) (putF "m_bank" (V.ref bk) [("m_registers", V.ref t)]))) = .ins (CHs K) dx [("m_registers", .ref t), ("m_bank", .ref bk), ("m_pointer", .int 0), ("m_slot", .non)] from rfl]
    have f2 : Fr [a] [4] H (upd (upd X bk (.lst (bs.map nV))) a (.ins (CHs K) dx [("m_registers", .ref t), ("m_bank", .ref bk), ("m_pointer", .int 0), ("m_slot", .non)])) := f1.trans ((Fr.of (same_upd hbk)).trans (.upd (u1 hbk ha3) (by simp) (by simp [HO.kd])))
    have r2 : upd (upd X bk (.lst (bs.map nV))) a (.ins (CHs K) dx [("m_registers", .ref t), ("m_bank", .ref bk), ("m_pointer", .int 0), ("m_slot", .non)]) t = _ := um hta (u1 hbk hrt)
    have b2 : upd (upd X bk (.lst (bs.map nV))) a (.ins (CHs K) dx [("m_registers", .ref t), ("m_bank", .ref bk), ("m_pointer", .int 0), ("m_slot", .non)]) bk = _ := um hba upd_same
    have a2 : upd (upd X bk (.lst (bs.map nV))) a (.ins (CHs K) dx [("m_registers", .ref t), ("m_bank", .ref bk), ("m_pointer", .int 0), ("m_slot", .non)]) a = _ := upd_same
    generalize upd (upd X bk (.lst (bs.map nV))) a (.ins (CHs K) dx [("m_registers", .ref t), ("m_bank", .ref bk), ("m_pointer", .int 0), ("m_slot", .non)]) = Y at f2 r2 b2 a2 ⊢
    intro ch hch
    iterate 2 first | refine ⟨_, rfl, ?_⟩ | refine ⟨_, _, _, _, rfl, (by repeat (first | assumption | exact upd_same .. | refine u1 (by assumption) ?_ | refine um (by assumption) ?_ | refine sa (by assumption) ?_)), T.cl_HueState, T.no_HueState_m_changed, of_decide_eq_true rfl, ?_⟩
    have hca : ch ≠ a := (ne_of_none a2 hch).symm
    have hHc : H ch = none := by
      cases e : H ch with
      | none => rfl
      | some y => rw [f2.n e (by simp [hca])] at hch; cases hch
    exact k t bk ch _ hHt hHb hHc hbt upd_same (um hta (u1 hch r2)) (um hba (u1 hch b2)) (um hca upd_same) (f2.trans ((Fr.of (same_upd hch)).trans (.upd (u1 hch a2) (by simp) (by simp [HO.kd]))))
end Hw
namespace Hw
open PySem PySem.Spec PyProof.Rows L2
def regL (f : Nat → Nat) : List V := (List.range 8).map fun b => nV (f b)
def bankL (n : Nat) (f : Nat → Nat) : List V := (List.range n).map fun z => nV (f (8 + z))
theorem range_get {α : Type} {n i : Nat} (g : Nat → α) (h : i < n) : ((List.range n).map g)[i]? = some (g i) := by
  rw [List.getElem?_map, List.getElem?_range h]; rfl
theorem range_set {α : Type} {n i : Nat} (g : Nat → α) (x : α) : ((List.range n).map g).set i x = (List.range n).map fun j => if j = i then x else g j := by
  refine List.ext_getElem? fun j => ?_
  rw [List.getElem?_set]
  by_cases hj : j < n
  · rw [range_get _ hj]
    by_cases e : i = j
    · subst e
      rw [if_pos rfl, if_pos (by simpa using hj), range_get _ hj, if_pos rfl]
    · rw [if_neg e, range_get _ hj, if_neg (fun z => e z.symm)]
  · by_cases e : i = j
    · subst e
      rw [if_pos rfl, if_neg (by simpa using hj), List.getElem?_eq_none (by simpa using hj)]
    · rw [if_neg e, List.getElem?_eq_none (by simpa using hj), List.getElem?_eq_none (by simpa using hj)]
structure MS where
  s : SS Nat
  P : Nat → Nat
  st : Str
def hueFs (rg bk ch : Addr) (p : Nat) (o : Option Nat) : List (Str × V) := [("m_registers", .ref rg), ("m_bank", .ref bk), ("m_pointer", nV p), ("m_slot", oV o), ("m_changed", .ref ch)]
def machFs (a hl lf sv rw : Addr) (steps : Int) (st : Str) : List (Str × V) := [("m_code", .ref a), ("m_hues", .ref hl), ("m_left", .ref lf), ("m_strikes", .ref sv), ("m_row", .ref rw), ("m_steps", .int steps), ("m_state", .str st), ("address", .int 0)]
structure MachAt (K : PySem.W.Frag) (H0 H : Hp) (m dxm a sv : Addr) (hs L : List Addr) (h : Nat) (cont : Nat → List V) (steps : Int) (S : Nat → Option Nat) (P : Nat → Nat) (st : Str) : Prop where
  ob : H m = some (.ins (CM K) dxm (machFs a (L.getD (2 * h + 2) 0) (L.getD (2 * h) 0) sv (L.getD (2 * h + 1) 0) steps st))
  lh : hs.length = h
  lL : L.length = 2 * h + 3
  nd : L.Nodup
  ndh : (m :: hs).Nodup
  lst : ∀ j l, L[j]? = some l → H l = some (.lst (cont j))
  hue : ∀ i x, hs[i]? = some x → ∃ dx ch, H x = some (.ins (CHs K) dx (hueFs (L.getD i 0) (L.getD (h + i) 0) ch (P i) (S i))) ∧ H ch = some (.dK [])
  same : Same H0 H
  fr : ∀ x ∈ m :: (hs ++ L), H0 x = none
section
variable {K : PySem.W.Frag} {H0 H H1 : Hp} {m dxm a sv : Addr} {hs L : List Addr} {h : Nat} {cont : Nat → List V} {steps : Int} {S : Nat → Option Nat} {P : Nat → Nat} {st : Str}
theorem getD_at {L : List Addr} {j : Nat} {l : Addr} (h : L[j]? = some l) : L.getD j 0 = l := by rw [List.getD_eq_getElem?_getD, h]; rfl
theorem at_getD {L : List Addr} {j : Nat} (h : j < L.length) : L[j]? = some (L.getD j 0) := by rw [List.getD_eq_getElem?_getD, List.getElem?_eq_getElem h]; rfl
theorem MachAt.keep (M : MachAt K H0 H m dxm a sv hs L h cont steps S P st) (e : Same H H1) : MachAt K H0 H1 m dxm a sv hs L h cont steps S P st :=
  ⟨e _ _ M.ob, M.lh, M.lL, M.nd, M.ndh, fun j l hj => e _ _ (M.lst j l hj), fun i x hx => let ⟨dx, ch, y, z⟩ := M.hue i x hx; ⟨dx, ch, e _ _ y, e _ _ z⟩, M.same.trans e, M.fr⟩
theorem MachAt.setL (M : MachAt K H0 H m dxm a sv hs L h cont steps S P st) {j : Nat} {l : Addr} (hj : L[j]? = some l) (ys : List V) :
    MachAt K H0 (upd H l (.lst ys)) m dxm a sv hs L h (fun k => if k = j then ys else cont k) steps S P st := by
  have hl := M.lst j l hj
  have k1 := upd_kd (x := .lst ys) hl rfl
  refine ⟨k1 _ _ M.ob (by simp [HO.kd]), M.lh, M.lL, M.nd, M.ndh, fun k q hk => ?_, fun i x hx => let ⟨dx, ch, y, z⟩ := M.hue i x hx; ⟨dx, ch, k1 _ _ y (by simp [HO.kd]), k1 _ _ z (by simp [HO.kd])⟩, same_mut M.same (M.fr l (by simp [List.mem_of_getElem? hj])), M.fr⟩
  by_cases e : k = j
  · subst e
    rw [hj] at hk
    cases hk
    rw [if_pos rfl]; exact upd_same
  · rw [if_neg e]
    exact um (fun z => e (by subst z; exact nodup_at M.nd hk hj)) (M.lst k q hk)
theorem MachAt.setH (M : MachAt K H0 H m dxm a sv hs L h cont steps S P st) {i : Nat} {x dx ch : Addr} (hi : hs[i]? = some x) {p0 p : Nat} {o0 o : Option Nat} (hx : H x = some (.ins (CHs K) dx (hueFs (L.getD i 0) (L.getD (h + i) 0) ch p0 o0))) (hch : H ch = some (.dK [])) :
    MachAt K H0 (upd H x (.ins (CHs K) dx (hueFs (L.getD i 0) (L.getD (h + i) 0) ch p o))) m dxm a sv hs L h cont steps (setS S i o) (fun k => if k = i then p else P k) st := by
  have k1 : ∀ b y, H b = some y → HO.kd y ≠ 4 → upd H x (.ins (CHs K) dx (hueFs (L.getD i 0) (L.getD (h + i) 0) ch p o)) b = some y := fun b y hb n => um (fun e => by rw [e, hx] at hb; cases hb; exact n rfl) hb
  have hmx : m ≠ x := fun e => (List.nodup_cons.mp M.ndh).1 (by rw [e]; exact List.mem_of_getElem? hi)
  refine ⟨um hmx M.ob, M.lh, M.lL, M.nd, M.ndh, fun k q hk => k1 _ _ (M.lst k q hk) (by simp [HO.kd]), fun k y hk => ?_, same_mut M.same (M.fr x (by simp [List.mem_of_getElem? hi])), M.fr⟩
  by_cases e : k = i
  · subst e
    rw [hi] at hk
    cases hk
    refine ⟨dx, ch, ?_, k1 _ _ hch (by simp [HO.kd])⟩
    rw [upd_same]
    simp [setS]
  · obtain ⟨dx', ch', y1, y2⟩ := M.hue k y hk
    refine ⟨dx', ch', ?_, k1 _ _ y2 (by simp [HO.kd])⟩
    have nyx : y ≠ x := fun z => e (by subst z; exact nodup_at (List.nodup_cons.mp M.ndh).2 hk hi)
    rw [upd_ne nyx, y1]
    simp only [setS, if_neg e]
theorem MachAt.setM (M : MachAt K H0 H m dxm a sv hs L h cont steps S P st) (steps' : Int) (st' : Str) :
    MachAt K H0 (upd H m (.ins (CM K) dxm (machFs a (L.getD (2 * h + 2) 0) (L.getD (2 * h) 0) sv (L.getD (2 * h + 1) 0) steps' st'))) m dxm a sv hs L h cont steps' S P st' := by
  have k1 : ∀ b y, H b = some y → HO.kd y ≠ 4 → upd H m (.ins (CM K) dxm (machFs a (L.getD (2 * h + 2) 0) (L.getD (2 * h) 0) sv (L.getD (2 * h + 1) 0) steps' st')) b = some y := fun b y hb n => um (fun e => by rw [e, M.ob] at hb; cases hb; exact n rfl) hb
  refine ⟨upd_same, M.lh, M.lL, M.nd, M.ndh, fun k q hk => k1 _ _ (M.lst k q hk) (by simp [HO.kd]), fun k y hk => ?_, same_mut M.same (M.fr m (by simp)), M.fr⟩
  obtain ⟨dx', ch', y1, y2⟩ := M.hue k y hk
  exact ⟨dx', ch', um (fun e => (List.nodup_cons.mp M.ndh).1 (by rw [← e]; exact List.mem_of_getElem? hk)) y1, k1 _ _ y2 (by simp [HO.kd])⟩
end
structure MachA (K : PySem.W.Frag) (H0 H : Hp) (m a : Addr) (hs : List Addr) (C : Code) (inp : List Nat) (s : SS Nat) (P : Nat → Nat) (st : Str) (bud : Nat) : Prop where
  ex : ∃ dxm sv L cont steps, MachAt K H0 H m dxm a sv hs L C.h cont steps s.S P st ∧ (∀ i < C.h, cont i = regL (s.F i)) ∧ (∀ i < C.h, cont (C.h + i) = bankL C.bank.length (s.F i)) ∧ cont (2 * C.h) = (inp.drop s.t).map nV ∧ (cont (2 * C.h + 1)).length ≤ bud ∧ cont (2 * C.h + 2) = hs.map V.ref
theorem MachA.same {K : PySem.W.Frag} {H0 H : Hp} {m a : Addr} {hs : List Addr} {C : Code} {inp : List Nat} {s : SS Nat} {P : Nat → Nat} {st : Str} {bud : Nat} (M : MachA K H0 H m a hs C inp s P st bud) : Same H0 H := let ⟨_, _, _, _, _, M, _⟩ := M.ex; M.same
theorem MachA.keep {K : PySem.W.Frag} {H0 H H1 : Hp} {m a : Addr} {hs : List Addr} {C : Code} {inp : List Nat} {s : SS Nat} {P : Nat → Nat} {st : Str} {bud : Nat} (M : MachA K H0 H m a hs C inp s P st bud) (e : Same H H1) : MachA K H0 H1 m a hs C inp s P st bud :=
  ⟨let ⟨a1, a2, a3, a4, a5, M, r⟩ := M.ex; ⟨a1, a2, a3, a4, a5, M.keep e, r⟩⟩
theorem MachA.lh {K : PySem.W.Frag} {H0 H : Hp} {m a : Addr} {hs : List Addr} {C : Code} {inp : List Nat} {s : SS Nat} {P : Nat → Nat} {st : Str} {bud : Nat} (M : MachA K H0 H m a hs C inp s P st bud) : hs.length = C.h := let ⟨_, _, _, _, _, M, _⟩ := M.ex; M.lh
variable {P : Program} {w : World} {K : PySem.W.Frag} {mg : Str → Option Value} {base : Heap}
abbrev s_HueState_instructed : Stmt := inClass (top 66) 2
abbrev N_HueState_instructed : List Str := ["self", "cell", "size", "registers", "word", "goal", "bank"]
theorem sc_HueState_instructed : FnScope N_HueState_instructed ["self", "cell", "size"] (defScope s_HueState_instructed) := ⟨rfl, rfl, rfl, by decide +kernel, rfl, by decide +kernel, by decide +kernel⟩
def tkI (inp : List Nat) (size : Nat) (k : Nat) : Nat := inp.getD k 0 % size
def sp_instructed (K : PySem.W.Frag) : Sp := fun vs H Q _ => ∃ (H0 : Hp) (m a x q : Addr) (v : V) (hs : List Addr) (C : Code) (inp : List Nat) (s s' : SS Nat) (P : Nat → Nat) (st : Str) (bud i : Nat) (c : Cell), vs = [.ref x, .ref q, v] ∧ MachA K H0 H m a hs C inp s P st bud ∧ hs[i]? = some x ∧
  H0 q = some (.tup (cellV c)) ∧ c.hue = some i ∧ c.Ok C.h C.size C.bank.length ∧ step id (tkI inp C.size) C.h (8 + C.bank.length) s c = .go s' ∧ ∀ H', MachA K H0 H' m a hs C inp s' P st bud → Q .non H'
theorem C_instructed (T : Txt K mg) : C8.Met P w K mg base 1 (CHs K) "instructed" (sp_instructed K) [] := by
  refine met (N := N_HueState_instructed) (ps := ["self", "cell", "size"]) T.cl_HueState T.m_HueState_instructed (fun _ _ _ _ _ _ us hl => match us, hl with | [_, _, _], _ => rfl) sc_HueState_instructed (fun vs H Q E h => ?_) (fun f cdv A outer s H vs Q E hr h => ?_)
  · obtain ⟨H0, m, a, x, q, v, hs, C, inp, s, s', P, st, bud, i, c, rfl, _⟩ := h
    rfl
  · obtain ⟨H0, m, a, x, q, v, hs, C, inp, s, s', P, st, bud, i, c, rfl, ⟨⟨dxm, sv, L, cont, steps, M, c1, c2, c3, c4, c5⟩⟩, hx, hq0, hi, ok, hst, k⟩ := h
    have hq := M.same _ _ hq0
    obtain ⟨dx, ch, ho, hch⟩ := M.hue i x hx
    have hih := hue_ok hi ok
    have hlL := M.lL
    have la : L[i]? = some (L.getD i 0) := at_getD (by omega)
    have lb : L[C.h + i]? = some (L.getD (C.h + i) 0) := at_getD (by omega)
    have hr1 := M.lst _ _ la
    have hb1 := M.lst _ _ lb
    rw [c1 i hih] at hr1
    rw [c2 i hih] at hb1
    generalize hrg : L.getD i 0 = rg at *
    generalize hbk : L.getD (C.h + i) 0 = bk at *
    unfold hueFs at ho
    refine ⟨_, (pss_cons (ps_par3 (i := 3) (j := 4) (l := 5) (by rfl) sc_HueState_instructed.nd rfl rfl rfl (by decide) (by decide) (by decide) rfl rfl rfl (pa_cons (pe_fldK (K := K) rfl (pv 0) rfl) (pa_cons (pe_ix (ix_tupK (K := K) rfl) (pv 1) pe_int (fun _ _ => rfl)) (pa_cons (pe_ix (ix_tupK (K := K) rfl) (pv 1) pe_int (fun _ _ => rfl)) pa_nil))) (by rfl))
    (pss_one (ps_if (pt_cmpR op_eq (pv 4) pe_str (nomark _)) (pss_one (ps_asg (pe_ix (ix_tupK (K := K) rfl) (pv 1) pe_int (fun _ _ => rfl)) (pg_sub (pv 3) (pv 5) set_list))) (pss_one (ps_if (pt_cmpR op_eq (pv 4) pe_str (nomark _)) (pss_one (ps_fld (pv 0) (pe_ix (ix_listK (K := K) rfl) (pv 3) (pv 5) (fun _ _ => rfl)) rfl)) (pss_one (ps_if (pt_cmpR op_eq (pv 4) pe_str (nomark _)) (pss_one (ps_asg (pe_ix (ix_listK (K := K) rfl) (pe_fldK (K := K) rfl (pv 0) rfl) (pe_op op_add (pe_ix (ix_tupK (K := K) rfl) (pv 1) pe_int (fun _ _ => rfl)) (pe_op op_mod (pe_ix (ix_listK (K := K) rfl) (pv 3) (pe_ix (ix_tupK (K := K) rfl) (pv 1) pe_int (fun _ _ => rfl)) (fun _ _ => rfl)) (pe_ix (ix_tupK (K := K) rfl) (pv 1) pe_int (fun _ _ => rfl)))) (fun _ _ => rfl)) (pg_sub (pv 3) (pv 5) set_list))) (pss_one (ps_if (pt_cmpR op_eq (pv 4) pe_str (nomark _)) (pss_cons (ps_set (i := 6) sc_HueState_instructed.nd rfl (by first | exact .inl rfl | exact .inr rfl) (pe_fldK (K := K) rfl (pv 0) rfl))
    (pss_one (ps_asg (pe_ix (ix_listK (K := K) rfl) (pv 3) (pv 5) (fun _ _ => rfl)) (pg_sub (pv 6) (pe_op op_add (pe_ix (ix_tupK (K := K) rfl) (pv 1) pe_int (fun _ _ => rfl)) (pe_op op_mod (pe_ix (ix_listK (K := K) rfl) (pv 3) (pe_ix (ix_tupK (K := K) rfl) (pv 1) pe_int (fun _ _ => rfl)) (fun _ _ => rfl)) (pe_ix (ix_tupK (K := K) rfl) (pv 1) pe_int (fun _ _ => rfl)))) set_list)))) (pss_one ps_never)))))))))), ?_⟩
    have fin : ∀ (s' : SS Nat) {j : Nat} {l : Addr} (ys : List V), L[j]? = some l → (∀ i < C.h, (if i = j then ys else cont i) = regL (s'.F i)) → (∀ i < C.h, (if C.h + i = j then ys else cont (C.h + i)) = bankL C.bank.length (s'.F i)) → s'.t = s.t → s'.S = s.S → j < 2 * C.h →
        MachA K H0 (upd H l (.lst ys)) m a hs C inp s' P st bud := fun s' j l ys hj e1 e2 e3 e4 e5 => by
      refine ⟨dxm, sv, L, _, steps, by rw [e4]; exact M.setL hj ys, e1, e2, ?_, ?_, ?_⟩
      · show (if 2 * C.h = j then ys else cont (2 * C.h)) = _
        rw [if_neg (by omega), c3, e3]
      · show (if 2 * C.h + 1 = j then ys else cont (2 * C.h + 1)).length ≤ bud
        rw [if_neg (by omega)]; exact c4
      · show (if 2 * C.h + 2 = j then ys else cont (2 * C.h + 2)) = _
        rw [if_neg (by omega)]; exact c5
    have setR : ∀ (b v : Nat), b < 8 → MachA K H0 (upd H rg (.lst ((regL (s.F i)).set b (nV v)))) m a hs C inp { s with F := setF s.F i b v } P st bud := fun b v hb8 => by
      refine fin _ _ la (fun j hj => ?_) (fun j hj => ?_) rfl rfl (by omega)
      · by_cases e : j = i
        · subst e
          rw [if_pos rfl]
          unfold regL
          rw [range_set]
          refine List.map_congr_left fun z hz => ?_
          show (if z = b then nV v else nV (s.F j z)) = nV (if j = j ∧ z = b then v else s.F j z)
          by_cases e2 : z = b
          · rw [if_pos e2, if_pos ⟨rfl, e2⟩]
          · rw [if_neg e2, if_neg (fun q => e2 q.2)]
        · rw [if_neg e, c1 j hj]
          unfold regL
          refine List.map_congr_left fun z hz => ?_
          show nV (s.F j z) = nV (if j = i ∧ z = b then v else s.F j z)
          rw [if_neg (fun q => e q.1)]
      · rw [if_neg (by omega), c2 j hj]
        unfold bankL
        refine List.map_congr_left fun z hz => ?_
        show nV (s.F j (8 + z)) = nV (if j = i ∧ 8 + z = b then v else s.F j (8 + z))
        rw [if_neg (fun q => by omega)]
    have setB : ∀ (z v : Nat), MachA K H0 (upd H bk (.lst ((bankL C.bank.length (s.F i)).set z (nV v)))) m a hs C inp { s with F := setF s.F i (8 + z) v } P st bud := fun b v => by
      refine fin _ _ lb (fun j hj => ?_) (fun j hj => ?_) rfl rfl (by omega)
      · rw [if_neg (by omega), c1 j hj]
        unfold regL
        refine List.map_congr_left fun z hz => ?_
        have hz8 := List.mem_range.mp hz
        show nV (s.F j z) = nV (if j = i ∧ z = 8 + b then v else s.F j z)
        rw [if_neg (fun q => by omega)]
      · by_cases e : j = i
        · subst e
          rw [if_pos rfl]
          unfold bankL
          rw [range_set]
          refine List.map_congr_left fun z hz => ?_
          show (if z = b then nV v else nV (s.F j (8 + z))) = nV (if j = j ∧ 8 + z = 8 + b then v else s.F j (8 + z))
          by_cases e2 : z = b
          · rw [if_pos e2, if_pos ⟨rfl, by omega⟩]
          · rw [if_neg e2, if_neg (fun q => e2 (by omega))]
        · rw [if_neg (by omega), c2 j hj]
          unfold bankL
          refine List.map_congr_left fun z hz => ?_
          show nV (s.F j (8 + z)) = nV (if j = i ∧ 8 + z = 8 + b then v else s.F j (8 + z))
          rw [if_neg (fun q => e q.1)]
    have rlen : (regL (s.F i)).length = 8 := by simp [regL]
    have blen : (bankL C.bank.length (s.F i)).length = C.bank.length := by simp [bankL]
    have rat : ∀ b, b < 8 → (regL (s.F i))[b]? = some (nV (s.F i b)) := fun b hb => range_get _ hb
    have bat : ∀ z, z < C.bank.length → (bankL C.bank.length (s.F i))[z]? = some (nV (s.F i (8 + z))) := fun z hz => range_get _ hz
    cases c with
    | set j b n =>
      cases hi
      cases hst
      obtain ⟨o1, o2, o3⟩ := ok
      have h1 := rat b o2
      iterate 16 first | refine iteT ?_ | refine ⟨_, rfl, ?_⟩ | refine ⟨rfl, ?_⟩ | refine ⟨_, _, _, _, rfl, rfl, SqT.of (by repeat (first | assumption | exact upd_same .. | refine u1 (by assumption) ?_ | refine um (by assumption) ?_ | refine sa (by assumption) ?_)), atI_nat (j := 1) rfl, ?_⟩ | refine ⟨_, _, _, _, rfl, rfl, SqT.of (by repeat (first | assumption | exact upd_same .. | refine u1 (by assumption) ?_ | refine um (by assumption) ?_ | refine sa (by assumption) ?_)), atI_nat (j := 2) rfl, ?_⟩ | refine ⟨_, _, _, _, rfl, rfl, SqT.of (by repeat (first | assumption | exact upd_same .. | refine u1 (by assumption) ?_ | refine um (by assumption) ?_ | refine sa (by assumption) ?_)), atI_nat (j := 3) rfl, ?_⟩ | refine ⟨_, _, _, _, _, rfl, (by repeat (first | assumption | exact upd_same .. | refine u1 (by assumption) ?_ | refine um (by assumption) ?_ | refine sa (by assumption) ?_)), T.cl_HueState, T.no_HueState_m_registers, by rfl, ?_⟩ | refine ⟨_, _, _, rfl, ?_⟩ | refine ⟨_, _, _, _, rfl, rfl, (by repeat (first | assumption | exact upd_same .. | refine u1 (by assumption) ?_ | refine um (by assumption) ?_ | refine sa (by assumption) ?_)), ixNn (by first | assumption | omega | (simp; omega)), ?_⟩
      exact k _ (setR b n o2)
    | get j b c z =>
      cases hi
      cases hst
      obtain ⟨o1, o2, o3, o4⟩ := ok
      have h1 := rat c o3
      have h2 : (bankL C.bank.length (s.F i))[z + 0]? = some (nV (s.F i (8 + z))) := bat z o4
      iterate 32 first | refine iteT ?_ | refine iteF ?_ | refine ⟨_, rfl, ?_⟩ | refine ⟨_, _, rfl, rfl, ?_⟩ | refine ⟨rfl, ?_⟩ | refine ⟨_, _, _, _, rfl, rfl, SqT.of (by repeat (first | assumption | exact upd_same .. | refine u1 (by assumption) ?_ | refine um (by assumption) ?_ | refine sa (by assumption) ?_)), atI_nat (j := 1) rfl, ?_⟩ | refine ⟨_, _, _, _, rfl, rfl, SqT.of (by repeat (first | assumption | exact upd_same .. | refine u1 (by assumption) ?_ | refine um (by assumption) ?_ | refine sa (by assumption) ?_)), atI_nat (j := 2) rfl, ?_⟩ | refine ⟨_, _, _, _, rfl, rfl, SqT.of (by repeat (first | assumption | exact upd_same .. | refine u1 (by assumption) ?_ | refine um (by assumption) ?_ | refine sa (by assumption) ?_)), atI_nat (j := 3) rfl, ?_⟩ | refine ⟨_, _, _, _, rfl, rfl, SqT.of (by repeat (first | assumption | exact upd_same .. | refine u1 (by assumption) ?_ | refine um (by assumption) ?_ | refine sa (by assumption) ?_)), atI_nat (j := 4) rfl, ?_⟩ | refine ⟨_, _, _, _, rfl, rfl, SqT.of (by repeat (first | assumption | exact upd_same .. | refine u1 (by assumption) ?_ | refine um (by assumption) ?_ | refine sa (by assumption) ?_)), atI_nat (j := 5) rfl, ?_⟩ | refine ⟨_, _, _, _, _, rfl, (by repeat (first | assumption | exact upd_same .. | refine u1 (by assumption) ?_ | refine um (by assumption) ?_ | refine sa (by assumption) ?_)), T.cl_HueState, T.no_HueState_m_registers, by rfl, ?_⟩ | refine ⟨_, _, _, _, _, rfl, (by repeat (first | assumption | exact upd_same .. | refine u1 (by assumption) ?_ | refine um (by assumption) ?_ | refine sa (by assumption) ?_)), T.cl_HueState, T.no_HueState_m_bank, by rfl, ?_⟩ | refine ⟨_, _, _, rfl, ?_⟩ | refine ⟨(show (0 : Int) < _ by first | decide | omega), ?_⟩ | refine ⟨_, _, _, _, rfl, rfl, SqL.of (by repeat (first | assumption | exact upd_same .. | refine u1 (by assumption) ?_ | refine um (by assumption) ?_ | refine sa (by assumption) ?_)), atI_nat (by assumption), ?_⟩
      rw [show ((s.F i c : Int) % 1) = 0 from Int.emod_one _]
      iterate 4 first | refine ⟨_, rfl, ?_⟩ | refine ⟨_, _, _, _, rfl, rfl, SqL.of (by repeat (first | assumption | exact upd_same .. | refine u1 (by assumption) ?_ | refine um (by assumption) ?_ | refine sa (by assumption) ?_)), atI_nat (by assumption), ?_⟩ | refine ⟨_, _, _, _, rfl, rfl, (by repeat (first | assumption | exact upd_same .. | refine u1 (by assumption) ?_ | refine um (by assumption) ?_ | refine sa (by assumption) ?_)), ixNn (by first | assumption | omega | (simp; omega)), ?_⟩
      exact k _ (setR b _ o2)
    | put j b c z =>
      cases hi
      cases hst
      obtain ⟨o1, o2, o3, o4⟩ := ok
      have h1 := rat c o3
      have h2 := rat b o2
      iterate 41 first | refine iteT ?_ | refine iteF ?_ | refine ⟨_, rfl, ?_⟩ | refine ⟨_, _, rfl, rfl, ?_⟩ | refine ⟨rfl, ?_⟩ | refine ⟨_, _, _, _, rfl, rfl, SqT.of (by repeat (first | assumption | exact upd_same .. | refine u1 (by assumption) ?_ | refine um (by assumption) ?_ | refine sa (by assumption) ?_)), atI_nat (j := 1) rfl, ?_⟩ | refine ⟨_, _, _, _, rfl, rfl, SqT.of (by repeat (first | assumption | exact upd_same .. | refine u1 (by assumption) ?_ | refine um (by assumption) ?_ | refine sa (by assumption) ?_)), atI_nat (j := 2) rfl, ?_⟩ | refine ⟨_, _, _, _, rfl, rfl, SqT.of (by repeat (first | assumption | exact upd_same .. | refine u1 (by assumption) ?_ | refine um (by assumption) ?_ | refine sa (by assumption) ?_)), atI_nat (j := 3) rfl, ?_⟩ | refine ⟨_, _, _, _, rfl, rfl, SqT.of (by repeat (first | assumption | exact upd_same .. | refine u1 (by assumption) ?_ | refine um (by assumption) ?_ | refine sa (by assumption) ?_)), atI_nat (j := 4) rfl, ?_⟩ | refine ⟨_, _, _, _, rfl, rfl, SqT.of (by repeat (first | assumption | exact upd_same .. | refine u1 (by assumption) ?_ | refine um (by assumption) ?_ | refine sa (by assumption) ?_)), atI_nat (j := 5) rfl, ?_⟩ | refine ⟨_, _, _, _, _, rfl, (by repeat (first | assumption | exact upd_same .. | refine u1 (by assumption) ?_ | refine um (by assumption) ?_ | refine sa (by assumption) ?_)), T.cl_HueState, T.no_HueState_m_registers, by rfl, ?_⟩ | refine ⟨_, _, _, _, _, rfl, (by repeat (first | assumption | exact upd_same .. | refine u1 (by assumption) ?_ | refine um (by assumption) ?_ | refine sa (by assumption) ?_)), T.cl_HueState, T.no_HueState_m_bank, by rfl, ?_⟩ | refine ⟨_, _, _, rfl, ?_⟩ | refine ⟨(show (0 : Int) < _ by first | decide | omega), ?_⟩ | refine ⟨_, _, _, _, rfl, rfl, SqL.of (by repeat (first | assumption | exact upd_same .. | refine u1 (by assumption) ?_ | refine um (by assumption) ?_ | refine sa (by assumption) ?_)), atI_nat (by assumption), ?_⟩ | refine ⟨_, _, _, _, rfl, rfl, (by repeat (first | assumption | exact upd_same .. | refine u1 (by assumption) ?_ | refine um (by assumption) ?_ | refine sa (by assumption) ?_)), ixNn (by first | assumption | omega | (simp; omega)), ?_⟩
      rw [show z + s.F i c % Int.natAbs 1 = z by simp [Nat.mod_one]]
      exact k _ (setB z _)
    | offer j b =>
      cases hi
      cases hst
      obtain ⟨o1, o2⟩ := ok
      have h1 := rat b o2
      iterate 20 first | refine iteT ?_ | refine iteF ?_ | refine ⟨_, rfl, ?_⟩ | refine ⟨rfl, ?_⟩ | refine ⟨_, _, _, _, rfl, rfl, SqT.of (by repeat (first | assumption | exact upd_same .. | refine u1 (by assumption) ?_ | refine um (by assumption) ?_ | refine sa (by assumption) ?_)), atI_nat (j := 1) rfl, ?_⟩ | refine ⟨_, _, _, _, rfl, rfl, SqT.of (by repeat (first | assumption | exact upd_same .. | refine u1 (by assumption) ?_ | refine um (by assumption) ?_ | refine sa (by assumption) ?_)), atI_nat (j := 2) rfl, ?_⟩ | refine ⟨_, _, _, _, _, rfl, (by repeat (first | assumption | exact upd_same .. | refine u1 (by assumption) ?_ | refine um (by assumption) ?_ | refine sa (by assumption) ?_)), T.cl_HueState, T.no_HueState_m_registers, by rfl, ?_⟩ | refine ⟨_, _, _, _, rfl, (by repeat (first | assumption | exact upd_same .. | refine u1 (by assumption) ?_ | refine um (by assumption) ?_ | refine sa (by assumption) ?_)), T.cl_HueState, T.no_HueState_m_slot, of_decide_eq_true rfl, ?_⟩ | refine ⟨_, _, _, rfl, ?_⟩ | refine ⟨_, _, _, _, rfl, rfl, SqL.of (by repeat (first | assumption | exact upd_same .. | refine u1 (by assumption) ?_ | refine um (by assumption) ?_ | refine sa (by assumption) ?_)), atI_nat (by assumption), ?_⟩
      have M2 := M.setH (p := P i) (o := some (s.F i b)) hx (by rw [hrg, hbk]; exact ho) hch
      have eP : (fun k => if k = i then P i else P k) = P := by
        funext k
        by_cases e : k = i
        · rw [if_pos e, e]
        · rw [if_neg e]
      rw [eP, hrg, hbk] at M2
      exact k _ ⟨⟨dxm, sv, L, cont, steps, M2, c1, c2, c3, c4, c5⟩⟩
    | _ => cases hi
end Hw
namespace Hw
open PySem PySem.Spec PyProof.Rows L2
variable {P : Program} {w : World} {K : PySem.W.Frag} {mg : Str → Option Value} {base : Heap}
theorem dp_rep {K : PySem.W.Frag} {H : Hp} {v : V} {d : PyData} (h : Dp K H v d) : ∀ n : Nat, DpAll K H (List.replicate n v) (List.replicate n d)
  | 0 => .nil
  | n + 1 => .cons h (dp_rep h n)
theorem lay_rep {d : PyData} (h : d.canLay0 = true) : ∀ n : Nat, PyData.canLayAll0 (List.replicate n d) = true
  | 0 => by simp [PyData.canLayAll0]
  | n + 1 => by rw [List.replicate_succ]; simp [PyData.canLayAll0, h, lay_rep h n]
theorem depth_rep {d : PyData} : ∀ n : Nat, PyData.depthAll (List.replicate n d) ≤ d.depth
  | 0 => by simp [PyData.depthAll]
  | n + 1 => by
    have := depth_rep (d := d) n
    rw [List.replicate_succ]
    simp only [PyData.depthAll]; omega
theorem shaped_of {d : PyData} (h : d.canLay0 = true) (h2 : d.depth ≤ 64) : SeqAt.shaped d = true := by
  show (d.canLay0 && decide (d.depth ≤ 64)) = true
  rw [Bool.and_eq_true]
  exact ⟨h, decide_eq_true h2⟩
theorem shaped_rep {d : PyData} (h : d.canLay0 = true) (h2 : d.depth ≤ 63) (n : Nat) : SeqAt.shaped (.list (List.replicate n d)) = true := by
  have := depth_rep (d := d) n
  refine shaped_of (by simp only [PyData.canLay0]; exact lay_rep h n) ?_
  simp only [PyData.depth]; omega
abbrev s_machine_address : Stmt := top 68
abbrev N_machine_address : List Str := ["machine", "votes", "cells", "found", "hue"]
theorem sc_machine_address : FnScope N_machine_address ["machine"] (defScope s_machine_address) := ⟨rfl, rfl, rfl, by decide +kernel, rfl, by decide +kernel, by decide +kernel⟩
def sp_machine_address (K : PySem.W.Frag) : Sp := fun vs H Q _ => ∃ (H0 : Hp) (m a : Addr) (hs : List Addr) (C : Code) (inp : List Nat) (s : SS Nat) (Pt : Nat → Nat) (st : Str) (bud p : Nat), vs = [.ref m] ∧ MachA K H0 H m a hs C inp s Pt st bud ∧ IsCode H0 a C ∧ C.Ok ∧ (∀ i < C.h, Pt i = p) ∧
  ∀ H', Same H H' → Q (if p < C.cells.length then nV p else .non) H'
theorem C_machine_address (T : Txt K mg) : C8.Cal P w K mg base 2 "machine_address" (sp_machine_address K) [] := by
  have C_most_agreed := C_most_agreed (P := P) (w := w) (base := base) T
  refine cal (N := N_machine_address) (ps := ["machine"]) T.d_machine_address (fun _ _ _ _ _ _ us hl => match us, hl with | [_], _ => rfl) sc_machine_address (fun vs H Q E h => ?_) (fun f cdv A outer s H vs Q E hr h => ?_)
  · obtain ⟨H0, m, a, hs, C, inp, s, Pt, st, bud, p, rfl, _⟩ := h
    rfl
  · obtain ⟨H0, m, a, hs, C, inp, s, Pt, st, bud, p, rfl, MA, ⟨va, ca, ba, vs, hc⟩, ok, hp, k⟩ := h
    obtain ⟨dxm, sv, L, cont, steps, M, c1, c2, c3, c4, c5⟩ := MA.ex
    have hob := M.ob
    unfold machFs at hob
    have hcH := hc.same M.same
    have e1 := hcH.top
    have e2 := hcH.vo
    have e3 := hcH.ce
    have hhl := M.lst (2 * C.h + 2) _ (at_getD (by have := M.lL; omega))
    rw [c5] at hhl
    have lh := M.lh
    have h1 : 1 ≤ C.votes.length := ok.h1
    have h5 : C.votes.length ≤ 5 := ok.h5
    have hml : (C.votes.map nV).length = C.votes.length := List.length_map ..
    refine ⟨_, (pss_cons (ps_par (i := 1) (j := 2) (by rfl) sc_machine_address.nd rfl rfl (by decide) rfl rfl (pa_cons (pe_ix (ix_tupK (K := K) rfl) (pe_fldK (K := K) rfl (pv 0) rfl) pe_int (fun _ _ => rfl)) (pa_cons (pe_ix (ix_tupK (K := K) rfl) (pe_fldK (K := K) rfl (pv 0) rfl) pe_int (fun _ _ => rfl)) pa_nil)) (by rfl))
    (pss_cons (ps_set (i := 3) sc_machine_address.nd rfl (by first | exact .inl rfl | exact .inr rfl) (C8.pe_c C_most_agreed hr (by decide) rfl (pa_cons (pe_lc (own := [("hue", 4)]) rfl sc_machine_address.nd (pi_list (pe_fldK (K := K) rfl (pv 0) rfl)) (blkOk_by (own := [("hue", 4)]) (N := N_machine_address) (sc := defScope s_machine_address) (by decide +kernel)) (fun _ _ _ _ _ => (pg_name (i := 4) sc_machine_address.nd rfl (by first | exact .inl rfl | exact .inr rfl))) (fun _ _ _ _ _ => pts_nil) (fun _ _ _ _ _ => (pe_fldK (K := K) rfl (pv 4) rfl))) (pa_cons (pe_ix (ix_tupK (K := K) rfl) (pv 1) (pe_op op_sub (pe_callB (call_lenK (K := K) rfl) (by rfl) T.b_len PySem.boot_len (pa_cons (pv 1) pa_nil)) pe_int) (fun _ _ => rfl)) pa_nil))))
    (pss_one (ps_ret (pe_ifExp (PW.pt (pw_and (pt_cmpR op_notN (pv 3) pe_non (nomark _)) (pw_and1 (pt_cmpR op_lt (pv 3) (pe_callB (call_lenK (K := K) rfl) (by rfl) T.b_len PySem.boot_len (pa_cons (pv 2) pa_nil)) (nomark _))))) (pv 3) pe_non))))), ?_⟩
    iterate 10 first | refine ⟨_, rfl, ?_⟩ | refine ⟨_, _, _, _, rfl, rfl, SqT.of (by repeat (first | assumption | exact upd_same .. | refine u1 (by assumption) ?_ | refine um (by assumption) ?_ | refine sa (by assumption) ?_)), atI_nat (j := 0) rfl, ?_⟩ | refine ⟨_, _, _, _, rfl, rfl, SqT.of (by repeat (first | assumption | exact upd_same .. | refine u1 (by assumption) ?_ | refine um (by assumption) ?_ | refine sa (by assumption) ?_)), atI_nat (j := 2) rfl, ?_⟩ | refine ⟨_, _, _, _, _, rfl, (by repeat (first | assumption | exact upd_same .. | refine u1 (by assumption) ?_ | refine um (by assumption) ?_ | refine sa (by assumption) ?_)), T.cl_Machine, T.no_Machine_m_code, by rfl, ?_⟩ | refine ⟨_, _, _, _, _, rfl, (by repeat (first | assumption | exact upd_same .. | refine u1 (by assumption) ?_ | refine um (by assumption) ?_ | refine sa (by assumption) ?_)), T.cl_Machine, T.no_Machine_m_hues, by rfl, ?_⟩ | refine ⟨_, _, rfl, ?_⟩
    refine ⟨⟨_, SqL.of hhl⟩, fun D hD => ?_⟩
    have bl := big_line
    refine lc_list (xs := hs.map V.ref) (fun i H' => H' = upd H D (.lst (List.replicate i (nV p)))) rfl (fun i H' _ e => by rw [e]; exact SqL.of (u1 hD hhl)) (fun i y H' hi e => ?_) (fun H' e => ?_)
    · subst e
      rw [List.getElem?_map] at hi
      obtain ⟨x, hx, rfl⟩ := Option.map_eq_some_iff.mp hi
      have hih : i < C.h := by rw [← lh]; exact (List.getElem?_eq_some_iff.mp hx).1
      obtain ⟨dx, ch, ho, hch⟩ := M.hue i x hx
      unfold hueFs at ho
      rw [hp i hih] at ho
      have ho2 := u1 (o := .lst (List.replicate i (nV p))) hD ho
      have hi5 : C.h ≤ 5 := ok.h5
      iterate 3 first | refine ⟨_, rfl, ?_⟩ | refine ⟨rfl, ?_⟩ | refine ⟨_, _, _, _, _, rfl, (by repeat (first | assumption | exact upd_same .. | refine u1 (by assumption) ?_ | refine um (by assumption) ?_ | refine sa (by assumption) ?_)), T.cl_HueState, T.no_HueState_m_pointer, by rfl, ?_⟩
      exact ⟨_, upd_same, by simp; omega, by rw [upd_upd]; congr 2; rw [List.replicate_succ']⟩
    · subst e
      rw [List.length_map, lh]
      have sD : Same H (upd H D (.lst (List.replicate C.h (nV p)))) := same_upd hD
      have hDl : upd H D (.lst (List.replicate C.h (nV p))) D = some (.lst (List.replicate C.h (nV p))) := upd_same
      have e1' := sD _ _ e1
      have e2' := sD _ _ e2
      have e3' := sD _ _ e3
      generalize upd H D (.lst (List.replicate C.h (nV p))) = X at sD hDl e1' e2' e3' ⊢
      have hv : C.votes[C.votes.length - 1]? = some (C.votes[C.votes.length - 1]'(by omega)) := List.getElem?_eq_getElem _
      have hv2 : (C.votes.map nV)[C.votes.length - 1]? = some (nV (C.votes[C.votes.length - 1]'(by omega))) := by rw [List.getElem?_map, hv]; rfl
      obtain ⟨o1, o2⟩ := ok.vo _ _ hv
      iterate 4 first | refine ⟨_, rfl, ?_⟩ | refine ⟨_, _, rfl, rfl, ?_⟩ | refine ⟨_, _, rfl, .inr (SqT.of (by repeat (first | assumption | exact upd_same .. | refine u1 (by assumption) ?_ | refine um (by assumption) ?_ | refine sa (by assumption) ?_))), ?_⟩
      refine ⟨_, _, _, _, rfl, rfl, SqT.of e2', (by rw [hml, show ((C.votes.length : Nat) : Int) - 1 = ((C.votes.length - 1 : Nat) : Int) by omega]; exact atI_nat hv2), ?_⟩
      refine ⟨D, .int p, C.h, _, nV p, _, rfl, hDl, by rw [List.getElem?_replicate, if_pos (show 0 < C.h from h1)], .lst (SqL.of hDl) (dp_rep (.int _) _), .int _, shaped_rep (by simp [PyData.canLay0]) (by simp [PyData.depth]) _, shaped_of (by simp [PyData.canLay0]) (by simp [PyData.depth]), by simp [PyData.eqv], by show ((C.votes[C.votes.length - 1] : Nat) : Int) ≤ (C.votes.length : Nat); omega, ?_⟩
      have hvl : vs.length = C.cells.length := hcH.cs.1
      iterate 9 first | refine iteT ?_ | refine ⟨_, rfl, ?_⟩ | refine ⟨_, _, rfl, rfl, ?_⟩ | refine ⟨rfl, ?_⟩ | refine ⟨_, _, rfl, .inr (SqT.of (by repeat (first | assumption | exact upd_same .. | refine u1 (by assumption) ?_ | refine um (by assumption) ?_ | refine sa (by assumption) ?_))), ?_⟩
      have hk := k X sD
      by_cases hpl : p < C.cells.length
      · rw [if_pos hpl] at hk
        refine itT (by omega) ?_
        exact ⟨_, rfl, hk⟩
      · rw [if_neg hpl] at hk
        refine itF (by omega) ?_
        exact hk
abbrev s_point_all : Stmt := top 71
abbrev N_point_all : List Str := ["machine", "address", "hue"]
theorem sc_point_all : FnScope N_point_all ["machine", "address"] (defScope s_point_all) := ⟨rfl, rfl, rfl, by decide +kernel, rfl, by decide +kernel, by decide +kernel⟩
def sp_point_all (K : PySem.W.Frag) : Sp := fun vs H Q _ => ∃ (H0 : Hp) (m dxm a sv : Addr) (hs L : List Addr) (h : Nat) (cont : Nat → List V) (steps : Int) (S : Nat → Option Nat) (Pt : Nat → Nat) (st : Str) (p : Nat), vs = [.ref m, nV p] ∧ MachAt K H0 H m dxm a sv hs L h cont steps S Pt st ∧ cont (2 * h + 2) = hs.map V.ref ∧ h ≤ 5 ∧
  ∀ H' Pt', (∀ i < h, Pt' i = p) → MachAt K H0 H' m dxm a sv hs L h cont steps S Pt' st → Q .non H'
theorem setS_self (S : Nat → Option Nat) (i : Nat) : setS S i (S i) = S := by
  funext k
  show (if k = i then S i else S k) = S k
  by_cases e : k = i
  · rw [if_pos e, e]
  · rw [if_neg e]
theorem C_point_all (T : Txt K mg) : C8.Cal P w K mg base 1 "point_all" (sp_point_all K) [] := by
  refine cal (N := N_point_all) (ps := ["machine", "address"]) T.d_point_all (fun _ _ _ _ _ _ us hl => match us, hl with | [_, _], _ => rfl) sc_point_all (fun vs H Q E h => ?_) (fun f cdv A outer s H vs Q E hr h => ?_)
  · obtain ⟨H0, m, dxm, a, sv, hs, L, hh, cont, steps, S, Pt, st, p, rfl, _⟩ := h
    rfl
  · obtain ⟨H0, m, dxm, a, sv, hs, L, hh, cont, steps, S, Pt, st, p, rfl, M, c5, h5, k⟩ := h
    have hob := M.ob
    unfold machFs at hob
    have hhl : ∀ {H' : Hp} {S : Nat → Option Nat} {Pt : Nat → Nat} {st : Str}, MachAt K H0 H' m dxm a sv hs L hh cont steps S Pt st → H' (L.getD (2 * hh + 2) 0) = some (.lst (hs.map V.ref)) := fun M' => by
      have z := M'.lst (2 * hh + 2) _ (at_getD (by have := M'.lL; omega))
      rw [c5] at z; exact z
    have hh0 := hhl M
    refine ⟨_, (pss_one (ps_for PassesOwn.never rfl (pi_list (pe_fldK (K := K) rfl (pv 0) rfl)) (pg_name (i := 2) sc_point_all.nd rfl (by first | exact .inl rfl | exact .inr rfl)) (pss_one (ps_fld (pv 2) (pv 1) rfl)))), ?_⟩
    iterate 3 first | refine ⟨_, rfl, ?_⟩ | refine ⟨_, _, _, _, _, rfl, (by repeat (first | assumption | exact upd_same .. | refine u1 (by assumption) ?_ | refine um (by assumption) ?_ | refine sa (by assumption) ?_)), T.cl_Machine, T.no_Machine_m_hues, by rfl, ?_⟩
    refine ⟨⟨_, SqL.of hh0⟩, ?_⟩
    refine for_list (xs := hs.map V.ref) (fun i σ H' => (∃ l, σ = [some (V.ref m), some (nV p), l]) ∧ MachAt K H0 H' m dxm a sv hs L hh cont steps S (fun j => if j < i then p else Pt j) st)
      ⟨⟨_, rfl⟩, by simpa using M⟩ (fun i σ H' _ q => SqL.of (hhl q.2)) (fun i y σ H' hi q => ?_) (fun σ H' q => ?_)
    · obtain ⟨⟨l, rfl⟩, M1⟩ := q
      rw [List.getElem?_map] at hi
      obtain ⟨x, hx, rfl⟩ := Option.map_eq_some_iff.mp hi
      obtain ⟨dx, ch, ho, hch⟩ := M1.hue i x hx
      have ho' := ho
      unfold hueFs at ho
      iterate 3 first | refine ⟨_, rfl, ?_⟩ | refine ⟨_, _, _, _, rfl, (by repeat (first | assumption | exact upd_same .. | refine u1 (by assumption) ?_ | refine um (by assumption) ?_ | refine sa (by assumption) ?_)), T.cl_HueState, T.no_HueState_m_pointer, of_decide_eq_true rfl, ?_⟩
      refine ⟨⟨_, rfl⟩, ?_⟩
      have M2 := M1.setH (p := p) (o := S i) hx ho' hch
      rw [setS_self] at M2
      have eP : (fun j => if j < i + 1 then p else Pt j) = fun k => if k = i then p else (fun j => if j < i then p else Pt j) k := by
        funext j
        by_cases e : j = i
        · rw [if_pos (by omega), if_pos e]
        · rw [if_neg e]
          by_cases e2 : j < i
          · rw [if_pos (by omega)]; simp [e2]
          · rw [if_neg (by omega)]; simp [e2]
      rw [eP]
      exact M2
    · obtain ⟨⟨l, rfl⟩, M1⟩ := q
      rw [List.length_map, M.lh] at M1
      exact k _ _ (fun i hi => if_pos hi) M1
abbrev s_empty_slots : Stmt := top 72
abbrev N_empty_slots : List Str := ["machine", "hue"]
theorem sc_empty_slots : FnScope N_empty_slots ["machine"] (defScope s_empty_slots) := ⟨rfl, rfl, rfl, by decide +kernel, rfl, by decide +kernel, by decide +kernel⟩
def sp_empty_slots (K : PySem.W.Frag) : Sp := fun vs H Q _ => ∃ (H0 : Hp) (m dxm a sv : Addr) (hs L : List Addr) (h : Nat) (cont : Nat → List V) (steps : Int) (S : Nat → Option Nat) (Pt : Nat → Nat) (st : Str), vs = [.ref m] ∧ MachAt K H0 H m dxm a sv hs L h cont steps S Pt st ∧ cont (2 * h + 2) = hs.map V.ref ∧ h ≤ 5 ∧
  ∀ H', MachAt K H0 H' m dxm a sv hs L h cont steps (fun _ => none) Pt st → Q .non H'
theorem MachAt.slots {K : PySem.W.Frag} {H0 H : Hp} {m dxm a sv : Addr} {hs L : List Addr} {h : Nat} {cont : Nat → List V} {steps : Int} {S S' : Nat → Option Nat} {P : Nat → Nat} {st : Str} (M : MachAt K H0 H m dxm a sv hs L h cont steps S P st) (e : ∀ i < h, S' i = S i) : MachAt K H0 H m dxm a sv hs L h cont steps S' P st :=
  { M with hue := fun i x hx => by rw [e i (by rw [← M.lh]; exact (List.getElem?_eq_some_iff.mp hx).1)]; exact M.hue i x hx }
theorem C_empty_slots (T : Txt K mg) : C8.Cal P w K mg base 1 "empty_slots" (sp_empty_slots K) [] := by
  refine cal (N := N_empty_slots) (ps := ["machine"]) T.d_empty_slots (fun _ _ _ _ _ _ us hl => match us, hl with | [_], _ => rfl) sc_empty_slots (fun vs H Q E h => ?_) (fun f cdv A outer s H vs Q E hr h => ?_)
  · obtain ⟨H0, m, dxm, a, sv, hs, L, hh, cont, steps, S, Pt, st, rfl, _⟩ := h
    rfl
  · obtain ⟨H0, m, dxm, a, sv, hs, L, hh, cont, steps, S, Pt, st, rfl, M, c5, h5, k⟩ := h
    have hob := M.ob
    unfold machFs at hob
    have hhl : ∀ {H' : Hp} {S : Nat → Option Nat} {Pt : Nat → Nat} {st : Str}, MachAt K H0 H' m dxm a sv hs L hh cont steps S Pt st → H' (L.getD (2 * hh + 2) 0) = some (.lst (hs.map V.ref)) := fun M' => by
      have z := M'.lst (2 * hh + 2) _ (at_getD (by have := M'.lL; omega))
      rw [c5] at z; exact z
    have hh0 := hhl M
    refine ⟨_, (pss_one (ps_for PassesOwn.never rfl (pi_list (pe_fldK (K := K) rfl (pv 0) rfl)) (pg_name (i := 1) sc_empty_slots.nd rfl (by first | exact .inl rfl | exact .inr rfl)) (pss_one (ps_fld (pv 1) pe_non rfl)))), ?_⟩
    iterate 3 first | refine ⟨_, rfl, ?_⟩ | refine ⟨_, _, _, _, _, rfl, (by repeat (first | assumption | exact upd_same .. | refine u1 (by assumption) ?_ | refine um (by assumption) ?_ | refine sa (by assumption) ?_)), T.cl_Machine, T.no_Machine_m_hues, by rfl, ?_⟩
    refine ⟨⟨_, SqL.of hh0⟩, ?_⟩
    refine for_list (xs := hs.map V.ref) (fun i σ H' => (∃ l, σ = [some (V.ref m), l]) ∧ MachAt K H0 H' m dxm a sv hs L hh cont steps (fun j => if j < i then none else S j) Pt st)
      ⟨⟨_, rfl⟩, by simpa using M⟩ (fun i σ H' _ q => SqL.of (hhl q.2)) (fun i y σ H' hi q => ?_) (fun σ H' q => ?_)
    · obtain ⟨⟨l, rfl⟩, M1⟩ := q
      rw [List.getElem?_map] at hi
      obtain ⟨x, hx, rfl⟩ := Option.map_eq_some_iff.mp hi
      obtain ⟨dx, ch, ho, hch⟩ := M1.hue i x hx
      have ho' := ho
      unfold hueFs at ho
      iterate 2 first | refine ⟨_, rfl, ?_⟩ | refine ⟨_, _, _, _, rfl, (by repeat (first | assumption | exact upd_same .. | refine u1 (by assumption) ?_ | refine um (by assumption) ?_ | refine sa (by assumption) ?_)), T.cl_HueState, T.no_HueState_m_slot, of_decide_eq_true rfl, ?_⟩
      refine ⟨⟨_, rfl⟩, ?_⟩
      have M2 := M1.setH (p := Pt i) (o := none) hx ho' hch
      have eP : (fun k => if k = i then Pt i else Pt k) = Pt := by
        funext k
        by_cases e : k = i
        · rw [if_pos e, e]
        · rw [if_neg e]
      rw [eP] at M2
      have eS : (fun j => if j < i + 1 then none else S j) = setS (fun j => if j < i then none else S j) i none := by
        funext j
        show (if j < i + 1 then none else S j) = if j = i then none else if j < i then none else S j
        by_cases e : j = i
        · rw [if_pos (by omega), if_pos e]
        · rw [if_neg e]
          by_cases e2 : j < i
          · rw [if_pos (by omega), if_pos e2]
          · rw [if_neg (by omega), if_neg e2]
      rw [eS]
      exact M2
    · obtain ⟨⟨l, rfl⟩, M1⟩ := q
      rw [List.length_map, M.lh] at M1
      exact k _ (M1.slots (fun i hi => by simp [hi]))
end Hw
namespace Hw
open PySem PySem.Spec PyProof.Rows L2
variable {P : Program} {w : World} {K : PySem.W.Frag} {mg : Str → Option Value} {base : Heap}
def unan (h many : Nat) (s : SS Nat) : Cell → Bool
  | .mark => (marked h many s.F).isNone
  | .sho _ w => (unlike ((List.range w).map s.S)).isNone
  | _ => true
abbrev s_is_unanimous : Stmt := top 75
abbrev N_is_unanimous : List Str := ["machine", "cell", "first", "hue"]
theorem sc_is_unanimous : FnScope N_is_unanimous ["machine", "cell"] (defScope s_is_unanimous) := ⟨rfl, rfl, rfl, by decide +kernel, rfl, by decide +kernel, by decide +kernel⟩
def sp_is_unanimous (K : PySem.W.Frag) : Sp := fun vs H Q _ => ∃ (H0 : Hp) (m a q : Addr) (hs : List Addr) (C : Code) (inp : List Nat) (s : SS Nat) (Pt : Nat → Nat) (st : Str) (bud : Nat) (c : Cell), vs = [.ref m, .ref q] ∧ MachA K H0 H m a hs C inp s Pt st bud ∧ H0 q = some (.tup (cellV c)) ∧ c.hue = none ∧ C.Ok ∧ c.Ok C.h C.size C.bank.length ∧
  ∀ H', Same H H' → Q (.bl (unan C.h (8 + C.bank.length) s c)) H'
theorem regL_inj {f g : Nat → Nat} : regL f = regL g ↔ ∀ b < 8, f b = g b := by
  constructor
  · intro e b hb
    have h1 := range_get (fun b => nV (f b)) hb
    have h2 := range_get (fun b => nV (g b)) hb
    have e' : ((List.range 8).map fun b => nV (f b)) = (List.range 8).map fun b => nV (g b) := e
    rw [e', h2] at h1
    have := V.int.inj (Option.some.inj h1)
    omega
  · intro e
    unfold regL
    exact List.map_congr_left fun b hb => by rw [e b (List.mem_range.mp hb)]
theorem bankL_inj {n : Nat} {f g : Nat → Nat} : bankL n f = bankL n g ↔ ∀ z < n, f (8 + z) = g (8 + z) := by
  constructor
  · intro e b hb
    have h1 := range_get (fun z => nV (f (8 + z))) hb
    have h2 := range_get (fun z => nV (g (8 + z))) hb
    have e' : ((List.range n).map fun z => nV (f (8 + z))) = (List.range n).map fun z => nV (g (8 + z)) := e
    rw [e', h2] at h1
    have := V.int.inj (Option.some.inj h1)
    omega
  · intro e
    unfold bankL
    exact List.map_congr_left fun b hb => by rw [e b (List.mem_range.mp hb)]
theorem regL_int (f : Nat → Nat) : regL f = ((List.range 8).map fun b => ((f b : Nat) : Int)).map V.int := by unfold regL; rw [List.map_map]; rfl
theorem bankL_int (n : Nat) (f : Nat → Nat) : bankL n f = ((List.range n).map fun z => ((f (8 + z) : Nat) : Int)).map V.int := by unfold bankL; rw [List.map_map]; rfl
theorem C_is_unanimous (T : Txt K mg) : C8.Cal P w K mg base 1 "is_unanimous" (sp_is_unanimous K) [] := by
  refine cal (N := N_is_unanimous) (ps := ["machine", "cell"]) T.d_is_unanimous (fun _ _ _ _ _ _ us hl => match us, hl with | [_, _], _ => rfl) sc_is_unanimous (fun vs H Q E h => ?_) (fun f cdv A outer s H vs Q E hr h => ?_)
  · obtain ⟨H0, m, a, q, hs, C, inp, s, Pt, st, bud, c, rfl, _⟩ := h
    rfl
  · obtain ⟨H0, m, a, q, hs, C, inp, s, Pt, st, bud, c, rfl, MA, hq0, hi, ok, okc, k⟩ := h
    obtain ⟨dxm, sv, L, cont, steps, M, c1, c2, c3, c4, c5⟩ := MA.ex
    have hob := M.ob
    unfold machFs at hob
    have hq := M.same _ _ hq0
    have hhl := M.lst (2 * C.h + 2) _ (at_getD (by have := M.lL; omega))
    rw [c5] at hhl
    have lh := M.lh
    have h1 : 1 ≤ C.h := ok.h1
    have h5 : C.h ≤ 5 := ok.h5
    obtain ⟨x0, hx0⟩ : ∃ x, hs[0]? = some x := ⟨_, List.getElem?_eq_getElem (by omega)⟩
    have hx0' : (hs.map V.ref)[0]? = some (.ref x0) := by rw [List.getElem?_map, hx0]; rfl
    obtain ⟨dx0, ch0, ho0, hch0⟩ := M.hue 0 x0 hx0
    unfold hueFs at ho0
    have lL := M.lL
    have hrg : ∀ i < C.h, H (L.getD i 0) = some (.lst (regL (s.F i))) := fun i hi => by rw [← c1 i hi]; exact M.lst _ _ (at_getD (by omega))
    have hbk : ∀ i < C.h, H (L.getD (C.h + i) 0) = some (.lst (bankL C.bank.length (s.F i))) := fun i hi => by rw [← c2 i hi]; exact M.lst _ _ (at_getD (by omega))
    have bl := big_line
    refine ⟨_, (pss_cons (ps_if (pt_cmpR op_eq (pe_ix (ix_tupK (K := K) rfl) (pv 1) pe_int (fun _ _ => rfl)) pe_str (nomark _)) (pss_cons (ps_set (i := 2) sc_is_unanimous.nd rfl (by first | exact .inl rfl | exact .inr rfl) (pe_ix (ix_listK (K := K) rfl) (pe_fldK (K := K) rfl (pv 0) rfl) pe_int (fun _ _ => rfl)))
    (pss_one (ps_ret (pe_cmpR (op_eqE hr.units0) (pe_lc (own := [("hue", 3)]) rfl sc_is_unanimous.nd (pi_list (pe_fldK (K := K) rfl (pv 0) rfl)) (blkOk_by (own := [("hue", 3)]) (N := N_is_unanimous) (sc := defScope s_is_unanimous) (by decide +kernel)) (fun _ _ _ _ _ => (pg_name (i := 3) sc_is_unanimous.nd rfl (by first | exact .inl rfl | exact .inr rfl))) (fun _ _ _ _ _ => (pts_one (PW.pt (pw_or (pt_cmpR (op_neDK (K := K) rfl hr.units) (pe_fldK (K := K) rfl (pv 3) rfl) (pe_fldK (K := K) rfl (pv 2) rfl) (nomark _)) (pw_or1 (pt_cmpR (op_neDK (K := K) rfl hr.units) (pe_fldK (K := K) rfl (pv 3) rfl) (pe_fldK (K := K) rfl (pv 2) rfl) (nomark _))))))) (fun _ _ _ _ _ => (pv 3))) (pe_lst pa_nil) (nomark _))))) pss_nil)
    (pss_cons (ps_if (pt_cmpR op_in_seq (pe_ix (ix_tupK (K := K) rfl) (pv 1) pe_int (fun _ _ => rfl)) (pe_tup (pa_cons pe_str (pa_cons pe_str pa_nil))) (by with_unfolding_all rfl)) (pss_cons (ps_set (i := 2) sc_is_unanimous.nd rfl (by first | exact .inl rfl | exact .inr rfl) (pe_fldK (K := K) rfl (pe_ix (ix_listK (K := K) rfl) (pe_fldK (K := K) rfl (pv 0) rfl) pe_int (fun _ _ => rfl)) rfl))
    (pss_one (ps_ret (pe_and (pe_cmpR op_notN (pv 2) pe_non (nomark _)) (pe_one (pe_cmpR (op_eqE hr.units0) (pe_lc (own := [("hue", 3)]) rfl sc_is_unanimous.nd (pi_list (pe_slice (sl_listK (K := K) rfl) (pe_fldK (K := K) rfl (pv 0) rfl) po_none (po_some (pe_ix (ix_tupK (K := K) rfl) (pv 1) pe_int (fun _ _ => rfl))))) (blkOk_by (own := [("hue", 3)]) (N := N_is_unanimous) (sc := defScope s_is_unanimous) (by decide +kernel)) (fun _ _ _ _ _ => (pg_name (i := 3) sc_is_unanimous.nd rfl (by first | exact .inl rfl | exact .inr rfl))) (fun _ _ _ _ _ => (pts_one (pt_cmpR op_ne (pe_fldK (K := K) rfl (pv 3) rfl) (pv 2) (nomark _)))) (fun _ _ _ _ _ => (pv 3))) (pe_lst pa_nil) (nomark _))))))) pss_nil)
    (pss_one (ps_ret pe_bl)))), ?_⟩
    cases c with
    | take b x =>
      iterate 13 first | refine iteF ?_ | refine ⟨_, rfl, ?_⟩ | refine ⟨rfl, ?_⟩ | refine ⟨_, _, rfl, .inr (SqT.of (by repeat (first | assumption | exact upd_same .. | refine u1 (by assumption) ?_ | refine um (by assumption) ?_ | refine sa (by assumption) ?_))), ?_⟩ | refine ⟨_, _, _, _, rfl, rfl, SqT.of (by repeat (first | assumption | exact upd_same .. | refine u1 (by assumption) ?_ | refine um (by assumption) ?_ | refine sa (by assumption) ?_)), atI_nat (j := 0) rfl, ?_⟩ | refine ⟨le_line (of_decide_eq_true rfl), fun t ht => ?_⟩
      exact k _ (same_upd ht)
    | stop =>
      iterate 13 first | refine iteF ?_ | refine ⟨_, rfl, ?_⟩ | refine ⟨rfl, ?_⟩ | refine ⟨_, _, rfl, .inr (SqT.of (by repeat (first | assumption | exact upd_same .. | refine u1 (by assumption) ?_ | refine um (by assumption) ?_ | refine sa (by assumption) ?_))), ?_⟩ | refine ⟨_, _, _, _, rfl, rfl, SqT.of (by repeat (first | assumption | exact upd_same .. | refine u1 (by assumption) ?_ | refine um (by assumption) ?_ | refine sa (by assumption) ?_)), atI_nat (j := 0) rfl, ?_⟩ | refine ⟨le_line (of_decide_eq_true rfl), fun t ht => ?_⟩
      exact k _ (same_upd ht)
    | sho p x =>
      obtain ⟨o1, o2, o3⟩ := okc
      iterate 20 first | refine iteT ?_ | refine iteF ?_ | refine ⟨_, rfl, ?_⟩ | refine ⟨rfl, ?_⟩ | refine ⟨_, _, rfl, .inr (SqT.of (by repeat (first | assumption | exact upd_same .. | refine u1 (by assumption) ?_ | refine um (by assumption) ?_ | refine sa (by assumption) ?_))), ?_⟩ | refine ⟨_, _, _, _, rfl, rfl, SqT.of (by repeat (first | assumption | exact upd_same .. | refine u1 (by assumption) ?_ | refine um (by assumption) ?_ | refine sa (by assumption) ?_)), atI_nat (j := 0) rfl, ?_⟩ | refine ⟨_, _, _, _, _, rfl, (by repeat (first | assumption | exact upd_same .. | refine u1 (by assumption) ?_ | refine um (by assumption) ?_ | refine sa (by assumption) ?_)), T.cl_Machine, T.no_Machine_m_hues, by rfl, ?_⟩ | refine ⟨_, _, _, _, _, rfl, (by repeat (first | assumption | exact upd_same .. | refine u1 (by assumption) ?_ | refine um (by assumption) ?_ | refine sa (by assumption) ?_)), T.cl_HueState, T.no_HueState_m_slot, by rfl, ?_⟩ | refine ⟨_, _, _, _, rfl, rfl, SqL.of (by repeat (first | assumption | exact upd_same .. | refine u1 (by assumption) ?_ | refine um (by assumption) ?_ | refine sa (by assumption) ?_)), atI_nat (by assumption), ?_⟩ | refine ⟨le_line (of_decide_eq_true rfl), fun t ht => ?_⟩
      have sX := same_upd (o := .tup [V.str (Str.ofString "show"), V.str (Str.ofString "turn")]) ht
      cases e0 : s.S 0 with
      | none =>
        refine itNF rfl ?_
        have e1 : unlike ((List.range x).map s.S) ≠ none := fun e => by
          have := (unlike_none e).1 (s.S 0) (List.mem_map.mpr ⟨0, List.mem_range.mpr (by omega), rfl⟩)
          rw [e0] at this; cases this
        have hk := k _ sX
        rw [show unan C.h (8 + C.bank.length) s (.sho p x) = false from by
          show (unlike ((List.range x).map s.S)).isNone = false
          cases q : unlike ((List.range x).map s.S) with
          | none => exact absurd q e1
          | some u => rfl] at hk
        exact hk
      | some v0 =>
        refine itNT (by simp [oV]) ?_
        have M1 := M.keep sX
        have hq1 := sX _ _ hq
        have hh1 := sX _ _ hhl
        generalize upd H t (.tup [V.str (Str.ofString "show"), V.str (Str.ofString "turn")]) = H1 at *
        have hob1 := M1.ob
        unfold machFs at hob1
        iterate 5 first | refine ⟨_, rfl, ?_⟩ | refine ⟨_, _, _, _, rfl, rfl, SqT.of (by repeat (first | assumption | exact upd_same .. | refine u1 (by assumption) ?_ | refine um (by assumption) ?_ | refine sa (by assumption) ?_)), atI_nat (j := 2) rfl, ?_⟩ | refine ⟨_, _, _, _, _, rfl, (by repeat (first | assumption | exact upd_same .. | refine u1 (by assumption) ?_ | refine um (by assumption) ?_ | refine sa (by assumption) ?_)), T.cl_Machine, T.no_Machine_m_hues, by rfl, ?_⟩
        refine (show rSlL K _ _ _ _ _ from ?_)
        refine ⟨_, _, rfl, SqL.of hh1, fun q1 hq2 => ?_⟩
        rw [cut_take _ (by rw [List.length_map]; omega), ← List.map_take]
        have M2 := M1.keep (same_upd (o := .lst ((hs.take x).map V.ref)) hq2)
        have sX2 := sX.trans (same_upd (o := .lst ((hs.take x).map V.ref)) hq2)
        have hsl : upd H1 q1 (.lst ((hs.take x).map V.ref)) q1 = _ := upd_same
        generalize upd H1 q1 (.lst ((hs.take x).map V.ref)) = H2 at M2 sX2 hsl ⊢
        refine ⟨_, rfl, ⟨_, SqL.of hsl⟩, fun D hD => ?_⟩
        refine lc_list (xs := (hs.take x).map V.ref) (fun i H' => ∃ acc, acc.length ≤ i ∧ (acc = [] ↔ ∀ j < i, s.S j = some v0) ∧ H' = upd H2 D (.lst acc)) ⟨[], Nat.le_refl _, ⟨fun _ j hj => absurd hj (Nat.not_lt_zero _), fun _ => rfl⟩, rfl⟩ (fun i H' _ e => ?_) (fun i y H' hi e => ?_) (fun H' e => ?_)
        · obtain ⟨acc, _, _, rfl⟩ := e
          exact SqL.of (u1 hD hsl)
        · obtain ⟨acc, el, ei, rfl⟩ := e
          rw [List.getElem?_map] at hi
          obtain ⟨r, hri, rfl⟩ := Option.map_eq_some_iff.mp hi
          have hix : i < x := by
            have := (List.getElem?_eq_some_iff.mp hri).1
            rw [List.length_take] at this; omega
          rw [List.getElem?_take, if_pos hix] at hri
          obtain ⟨dx, ch, ho, hch⟩ := M2.hue i r hri
          unfold hueFs at ho
          have ho3 := u1 (o := .lst acc) hD ho
          have hDu : upd H2 D (.lst acc) D = some (.lst acc) := upd_same
          generalize hX : upd H2 D (.lst acc) = X at *
          iterate 4 first | refine ⟨_, rfl, ?_⟩ | refine ⟨rfl, ?_⟩ | refine ⟨_, _, _, _, _, rfl, (by repeat (first | assumption | exact upd_same .. | refine u1 (by assumption) ?_ | refine um (by assumption) ?_ | refine sa (by assumption) ?_)), T.cl_HueState, T.no_HueState_m_slot, by rfl, ?_⟩
          refine ⟨scal_o _ (some v0), _, rfl, ?_⟩
          by_cases hz : s.S i = some v0
          · refine itNF (by rw [hz]) ?_
            refine ⟨acc, by omega, ?_, hX.symm⟩
            rw [ei]
            constructor
            · intro g j hj
              by_cases ej : j = i
              · subst ej; exact hz
              · exact g j (by omega)
            · intro g j hj
              exact g j (by omega)
          · refine itNT (fun e => hz ?_) ?_
            · cases q : s.S i with
              | none => rw [q] at e; cases e
              | some n => rw [q] at e; have e2 := V.int.inj (show V.int (n : Int) = V.int (v0 : Int) from e); rw [show n = v0 by omega]
            · exact ⟨_, rfl, acc, hDu, by omega, acc ++ [.ref r], by simp; omega, ⟨fun e => by simp at e, fun g => absurd (g i (Nat.lt_succ_self i)) hz⟩, by rw [← hX, upd_upd]⟩
        · obtain ⟨acc, el, ei, rfl⟩ := e
          have hxl : ((hs.take x).map V.ref).length = x := by rw [List.length_map, List.length_take]; omega
          rw [hxl] at ei
          refine ⟨le_line (of_decide_eq_true rfl), fun p2 hp2 => ⟨_, _, _, rfl, rfl, SqL.of (u1 hp2 upd_same), SqL.of upd_same, ?_⟩⟩
          have hk := k _ (sX2.trans ((same_upd (o := .lst acc) hD).trans (same_upd (o := .lst []) hp2)))
          have iff2 : acc = [] ↔ unlike ((List.range x).map s.S) = none := by
            rw [ei]
            constructor
            · intro g
              refine unlike_of (fun o ho => ?_) (fun o ho o' ho' => ?_)
              · obtain ⟨j, hj, rfl⟩ := List.mem_map.mp ho
                rw [g j (List.mem_range.mp hj)]; rfl
              · obtain ⟨j, hj, rfl⟩ := List.mem_map.mp ho
                obtain ⟨j', hj', rfl⟩ := List.mem_map.mp ho'
                rw [g j (List.mem_range.mp hj), g j' (List.mem_range.mp hj')]
            · intro g j hj
              rw [← e0]
              exact (unlike_none g).2 _ (List.mem_map.mpr ⟨j, List.mem_range.mpr hj, rfl⟩) _ (List.mem_map.mpr ⟨0, List.mem_range.mpr (by omega), rfl⟩)
          have e9 : acc.isEmpty = (unlike ((List.range x).map s.S)).isNone := by
            cases acc with
            | nil => rw [iff2.mp rfl]; rfl
            | cons a b =>
              cases q : unlike ((List.range x).map s.S) with
              | none => exact absurd (iff2.mpr q) (by simp)
              | some u => rfl
          rw [e9]
          exact hk
    | mark =>
      iterate 11 first | refine iteT ?_ | refine ⟨_, rfl, ?_⟩ | refine ⟨rfl, ?_⟩ | refine ⟨_, _, _, _, rfl, rfl, SqT.of (by repeat (first | assumption | exact upd_same .. | refine u1 (by assumption) ?_ | refine um (by assumption) ?_ | refine sa (by assumption) ?_)), atI_nat (j := 0) rfl, ?_⟩ | refine ⟨_, _, _, _, _, rfl, (by repeat (first | assumption | exact upd_same .. | refine u1 (by assumption) ?_ | refine um (by assumption) ?_ | refine sa (by assumption) ?_)), T.cl_Machine, T.no_Machine_m_hues, by rfl, ?_⟩ | refine ⟨_, _, _, _, rfl, rfl, SqL.of (by repeat (first | assumption | exact upd_same .. | refine u1 (by assumption) ?_ | refine um (by assumption) ?_ | refine sa (by assumption) ?_)), atI_nat (by assumption), ?_⟩
      refine ⟨⟨_, SqL.of hhl⟩, fun D hD => ?_⟩
      refine lc_list (xs := hs.map V.ref) (fun i H' => ∃ acc, acc.length ≤ i ∧ (acc = [] ↔ ∀ j < i, (∀ b < 8, s.F j b = s.F 0 b) ∧ ∀ z < C.bank.length, s.F j (8 + z) = s.F 0 (8 + z)) ∧ H' = upd H D (.lst acc)) ⟨[], Nat.le_refl _, ⟨fun _ j hj => absurd hj (Nat.not_lt_zero _), fun _ => rfl⟩, rfl⟩ (fun i H' _ e => ?_) (fun i y H' hi e => ?_) (fun H' e => ?_)
      · obtain ⟨acc, _, _, rfl⟩ := e
        exact SqL.of (u1 hD hhl)
      · obtain ⟨acc, el, ei, rfl⟩ := e
        rw [List.getElem?_map] at hi
        obtain ⟨r, hri, rfl⟩ := Option.map_eq_some_iff.mp hi
        have hix : i < C.h := by have := (List.getElem?_eq_some_iff.mp hri).1; omega
        obtain ⟨dx, ch, ho, hch⟩ := M.hue i r hri
        unfold hueFs at ho
        have sD := same_upd (o := .lst acc) hD
        have ho3 := sD _ _ ho
        have ho03 := sD _ _ ho0
        have r1 := sD _ _ (hrg i hix)
        have r2 := sD _ _ (hrg 0 (by omega))
        have b1 := sD _ _ (hbk i hix)
        have b2 := sD _ _ (hbk 0 (by omega))
        have hDu : upd H D (.lst acc) D = some (.lst acc) := upd_same
        generalize hX : upd H D (.lst acc) = X at *
        have nt : ∀ (l l' : List Nat), (l = l') ↔ (l.map (fun (n : Nat) => (n : Int))) = l'.map fun (n : Nat) => (n : Int) := fun l l' => ⟨fun e => by rw [e], fun e => nV_inj (by rw [map_nV, map_nV, e])⟩
        have yes : ¬ (regL (s.F i) = regL (s.F 0) ∧ bankL C.bank.length (s.F i) = bankL C.bank.length (s.F 0)) → (acc ++ [V.ref r]).length ≤ i + 1 ∧ (acc ++ [V.ref r] = [] ↔ ∀ j < i + 1, (∀ b < 8, s.F j b = s.F 0 b) ∧ ∀ z < C.bank.length, s.F j (8 + z) = s.F 0 (8 + z)) := fun n => by
          refine ⟨by simp; omega, fun e => by simp at e, fun g => absurd ?_ n⟩
          obtain ⟨g1, g2⟩ := g i (Nat.lt_succ_self i)
          exact ⟨regL_inj.mpr g1, bankL_inj.mpr g2⟩
        have no : regL (s.F i) = regL (s.F 0) → bankL C.bank.length (s.F i) = bankL C.bank.length (s.F 0) → (acc = [] ↔ ∀ j < i + 1, (∀ b < 8, s.F j b = s.F 0 b) ∧ ∀ z < C.bank.length, s.F j (8 + z) = s.F 0 (8 + z)) := fun e1 e2 => by
          rw [ei]
          constructor
          · intro g j hj
            by_cases ej : j = i
            · subst ej; exact ⟨regL_inj.mp e1, bankL_inj.mp e2⟩
            · exact g j (by omega)
          · intro g j hj
            exact g j (by omega)
        have hupd : ∀ x, upd X D (.lst (acc ++ [x])) = upd H D (.lst (acc ++ [x])) := fun x => by rw [← hX, upd_upd]
        iterate 5 first | refine ⟨_, rfl, ?_⟩ | refine ⟨rfl, ?_⟩ | refine ⟨_, _, _, _, _, rfl, (by repeat (first | assumption | exact upd_same .. | refine u1 (by assumption) ?_ | refine um (by assumption) ?_ | refine sa (by assumption) ?_)), T.cl_HueState, T.no_HueState_m_registers, by rfl, ?_⟩
        have e1 := regL_int (s.F i)
        have e2 := regL_int (s.F 0)
        have e3 := bankL_int C.bank.length (s.F i)
        have e4 := bankL_int C.bank.length (s.F 0)
        have r1' := r1
        have r2' := r2
        have b1' := b1
        have b2' := b2
        rw [e1] at r1'
        rw [e2] at r2'
        rw [e3] at b1'
        rw [e4] at b2'
        have inj : ∀ {l l' : List Int}, l.map V.int = l'.map V.int → l = l' := fun {l l'} e => List.map_inj_right (fun a b h => V.int.inj h) |>.mp e
        refine ⟨_, _, dp_list r1', dp_list r2', shaped_ints _, shaped_ints _, _, rfl, ?_⟩
        rw [eqv_list]
        by_cases hz : regL (s.F i) = regL (s.F 0)
        · refine itNF (inj (by rw [← e1, ← e2, hz])) ?_
          iterate 4 first | refine ⟨_, rfl, ?_⟩ | refine ⟨_, _, _, _, _, rfl, (by repeat (first | assumption | exact upd_same .. | refine u1 (by assumption) ?_ | refine um (by assumption) ?_ | refine sa (by assumption) ?_)), T.cl_HueState, T.no_HueState_m_bank, by rfl, ?_⟩
          refine ⟨_, _, dp_list b1', dp_list b2', shaped_ints _, shaped_ints _, _, rfl, ?_⟩
          rw [eqv_list]
          by_cases hw : bankL C.bank.length (s.F i) = bankL C.bank.length (s.F 0)
          · refine itNF (inj (by rw [← e3, ← e4, hw])) ?_
            exact ⟨acc, by omega, no hz hw, hX.symm⟩
          · refine itNT (fun e => hw (by rw [e3, e4, e])) ?_
            obtain ⟨y1, y2⟩ := yes (fun q => hw q.2)
            exact ⟨_, rfl, acc, hDu, by omega, _, y1, y2, hupd _⟩
        · refine itNT (fun e => hz (by rw [e1, e2, e])) ?_
          refine iteT ?_
          obtain ⟨y1, y2⟩ := yes (fun q => hz q.1)
          exact ⟨_, rfl, acc, hDu, by omega, _, y1, y2, hupd _⟩
      · obtain ⟨acc, el, ei, rfl⟩ := e
        refine ⟨le_line (of_decide_eq_true rfl), fun p2 hp2 => ⟨_, _, _, rfl, rfl, SqL.of (u1 hp2 upd_same), SqL.of upd_same, ?_⟩⟩
        have hk := k _ ((same_upd (o := .lst acc) hD).trans (same_upd (o := .lst []) hp2))
        have iff2 : acc = [] ↔ marked C.h (8 + C.bank.length) s.F = none := by
          rw [ei]
          rw [List.length_map, lh]
          constructor
          · intro g
            refine marked_of fun a ha i hi j hj => ?_
            by_cases ha8 : a < 8
            · rw [(g i hi).1 a ha8, (g j hj).1 a ha8]
            · have q1 := (g i hi).2 (a - 8) (by omega)
              have q2 := (g j hj).2 (a - 8) (by omega)
              rw [show 8 + (a - 8) = a by omega] at q1 q2
              rw [q1, q2]
          · intro g j hj
            have mn := marked_none g
            exact ⟨fun b hb => mn b (by omega) j hj 0 (by omega), fun z hz => mn (8 + z) (by omega) j hj 0 (by omega)⟩
        have e9 : acc.isEmpty = (marked C.h (8 + C.bank.length) s.F).isNone := by
          cases acc with
          | nil => rw [iff2.mp rfl]; rfl
          | cons a b =>
            cases q : marked C.h (8 + C.bank.length) s.F with
            | none => exact absurd (iff2.mpr q) (by simp)
            | some u => rfl
        rw [e9]
        exact hk
    | _ => cases hi
end Hw
namespace Hw
open PySem PySem.Spec PyProof.Rows L2
section
variable {X : Cx} {o : Expr} {f : Str} {pos : Pos} {ta : TE}
def gFld (K : PySem.W.Frag) (ta : TE) (f : Str) : TG := fun v σ H Q => ta σ H fun x H1 => ∃ a C dx fs, x = .ref a ∧ H1 a = some (.ins C dx fs) ∧ Cls K C ∧ NoAttr K C f ∧ fs.length < 1000 ∧ Q σ (upd H1 a (.ins C dx (putF f v fs)))
theorem pg_fld (ha : PE X o ta) : PG X (.Attribute o f pos) (gFld X.K ta f) := by
  refine ⟨fun pins s σ H v u Q I r h => ?_⟩
  refine PySem.W.kas_attr (thn (ha.run pins s σ H _ I h) fun ov s2 ⟨x, H2, I2, rx, a, C, dx, fs, ex, ea, c, n, l, q2⟩ => ?_)
  subst ex
  obtain rfl : ov = Value.ref a := rx
  exact setattr_ok I2 ea c n l r fun s3 I3 => ⟨σ, _, I3, q2⟩
theorem pg_fldK {K : PySem.W.Frag} (hK : X.K = K) (ha : PE X o ta) : PG X (.Attribute o f pos) (gFld K ta f) := hK ▸ pg_fld ha
end
theorem getD_set_eq {L : List Addr} {i : Nat} {r : Addr} (h : i < L.length) : (L.set i r).getD i 0 = r := by
  rw [List.getD_eq_getElem?_getD, List.getElem?_set_self h]; rfl
theorem getD_set_ne {L : List Addr} {i j : Nat} {r : Addr} (h : i ≠ j) : (L.set i r).getD j 0 = L.getD j 0 := by
  rw [List.getD_eq_getElem?_getD, List.getElem?_set_ne h, ← List.getD_eq_getElem?_getD]
theorem nodup_set {α : Type} {L : List α} (nd : L.Nodup) {r : α} (hr : r ∉ L) (i : Nat) : (L.set i r).Nodup := by
  induction L generalizing i with
  | nil => exact nd
  | cons x xs ih =>
    obtain ⟨n1, n2⟩ := List.nodup_cons.mp nd
    cases i with
    | zero => exact List.nodup_cons.mpr ⟨fun m => hr (List.mem_cons_of_mem _ m), n2⟩
    | succ i =>
      refine List.nodup_cons.mpr ⟨fun m => ?_, ih n2 (fun m => hr (List.mem_cons_of_mem _ m)) i⟩
      rcases List.mem_or_eq_of_mem_set m with z | z
      · exact n1 z
      · exact hr (by rw [← z]; exact List.mem_cons_self ..)
section
variable {K : PySem.W.Frag} {H0 H H1 : Hp} {m dxm a sv : Addr} {hs L : List Addr} {h : Nat} {cont : Nat → List V} {steps : Int} {S : Nat → Option Nat} {P : Nat → Nat} {st : Str}
theorem MachAt.setN (M : MachAt K H0 H m dxm a sv hs L h cont steps S P st) {i : Nat} {x dx r b ch c0 r0 b0 : Addr} (hi : hs[i]? = some x) {p0 : Nat} {o0 : Option Nat} (hx : H x = some (.ins (CHs K) dx (hueFs r0 b0 c0 p0 o0))) (hr : H r = some (.lst (cont i))) (hb : H b = some (.lst (cont (h + i)))) (hch : H ch = some (.dK []))
    (nr : r ∉ L) (nb : b ∉ L) (nrb : r ≠ b) (fr : H0 r = none) (fb : H0 b = none) :
    MachAt K H0 (upd H x (.ins (CHs K) dx (hueFs r b ch (P i) (S i)))) m dxm a sv hs ((L.set i r).set (h + i) b) h cont steps S P st := by
  have hih : i < h := by rw [← M.lh]; exact (List.getElem?_eq_some_iff.mp hi).1
  have k1 : ∀ c y, H c = some y → HO.kd y ≠ 4 → upd H x (.ins (CHs K) dx (hueFs r b ch (P i) (S i))) c = some y := fun c y hc n => um (fun e => by rw [e, hx] at hc; cases hc; exact n rfl) hc
  have hmx : m ≠ x := fun e => (List.nodup_cons.mp M.ndh).1 (by rw [e]; exact List.mem_of_getElem? hi)
  have lL := M.lL
  have hh := M.lh
  refine ⟨?_, M.lh, by rw [List.length_set, List.length_set]; exact M.lL, ?_, M.ndh, fun k q hk => ?_, fun k y hk => ?_, same_mut M.same (M.fr x (by simp [List.mem_of_getElem? hi])), fun z hz => ?_⟩
  · rw [getD_set_ne (by omega), getD_set_ne (by omega), getD_set_ne (by omega), getD_set_ne (by omega), getD_set_ne (by omega), getD_set_ne (by omega)]
    exact um hmx M.ob
  · refine nodup_set (nodup_set M.nd nr i) (fun z => ?_) _
    rcases List.mem_or_eq_of_mem_set z with q | q
    · exact nb q
    · exact nrb q.symm
  · refine k1 _ _ ?_ (by simp [HO.kd])
    by_cases e1 : h + i = k
    · subst e1
      rw [List.getElem?_set_self (by rw [List.length_set]; omega)] at hk
      cases hk
      exact hb
    · rw [List.getElem?_set_ne e1] at hk
      by_cases e2 : i = k
      · subst e2
        rw [List.getElem?_set_self (by omega)] at hk
        cases hk
        exact hr
      · rw [List.getElem?_set_ne e2] at hk
        exact M.lst k q hk
  · by_cases e : k = i
    · subst e
      rw [hi] at hk
      cases hk
      refine ⟨dx, ch, ?_, k1 _ _ hch (by simp [HO.kd])⟩
      rw [upd_same, getD_set_ne (by omega), getD_set_eq (by omega), getD_set_eq (by rw [List.length_set]; omega)]
    · obtain ⟨dx', ch', y1, y2⟩ := M.hue k y hk
      have hkh : k < h := by rw [← M.lh]; exact (List.getElem?_eq_some_iff.mp hk).1
      refine ⟨dx', ch', ?_, k1 _ _ y2 (by simp [HO.kd])⟩
      have nyx : y ≠ x := fun z => e (by subst z; exact nodup_at (List.nodup_cons.mp M.ndh).2 hk hi)
      rw [upd_ne nyx, y1, getD_set_ne (by omega), getD_set_ne (by omega), getD_set_ne (by omega), getD_set_ne (by omega)]
  · rcases List.mem_cons.mp hz with q | q
    · exact M.fr z (by rw [q]; exact List.mem_cons_self ..)
    · rcases List.mem_append.mp q with q | q
      · exact M.fr z (by simp [q])
      · rcases List.mem_or_eq_of_mem_set q with q | q
        · rcases List.mem_or_eq_of_mem_set q with q | q
          · exact M.fr z (by simp [q])
          · rw [q]; exact fr
        · rw [q]; exact fb
end
theorem dp_rep' {K : PySem.W.Frag} {H : Hp} {d : PyData} : ∀ {xs : List V}, (∀ x ∈ xs, Dp K H x d) → DpAll K H xs (List.replicate xs.length d)
  | [], _ => .nil
  | x :: xs, h => .cons (h x (List.mem_cons_self ..)) (dp_rep' fun y hy => h y (List.mem_cons_of_mem _ hy))
theorem ints_dp (l : List Nat) (K : PySem.W.Frag) (H : Hp) {a : Addr} (h : H a = some (.lst (l.map nV))) : Dp K H (.ref a) (.list ((l.map fun (n : Nat) => (n : Int)).map PyData.int)) := by
  rw [map_nV] at h
  exact dp_list h
variable {P : Program} {w : World} {K : PySem.W.Frag} {mg : Str → Option Value} {base : Heap}
abbrev s_mark_done : Stmt := top 74
abbrev N_mark_done : List Str := ["machine", "behind", "votes", "states", "agreed", "registers", "bank", "hue"]
theorem sc_mark_done : FnScope N_mark_done ["machine", "behind"] (defScope s_mark_done) := ⟨rfl, rfl, rfl, by decide +kernel, rfl, by decide +kernel, by decide +kernel⟩
def sp_mark_done (K : PySem.W.Frag) : Sp := fun vs H Q _ => ∃ (H0 : Hp) (m a : Addr) (hs : List Addr) (C : Code) (inp : List Nat) (s : SS Nat) (Pt : Nat → Nat) (st : Str) (bud p : Nat), vs = [.ref m, nV p] ∧ MachA K H0 H m a hs C inp s Pt st bud ∧ IsCode H0 a C ∧ C.Ok ∧ marked C.h (8 + C.bank.length) s.F = none ∧
  ∀ H' Pt', (∀ i < C.h, Pt' i = p) → MachA K H0 H' m a hs C inp { s with S := fun _ => none } Pt' st bud → Q .non H'
theorem C_mark_done (T : Txt K mg) : C8.Cal P w K mg base 2 "mark_done" (sp_mark_done K) [] := by
  have C_most_agreed := C_most_agreed (P := P) (w := w) (base := base) T
  have C_point_all := C_point_all (P := P) (w := w) (base := base) T
  have C_empty_slots := C_empty_slots (P := P) (w := w) (base := base) T
  refine cal (N := N_mark_done) (ps := ["machine", "behind"]) T.d_mark_done (fun _ _ _ _ _ _ us hl => match us, hl with | [_, _], _ => rfl) sc_mark_done (fun vs H Q E h => ?_) (fun f cdv A outer s H vs Q E hr h => ?_)
  · obtain ⟨H0, m, a, hs, C, inp, s, Pt, st, bud, p, rfl, _⟩ := h
    rfl
  · obtain ⟨H0, m, a, hs, C, inp, s, Pt, st, bud, p, rfl, MA, ⟨va, ca, ba, vs, hc⟩, ok, hmk, k⟩ := h
    obtain ⟨dxm, sv, L, cont, steps, M, c1, c2, c3, c4, c5⟩ := MA.ex
    have hob := M.ob
    unfold machFs at hob
    have hcH := hc.same M.same
    have e1 := hcH.top
    have e2 := hcH.vo
    have hhl := M.lst (2 * C.h + 2) _ (at_getD (by have := M.lL; omega))
    rw [c5] at hhl
    have lh := M.lh
    have lL := M.lL
    have h1 : 1 ≤ C.votes.length := ok.h1
    have h5 : C.votes.length ≤ 5 := ok.h5
    have hml : (C.votes.map nV).length = C.votes.length := List.length_map ..
    have mk := marked_none hmk
    have rr : ∀ i < C.h, regL (s.F i) = regL (s.F 0) := fun i hi => regL_inj.mpr fun b hb => mk b (by omega) i hi 0 h1
    have bb : ∀ i < C.h, bankL C.bank.length (s.F i) = bankL C.bank.length (s.F 0) := fun i hi => bankL_inj.mpr fun z hz => mk (8 + z) (by omega) i hi 0 h1
    have bl := big_line
    refine ⟨_, (pss_cons (ps_set (i := 2) sc_mark_done.nd rfl (by first | exact .inl rfl | exact .inr rfl) (pe_ix (ix_tupK (K := K) rfl) (pe_fldK (K := K) rfl (pv 0) rfl) pe_int (fun _ _ => rfl)))
    (pss_cons (ps_setLc (i := 3) (own := [("hue", 7)]) rfl sc_mark_done.nd rfl rfl (sw_true rfl rfl rfl (by decide +kernel)) (pi_list (pe_fldK (K := K) rfl (pv 0) rfl)) (blkOk_by (own := [("hue", 7)]) (N := N_mark_done) (sc := defScope s_mark_done) (by decide +kernel)) (fun _ _ _ _ _ => (pg_name (i := 7) sc_mark_done.nd rfl (by first | exact .inl rfl | exact .inr rfl))) (fun _ _ _ _ _ => pts_nil) (fun _ _ _ _ _ => (pe_tup (pa_cons (pe_fldK (K := K) rfl (pv 7) rfl) (pa_cons (pe_fldK (K := K) rfl (pv 7) rfl) pa_nil)))))
    (pss_cons (ps_set (i := 4) sc_mark_done.nd rfl (by first | exact .inl rfl | exact .inr rfl) (C8.pe_c C_most_agreed hr (by decide) rfl (pa_cons (pv 3) (pa_cons (pe_ix (ix_tupK (K := K) rfl) (pv 2) (pe_op op_sub (pe_callB (call_lenK (K := K) rfl) (by rfl) T.b_len PySem.boot_len (pa_cons (pv 2) pa_nil)) pe_int) (fun _ _ => rfl)) pa_nil))))
    (pss_cons (ps_if (pt_cmpR op_isN (pv 4) pe_non (nomark _)) (pss_cons ps_never
    (pss_one ps_never)) pss_nil)
    (pss_cons (ps_par (i := 5) (j := 6) (by rfl) sc_mark_done.nd rfl rfl (by decide) rfl rfl (pa_cons (pe_callTy (call_listK (K := K) rfl) (by rfl) T.b_list (by decide +kernel) (pa_cons (pe_ix (ix_tupK (K := K) rfl) (pv 4) pe_int (fun _ _ => rfl)) pa_nil)) (pa_cons (pe_callTy (call_listK (K := K) rfl) (by rfl) T.b_list (by decide +kernel) (pa_cons (pe_ix (ix_tupK (K := K) rfl) (pv 4) pe_int (fun _ _ => rfl)) pa_nil)) pa_nil)) (by rfl))
    (pss_cons (ps_for PassesOwn.never rfl (pi_list (pe_fldK (K := K) rfl (pv 0) rfl)) (pg_name (i := 7) sc_mark_done.nd rfl (by first | exact .inl rfl | exact .inr rfl)) (pss_one (ps_asg (pe_tup (pa_cons (pe_callTy (call_listK (K := K) rfl) (by rfl) T.b_list (by decide +kernel) (pa_cons (pv 5) pa_nil)) (pa_cons (pe_callTy (call_listK (K := K) rfl) (by rfl) T.b_list (by decide +kernel) (pa_cons (pv 6) pa_nil)) (pa_cons pe_dnewK pa_nil)))) (pg_tup rfl (pgs_cons (pg_fldK (K := K) rfl (pv 7)) (pgs_cons (pg_fldK (K := K) rfl (pv 7)) (pgs_cons (pg_fldK (K := K) rfl (pv 7)) pgs_nil)))))))
    (pss_cons (ps_expr (C8.pe_c C_point_all hr (by decide) rfl (pa_cons (pv 0) (pa_cons (pv 1) pa_nil))))
    (pss_one (ps_expr (C8.pe_c C_empty_slots hr (by decide) rfl (pa_cons (pv 0) pa_nil))))))))))), ?_⟩
    iterate 6 first | refine ⟨_, rfl, ?_⟩ | refine ⟨_, _, _, _, rfl, rfl, SqT.of (by repeat (first | assumption | exact upd_same .. | refine u1 (by assumption) ?_ | refine um (by assumption) ?_ | refine sa (by assumption) ?_)), atI_nat (j := 0) rfl, ?_⟩ | refine ⟨_, _, _, _, _, rfl, (by repeat (first | assumption | exact upd_same .. | refine u1 (by assumption) ?_ | refine um (by assumption) ?_ | refine sa (by assumption) ?_)), T.cl_Machine, T.no_Machine_m_code, by rfl, ?_⟩ | refine ⟨_, _, _, _, _, rfl, (by repeat (first | assumption | exact upd_same .. | refine u1 (by assumption) ?_ | refine um (by assumption) ?_ | refine sa (by assumption) ?_)), T.cl_Machine, T.no_Machine_m_hues, by rfl, ?_⟩
    refine ⟨⟨_, SqL.of hhl⟩, fun D hD => ?_⟩
    refine lc_list (xs := hs.map V.ref) (fun i H' => ∃ acc : List V, acc.length = i ∧ Same H H' ∧ H' D = some (.lst acc) ∧ ∀ x ∈ acc, ∃ t j, x = .ref t ∧ t ≠ D ∧ j < C.h ∧ H' t = some (.tup [.ref (L.getD j 0), .ref (L.getD (C.h + j) 0)])) ⟨[], rfl, same_upd hD, upd_same, fun x hx => by cases hx⟩ (fun i H' _ e => ?_) (fun i y H' hi e => ?_) (fun H' e => ?_)
    · obtain ⟨acc, _, sm, _, _⟩ := e
      exact SqL.of (sm _ _ hhl)
    · obtain ⟨acc, el, sm, hDl, hac⟩ := e
      rw [List.getElem?_map] at hi
      obtain ⟨x, hx, rfl⟩ := Option.map_eq_some_iff.mp hi
      have hih : i < C.h := by rw [← lh]; exact (List.getElem?_eq_some_iff.mp hx).1
      obtain ⟨dx, ch, ho, hch⟩ := M.hue i x hx
      unfold hueFs at ho
      have ho2 := sm _ _ ho
      iterate 6 first | refine ⟨_, rfl, ?_⟩ | refine ⟨rfl, ?_⟩ | refine ⟨_, _, _, _, _, rfl, (by repeat (first | assumption | exact upd_same .. | refine u1 (by assumption) ?_ | refine um (by assumption) ?_ | refine sa (by assumption) ?_)), T.cl_HueState, T.no_HueState_m_registers, by rfl, ?_⟩ | refine ⟨_, _, _, _, _, rfl, (by repeat (first | assumption | exact upd_same .. | refine u1 (by assumption) ?_ | refine um (by assumption) ?_ | refine sa (by assumption) ?_)), T.cl_HueState, T.no_HueState_m_bank, by rfl, ?_⟩ | refine ⟨le_line (of_decide_eq_true rfl), fun t ht => ?_⟩
      have nt : t ≠ D := (ne_of_none hDl ht).symm
      have hi5 : C.h ≤ 5 := ok.h5
      refine ⟨_, u1 ht hDl, by omega, acc ++ [.ref t], by simp [el], same_mut (sm.trans (same_upd ht)) hD, upd_same, fun z hz => ?_⟩
      rcases List.mem_append.mp hz with q | q
      · obtain ⟨t', j, q1, q2, q3, q4⟩ := hac z q
        exact ⟨t', j, q1, q2, q3, um q2 (u1 ht q4)⟩
      · rw [List.mem_singleton.mp q]
        exact ⟨t, i, rfl, nt, hih, um nt upd_same⟩
    · obtain ⟨acc, el, sm, hDl, hac⟩ := e
      rw [List.length_map, lh] at el
      have e1' := sm _ _ e1
      have e2' := sm _ _ e2
      have hv : C.votes[C.votes.length - 1]? = some (C.votes[C.votes.length - 1]'(by omega)) := List.getElem?_eq_getElem _
      have hv2 : (C.votes.map nV)[C.votes.length - 1]? = some (nV (C.votes[C.votes.length - 1]'(by omega))) := by rw [List.getElem?_map, hv]; rfl
      obtain ⟨o1, o2⟩ := ok.vo _ _ hv
      have hrg : ∀ i < C.h, H' (L.getD i 0) = some (.lst (regL (s.F 0))) := fun i hi => by rw [← rr i hi, ← c1 i hi]; exact sm _ _ (M.lst _ _ (at_getD (by omega)))
      have hbk : ∀ i < C.h, H' (L.getD (C.h + i) 0) = some (.lst (bankL C.bank.length (s.F 0))) := fun i hi => by rw [← bb i hi, ← c2 i hi]; exact sm _ _ (M.lst _ _ (at_getD (by omega)))
      obtain ⟨d, hd⟩ : ∃ d, d = PyData.tuple [.list (((List.range 8).map fun b => ((s.F 0 b : Nat) : Int)).map PyData.int), .list (((List.range C.bank.length).map fun z => ((s.F 0 (8 + z) : Nat) : Int)).map PyData.int)] := ⟨_, rfl⟩
      have hall : ∀ x ∈ acc, Dp K H' x d := fun x hx => by
        obtain ⟨t', j, rfl, q2, q3, q4⟩ := hac x hx
        rw [hd]
        have r1 := hrg j q3
        have r2 := hbk j q3
        rw [regL_int] at r1
        rw [bankL_int] at r2
        exact .tup (SqT.of q4) (.cons (dp_list r1) (.cons (dp_list r2) .nil))
      obtain ⟨v0, hv0⟩ : ∃ v, acc[0]? = some v := ⟨_, List.getElem?_eq_getElem (by rw [el]; exact h1)⟩
      have hl0 : PyData.canLay0 d = true ∧ d.depth ≤ 3 := by
        rw [hd]
        refine ⟨by simp only [PyData.canLay0, PyData.canLayAll0, Bool.and_true, Bool.and_eq_true]; exact ⟨lay_ints _, lay_ints _⟩, ?_⟩
        have a1 := depth_ints ((List.range 8).map fun b => ((s.F 0 b : Nat) : Int))
        have a2 := depth_ints ((List.range C.bank.length).map fun z => ((s.F 0 (8 + z) : Nat) : Int))
        simp only [PyData.depth, PyData.depthAll]
        omega
      have hee : PyData.eqv d d = true := SeqAt.eqv_refl d hl0.1
      obtain ⟨t0, j0, rfl, q2, q3, q4⟩ := hac v0 (List.mem_of_getElem? hv0)
      have hob' := sm _ _ hob
      have M1 := M.keep sm
      iterate 5 first | refine ⟨_, rfl, ?_⟩ | refine ⟨_, _, rfl, rfl, ?_⟩ | refine ⟨_, _, rfl, .inr (SqT.of (by repeat (first | assumption | exact upd_same .. | refine u1 (by assumption) ?_ | refine um (by assumption) ?_ | refine sa (by assumption) ?_))), ?_⟩
      refine ⟨_, _, _, _, rfl, rfl, SqT.of e2', (by rw [hml, show ((C.votes.length : Nat) : Int) - 1 = ((C.votes.length - 1 : Nat) : Int) by omega]; exact atI_nat hv2), ?_⟩
      refine ⟨D, d, acc.length, _, .ref t0, acc, rfl, hDl, hv0, .lst (SqL.of hDl) (dp_rep' hall), hall _ (List.mem_of_getElem? hv0), shaped_rep hl0.1 (by omega) _, shaped_of hl0.1 (by omega), hee, by rw [el]; show ((C.votes[C.votes.length - 1] : Nat) : Int) ≤ (C.votes.length : Nat); omega, ?_⟩
      have r1 := hrg j0 q3
      have r2 := hbk j0 q3
      iterate 7 first | refine iteF ?_ | refine ⟨_, rfl, ?_⟩ | refine ⟨rfl, ?_⟩ | refine ⟨_, _, rfl, .inl (SqL.of (by repeat (first | assumption | exact upd_same .. | refine u1 (by assumption) ?_ | refine um (by assumption) ?_ | refine sa (by assumption) ?_))), ?_⟩ | refine ⟨_, _, _, _, rfl, rfl, SqT.of (by repeat (first | assumption | exact upd_same .. | refine u1 (by assumption) ?_ | refine um (by assumption) ?_ | refine sa (by assumption) ?_)), atI_nat (j := 0) rfl, ?_⟩
      intro r0 hr0
      have s1 := same_upd (o := .lst (regL (s.F 0))) hr0
      have hr1 : upd H' r0 (.lst (regL (s.F 0))) r0 = _ := upd_same
      have r2' := s1 _ _ r2
      have q4' := s1 _ _ q4
      have M2 := M1.keep s1
      generalize upd H' r0 (.lst (regL (s.F 0))) = X1 at s1 hr1 r2' q4' M2 ⊢
      iterate 3 first | refine ⟨_, rfl, ?_⟩ | refine ⟨_, _, rfl, .inl (SqL.of (by repeat (first | assumption | exact upd_same .. | refine u1 (by assumption) ?_ | refine um (by assumption) ?_ | refine sa (by assumption) ?_))), ?_⟩ | refine ⟨_, _, _, _, rfl, rfl, SqT.of (by repeat (first | assumption | exact upd_same .. | refine u1 (by assumption) ?_ | refine um (by assumption) ?_ | refine sa (by assumption) ?_)), atI_nat (j := 1) rfl, ?_⟩
      intro b0 hb0
      have s2 := same_upd (o := .lst (bankL C.bank.length (s.F 0))) hb0
      have hb1 : upd X1 b0 (.lst (bankL C.bank.length (s.F 0))) b0 = _ := upd_same
      have hr2 := s2 _ _ hr1
      have M3 := M2.keep s2
      have hh3 := s2 _ _ (s1 _ _ (sm _ _ hhl))
      have hob3 := M3.ob
      unfold machFs at hob3
      generalize upd X1 b0 (.lst (bankL C.bank.length (s.F 0))) = X2 at s2 hb1 hr2 M3 hh3 hob3 ⊢
      iterate 4 first | refine ⟨_, rfl, ?_⟩ | refine ⟨_, _, _, _, _, rfl, (by repeat (first | assumption | exact upd_same .. | refine u1 (by assumption) ?_ | refine um (by assumption) ?_ | refine sa (by assumption) ?_)), T.cl_Machine, T.no_Machine_m_hues, by rfl, ?_⟩ | refine ⟨_, _, rfl, ?_⟩
      refine ⟨⟨_, SqL.of hh3⟩, ?_⟩
      refine for_list (xs := hs.map V.ref) (fun i σ Y => (∃ l, σ = [some (V.ref m), some (nV p), some (V.ref va), some (V.ref D), some (V.ref t0), some (V.ref r0), some (V.ref b0), l]) ∧ ∃ L', MachAt K H0 Y m dxm a sv hs L' C.h cont steps s.S Pt st ∧ L'.getD (2 * C.h + 2) 0 = L.getD (2 * C.h + 2) 0 ∧ Y r0 = some (.lst (regL (s.F 0))) ∧ Y b0 = some (.lst (bankL C.bank.length (s.F 0))))
        ⟨⟨_, rfl⟩, L, M3, rfl, hr2, hb1⟩ (fun i σ Y _ q => ?_) (fun i y σ Y hi q => ?_) (fun σ Y q => ?_)
      · obtain ⟨_, L', M', eL, _, _⟩ := q
        have z := M'.lst (2 * C.h + 2) _ (at_getD (by have := M'.lL; omega))
        rw [c5, eL] at z
        exact SqL.of z
      · obtain ⟨⟨l, rfl⟩, L', M', eL, yr, yb⟩ := q
        rw [List.getElem?_map] at hi
        obtain ⟨x, hx, rfl⟩ := Option.map_eq_some_iff.mp hi
        have hih : i < C.h := by rw [← lh]; exact (List.getElem?_eq_some_iff.mp hx).1
        obtain ⟨dx, ch, ho, hch⟩ := M'.hue i x hx
        have ho' := ho
        unfold hueFs at ho
        iterate 2 first | refine ⟨_, rfl, ?_⟩ | refine ⟨_, _, rfl, .inl (SqL.of (by repeat (first | assumption | exact upd_same .. | refine u1 (by assumption) ?_ | refine um (by assumption) ?_ | refine sa (by assumption) ?_))), ?_⟩
        intro rg hrg1
        have s3 := same_upd (o := .lst (regL (s.F 0))) hrg1
        have hg1 : upd Y rg (.lst (regL (s.F 0))) rg = _ := upd_same
        have M4 := M'.keep s3
        have yr' := s3 _ _ yr
        have yb' := s3 _ _ yb
        generalize upd Y rg (.lst (regL (s.F 0))) = Y1 at s3 hg1 M4 yr' yb' ⊢
        iterate 2 first | refine ⟨_, rfl, ?_⟩ | refine ⟨_, _, rfl, .inl (SqL.of (by repeat (first | assumption | exact upd_same .. | refine u1 (by assumption) ?_ | refine um (by assumption) ?_ | refine sa (by assumption) ?_))), ?_⟩
        intro bk hbk1
        have s4 := same_upd (o := .lst (bankL C.bank.length (s.F 0))) hbk1
        have hk1 : upd Y1 bk (.lst (bankL C.bank.length (s.F 0))) bk = _ := upd_same
        have hg2 := s4 _ _ hg1
        have nkr : rg ≠ bk := ne_of_none hg1 hbk1
        have M5 := M4.keep s4
        have yr2 := s4 _ _ yr'
        have yb2 := s4 _ _ yb'
        generalize upd Y1 bk (.lst (bankL C.bank.length (s.F 0))) = Y2 at s4 hk1 hg2 M5 yr2 yb2 ⊢
        intro ch2 hc1
        have s5 := same_upd (o := .dK []) hc1
        have hc2 : upd Y2 ch2 (.dK []) ch2 = _ := upd_same
        have hg3 := s5 _ _ hg2
        have hk2 := s5 _ _ hk1
        have M6 := M5.keep s5
        have yr3 := s5 _ _ yr2
        have yb3 := s5 _ _ yb2
        generalize upd Y2 ch2 (.dK []) = Y3 at s5 hc2 hg3 hk2 M6 yr3 yb3 ⊢
        refine ⟨le_line (of_decide_eq_true rfl), fun t5 ht5 => ?_⟩
        have s6 := same_upd (o := .tup [.ref rg, .ref bk, .ref ch2]) ht5
        have htu : upd Y3 t5 (.tup [.ref rg, .ref bk, .ref ch2]) t5 = _ := upd_same
        have hg4 := s6 _ _ hg3
        have hk3 := s6 _ _ hk2
        have hc3 := s6 _ _ hc2
        have M7 := M6.keep s6
        have yr4 := s6 _ _ yr3
        have yb4 := s6 _ _ yb3
        generalize upd Y3 t5 (.tup [.ref rg, .ref bk, .ref ch2]) = Y4 at s6 htu hg4 hk3 hc3 M7 yr4 yb4 ⊢
        have sY := s3.trans (s4.trans (s5.trans s6))
        have ho4 := sY _ _ ho
        refine ⟨_, _, rfl, SqT.of htu, rfl, _, _, rfl, ?_⟩
        refine ⟨_, rfl, _, _, _, _, rfl, ho4, T.cl_HueState, T.no_HueState_m_registers, of_decide_eq_true rfl, ?_⟩
        refine ⟨_, _, rfl, ?_⟩
        refine ⟨_, rfl, _, _, _, _, rfl, upd_same, T.cl_HueState, T.no_HueState_m_bank, of_decide_eq_true rfl, ?_⟩
        refine ⟨_, _, rfl, ?_⟩
        refine ⟨_, rfl, _, _, _, _, rfl, upd_same, T.cl_HueState, T.no_HueState_m_changed, of_decide_eq_true rfl, ?_⟩
        refine ⟨rfl, ?_⟩
        rw [upd_upd, upd_upd]
        have n1 : rg ∉ L' := fun z => by
          obtain ⟨j, hj⟩ := List.mem_iff_getElem?.mp z
          rw [M'.lst j _ hj] at hrg1; cases hrg1
        have n2 : bk ∉ L' := fun z => by
          obtain ⟨j, hj⟩ := List.mem_iff_getElem?.mp z
          rw [M4.lst j _ hj] at hbk1; cases hbk1
        have xr : x ≠ r0 := fun e => by rw [e, yr] at ho; cases ho
        have xb : x ≠ b0 := fun e => by rw [e, yb] at ho; cases ho
        have M8 := M7.setN (r := rg) (b := bk) (ch := ch2) hx ho4 (by rw [c1 i hih, rr i hih]; exact hg4) (by rw [c2 i hih, bb i hih]; exact hk3) hc3 n1 n2 nkr (same_none M'.same hrg1) (same_none M4.same hbk1)
        exact ⟨⟨_, rfl⟩, _, M8, by rw [getD_set_ne (by omega), getD_set_ne (by omega)]; exact eL, um xr.symm yr4, um xb.symm yb4⟩
      · obtain ⟨⟨l, rfl⟩, L', M', eL, yr, yb⟩ := q
        have hob4 := M'.ob
        unfold machFs at hob4
        refine ⟨_, rfl, ?_⟩
        refine ⟨_, rfl, ?_⟩
        refine ⟨H0, m, dxm, a, sv, hs, L', C.h, cont, steps, s.S, Pt, st, p, rfl, M', c5, ok.h5, fun Z Pt' hp MZ => ?_⟩
        refine ⟨_, rfl, ?_⟩
        exact ⟨H0, m, dxm, a, sv, hs, L', C.h, cont, steps, s.S, Pt', st, rfl, MZ, c5, ok.h5, fun Z2 MZ2 => k Z2 Pt' hp ⟨dxm, sv, L', cont, steps, MZ2, c1, c2, c3, c4, c5⟩⟩
end Hw
namespace Hw
open PySem PySem.Spec PyProof.Rows L2
variable {P : Program} {w : World} {K : PySem.W.Frag} {mg : Str → Option Value} {base : Heap}
abbrev s_settle_done : Stmt := top 73
abbrev N_settle_done : List Str := ["machine", "cell", "behind", "word", "row", "votes", "slots", "agreed", "number", "hue", "registers"]
theorem sc_settle_done : FnScope N_settle_done ["machine", "cell", "behind"] (defScope s_settle_done) := ⟨rfl, rfl, rfl, by decide +kernel, rfl, by decide +kernel, by decide +kernel⟩
def sp_settle_done (K : PySem.W.Frag) : Sp := fun vs H Q _ => ∃ (H0 : Hp) (m a q : Addr) (hs : List Addr) (C : Code) (inp : List Nat) (s : SS Nat) (Pt : Nat → Nat) (st : Str) (bud p : Nat) (c : Cell), vs = [.ref m, .ref q, nV p] ∧ MachA K H0 H m a hs C inp s Pt st bud ∧ IsCode H0 a C ∧ C.Ok ∧ bud < 1000 ∧ H0 q = some (.tup (cellV c)) ∧ c.hue = none ∧ c.Ok C.h C.size C.bank.length ∧
  unan C.h (8 + C.bank.length) s c = true ∧
  (∀ s', step id (tkI inp C.size) C.h (8 + C.bank.length) s c = .go s' → ∀ H' Pt', (∀ i < C.h, Pt' i = p) → MachA K H0 H' m a hs C inp s' Pt' st (bud + 1) → Q .non H') ∧
  (c = .stop → ∀ H' Pt', MachA K H0 H' m a hs C inp s Pt' "stopped" (bud + 1) → Q .non H')
theorem C_settle_done (T : Txt K mg) : C8.Cal P w K mg base 3 "settle_done" (sp_settle_done K) [] := by
  have C_most_agreed := C_most_agreed (P := P) (w := w) (base := base) T
  have C_point_all := C_point_all (P := P) (w := w) (base := base) T
  have C_empty_slots := C_empty_slots (P := P) (w := w) (base := base) T
  have C_mark_done := C_mark_done (P := P) (w := w) (base := base) T
  refine cal (N := N_settle_done) (ps := ["machine", "cell", "behind"]) T.d_settle_done (fun _ _ _ _ _ _ us hl => match us, hl with | [_, _, _], _ => rfl) sc_settle_done (fun vs H Q E h => ?_) (fun f cdv A outer s H vs Q E hr h => ?_)
  · obtain ⟨H0, m, a, q, hs, C, inp, s, Pt, st, bud, p, c, rfl, _⟩ := h
    rfl
  · obtain ⟨H0, m, a, q, hs, C, inp, s, Pt, st, bud, p, c, rfl, MA, hcode, ok, hbud, hq0, hi, okc, hun, kgo, kstop⟩ := h
    obtain ⟨dxm, sv, L, cont, steps, M, c1, c2, c3, c4, c5⟩ := MA.ex
    have hcode' := hcode
    obtain ⟨va, ca, ba, vs, hc⟩ := hcode
    have hob := M.ob
    unfold machFs at hob
    have hq := M.same _ _ hq0
    have hcH := hc.same M.same
    have e1 := hcH.top
    have e2 := hcH.vo
    have lL := M.lL
    have hhl := M.lst (2 * C.h + 2) _ (at_getD (by omega))
    rw [c5] at hhl
    have hlf := M.lst (2 * C.h) _ (at_getD (by omega))
    rw [c3] at hlf
    have lh := M.lh
    have h1 : 1 ≤ C.h := ok.h1
    have h5 : C.h ≤ 5 := ok.h5
    have hml : (C.votes.map nV).length = C.h := List.length_map ..
    have bl := big_line
    have ldi := ok.h5
    refine ⟨_, (pss_cons (ps_par (i := 3) (j := 4) (by rfl) sc_settle_done.nd rfl rfl (by decide) rfl rfl (pa_cons (pe_ix (ix_tupK (K := K) rfl) (pv 1) pe_int (fun _ _ => rfl)) (pa_cons (pe_fldK (K := K) rfl (pv 0) rfl) pa_nil)) (by rfl))
    (pss_one (ps_if (pt_cmpR op_in_seq (pv 3) (pe_tup (pa_cons pe_str (pa_cons pe_str pa_nil))) (by with_unfolding_all rfl)) (pss_cons (ps_set (i := 5) sc_settle_done.nd rfl (by first | exact .inl rfl | exact .inr rfl) (pe_ix (ix_tupK (K := K) rfl) (pe_fldK (K := K) rfl (pv 0) rfl) pe_int (fun _ _ => rfl)))
    (pss_cons (ps_setLc (i := 6) (own := [("hue", 9)]) rfl sc_settle_done.nd rfl rfl (sw_true rfl rfl rfl (by decide +kernel)) (pi_list (pe_slice (sl_listK (K := K) rfl) (pe_fldK (K := K) rfl (pv 0) rfl) po_none (po_some (pe_ix (ix_tupK (K := K) rfl) (pv 1) pe_int (fun _ _ => rfl))))) (blkOk_by (own := [("hue", 9)]) (N := N_settle_done) (sc := defScope s_settle_done) (by decide +kernel)) (fun _ _ _ _ _ => (pg_name (i := 9) sc_settle_done.nd rfl (by first | exact .inl rfl | exact .inr rfl))) (fun _ _ _ _ _ => (pts_one (pt_cmpR op_notN (pe_fldK (K := K) rfl (pv 9) rfl) pe_non (nomark _)))) (fun _ _ _ _ _ => (pe_fldK (K := K) rfl (pv 9) rfl)))
    (pss_cons (ps_set (i := 7) sc_settle_done.nd rfl (by first | exact .inl rfl | exact .inr rfl) (pe_ifExp (pt_cmpR (op_neE hr.units0) (pv 6) (pe_lst pa_nil) (nomark _)) (C8.pe_c C_most_agreed hr (by decide) rfl (pa_cons (pv 6) (pa_cons (pe_ix (ix_tupK (K := K) rfl) (pv 5) (pe_op op_sub (pe_ix (ix_tupK (K := K) rfl) (pv 1) pe_int (fun _ _ => rfl)) pe_int) (fun _ _ => rfl)) pa_nil))) pe_non))
    (pss_cons (ps_if (pt_cmpR op_isN (pv 7) pe_non (nomark _)) (pss_cons ps_never
    (pss_one ps_never)) pss_nil)
    (pss_cons (ps_expr (C8.pe_c C_point_all hr (by decide) rfl (pa_cons (pv 0) (pa_cons (pe_ifExp (PW.pt (pw_and (pt_cmpR op_eq (pv 3) pe_str (nomark _)) (pw_and1 (pt_cmpR op_ne (pv 7) pe_int (nomark _))))) (pe_ix (ix_tupK (K := K) rfl) (pv 1) pe_int (fun _ _ => rfl)) (pv 2)) pa_nil))))
    (pss_cons (ps_expr (C8.pe_c C_empty_slots hr (by decide) rfl (pa_cons (pv 0) pa_nil)))
    (pss_one (ps_if (pt_cmpR op_eq (pv 3) pe_str (nomark _)) (pss_one (ps_expr (pe_bm PySem.F.plainAttrs_list PySem.F.slot_list_append PySem.F.type_list_append mt_append (pv 4) (pa_cons (pe_tup (pa_cons pe_str (pa_cons (pe_ix (ix_tupK (K := K) rfl) (pv 1) pe_int (fun _ _ => rfl)) (pa_cons (pv 7) pa_nil)))) pa_nil)))) pss_nil)))))))) (pss_one (ps_if (pt_cmpR op_eq (pv 3) pe_str (nomark _)) (pss_cons (ps_set (i := 8) sc_settle_done.nd rfl (by first | exact .inl rfl | exact .inr rfl) (pe_ifExp (pt_cmpR (op_neE hr.units0) (pe_fldK (K := K) rfl (pv 0) rfl) (pe_lst pa_nil) (nomark _)) (pe_op op_mod (pe_bm PySem.F.plainAttrs_list PySem.F.slot_list_pop PySem.F.type_list_pop mt_popAt (pe_fldK (K := K) rfl (pv 0) rfl) (pa_cons pe_int pa_nil)) (pe_ix (ix_tupK (K := K) rfl) (pe_fldK (K := K) rfl (pv 0) rfl) pe_int (fun _ _ => rfl))) pe_int))
    (pss_cons (ps_expr (C8.pe_c C_point_all hr (by decide) rfl (pa_cons (pv 0) (pa_cons (pv 2) pa_nil))))
    (pss_cons (ps_expr (pe_bm PySem.F.plainAttrs_list PySem.F.slot_list_append PySem.F.type_list_append mt_append (pv 4) (pa_cons (pe_tup (pa_cons pe_str (pa_cons (pv 8) pa_nil))) pa_nil)))
    (pss_one (ps_for PassesOwn.never rfl (pi_list (pe_slice (sl_listK (K := K) rfl) (pe_fldK (K := K) rfl (pv 0) rfl) po_none (po_some (pe_ix (ix_tupK (K := K) rfl) (pv 1) pe_int (fun _ _ => rfl))))) (pg_name (i := 9) sc_settle_done.nd rfl (by first | exact .inl rfl | exact .inr rfl)) (pss_cons (ps_set (i := 10) sc_settle_done.nd rfl (by first | exact .inl rfl | exact .inr rfl) (pe_fldK (K := K) rfl (pv 9) rfl))
    (pss_one (ps_asg (pv 8) (pg_sub (pv 10) (pe_ix (ix_tupK (K := K) rfl) (pv 1) pe_int (fun _ _ => rfl)) set_list))))))))) (pss_one (ps_if (pt_cmpR op_eq (pv 3) pe_str (nomark _)) (pss_one (ps_expr (C8.pe_c C_mark_done hr (by decide) rfl (pa_cons (pv 0) (pa_cons (pv 2) pa_nil))))) (pss_cons (ps_expr (C8.pe_c C_point_all hr (by decide) rfl (pa_cons (pv 0) (pa_cons (pe_ifExp (pt_cmpR op_eq (pv 3) pe_str (nomark _)) (pe_ix (ix_tupK (K := K) rfl) (pv 1) pe_int (fun _ _ => rfl)) (pv 2)) pa_nil))))
    (pss_one (ps_if (pt_cmpR op_eq (pv 3) pe_str (nomark _)) (pss_cons (ps_expr (pe_bm PySem.F.plainAttrs_list PySem.F.slot_list_append PySem.F.type_list_append mt_append (pv 4) (pa_cons (pe_tup (pa_cons pe_str pa_nil)) pa_nil)))
    (pss_one (ps_fld (pv 0) pe_str rfl))) pss_nil)))))))))), ?_⟩
    have hrw := M.lst (2 * C.h + 1) _ (at_getD (by omega))
    cases c with
    | mark =>
      iterate 22 first | refine iteT ?_ | refine iteF ?_ | refine ⟨_, rfl, ?_⟩ | refine ⟨rfl, ?_⟩ | refine ⟨_, _, rfl, .inr (SqT.of (by repeat (first | assumption | exact upd_same .. | refine u1 (by assumption) ?_ | refine um (by assumption) ?_ | refine sa (by assumption) ?_))), ?_⟩ | refine ⟨_, _, _, _, rfl, rfl, SqT.of (by repeat (first | assumption | exact upd_same .. | refine u1 (by assumption) ?_ | refine um (by assumption) ?_ | refine sa (by assumption) ?_)), atI_nat (j := 0) rfl, ?_⟩ | refine ⟨_, _, _, _, _, rfl, (by repeat (first | assumption | exact upd_same .. | refine u1 (by assumption) ?_ | refine um (by assumption) ?_ | refine sa (by assumption) ?_)), T.cl_Machine, T.no_Machine_m_row, by rfl, ?_⟩ | refine ⟨_, _, rfl, ?_⟩ | refine ⟨le_line (of_decide_eq_true rfl), fun t ht => ?_⟩
      have hmk : marked C.h (8 + C.bank.length) s.F = none := by
        cases e : marked C.h (8 + C.bank.length) s.F with
        | none => rfl
        | some u => rw [show unan C.h (8 + C.bank.length) s .mark = (marked C.h (8 + C.bank.length) s.F).isNone from rfl, e] at hun; cases hun
      refine ⟨H0, m, a, hs, C, inp, s, Pt, st, bud, p, rfl, MA.keep (same_upd ht), hcode', ok, hmk, fun H' Pt' hp M' => ?_⟩
      refine kgo _ (by simp only [step]; rw [hmk]) H' Pt' hp ?_
      obtain ⟨z1, z2, z3, z4, z5, z6, z7, z8, z9, z10, z11⟩ := M'.ex
      exact ⟨⟨z1, z2, z3, z4, z5, z6, z7, z8, z9, by omega, z11⟩⟩
    | stop =>
      iterate 26 first | refine iteF ?_ | refine ⟨_, rfl, ?_⟩ | refine ⟨rfl, ?_⟩ | refine ⟨_, _, rfl, .inr (SqT.of (by repeat (first | assumption | exact upd_same .. | refine u1 (by assumption) ?_ | refine um (by assumption) ?_ | refine sa (by assumption) ?_))), ?_⟩ | refine ⟨_, _, _, _, rfl, rfl, SqT.of (by repeat (first | assumption | exact upd_same .. | refine u1 (by assumption) ?_ | refine um (by assumption) ?_ | refine sa (by assumption) ?_)), atI_nat (j := 0) rfl, ?_⟩ | refine ⟨_, _, _, _, _, rfl, (by repeat (first | assumption | exact upd_same .. | refine u1 (by assumption) ?_ | refine um (by assumption) ?_ | refine sa (by assumption) ?_)), T.cl_Machine, T.no_Machine_m_row, by rfl, ?_⟩ | refine ⟨_, _, rfl, ?_⟩ | refine ⟨le_line (of_decide_eq_true rfl), fun t ht => ?_⟩
      refine ⟨H0, m, dxm, a, sv, hs, L, C.h, cont, steps, s.S, Pt, st, p, rfl, M.keep (same_upd ht), c5, ok.h5, fun Z Pt' hp MZ => ?_⟩
      iterate 5 first | refine iteT ?_ | refine ⟨_, rfl, ?_⟩ | refine ⟨rfl, ?_⟩
      have hrZ := MZ.lst (2 * C.h + 1) _ (at_getD (by omega))
      refine ⟨.inl ⟨rfl, _, SqL.of hrZ⟩, ?_⟩
      refine ⟨le_line (of_decide_eq_true rfl), fun t ht => ?_⟩
      have MZ2 := MZ.keep (same_upd (o := .tup [.str (Str.ofString "stop")]) ht)
      have hrZ2 := MZ2.lst (2 * C.h + 1) _ (at_getD (by omega))
      refine ⟨_, _, _, rfl, rfl, hrZ2, by omega, ?_⟩
      have MZ3 := MZ2.setL (j := 2 * C.h + 1) (at_getD (by omega)) (cont (2 * C.h + 1) ++ [.ref t])
      generalize upd (upd Z t (.tup [.str (Str.ofString "stop")])) (L.getD (2 * C.h + 1) 0) (.lst (cont (2 * C.h + 1) ++ [.ref t])) = Y at MZ3 ⊢
      have hobY := MZ3.ob
      unfold machFs at hobY
      iterate 2 first | refine ⟨_, rfl, ?_⟩ | refine ⟨_, _, _, _, rfl, (by repeat (first | assumption | exact upd_same .. | refine u1 (by assumption) ?_ | refine um (by assumption) ?_ | refine sa (by assumption) ?_)), T.cl_Machine, T.no_Machine_m_state, of_decide_eq_true rfl, ?_⟩
      refine kstop rfl _ Pt' ⟨dxm, sv, L, _, steps, MZ3.setM steps "stopped", fun i hi => ?_, fun i hi => ?_, ?_, ?_, ?_⟩
      · show (if i = 2 * C.h + 1 then _ else cont i) = _
        rw [if_neg (by omega)]; exact c1 i hi
      · show (if C.h + i = 2 * C.h + 1 then _ else cont (C.h + i)) = _
        rw [if_neg (by omega)]; exact c2 i hi
      · show (if 2 * C.h = 2 * C.h + 1 then _ else cont (2 * C.h)) = _
        rw [if_neg (by omega)]; exact c3
      · show (if 2 * C.h + 1 = 2 * C.h + 1 then cont (2 * C.h + 1) ++ [.ref t] else cont (2 * C.h + 1)).length ≤ _
        rw [if_pos rfl, List.length_append]; simp; exact c4
      · show (if 2 * C.h + 2 = 2 * C.h + 1 then _ else cont (2 * C.h + 2)) = _
        rw [if_neg (by omega)]; exact c5
    | take b x =>
      obtain ⟨o1, o2, o3⟩ := okc
      iterate 19 first | refine iteT ?_ | refine iteF ?_ | refine ⟨_, rfl, ?_⟩ | refine ⟨rfl, ?_⟩ | refine ⟨_, _, rfl, .inr (SqT.of (by repeat (first | assumption | exact upd_same .. | refine u1 (by assumption) ?_ | refine um (by assumption) ?_ | refine sa (by assumption) ?_))), ?_⟩ | refine ⟨_, _, _, _, rfl, rfl, SqT.of (by repeat (first | assumption | exact upd_same .. | refine u1 (by assumption) ?_ | refine um (by assumption) ?_ | refine sa (by assumption) ?_)), atI_nat (j := 0) rfl, ?_⟩ | refine ⟨_, _, _, _, _, rfl, (by repeat (first | assumption | exact upd_same .. | refine u1 (by assumption) ?_ | refine um (by assumption) ?_ | refine sa (by assumption) ?_)), T.cl_Machine, T.no_Machine_m_left, by rfl, ?_⟩ | refine ⟨_, _, _, _, _, rfl, (by repeat (first | assumption | exact upd_same .. | refine u1 (by assumption) ?_ | refine um (by assumption) ?_ | refine sa (by assumption) ?_)), T.cl_Machine, T.no_Machine_m_row, by rfl, ?_⟩ | refine ⟨_, _, rfl, ?_⟩ | refine ⟨le_line (of_decide_eq_true rfl), fun t ht => ?_⟩
      refine (show rNeE _ _ _ _ _ from ?_)
      rename_i t0 ht0
      have sH : Same H (upd (upd H t0 (HO.tup [V.str (Str.ofString "show"), V.str (Str.ofString "turn")])) t (HO.lst [])) := (same_upd ht0).trans (same_upd ht)
      have hu2 : upd (upd H t0 (HO.tup [V.str (Str.ofString "show"), V.str (Str.ofString "turn")])) t (HO.lst []) t = _ := upd_same
      generalize upd (upd H t0 (HO.tup [V.str (Str.ofString "show"), V.str (Str.ofString "turn")])) t (HO.lst []) = H1 at sH hu2 ⊢
      have M1 := M.keep sH
      have hlf1 := sH _ _ hlf
      have hob1 := sH _ _ hob
      have hq1 := sH _ _ hq
      have e11 := sH _ _ e1
      refine ⟨_, _, _, rfl, rfl, SqL.of hlf1, SqL.of hu2, _, rfl, ?_⟩
      have hdr : inp.drop s.t = [] ∧ inp.getD s.t 0 = 0 ∧ inp.drop (s.t + 1) = [] ∨ ∃ r, inp.drop s.t = inp.getD s.t 0 :: r ∧ inp.drop (s.t + 1) = r := by
        by_cases hlt : s.t < inp.length
        · refine .inr ⟨inp.drop (s.t + 1), ?_, rfl⟩
          rw [List.drop_eq_getElem_cons hlt, List.getD_eq_getElem?_getD, List.getElem?_eq_getElem hlt]; rfl
        · refine .inl ⟨List.drop_eq_nil_of_le (by omega), ?_, List.drop_eq_nil_of_le (by omega)⟩
          rw [List.getD_eq_getElem?_getD, List.getElem?_eq_none (by omega)]; rfl
      have hs2 := ok.s2
      obtain ⟨num, hnum⟩ : ∃ n, n = tkI inp C.size s.t := ⟨_, rfl⟩
      rcases hdr with ⟨d1, d2, d3⟩ | ⟨r, d1, d2⟩
      · refine itBF (by rw [d1]; rfl) ?_
        have hn0 : num = 0 := by rw [hnum]; unfold tkI; rw [d2]; exact Nat.zero_mod _
        rw [d1] at c3
        obtain ⟨cn, hcn⟩ : ∃ f : Nat → List V, f = cont := ⟨_, rfl⟩
        have MP : MachAt K H0 H1 m dxm a sv hs L C.h cn steps s.S Pt st := hcn ▸ M1
        have c3' : cn (2 * C.h) = (inp.drop (s.t + 1)).map nV := by rw [d3, hcn]; exact c3
        have cot : ∀ k, k ≠ 2 * C.h → cn k = cont k := fun k _ => by rw [hcn]
        refine ⟨_, rfl, ?_⟩
        refine ⟨_, rfl, ?_⟩
        rw [show (V.int 0) = nV num by rw [hn0]; rfl]
        clear hcn
        generalize H1 = Y at MP hq1 e11 sH hob1 ⊢
        refine ⟨H0, m, dxm, a, sv, hs, L, C.h, cn, steps, s.S, Pt, st, p, rfl, MP, by rw [cot _ (by omega)]; exact c5, ok.h5, fun Z Pt' hp MZ => ?_⟩
        refine ⟨_, rfl, ?_⟩
        have hrZ := MZ.lst (2 * C.h + 1) _ (at_getD (by omega))
        rw [cot _ (by omega)] at hrZ
        refine ⟨.inl ⟨rfl, _, SqL.of hrZ⟩, ?_⟩
        iterate 2 first | refine ⟨_, rfl, ?_⟩ | refine ⟨le_line (of_decide_eq_true rfl), fun t ht => ?_⟩
        have MZ2 := MZ.keep (same_upd (o := .tup [.str (Str.ofString "take"), nV num]) ht)
        have hrZ2 := MZ2.lst (2 * C.h + 1) _ (at_getD (by omega))
        refine ⟨_, _, _, rfl, rfl, hrZ2, by rw [cot _ (by omega)]; omega, ?_⟩
        obtain ⟨cm, hcm⟩ : ∃ f : Nat → List V, f = fun k => if k = 2 * C.h + 1 then (cn (2 * C.h + 1) ++ [.ref t]) else cn k := ⟨_, rfl⟩
        have MW := MZ2.setL (j := 2 * C.h + 1) (at_getD (by omega)) (cn (2 * C.h + 1) ++ [.ref t])
        rw [← hcm] at MW
        have cmt : ∀ k, k ≠ 2 * C.h → k ≠ 2 * C.h + 1 → cm k = cont k := fun k hk hk2 => by rw [hcm]; show (if k = 2 * C.h + 1 then _ else cn k) = _; rw [if_neg hk2]; exact cot k hk
        have cm3 : cm (2 * C.h) = (inp.drop (s.t + 1)).map nV := by rw [hcm]; show (if 2 * C.h = 2 * C.h + 1 then _ else cn (2 * C.h)) = _; rw [if_neg (by omega)]; exact c3'
        have cm4 : (cm (2 * C.h + 1)).length ≤ bud + 1 := by rw [hcm]; show (if 2 * C.h + 1 = 2 * C.h + 1 then cn (2 * C.h + 1) ++ [.ref t] else cn (2 * C.h + 1)).length ≤ _; rw [if_pos rfl, List.length_append, cot _ (by omega)]; simp; exact c4
        have hqW := MW.same _ _ hq0
        have hobW := MW.ob
        unfold machFs at hobW
        have hhW := MW.lst (2 * C.h + 2) _ (at_getD (by omega))
        rw [cmt _ (by omega) (by omega), c5] at hhW
        generalize upd (upd Z t (.tup [.str (Str.ofString "take"), nV num])) (L.getD (2 * C.h + 1) 0) (.lst (cn (2 * C.h + 1) ++ [.ref t])) = W at MW hqW hobW hhW ⊢
        iterate 5 first | refine ⟨_, rfl, ?_⟩ | refine ⟨_, _, _, _, rfl, rfl, SqT.of (by repeat (first | assumption | exact upd_same .. | refine u1 (by assumption) ?_ | refine um (by assumption) ?_ | refine sa (by assumption) ?_)), atI_nat (j := 2) rfl, ?_⟩ | refine ⟨_, _, _, _, _, rfl, (by repeat (first | assumption | exact upd_same .. | refine u1 (by assumption) ?_ | refine um (by assumption) ?_ | refine sa (by assumption) ?_)), T.cl_Machine, T.no_Machine_m_hues, by rfl, ?_⟩
        refine (show rSlL K _ _ _ _ _ from ?_)
        refine ⟨_, _, rfl, SqL.of hhW, fun q1 hq2 => ?_⟩
        rw [cut_take _ (by rw [List.length_map]; omega), ← List.map_take]
        have n1 : ∀ j, j < L.length → L.getD j 0 ≠ q1 := fun j hj e => by
          have := MW.lst j _ (at_getD hj)
          rw [e, hq2] at this; cases this
        have MV := MW.keep (same_upd (o := .lst ((hs.take x).map V.ref)) hq2)
        have hsl : upd W q1 (.lst ((hs.take x).map V.ref)) q1 = _ := upd_same
        generalize upd W q1 (.lst ((hs.take x).map V.ref)) = V1 at MV hsl ⊢
        refine ⟨_, rfl, ⟨_, SqL.of hsl⟩, ?_⟩
        have c10 : (fun k => if k < 0 then (regL (s.F k)).set b (nV num) else cm k) = cm := by funext k; simp
        refine for_list (xs := (hs.take x).map V.ref) (fun i σ Y => (∃ l9 l10, σ = [some (V.ref m), some (V.ref q), some (nV p), some (V.str (Str.ofString "take")), some (V.ref (L.getD (2 * C.h + 1) 0)), none, none, none, some (nV num), l9, l10]) ∧ MachAt K H0 Y m dxm a sv hs L C.h (fun k => if k < i then (regL (s.F k)).set b (nV num) else cm k) steps s.S Pt' st ∧ Y q1 = some (.lst ((hs.take x).map V.ref)))
          ⟨⟨_, _, rfl⟩, by rw [c10]; exact MV, hsl⟩ (fun i σ Y _ q => SqL.of q.2.2) (fun i y σ Y hi q => ?_) (fun σ Y q => ?_)
        · obtain ⟨⟨l9, l10, rfl⟩, M', y1⟩ := q
          rw [List.getElem?_map] at hi
          obtain ⟨r, hri, rfl⟩ := Option.map_eq_some_iff.mp hi
          have hix : i < x := by
            have := (List.getElem?_eq_some_iff.mp hri).1
            rw [List.length_take] at this; omega
          rw [List.getElem?_take, if_pos hix] at hri
          obtain ⟨dx, ch, ho, hch⟩ := M'.hue i r hri
          unfold hueFs at ho
          have hg := M'.lst i _ (at_getD (by omega))
          rw [show (if i < i then (regL (s.F i)).set b (nV num) else cm i) = regL (s.F i) by rw [if_neg (by omega), cmt i (by omega) (by omega)]; exact c1 i (by omega)] at hg
          have hq3 := M'.same _ _ hq0
          have hrb : (regL (s.F i))[b]? = some (nV (s.F i b)) := range_get _ o1
          iterate 7 first | refine ⟨_, rfl, ?_⟩ | refine ⟨_, _, _, _, rfl, rfl, SqT.of (by repeat (first | assumption | exact upd_same .. | refine u1 (by assumption) ?_ | refine um (by assumption) ?_ | refine sa (by assumption) ?_)), atI_nat (j := 1) rfl, ?_⟩ | refine ⟨_, _, _, _, _, rfl, (by repeat (first | assumption | exact upd_same .. | refine u1 (by assumption) ?_ | refine um (by assumption) ?_ | refine sa (by assumption) ?_)), T.cl_HueState, T.no_HueState_m_registers, by rfl, ?_⟩ | refine ⟨_, _, _, _, rfl, rfl, (by repeat (first | assumption | exact upd_same .. | refine u1 (by assumption) ?_ | refine um (by assumption) ?_ | refine sa (by assumption) ?_)), ixNn (by first | assumption | omega | (simp; omega)), ?_⟩
          have M2 := M'.setL (j := i) (at_getD (by omega)) ((regL (s.F i)).set b (nV num))
          refine ⟨⟨_, _, rfl⟩, ?_, um (n1 i (by omega)).symm y1⟩
          have ec : (fun k => if k = i then (regL (s.F i)).set b (nV num) else if k < i then (regL (s.F k)).set b (nV num) else cm k) = fun k => if k < i + 1 then (regL (s.F k)).set b (nV num) else cm k := by
            funext k
            by_cases e : k = i
            · subst e; rw [if_pos rfl, if_pos (by omega)]
            · rw [if_neg e]
              by_cases e2 : k < i
              · rw [if_pos e2, if_pos (by omega)]
              · rw [if_neg e2, if_neg (by omega)]
          rw [← ec]
          exact M2
        · obtain ⟨⟨l9, l10, rfl⟩, M', y1⟩ := q
          have hxl : ((hs.take x).map V.ref).length = x := by rw [List.length_map, List.length_take]; omega
          rw [hxl] at M'
          refine kgo _ rfl Y Pt' hp ⟨dxm, sv, L, _, steps, M', fun i hi => ?_, fun i hi => ?_, ?_, ?_, ?_⟩
          · show (if i < x then (regL (s.F i)).set b (nV num) else cm i) = regL fun a => if i < x ∧ a = b then tkI inp C.size s.t else s.F i a
            by_cases e : i < x
            · rw [if_pos e]
              unfold regL
              rw [range_set]
              refine List.map_congr_left fun z hz => ?_
              by_cases e2 : z = b
              · rw [if_pos e2]
                exact congrArg nV (hnum.trans (if_pos ⟨e, e2⟩).symm)
              · rw [if_neg e2]
                exact congrArg nV (if_neg (fun q => e2 q.2)).symm
            · rw [if_neg e, cmt i (by omega) (by omega), c1 i hi]
              unfold regL
              refine List.map_congr_left fun z hz => ?_
              exact congrArg nV (if_neg (fun q => e q.1)).symm
          · show (if C.h + i < x then _ else cm (C.h + i)) = bankL _ fun a => if i < x ∧ a = b then tkI inp C.size s.t else s.F i a
            rw [if_neg (by omega), cmt _ (by omega) (by omega), c2 i hi]
            unfold bankL
            refine List.map_congr_left fun z hz => ?_
            exact congrArg nV (if_neg (fun q => by omega)).symm
          · show (if 2 * C.h < x then _ else cm (2 * C.h)) = _
            rw [if_neg (by omega)]; exact cm3
          · show (if 2 * C.h + 1 < x then (regL (s.F (2 * C.h + 1))).set b (nV num) else cm (2 * C.h + 1)).length ≤ _
            rw [if_neg (by omega)]; exact cm4
          · show (if 2 * C.h + 2 < x then _ else cm (2 * C.h + 2)) = _
            rw [if_neg (by omega), cmt _ (by omega) (by omega)]; exact c5
      · refine itBT (by rw [d1]; rfl) ?_
        rw [d1] at hlf1
        iterate 2 first | refine ⟨_, rfl, ?_⟩ | refine ⟨_, _, _, _, _, rfl, (by repeat (first | assumption | exact upd_same .. | refine u1 (by assumption) ?_ | refine um (by assumption) ?_ | refine sa (by assumption) ?_)), T.cl_Machine, T.no_Machine_m_left, by rfl, ?_⟩
        refine ⟨.inl ⟨rfl, _, SqL.of hlf1⟩, ?_⟩
        refine ⟨_, _, _, 0, nV (inp.getD s.t 0), rfl, rfl, hlf1, by decide, by decide, by simp [seqIndex?], rfl, ?_⟩
        obtain ⟨cn, hcn⟩ : ∃ f : Nat → List V, f = fun k => if k = 2 * C.h then (inp.drop (s.t + 1)).map nV else cont k := ⟨_, rfl⟩
        have MP := M1.setL (j := 2 * C.h) (at_getD (by omega)) ((inp.drop (s.t + 1)).map nV)
        rw [← hcn] at MP
        have c3' : cn (2 * C.h) = (inp.drop (s.t + 1)).map nV := by rw [hcn]; exact if_pos rfl
        have cot : ∀ k, k ≠ 2 * C.h → cn k = cont k := fun k hk => by rw [hcn]; exact if_neg hk
        have k9 := upd_kd (x := .lst ((inp.drop (s.t + 1)).map nV)) hlf1 rfl
        have hq1 := k9 _ _ hq1 (by simp [HO.kd])
        have e11 := k9 _ _ e11 (by simp [HO.kd])
        have hob1 := MP.ob
        unfold machFs at hob1
        rw [show List.eraseIdx (List.map nV (inp.getD s.t 0 :: r)) 0 = (inp.drop (s.t + 1)).map nV by rw [d2]; rfl]
        clear hcn k9 hlf1
        generalize upd H1 (L.getD (2 * C.h) 0) (.lst ((inp.drop (s.t + 1)).map nV)) = Y at MP hq1 e11 hob1 ⊢
        have hs0 : 0 < C.size := by omega
        iterate 7 first | refine ⟨_, rfl, ?_⟩ | refine ⟨_, _, rfl, rfl, ?_⟩ | refine ⟨_, _, _, _, rfl, rfl, SqT.of (by repeat (first | assumption | exact upd_same .. | refine u1 (by assumption) ?_ | refine um (by assumption) ?_ | refine sa (by assumption) ?_)), atI_nat (j := 1) rfl, ?_⟩ | refine ⟨_, _, _, _, _, rfl, (by repeat (first | assumption | exact upd_same .. | refine u1 (by assumption) ?_ | refine um (by assumption) ?_ | refine sa (by assumption) ?_)), T.cl_Machine, T.no_Machine_m_code, by rfl, ?_⟩ | refine ⟨(show (0 : Int) < _ by first | decide | omega), ?_⟩
        dsimp only
        rw [show V.int (((inp.getD s.t 0 : Nat) : Int) % ((C.size : Nat) : Int)) = nV num by rw [hnum]; rfl]
        refine ⟨H0, m, dxm, a, sv, hs, L, C.h, cn, steps, s.S, Pt, st, p, rfl, MP, by rw [cot _ (by omega)]; exact c5, ok.h5, fun Z Pt' hp MZ => ?_⟩
        refine ⟨_, rfl, ?_⟩
        have hrZ := MZ.lst (2 * C.h + 1) _ (at_getD (by omega))
        rw [cot _ (by omega)] at hrZ
        refine ⟨.inl ⟨rfl, _, SqL.of hrZ⟩, ?_⟩
        iterate 2 first | refine ⟨_, rfl, ?_⟩ | refine ⟨le_line (of_decide_eq_true rfl), fun t ht => ?_⟩
        have MZ2 := MZ.keep (same_upd (o := .tup [.str (Str.ofString "take"), nV num]) ht)
        have hrZ2 := MZ2.lst (2 * C.h + 1) _ (at_getD (by omega))
        refine ⟨_, _, _, rfl, rfl, hrZ2, by rw [cot _ (by omega)]; omega, ?_⟩
        obtain ⟨cm, hcm⟩ : ∃ f : Nat → List V, f = fun k => if k = 2 * C.h + 1 then (cn (2 * C.h + 1) ++ [.ref t]) else cn k := ⟨_, rfl⟩
        have MW := MZ2.setL (j := 2 * C.h + 1) (at_getD (by omega)) (cn (2 * C.h + 1) ++ [.ref t])
        rw [← hcm] at MW
        have cmt : ∀ k, k ≠ 2 * C.h → k ≠ 2 * C.h + 1 → cm k = cont k := fun k hk hk2 => by rw [hcm]; show (if k = 2 * C.h + 1 then _ else cn k) = _; rw [if_neg hk2]; exact cot k hk
        have cm3 : cm (2 * C.h) = (inp.drop (s.t + 1)).map nV := by rw [hcm]; show (if 2 * C.h = 2 * C.h + 1 then _ else cn (2 * C.h)) = _; rw [if_neg (by omega)]; exact c3'
        have cm4 : (cm (2 * C.h + 1)).length ≤ bud + 1 := by rw [hcm]; show (if 2 * C.h + 1 = 2 * C.h + 1 then cn (2 * C.h + 1) ++ [.ref t] else cn (2 * C.h + 1)).length ≤ _; rw [if_pos rfl, List.length_append, cot _ (by omega)]; simp; exact c4
        have hqW := MW.same _ _ hq0
        have hobW := MW.ob
        unfold machFs at hobW
        have hhW := MW.lst (2 * C.h + 2) _ (at_getD (by omega))
        rw [cmt _ (by omega) (by omega), c5] at hhW
        generalize upd (upd Z t (.tup [.str (Str.ofString "take"), nV num])) (L.getD (2 * C.h + 1) 0) (.lst (cn (2 * C.h + 1) ++ [.ref t])) = W at MW hqW hobW hhW ⊢
        iterate 5 first | refine ⟨_, rfl, ?_⟩ | refine ⟨_, _, _, _, rfl, rfl, SqT.of (by repeat (first | assumption | exact upd_same .. | refine u1 (by assumption) ?_ | refine um (by assumption) ?_ | refine sa (by assumption) ?_)), atI_nat (j := 2) rfl, ?_⟩ | refine ⟨_, _, _, _, _, rfl, (by repeat (first | assumption | exact upd_same .. | refine u1 (by assumption) ?_ | refine um (by assumption) ?_ | refine sa (by assumption) ?_)), T.cl_Machine, T.no_Machine_m_hues, by rfl, ?_⟩
        refine (show rSlL K _ _ _ _ _ from ?_)
        refine ⟨_, _, rfl, SqL.of hhW, fun q1 hq2 => ?_⟩
        rw [cut_take _ (by rw [List.length_map]; omega), ← List.map_take]
        have n1 : ∀ j, j < L.length → L.getD j 0 ≠ q1 := fun j hj e => by
          have := MW.lst j _ (at_getD hj)
          rw [e, hq2] at this; cases this
        have MV := MW.keep (same_upd (o := .lst ((hs.take x).map V.ref)) hq2)
        have hsl : upd W q1 (.lst ((hs.take x).map V.ref)) q1 = _ := upd_same
        generalize upd W q1 (.lst ((hs.take x).map V.ref)) = V1 at MV hsl ⊢
        refine ⟨_, rfl, ⟨_, SqL.of hsl⟩, ?_⟩
        have c10 : (fun k => if k < 0 then (regL (s.F k)).set b (nV num) else cm k) = cm := by funext k; simp
        refine for_list (xs := (hs.take x).map V.ref) (fun i σ Y => (∃ l9 l10, σ = [some (V.ref m), some (V.ref q), some (nV p), some (V.str (Str.ofString "take")), some (V.ref (L.getD (2 * C.h + 1) 0)), none, none, none, some (nV num), l9, l10]) ∧ MachAt K H0 Y m dxm a sv hs L C.h (fun k => if k < i then (regL (s.F k)).set b (nV num) else cm k) steps s.S Pt' st ∧ Y q1 = some (.lst ((hs.take x).map V.ref)))
          ⟨⟨_, _, rfl⟩, by rw [c10]; exact MV, hsl⟩ (fun i σ Y _ q => SqL.of q.2.2) (fun i y σ Y hi q => ?_) (fun σ Y q => ?_)
        · obtain ⟨⟨l9, l10, rfl⟩, M', y1⟩ := q
          rw [List.getElem?_map] at hi
          obtain ⟨r, hri, rfl⟩ := Option.map_eq_some_iff.mp hi
          have hix : i < x := by
            have := (List.getElem?_eq_some_iff.mp hri).1
            rw [List.length_take] at this; omega
          rw [List.getElem?_take, if_pos hix] at hri
          obtain ⟨dx, ch, ho, hch⟩ := M'.hue i r hri
          unfold hueFs at ho
          have hg := M'.lst i _ (at_getD (by omega))
          rw [show (if i < i then (regL (s.F i)).set b (nV num) else cm i) = regL (s.F i) by rw [if_neg (by omega), cmt i (by omega) (by omega)]; exact c1 i (by omega)] at hg
          have hq3 := M'.same _ _ hq0
          have hrb : (regL (s.F i))[b]? = some (nV (s.F i b)) := range_get _ o1
          iterate 7 first | refine ⟨_, rfl, ?_⟩ | refine ⟨_, _, _, _, rfl, rfl, SqT.of (by repeat (first | assumption | exact upd_same .. | refine u1 (by assumption) ?_ | refine um (by assumption) ?_ | refine sa (by assumption) ?_)), atI_nat (j := 1) rfl, ?_⟩ | refine ⟨_, _, _, _, _, rfl, (by repeat (first | assumption | exact upd_same .. | refine u1 (by assumption) ?_ | refine um (by assumption) ?_ | refine sa (by assumption) ?_)), T.cl_HueState, T.no_HueState_m_registers, by rfl, ?_⟩ | refine ⟨_, _, _, _, rfl, rfl, (by repeat (first | assumption | exact upd_same .. | refine u1 (by assumption) ?_ | refine um (by assumption) ?_ | refine sa (by assumption) ?_)), ixNn (by first | assumption | omega | (simp; omega)), ?_⟩
          have M2 := M'.setL (j := i) (at_getD (by omega)) ((regL (s.F i)).set b (nV num))
          refine ⟨⟨_, _, rfl⟩, ?_, um (n1 i (by omega)).symm y1⟩
          have ec : (fun k => if k = i then (regL (s.F i)).set b (nV num) else if k < i then (regL (s.F k)).set b (nV num) else cm k) = fun k => if k < i + 1 then (regL (s.F k)).set b (nV num) else cm k := by
            funext k
            by_cases e : k = i
            · subst e; rw [if_pos rfl, if_pos (by omega)]
            · rw [if_neg e]
              by_cases e2 : k < i
              · rw [if_pos e2, if_pos (by omega)]
              · rw [if_neg e2, if_neg (by omega)]
          rw [← ec]
          exact M2
        · obtain ⟨⟨l9, l10, rfl⟩, M', y1⟩ := q
          have hxl : ((hs.take x).map V.ref).length = x := by rw [List.length_map, List.length_take]; omega
          rw [hxl] at M'
          refine kgo _ rfl Y Pt' hp ⟨dxm, sv, L, _, steps, M', fun i hi => ?_, fun i hi => ?_, ?_, ?_, ?_⟩
          · show (if i < x then (regL (s.F i)).set b (nV num) else cm i) = regL fun a => if i < x ∧ a = b then tkI inp C.size s.t else s.F i a
            by_cases e : i < x
            · rw [if_pos e]
              unfold regL
              rw [range_set]
              refine List.map_congr_left fun z hz => ?_
              by_cases e2 : z = b
              · rw [if_pos e2]
                exact congrArg nV (hnum.trans (if_pos ⟨e, e2⟩).symm)
              · rw [if_neg e2]
                exact congrArg nV (if_neg (fun q => e2 q.2)).symm
            · rw [if_neg e, cmt i (by omega) (by omega), c1 i hi]
              unfold regL
              refine List.map_congr_left fun z hz => ?_
              exact congrArg nV (if_neg (fun q => e q.1)).symm
          · show (if C.h + i < x then _ else cm (C.h + i)) = bankL _ fun a => if i < x ∧ a = b then tkI inp C.size s.t else s.F i a
            rw [if_neg (by omega), cmt _ (by omega) (by omega), c2 i hi]
            unfold bankL
            refine List.map_congr_left fun z hz => ?_
            exact congrArg nV (if_neg (fun q => by omega)).symm
          · show (if 2 * C.h < x then _ else cm (2 * C.h)) = _
            rw [if_neg (by omega)]; exact cm3
          · show (if 2 * C.h + 1 < x then (regL (s.F (2 * C.h + 1))).set b (nV num) else cm (2 * C.h + 1)).length ≤ _
            rw [if_neg (by omega)]; exact cm4
          · show (if 2 * C.h + 2 < x then _ else cm (2 * C.h + 2)) = _
            rw [if_neg (by omega), cmt _ (by omega) (by omega)]; exact c5
    | sho port x =>
      obtain ⟨o1, o2, o3⟩ := okc
      iterate 20 first | refine iteT ?_ | refine ⟨_, rfl, ?_⟩ | refine ⟨rfl, ?_⟩ | refine ⟨_, _, rfl, .inr (SqT.of (by repeat (first | assumption | exact upd_same .. | refine u1 (by assumption) ?_ | refine um (by assumption) ?_ | refine sa (by assumption) ?_))), ?_⟩ | refine ⟨_, _, _, _, rfl, rfl, SqT.of (by repeat (first | assumption | exact upd_same .. | refine u1 (by assumption) ?_ | refine um (by assumption) ?_ | refine sa (by assumption) ?_)), atI_nat (j := 0) rfl, ?_⟩ | refine ⟨_, _, _, _, rfl, rfl, SqT.of (by repeat (first | assumption | exact upd_same .. | refine u1 (by assumption) ?_ | refine um (by assumption) ?_ | refine sa (by assumption) ?_)), atI_nat (j := 2) rfl, ?_⟩ | refine ⟨_, _, _, _, _, rfl, (by repeat (first | assumption | exact upd_same .. | refine u1 (by assumption) ?_ | refine um (by assumption) ?_ | refine sa (by assumption) ?_)), T.cl_Machine, T.no_Machine_m_code, by rfl, ?_⟩ | refine ⟨_, _, _, _, _, rfl, (by repeat (first | assumption | exact upd_same .. | refine u1 (by assumption) ?_ | refine um (by assumption) ?_ | refine sa (by assumption) ?_)), T.cl_Machine, T.no_Machine_m_hues, by rfl, ?_⟩ | refine ⟨_, _, _, _, _, rfl, (by repeat (first | assumption | exact upd_same .. | refine u1 (by assumption) ?_ | refine um (by assumption) ?_ | refine sa (by assumption) ?_)), T.cl_Machine, T.no_Machine_m_row, by rfl, ?_⟩ | refine ⟨_, _, rfl, ?_⟩ | refine ⟨le_line (of_decide_eq_true rfl), fun t ht => ?_⟩
      have hun' : unlike ((List.range x).map s.S) = none := by
        cases e : unlike ((List.range x).map s.S) with
        | none => rfl
        | some u => rw [show unan C.h (8 + C.bank.length) s (.sho port x) = (unlike ((List.range x).map s.S)).isNone from rfl, e] at hun; cases hun
      obtain ⟨n0, hn0⟩ : ∃ n, s.S 0 = some n := by
        have := (unlike_none hun').1 (s.S 0) (List.mem_map.mpr ⟨0, List.mem_range.mpr (by omega), rfl⟩)
        cases e : s.S 0 with
        | none => rw [e] at this; cases this
        | some n => exact ⟨n, rfl⟩
      have hS : ∀ j < x, s.S j = some n0 := fun j hj => by
        rw [← hn0]
        exact (unlike_none hun').2 _ (List.mem_map.mpr ⟨j, List.mem_range.mpr hj, rfl⟩) _ (List.mem_map.mpr ⟨0, List.mem_range.mpr (by omega), rfl⟩)
      have sX := same_upd (o := .tup [V.str (Str.ofString "show"), V.str (Str.ofString "turn")]) ht
      have M1 := M.keep sX
      have hq1 := sX _ _ hq
      have hh1 := sX _ _ hhl
      have e21 := sX _ _ e2
      generalize upd H t (.tup [V.str (Str.ofString "show"), V.str (Str.ofString "turn")]) = H1 at M1 hq1 hh1 e21 ⊢
      refine (show rSlL K _ _ _ _ _ from ?_)
      refine ⟨_, _, rfl, SqL.of hh1, fun q1 hq2 => ?_⟩
      rw [cut_take _ (by rw [List.length_map]; omega), ← List.map_take]
      have M2 := M1.keep (same_upd (o := .lst ((hs.take x).map V.ref)) hq2)
      have hq3 := same_upd (o := .lst ((hs.take x).map V.ref)) hq2 _ _ hq1
      have e22 := same_upd (o := .lst ((hs.take x).map V.ref)) hq2 _ _ e21
      have hsl : upd H1 q1 (.lst ((hs.take x).map V.ref)) q1 = _ := upd_same
      generalize upd H1 q1 (.lst ((hs.take x).map V.ref)) = H2 at M2 hq3 e22 hsl ⊢
      refine ⟨_, rfl, ⟨_, SqL.of hsl⟩, fun D hD => ?_⟩
      have hxl : ((hs.take x).map V.ref).length = x := by rw [List.length_map, List.length_take]; omega
      refine lc_list (xs := (hs.take x).map V.ref) (fun i H' => H' = upd H2 D (.lst (List.replicate i (nV n0)))) rfl (fun i H' _ e => by rw [e]; exact SqL.of (u1 hD hsl)) (fun i y H' hi e => ?_) (fun H' e => ?_)
      · subst e
        rw [List.getElem?_map] at hi
        obtain ⟨r, hri, rfl⟩ := Option.map_eq_some_iff.mp hi
        have hix : i < x := by
          have := (List.getElem?_eq_some_iff.mp hri).1
          rw [List.length_take] at this; omega
        rw [List.getElem?_take, if_pos hix] at hri
        obtain ⟨dx, ch, ho, hch⟩ := M2.hue i r hri
        unfold hueFs at ho
        rw [hS i hix] at ho
        have ho3 := u1 (o := .lst (List.replicate i (nV n0))) hD ho
        iterate 8 first | refine iteT ?_ | refine ⟨_, rfl, ?_⟩ | refine ⟨rfl, ?_⟩ | refine ⟨_, _, _, _, _, rfl, (by repeat (first | assumption | exact upd_same .. | refine u1 (by assumption) ?_ | refine um (by assumption) ?_ | refine sa (by assumption) ?_)), T.cl_HueState, T.no_HueState_m_slot, by rfl, ?_⟩
        exact ⟨_, upd_same, by simp; omega, by rw [upd_upd]; congr 2; rw [List.replicate_succ']; rfl⟩
      · subst e
        rw [hxl]
        have sD := same_upd (o := .lst (List.replicate x (nV n0))) hD
        have hDl : upd H2 D (.lst (List.replicate x (nV n0))) D = _ := upd_same
        have M3 := M2.keep sD
        have hq4 := sD _ _ hq3
        have e23 := sD _ _ e22
        generalize upd H2 D (.lst (List.replicate x (nV n0))) = H3 at M3 hq4 e23 hDl ⊢
        iterate 2 first | refine ⟨_, rfl, ?_⟩ | refine ⟨le_line (of_decide_eq_true rfl), fun t ht => ?_⟩
        refine (show rNeE _ _ _ _ _ from ?_)
        refine ⟨_, _, _, rfl, rfl, SqL.of (u1 ht hDl), SqL.of upd_same, _, rfl, ?_⟩
        refine itBT (by cases x with
          | zero => omega
          | succ x => rfl) ?_
        have M4 := M3.keep (same_upd (o := .lst []) ht)
        have hq5 := u1 (o := .lst []) ht hq4
        have e24 := u1 (o := .lst []) ht e23
        have hD2 := u1 (o := .lst []) ht hDl
        generalize upd H3 t (.lst []) = H4 at M4 hq5 e24 hD2 ⊢
        have hv : C.votes[x - 1]? = some (C.votes[x - 1]'(by show x - 1 < C.h; omega)) := List.getElem?_eq_getElem _
        have hv2 : (C.votes.map nV)[x - 1]? = some (nV (C.votes[x - 1]'(by show x - 1 < C.h; omega))) := by rw [List.getElem?_map, hv]; rfl
        obtain ⟨v1, v2⟩ := ok.vo _ _ hv
        iterate 5 first | refine ⟨_, rfl, ?_⟩ | refine ⟨_, _, rfl, rfl, ?_⟩ | refine ⟨_, _, _, _, rfl, rfl, SqT.of (by repeat (first | assumption | exact upd_same .. | refine u1 (by assumption) ?_ | refine um (by assumption) ?_ | refine sa (by assumption) ?_)), atI_nat (j := 2) rfl, ?_⟩
        refine (show rIxT _ _ _ _ _ from ?_)
        refine ⟨_, _, _, _, rfl, rfl, SqT.of e24, (by rw [show ((x : Nat) : Int) - 1 = ((x - 1 : Nat) : Int) by omega]; exact atI_nat hv2), ?_⟩
        refine ⟨D, .int n0, x, _, nV n0, _, rfl, hD2, by rw [List.getElem?_replicate, if_pos (show 0 < x by omega)], .lst (SqL.of hD2) (dp_rep (.int _) _), .int _, shaped_rep (by simp [PyData.canLay0]) (by simp [PyData.depth]) _, shaped_of (by simp [PyData.canLay0]) (by simp [PyData.depth]), by simp [PyData.eqv], by omega, ?_⟩
        iterate 11 first | refine iteF ?_ | refine ⟨_, rfl, ?_⟩ | refine ⟨rfl, ?_⟩
        refine ⟨H0, m, dxm, a, sv, hs, L, C.h, cont, steps, s.S, Pt, st, p, rfl, M4, c5, ok.h5, fun Z Pt' hp MZ => ?_⟩
        refine ⟨_, rfl, ?_⟩
        refine ⟨H0, m, dxm, a, sv, hs, L, C.h, cont, steps, s.S, Pt', st, rfl, MZ, c5, ok.h5, fun Z2 MZ2 => ?_⟩
        iterate 5 first | refine iteT ?_ | refine ⟨_, rfl, ?_⟩ | refine ⟨rfl, ?_⟩
        have hrZ := MZ2.lst (2 * C.h + 1) _ (at_getD (by omega))
        refine ⟨.inl ⟨rfl, _, SqL.of hrZ⟩, ?_⟩
        have hqZ := MZ2.same _ _ hq0
        iterate 4 first | refine ⟨_, rfl, ?_⟩ | refine ⟨_, _, _, _, rfl, rfl, SqT.of (by repeat (first | assumption | exact upd_same .. | refine u1 (by assumption) ?_ | refine um (by assumption) ?_ | refine sa (by assumption) ?_)), atI_nat (j := 1) rfl, ?_⟩ | refine ⟨le_line (of_decide_eq_true rfl), fun t ht => ?_⟩
        have MY := MZ2.keep (same_upd (o := .tup [.str (Str.ofString "show"), nV port, nV n0]) ht)
        have hrY := MY.lst (2 * C.h + 1) _ (at_getD (by omega))
        refine ⟨_, _, _, rfl, rfl, hrY, by omega, ?_⟩
        have MW := MY.setL (j := 2 * C.h + 1) (at_getD (by omega)) (cont (2 * C.h + 1) ++ [.ref t])
        refine kgo _ (by simp only [step]; rw [hun']) _ Pt' hp ⟨dxm, sv, L, _, steps, MW, fun i hi => ?_, fun i hi => ?_, ?_, ?_, ?_⟩
        · show (if i = 2 * C.h + 1 then _ else cont i) = _
          rw [if_neg (by omega)]; exact c1 i hi
        · show (if C.h + i = 2 * C.h + 1 then _ else cont (C.h + i)) = _
          rw [if_neg (by omega)]; exact c2 i hi
        · show (if 2 * C.h = 2 * C.h + 1 then _ else cont (2 * C.h)) = _
          rw [if_neg (by omega)]; exact c3
        · show (if 2 * C.h + 1 = 2 * C.h + 1 then cont (2 * C.h + 1) ++ [.ref t] else cont (2 * C.h + 1)).length ≤ _
          rw [if_pos rfl, List.length_append]; simp; exact c4
        · show (if 2 * C.h + 2 = 2 * C.h + 1 then _ else cont (2 * C.h + 2)) = _
          rw [if_neg (by omega)]; exact c5
    | _ => cases hi
end Hw
namespace Hw
open PySem PySem.Spec PyProof.Rows L2
variable {P : Program} {w : World} {K : PySem.W.Frag} {mg : Str → Option Value} {base : Heap}
theorem cell_hd (c : Cell) : ∃ x xs, cellV c = x :: xs ∧ isIS x = true ∧ (!whB x) = (c.hue).isNone ∧ ∀ i, c.hue = some i → x = nV i := by
  cases c
  all_goals exact ⟨_, _, rfl, rfl, rfl, fun i h => by cases h <;> rfl⟩
abbrev s_machine_step : Stmt := top 70
abbrev N_machine_step : List Str := ["machine", "code", "address", "cell", "hue"]
theorem sc_machine_step : FnScope N_machine_step ["machine"] (defScope s_machine_step) := ⟨rfl, rfl, rfl, by decide +kernel, rfl, by decide +kernel, by decide +kernel⟩
def sp_machine_step (K : PySem.W.Frag) : Sp := fun vs H Q _ => ∃ (H0 : Hp) (m a : Addr) (hs : List Addr) (C : Code) (inp : List Nat) (s : SS Nat) (Pt : Nat → Nat) (st : Str) (bud p : Nat) (c : Cell), vs = [.ref m] ∧ MachA K H0 H m a hs C inp s Pt st bud ∧ IsCode H0 a C ∧ C.Ok ∧ bud < 1000 ∧ (∀ i < C.h, Pt i = p) ∧ C.cells[p]? = some c ∧
  (c.hue = none → unan C.h (8 + C.bank.length) s c = true) ∧
  (∀ s', step id (tkI inp C.size) C.h (8 + C.bank.length) s c = .go s' → ∀ H' Pt', (∀ i < C.h, Pt' i = p + 1) → MachA K H0 H' m a hs C inp s' Pt' st (bud + 1) → Q .non H') ∧
  (c = .stop → ∀ H' Pt', MachA K H0 H' m a hs C inp s Pt' "stopped" (bud + 1) → Q .non H')
theorem C_machine_step (T : Txt K mg) : C8.Cal P w K mg base 4 "machine_step" (sp_machine_step K) [] := by
  have C_machine_address := C_machine_address (P := P) (w := w) (base := base) T
  have C_point_all := C_point_all (P := P) (w := w) (base := base) T
  have C_settle_done := C_settle_done (P := P) (w := w) (base := base) T
  have C_is_settle := C_is_settle (P := P) (w := w) (base := base) T
  have C_instructed := C_instructed (P := P) (w := w) (base := base) T
  refine cal (N := N_machine_step) (ps := ["machine"]) T.d_machine_step (fun _ _ _ _ _ _ us hl => match us, hl with | [_], _ => rfl) sc_machine_step (fun vs H Q E h => ?_) (fun f cdv A outer s H vs Q E hr h => ?_)
  · obtain ⟨H0, m, a, hs, C, inp, s, Pt, st, bud, p, c, rfl, _⟩ := h
    rfl
  · obtain ⟨H0, m, a, hs, C, inp, s, Pt, st, bud, p, c, rfl, MA, hcode, ok, hbud, hp, hcp, hun, kgo, kstop⟩ := h
    have hcode' := hcode
    obtain ⟨va, ca, ba, vs, hc⟩ := hcode
    obtain ⟨dxm, sv, L, cont, steps, M, c1, c2, c3, c4, c5⟩ := MA.ex
    have hob := M.ob
    unfold machFs at hob
    have hpl : p < C.cells.length := (List.getElem?_eq_some_iff.mp hcp).1
    have hu := hu_of hr
    refine ⟨_, (pss_cons (ps_par (i := 1) (j := 2) (by rfl) sc_machine_step.nd rfl rfl (by decide) rfl rfl (pa_cons (pe_fldK (K := K) rfl (pv 0) rfl) (pa_cons (C8.pe_c C_machine_address hr (by decide) rfl (pa_cons (pv 0) pa_nil)) pa_nil)) (by rfl))
    (pss_cons (ps_fld (pv 0) (pe_op op_add (pe_fldK (K := K) rfl (pv 0) rfl) pe_int) rfl)
    (pss_cons (ps_if (pt_cmpR op_isN (pv 2) pe_non (nomark _)) (pss_cons ps_never
    (pss_one (ps_retN))) pss_nil)
    (pss_cons (ps_set (i := 3) sc_machine_step.nd rfl (by first | exact .inl rfl | exact .inr rfl) (pe_ix (ix_tupK (K := K) rfl) (pe_ix (ix_tupK (K := K) rfl) (pv 1) pe_int (fun _ _ => rfl)) (pv 2) (fun _ _ => rfl)))
    (pss_cons (ps_if (pt_val (C8.pe_c C_is_settle hr (by decide) rfl (pa_cons (pv 3) pa_nil))) (pss_cons (ps_expr (C8.pe_c C_settle_done hr (by decide) rfl (pa_cons (pv 0) (pa_cons (pv 3) (pa_cons (pe_op op_add (pv 2) pe_int) pa_nil)))))
    (pss_one (ps_retN))) pss_nil)
    (pss_cons (ps_expr (C8.pe_c C_point_all hr (by decide) rfl (pa_cons (pv 0) (pa_cons (pe_op op_add (pv 2) pe_int) pa_nil))))
    (pss_cons (ps_set (i := 4) sc_machine_step.nd rfl (by first | exact .inl rfl | exact .inr rfl) (pe_ix (ix_listK (K := K) rfl) (pe_fldK (K := K) rfl (pv 0) rfl) (pe_ix (ix_tupK (K := K) rfl) (pv 3) pe_int (fun _ _ => rfl)) (fun _ _ => rfl)))
    (pss_one (ps_expr (C8.pe_mt C_instructed hr (by decide) (pv 4) (pa_cons (pe_dget2 hu (pe_fldK (K := K) rfl (pv 4) rfl) (pv 2) (pv 3) ⟨by rfl, by rfl, by rfl, by rfl⟩) (pa_cons (pe_ix (ix_tupK (K := K) rfl) (pv 1) pe_int (fun _ _ => rfl)) pa_nil)))))))))))), ?_⟩
    iterate 3 first | refine ⟨_, rfl, ?_⟩ | refine ⟨_, _, _, _, _, rfl, (by repeat (first | assumption | exact upd_same .. | refine u1 (by assumption) ?_ | refine um (by assumption) ?_ | refine sa (by assumption) ?_)), T.cl_Machine, T.no_Machine_m_code, by rfl, ?_⟩
    refine ⟨H0, m, a, hs, C, inp, s, Pt, st, bud, p, rfl, MA, hcode', ok, hp, fun H1 s1 => ?_⟩
    rw [if_pos hpl]
    have M1 := M.keep s1
    have hob1 := s1 _ _ hob
    iterate 11 first | refine iteF ?_ | refine ⟨_, rfl, ?_⟩ | refine ⟨_, _, rfl, rfl, ?_⟩ | refine ⟨rfl, ?_⟩ | refine ⟨_, _, _, _, _, rfl, (by repeat (first | assumption | exact upd_same .. | refine u1 (by assumption) ?_ | refine um (by assumption) ?_ | refine sa (by assumption) ?_)), T.cl_Machine, T.no_Machine_m_steps, by rfl, ?_⟩ | refine ⟨_, _, _, _, rfl, (by repeat (first | assumption | exact upd_same .. | refine u1 (by assumption) ?_ | refine um (by assumption) ?_ | refine sa (by assumption) ?_)), T.cl_Machine, T.no_Machine_m_steps, of_decide_eq_true rfl, ?_⟩ | refine ⟨_, _, rfl, ?_⟩
    have M2 := M1.setM (steps + 1) st
    have M2' : MachAt K H0 (upd H1 m (.ins (CM K) dxm (putF "m_steps" (.int (steps + 1)) (machFs a (L.getD (2 * C.h + 2) 0) (L.getD (2 * C.h) 0) sv (L.getD (2 * C.h + 1) 0) steps st)))) m dxm a sv hs L C.h cont (steps + 1) s.S Pt st := M2
    unfold machFs at M2'
    generalize upd H1 m _ = X at M2' ⊢
    have MA2 : MachA K H0 X m a hs C inp s Pt st bud := ⟨dxm, sv, L, cont, _, M2', c1, c2, c3, c4, c5⟩
    have hobX := M2'.ob
    unfold machFs at hobX
    have hcX := hc.same M2'.same
    have e1 := hcX.top
    have e3 := hcX.ce
    obtain ⟨vl, hcs⟩ := hcX.cs
    obtain ⟨v, hv⟩ : ∃ v, vs[p]? = some v := ⟨_, List.getElem?_eq_getElem (by omega)⟩
    obtain ⟨q, rfl, hqX⟩ := hcs p v c hv hcp
    obtain ⟨q0, e0, hq0⟩ := hc.cs.2 p _ c hv hcp
    cases e0
    have okc := ok.ce c (List.mem_of_getElem? hcp)
    have lL := M2'.lL
    have lh := M2'.lh
    have hh5 := ok.h5
    iterate 4 first | refine ⟨_, rfl, ?_⟩ | refine ⟨_, _, _, _, rfl, rfl, SqT.of (by repeat (first | assumption | exact upd_same .. | refine u1 (by assumption) ?_ | refine um (by assumption) ?_ | refine sa (by assumption) ?_)), atI_nat (j := 2) rfl, ?_⟩ | refine ⟨_, _, _, _, rfl, rfl, SqT.of (by repeat (first | assumption | exact upd_same .. | refine u1 (by assumption) ?_ | refine um (by assumption) ?_ | refine sa (by assumption) ?_)), atI_nat (by assumption), ?_⟩
    obtain ⟨x0, xs0, hx1, hx2, hx3, hx4⟩ := cell_hd c
    refine ⟨q, x0, xs0, rfl, by rw [← hx1]; exact hqX, hx2, _, rfl, ?_⟩
    rw [hx3]
    cases hh : c.hue with
    | none =>
      refine itBT rfl ?_
      iterate 4 first | refine ⟨_, rfl, ?_⟩ | refine ⟨_, _, rfl, rfl, ?_⟩
      refine ⟨H0, m, a, q, hs, C, inp, s, Pt, st, bud, p + 1, c, by simp, MA2, hcode', ok, hbud, hq0, hh, okc, hun hh, fun s' hs' H' Pt' hp' M' => ?_, fun hs' H' Pt' M' => ?_⟩
      · skip
        exact kgo s' hs' H' Pt' hp' M'
      · skip
        exact kstop hs' H' Pt' M'
    | some i =>
      refine itBF rfl ?_
      have hx0 := hx4 i hh
      subst hx0
      iterate 3 first | refine ⟨_, rfl, ?_⟩ | refine ⟨_, _, rfl, rfl, ?_⟩
      refine ⟨H0, m, dxm, a, sv, hs, L, C.h, cont, steps + 1, s.S, Pt, st, p + 1, by simp, M2', c5, ok.h5, fun Z Pt' hp' MZ => ?_⟩
      have hih := hue_ok hh okc
      have hobZ := MZ.ob
      unfold machFs at hobZ
      have hqZ := MZ.same _ _ hq0
      rw [hx1] at hqZ
      have hhZ := MZ.lst (2 * C.h + 2) _ (at_getD (by omega))
      rw [c5] at hhZ
      have hcZ := (hc.same MZ.same).top
      obtain ⟨x, hx⟩ : ∃ x, hs[i]? = some x := ⟨_, List.getElem?_eq_getElem (by omega)⟩
      have hxr : (hs.map V.ref)[i]? = some (.ref x) := by rw [List.getElem?_map, hx]; rfl
      obtain ⟨dx, ch, ho, hch⟩ := MZ.hue i x hx
      have ho' := ho
      unfold hueFs at ho
      iterate 10 first | refine ⟨_, rfl, ?_⟩ | refine ⟨_, _, _, _, rfl, rfl, SqT.of (by repeat (first | assumption | exact upd_same .. | refine u1 (by assumption) ?_ | refine um (by assumption) ?_ | refine sa (by assumption) ?_)), atI_nat (j := 0) rfl, ?_⟩ | refine ⟨_, _, _, _, _, rfl, (by repeat (first | assumption | exact upd_same .. | refine u1 (by assumption) ?_ | refine um (by assumption) ?_ | refine sa (by assumption) ?_)), T.cl_Machine, T.no_Machine_m_hues, by rfl, ?_⟩ | refine ⟨_, _, _, _, _, rfl, (by repeat (first | assumption | exact upd_same .. | refine u1 (by assumption) ?_ | refine um (by assumption) ?_ | refine sa (by assumption) ?_)), T.cl_HueState, T.no_HueState_m_changed, by rfl, ?_⟩ | refine ⟨_, _, _, _, rfl, rfl, SqL.of (by repeat (first | assumption | exact upd_same .. | refine u1 (by assumption) ?_ | refine um (by assumption) ?_ | refine sa (by assumption) ?_)), atI_nat (by assumption), ?_⟩ | refine ⟨_, _, _, rfl, (by repeat (first | assumption | exact upd_same .. | refine u1 (by assumption) ?_ | refine um (by assumption) ?_ | refine sa (by assumption) ?_)), by rfl, ?_⟩
      refine ⟨.inl ⟨_, .inl hch⟩, ?_⟩
      refine ⟨_, rfl, ?_⟩
      refine ⟨_, rfl, ?_⟩
      refine ⟨none, .inl ⟨_, Sum.inl (p : Int), .inl hch, rfl, rfl⟩, ?_⟩
      iterate 2 first | refine ⟨_, rfl, ?_⟩ | refine ⟨_, _, _, _, rfl, rfl, SqT.of (by repeat (first | assumption | exact upd_same .. | refine u1 (by assumption) ?_ | refine um (by assumption) ?_ | refine sa (by assumption) ?_)), atI_nat (j := 1) rfl, ?_⟩
      obtain ⟨s', hs'⟩ : ∃ s', step id (tkI inp C.size) C.h (8 + C.bank.length) s c = .go s' := by
        cases c with
        | set i b n => exact ⟨_, rfl⟩
        | get i b n z => exact ⟨_, rfl⟩
        | put i b n z => exact ⟨_, rfl⟩
        | offer i b => exact ⟨_, rfl⟩
        | _ => cases hh
      refine ⟨H0, m, a, x, q, nV C.size, hs, C, inp, s, s', Pt', st, bud, i, c, rfl, ⟨dxm, sv, L, cont, _, MZ, c1, c2, c3, c4, c5⟩, hx, hq0, hh, okc, hs', fun Y MY => ?_⟩
      obtain ⟨z1, z2, z3, z4, z5, z6, z7, z8, z9, z10, z11⟩ := MY.ex
      exact kgo s' hs' Y Pt' hp' ⟨z1, z2, z3, z4, z5, z6, z7, z8, z9, by omega, z11⟩
end Hw
namespace Hw
open PySem PySem.Spec PyProof.Rows L2
abbrev s_Machine___init__ : Stmt := inClass (top 67) 0
abbrev N_Machine___init__ : List Str := ["self", "code", "inputs", "strikes", "need"]
theorem sc_Machine___init__ : FnScope N_Machine___init__ ["self", "code", "inputs", "strikes"] (defScope s_Machine___init__) := ⟨rfl, rfl, rfl, by decide +kernel, rfl, by decide +kernel, by decide +kernel⟩
structure MkM (K : PySem.W.Frag) (mg : Str → Option Value) (e : Addr) : Prop where
  fn : ∃ f fd, FunD K "__init__" "Machine.__init__" (defArgs s_Machine___init__) (defBody s_Machine___init__) (defScope s_Machine___init__) [.ref e] [] f fd ∧ Mk K (CM K) f
  tu : ∃ (o : Obj) (n : Nat), K.lookup e = some o ∧ o.cls = .type "tuple" ∧ o.data = .seq #[] n
theorem MkM.sq {K : PySem.W.Frag} {mg : Str → Option Value} {e : Addr} (M : MkM K mg e) (H : Hp) : SqT K H e [] := by
  obtain ⟨o, n, h1, h2, h3⟩ := M.tu
  exact .inr ⟨o, #[], n, h1, h2, h3, Nat.zero_le _, .nil⟩
theorem MkM.ty {K : PySem.W.Frag} {mg : Str → Option Value} {e : Addr} (M : MkM K mg e) (H : Hp) : TyX K H (.ref e) (.type "tuple") := by
  obtain ⟨o, n, h1, h2, h3⟩ := M.tu
  exact .kTuple h1 h2
structure HuesAt (K : PySem.W.Frag) (H1 H' : Hp) (D : Addr) (i : Nat) (bs : List Nat) (hs rgs bks : List Addr) : Prop where
  lh : hs.length = i
  lr : rgs.length = i
  lb : bks.length = i
  ls : H' D = some (.lst (hs.map V.ref))
  ndh : hs.Nodup
  ndl : (D :: (rgs ++ bks)).Nodup
  hue : ∀ j x, hs[j]? = some x → ∃ dx ch, H' x = some (.ins (CHs K) dx (hueFs (rgs.getD j 0) (bks.getD j 0) ch 0 none)) ∧ H' ch = some (.dK [])
  rg : ∀ r ∈ rgs, H' r = some (.lst ((List.replicate 8 0).map nV))
  bk : ∀ b ∈ bks, H' b = some (.lst (bs.map nV))
  same : Same H1 H'
  fr : ∀ x ∈ D :: (hs ++ (rgs ++ bks)), H1 x = none
theorem getD_app_lt {L M : List Addr} {j : Nat} (h : j < L.length) : (L ++ M).getD j 0 = L.getD j 0 := by
  rw [List.getD_eq_getElem?_getD, List.getD_eq_getElem?_getD, List.getElem?_append_left h]
theorem getD_app_ge {L M : List Addr} {j : Nat} (h : L.length ≤ j) : (L ++ M).getD j 0 = M.getD (j - L.length) 0 := by
  rw [List.getD_eq_getElem?_getD, List.getD_eq_getElem?_getD, List.getElem?_append_right h]
theorem nodup_snoc {α : Type} {L : List α} {x : α} (nd : L.Nodup) (h : x ∉ L) : (L ++ [x]).Nodup := by
  rw [List.nodup_append]
  refine ⟨nd, by simp, fun a ha b hb e => ?_⟩
  rw [List.mem_singleton.mp hb] at e
  exact h (e ▸ ha)
theorem HuesAt.add {K : PySem.W.Frag} {H1 H' H3 : Hp} {D : Addr} {i : Nat} {bs : List Nat} {hs rgs bks : List Addr} (A : HuesAt K H1 H' D i bs hs rgs bks) {x dx r b ch : Addr} (hx : H' x = none) (hr : H' r = none) (hb : H' b = none) (hrb : r ≠ b)
    (s3 : Same H' H3) (ho : H3 x = some (.ins (CHs K) dx (hueFs r b ch 0 none))) (h3r : H3 r = some (.lst ((List.replicate 8 0).map nV))) (h3b : H3 b = some (.lst (bs.map nV))) (h3c : H3 ch = some (.dK [])) :
    HuesAt K H1 (upd H3 D (.lst ((hs ++ [x]).map V.ref))) D (i + 1) bs (hs ++ [x]) (rgs ++ [r]) (bks ++ [b]) := by
  have hD3 := s3 _ _ A.ls
  have k1 : ∀ c y, H3 c = some y → c ≠ D → upd H3 D (.lst ((hs ++ [x]).map V.ref)) c = some y := fun c y h n => um n h
  have nr : r ≠ D := fun e => by rw [e, A.ls] at hr; cases hr
  have nb : b ≠ D := fun e => by rw [e, A.ls] at hb; cases hb
  have nx : x ≠ D := fun e => by rw [e, A.ls] at hx; cases hx
  have nrl : ∀ q ∈ rgs ++ bks, ∃ y, H' q = some y := fun q hq => by
    rcases List.mem_append.mp hq with z | z
    · exact ⟨_, A.rg q z⟩
    · exact ⟨_, A.bk q z⟩
  have nhs : ∀ q ∈ hs, ∃ y, H' q = some y := fun q hq => by
    obtain ⟨j, hj⟩ := List.mem_iff_getElem?.mp hq
    obtain ⟨d, c, h1, h2⟩ := A.hue j q hj
    exact ⟨_, h1⟩
  obtain ⟨n1, n2⟩ := List.nodup_cons.mp A.ndl
  obtain ⟨m1, m2, m3⟩ := List.nodup_append.mp n2
  refine ⟨by simp [A.lh], by simp [A.lr], by simp [A.lb], upd_same, nodup_snoc A.ndh (fun m => by obtain ⟨y, hy⟩ := nhs x m; rw [hx] at hy; cases hy), List.nodup_cons.mpr ⟨fun m => ?_, ?_⟩, fun j y hj => ?_, fun q hq => ?_, fun q hq => ?_, same_mut (A.same.trans s3) (A.fr D (List.mem_cons_self ..)), fun q hq => ?_⟩
  · simp only [List.mem_append, List.mem_singleton] at m
    rcases m with (z | z) | (z | z)
    · exact n1 (List.mem_append.mpr (.inl z))
    · exact nr z.symm
    · exact n1 (List.mem_append.mpr (.inr z))
    · exact nb z.symm
  · rw [List.nodup_append]
    refine ⟨nodup_snoc m1 (fun m => by obtain ⟨y, hy⟩ := nrl r (List.mem_append.mpr (.inl m)); rw [hr] at hy; cases hy), nodup_snoc m2 (fun m => by obtain ⟨y, hy⟩ := nrl b (List.mem_append.mpr (.inr m)); rw [hb] at hy; cases hy), fun p hp q hq e => ?_⟩
    rcases List.mem_append.mp hp with z | z <;> rcases List.mem_append.mp hq with z' | z'
    · exact m3 p z q z' e
    · rw [List.mem_singleton.mp z'] at e
      obtain ⟨y, hy⟩ := nrl p (List.mem_append.mpr (.inl z)); rw [e, hb] at hy; cases hy
    · rw [List.mem_singleton.mp z] at e
      obtain ⟨y, hy⟩ := nrl q (List.mem_append.mpr (.inr z')); rw [← e, hr] at hy; cases hy
    · rw [List.mem_singleton.mp z, List.mem_singleton.mp z'] at e
      exact hrb e
  · by_cases e : j < i
    · rw [List.getElem?_append_left (by rw [A.lh]; exact e)] at hj
      obtain ⟨d, c, h1, h2⟩ := A.hue j y hj
      refine ⟨d, c, k1 _ _ (by rw [getD_app_lt (by rw [A.lr]; exact e), getD_app_lt (by rw [A.lb]; exact e)]; exact s3 _ _ h1) (fun z => ?_), k1 _ _ (s3 _ _ h2) (fun z => ?_)⟩
      · rw [z, A.ls] at h1; cases h1
      · rw [z, A.ls] at h2; cases h2
    · have hjl := (List.getElem?_eq_some_iff.mp hj).1
      rw [List.length_append, A.lh] at hjl
      have hji : j = i := by simp at hjl; omega
      subst hji
      rw [List.getElem?_append_right (by rw [A.lh]; exact Nat.le_refl _), A.lh, Nat.sub_self] at hj
      cases hj
      refine ⟨dx, ch, k1 _ _ (by rw [getD_app_ge (by rw [A.lr]; exact Nat.le_refl _), getD_app_ge (by rw [A.lb]; exact Nat.le_refl _), A.lr, A.lb, Nat.sub_self]; exact ho) nx, k1 _ _ h3c (fun z => ?_)⟩
      rw [z, hD3] at h3c; cases h3c
  · rcases List.mem_append.mp hq with z | z
    · exact k1 _ _ (s3 _ _ (A.rg q z)) (fun e => n1 (List.mem_append.mpr (.inl (e ▸ z))))
    · rw [List.mem_singleton.mp z]; exact k1 _ _ h3r nr
  · rcases List.mem_append.mp hq with z | z
    · exact k1 _ _ (s3 _ _ (A.bk q z)) (fun e => n1 (List.mem_append.mpr (.inr (e ▸ z))))
    · rw [List.mem_singleton.mp z]; exact k1 _ _ h3b nb
  · simp only [List.mem_cons, List.mem_append, List.not_mem_nil, or_false] at hq
    rcases hq with z | (z | z) | (z | z) | (z | z)
    · exact A.fr q (by simp [z])
    · exact A.fr q (by simp [z])
    · rw [z]; exact same_none A.same hx
    · exact A.fr q (by simp [z])
    · rw [z]; exact same_none A.same hr
    · exact A.fr q (by simp [z])
    · rw [z]; exact same_none A.same hb
variable {P : Program} {w : World} {K : PySem.W.Frag} {mg : Str → Option Value} {base : Heap}
theorem stepM {Y : Hp} {m l : Addr} {o x om : HO} (hm : Y m = some om) (hl : Y l = none) : (∀ b y, Y b = some y → b ≠ m → upd (upd Y l o) m x b = some y) ∧ upd (upd Y l o) m x l = some o ∧ l ≠ m := by
  have n : l ≠ m := fun e => by rw [e, hm] at hl; cases hl
  exact ⟨fun b y h nb => um nb (u1 hl h), um n upd_same, n⟩
def m0 (C : Code) : SS Nat := ⟨fun _ a => if a < 8 then 0 else C.bank.getD (a - 8) 0, fun _ => none, 0⟩
def sp_Machine (K : PySem.W.Frag) (e : Addr) : Sp := fun vs H Q _ => ∃ (H0 : Hp) (m dx a i : Addr) (C : Code) (inp : List Nat), vs = [.ref m, .ref a, .ref i, .ref e] ∧ H m = some (.ins (CM K) dx []) ∧ Same H0 H ∧ H0 m = none ∧ IsCode H0 a C ∧ C.Ok ∧ H0 i = some (.lst (inp.map nV)) ∧ inp.length ≤ 400 ∧ (∀ n ∈ inp, n ≤ 9999) ∧
  ∀ hs H', MachA K H0 H' m a hs C inp (m0 C) (fun _ => 0) "running" 0 → Q .non H'
theorem C_Machine (T : Txt K mg) {e : Addr} (ME : MkM K mg e) : C8.Mak P w K mg base 8 "Machine" (CM K) (sp_Machine K e) [.ref e] := by
  have C_need_code := C_need_code (P := P) (w := w) (base := base) T
  have C_need_inputs := C_need_inputs (P := P) (w := w) (base := base) T
  have C_need_strikes := C_need_strikes (P := P) (w := w) (base := base) T
  have C_HueState := C_HueState (P := P) (w := w) (base := base) T
  obtain ⟨f, fd, F, hm⟩ := ME.fn
  obtain ⟨ds, hds, hb⟩ := F.binds1 (ps := ["self", "code", "inputs", "strikes"]) 3 0 (by simp) rfl (fun T0 kV doc pm an cdv ct us its l1 l2 => by
    match us, its, l1, l2 with
    | [_, _, _], [_], _, _ => exact ⟨_, rfl, rfl⟩)
  refine ⟨f, fd, _, _, hm, F.ok sc_Machine___init__ (fun vs H Q E h => ?_) (fun cdv A outer s H vs Q E hr h => ?_), T.mg_Machine, hb, hds⟩
  · obtain ⟨H0, m, dx, a, i, C, inp, rfl, _⟩ := h
    rfl
  · refine (show ∃ t, PSs (cxOf C8.CX0 P w K mg base N_Machine___init__ "Machine.__init__" (defScope s_Machine___init__) f cdv A outer s H E) _ t ∧ _ from ?_)
    obtain ⟨H0, m, dx, a, i, C, inp, rfl, hm0, s0, h0m, hcode, ok, hinp, hl, hle, k⟩ := h
    suffices ∃ t, PSs (cxOf C8.CX0 P w K mg base N_Machine___init__ "Machine.__init__" (defScope s_Machine___init__) f cdv A outer s H E).nox (defBody s_Machine___init__) t ∧ t { nx := fun _ H' => Q .non H', rt := Q } (start N_Machine___init__ [.ref m, .ref a, .ref i, .ref e]) H by
      obtain ⟨t, h1, h2⟩ := this
      exact ⟨t, h1.nox, h2⟩
    refine ⟨_, (pss_cons (ps_expr (C8.pe_c C_need_code hr (by decide) rfl (pa_cons (pv 1) pa_nil)))
    (pss_cons (ps_expr (C8.pe_c C_need_inputs hr (by decide) rfl (pa_cons (pv 2) pa_nil)))
    (pss_cons (ps_expr (C8.pe_c C_need_strikes hr (by decide) rfl (pa_cons (pv 1) (pa_cons (pv 3) pa_nil))))
    (pss_cons (ps_fld (pv 0) (pv 1) rfl)
    (pss_cons (ps_fld (pv 0) (pe_lc (own := [("need", 4)]) rfl sc_Machine___init__.nd (pi_tup (pe_ix (ix_tupK (K := K) rfl) (pv 1) pe_int (fun _ _ => rfl))) (blkOk_by (own := [("need", 4)]) (N := N_Machine___init__) (sc := defScope s_Machine___init__) (by decide +kernel)) (fun _ _ _ _ _ => (pg_name (i := 4) sc_Machine___init__.nd rfl (by first | exact .inl rfl | exact .inr rfl))) (fun _ _ _ _ _ => pts_nil) (fun _ _ _ _ _ => (C8.pe_mk C_HueState hr (by decide) rfl (pa_cons (pe_ix (ix_tupK (K := K) rfl) (pv 1) pe_int (fun _ _ => rfl)) pa_nil)))) rfl)
    (pss_cons (ps_fld (pv 0) (pe_callTy (call_listK (K := K) rfl) (by rfl) T.b_list (by decide +kernel) (pa_cons (pv 2) pa_nil)) rfl)
    (pss_cons (ps_fld (pv 0) (pe_callTy (call_listK (K := K) rfl) (by rfl) T.b_list (by decide +kernel) (pa_cons (pv 3) pa_nil)) rfl)
    (pss_cons (ps_fld (pv 0) (pe_lst pa_nil) rfl)
    (pss_cons (ps_fld (pv 0) pe_int rfl)
    (pss_cons (ps_fld (pv 0) pe_str rfl)
    (pss_one (ps_fld (pv 0) pe_int rfl)))))))))))), ?_⟩
    refine ⟨_, rfl, ?_⟩
    refine ⟨a, C, rfl, hcode.same s0, ok, fun H1 s1 => ?_⟩
    refine ⟨_, rfl, ?_⟩
    refine ⟨i, inp, rfl, s1 _ _ (s0 _ _ hinp), hl, hle, fun H2 s2 => ?_⟩
    iterate 3 first | refine ⟨_, rfl, ?_⟩ | refine ⟨_, _, rfl, ?_⟩
    refine ⟨ME.sq _, fun _ _ => ME.ty _, fun H3 s3 => ?_⟩
    have s03 := s0.trans (s1.trans (s2.trans s3))
    have hm3 := s3 _ _ (s2 _ _ (s1 _ _ hm0))
    iterate 4 first | refine ⟨_, rfl, ?_⟩ | refine ⟨_, _, _, _, rfl, (by repeat (first | assumption | exact upd_same .. | refine u1 (by assumption) ?_ | refine um (by assumption) ?_ | refine sa (by assumption) ?_)), T.cl_Machine, T.no_Machine_m_code, of_decide_eq_true rfl, ?_⟩
    have sX : Same H0 (upd H3 m (.ins (CM K) dx (putF "m_code" (.ref a) []))) := same_mut s03 h0m
    have hmX : upd H3 m (.ins (CM K) dx (putF "m_code" (.ref a) [])) m = some (.ins (CM K) dx [("m_code", .ref a)]) := upd_same
    generalize upd H3 m _ = X at sX hmX ⊢
    obtain ⟨va, ca, ba, vs, hc⟩ := hcode
    have hcX := hc.same sX
    have e1 := hcX.top
    have e2 := hcX.vo
    have e3 := hcX.ba
    have hiX := sX _ _ hinp
    have bl := big_line
    have hh1 : 1 ≤ C.votes.length := ok.h1
    have hh5 : C.votes.length ≤ 5 := ok.h5
    have hb3 := ok.b3
    iterate 2 first | refine ⟨_, rfl, ?_⟩ | refine ⟨_, _, _, _, rfl, rfl, SqT.of (by repeat (first | assumption | exact upd_same .. | refine u1 (by assumption) ?_ | refine um (by assumption) ?_ | refine sa (by assumption) ?_)), atI_nat (j := 0) rfl, ?_⟩
    refine ⟨⟨_, SqT.of e2⟩, fun D hD => ?_⟩
    refine lc_tup (xs := C.votes.map nV) (fun i H' => ∃ hs rgs bks, HuesAt K X H' D i C.bank hs rgs bks) ⟨[], [], [], rfl, rfl, rfl, upd_same, List.nodup_nil, by simp, fun j x h => by simp at h, fun r h => (by cases h), fun r h => (by cases h), same_upd hD, fun x h => by simp at h; rw [h]; exact hD⟩ (fun j H' _ e => ?_) (fun j y H' hi e => ?_) (fun H' e => ?_)
    · obtain ⟨hs, rgs, bks, A⟩ := e
      exact SqT.of (A.same _ _ e2)
    · obtain ⟨hs, rgs, bks, A⟩ := e
      have hj : j < C.votes.length := by have := (List.getElem?_eq_some_iff.mp hi).1; rw [List.length_map] at this; exact this
      have e1' := A.same _ _ e1
      have e3' := A.same _ _ e3
      iterate 3 first | refine ⟨_, rfl, ?_⟩ | refine ⟨rfl, ?_⟩ | refine ⟨_, _, _, _, rfl, rfl, SqT.of (by repeat (first | assumption | exact upd_same .. | refine u1 (by assumption) ?_ | refine um (by assumption) ?_ | refine sa (by assumption) ?_)), atI_nat (j := 3) rfl, ?_⟩
      intro x dx2 hx hdx hne
      have sM : Same H' (upd (upd H' dx2 (.own x)) x (.ins (CHs K) dx2 [])) := (same_upd hdx).trans (same_upd (by rw [upd_ne hne.symm]; exact hx))
      refine ⟨x, dx2, ba, C.bank, rfl, upd_same, sM _ _ e3', by omega, fun rg bk ch H3 h1 h2 h3 hrb ho hr3 hb3 hc3 hf => ⟨rfl, ?_⟩⟩
      have s3 : Same H' H3 := hf.same sM (fun z hz => by rw [List.mem_singleton.mp hz]; exact hx)
      refine ⟨hs.map V.ref, s3 _ _ A.ls, by rw [List.length_map, A.lh]; omega, hs ++ [x], rgs ++ [rg], bks ++ [bk], ?_⟩
      have z := A.add hx (same_none sM h1) (same_none sM h2) hrb s3 ho hr3 hb3 hc3
      rw [List.map_append] at z
      exact z
    · obtain ⟨hs, rgs, bks, A⟩ := e
      rw [List.length_map] at A
      have hm1 := A.same _ _ hmX
      have nm : ∀ z ∈ D :: (hs ++ (rgs ++ bks)), z ≠ m := fun z hz e => by have := A.fr z hz; rw [e, hmX] at this; cases this
      iterate 3 first | refine ⟨_, rfl, ?_⟩ | refine ⟨_, _, _, _, rfl, (by repeat (first | assumption | exact upd_same .. | refine u1 (by assumption) ?_ | refine um (by assumption) ?_ | refine sa (by assumption) ?_)), T.cl_Machine, T.no_Machine_m_hues, of_decide_eq_true rfl, ?_⟩
      have kp : ∀ b y, H' b = some y → b ≠ m → upd H' m (.ins (CM K) dx (putF "m_hues" (.ref D) [("m_code", .ref a)])) b = some y := fun b y h n => um n h
      have hmY : upd H' m (.ins (CM K) dx (putF "m_hues" (.ref D) [("m_code", .ref a)])) m = some (.ins (CM K) dx [("m_code", .ref a), ("m_hues", .ref D)]) := upd_same
      generalize upd H' m _ = Y at kp hmY ⊢
      have nim : i ≠ m := fun e => by rw [e, h0m] at hinp; cases hinp
      have hiY := kp _ _ (A.same _ _ hiX) nim
      refine ⟨_, _, rfl, .inl (SqL.of (by repeat (first | assumption | exact upd_same .. | refine u1 (by assumption) ?_ | refine um (by assumption) ?_ | refine sa (by assumption) ?_))), ?_⟩
      intro lf hlf
      iterate 3 first | refine ⟨_, rfl, ?_⟩ | refine ⟨_, _, _, _, rfl, (by repeat (first | assumption | exact upd_same .. | refine u1 (by assumption) ?_ | refine um (by assumption) ?_ | refine sa (by assumption) ?_)), T.cl_Machine, T.no_Machine_m_left, of_decide_eq_true rfl, ?_⟩
      have hm9 := u1 (o := .lst (inp.map nV)) hlf hmY
      obtain ⟨k1, k1l, n1⟩ := stepM (o := .lst (inp.map nV)) (x := .ins (CM K) dx (putF "m_left" (.ref lf) [("m_code", .ref a), ("m_hues", .ref D)])) hmY hlf
      have hmY1 : upd (upd Y lf (.lst (inp.map nV))) m (.ins (CM K) dx (putF "m_left" (.ref lf) [("m_code", .ref a), ("m_hues", .ref D)])) m = some (.ins (CM K) dx [("m_code", .ref a), ("m_hues", .ref D), ("m_left", .ref lf)]) := upd_same
      generalize upd (upd Y lf (.lst (inp.map nV))) m _ = Y1 at k1 k1l hmY1 ⊢
      refine ⟨_, _, rfl, .inr (ME.sq _), fun sv hsv => ?_⟩
      have hm9 := u1 (o := .lst []) hsv hmY1
      iterate 11 first | refine ⟨_, rfl, ?_⟩ | refine ⟨_, _, _, _, rfl, (by repeat (first | assumption | exact upd_same .. | refine u1 (by assumption) ?_ | refine um (by assumption) ?_ | refine sa (by assumption) ?_)), T.cl_Machine, T.no_Machine_m_strikes, of_decide_eq_true rfl, ?_⟩ | refine ⟨_, _, _, _, rfl, (by repeat (first | assumption | exact upd_same .. | refine u1 (by assumption) ?_ | refine um (by assumption) ?_ | refine sa (by assumption) ?_)), T.cl_Machine, T.no_Machine_m_row, of_decide_eq_true rfl, ?_⟩ | refine ⟨_, _, _, _, rfl, (by repeat (first | assumption | exact upd_same .. | refine u1 (by assumption) ?_ | refine um (by assumption) ?_ | refine sa (by assumption) ?_)), T.cl_Machine, T.no_Machine_m_steps, of_decide_eq_true rfl, ?_⟩ | refine ⟨_, _, _, _, rfl, (by repeat (first | assumption | exact upd_same .. | refine u1 (by assumption) ?_ | refine um (by assumption) ?_ | refine sa (by assumption) ?_)), T.cl_Machine, T.no_Machine_m_state, of_decide_eq_true rfl, ?_⟩ | refine ⟨_, _, _, _, rfl, (by repeat (first | assumption | exact upd_same .. | refine u1 (by assumption) ?_ | refine um (by assumption) ?_ | refine sa (by assumption) ?_)), T.cl_Machine, T.no_Machine_address, of_decide_eq_true rfl, ?_⟩ | refine ⟨le_line (of_decide_eq_true rfl), fun t ht => ?_⟩
      obtain ⟨k2, k2l, n2⟩ := stepM (o := .lst []) (x := .ins (CM K) dx (putF "m_strikes" (.ref sv) [("m_code", .ref a), ("m_hues", .ref D), ("m_left", .ref lf)])) hmY1 hsv
      have hmY2 : upd (upd Y1 sv (.lst [])) m (.ins (CM K) dx (putF "m_strikes" (.ref sv) [("m_code", .ref a), ("m_hues", .ref D), ("m_left", .ref lf)])) m = some (.ins (CM K) dx [("m_code", .ref a), ("m_hues", .ref D), ("m_left", .ref lf), ("m_strikes", .ref sv)]) := upd_same
      have klf2 := k2 _ _ k1l n1
      generalize upd (upd Y1 sv (.lst [])) m _ = Y2 at k2 k2l hmY2 klf2 ht ⊢
      rw [upd_upd, upd_upd, upd_upd]
      obtain ⟨k3, k3l, n3⟩ := stepM (o := .lst []) (x := .ins (CM K) dx (machFs a D lf sv t 0 "running")) hmY2 ht
      refine k hs (upd (upd Y2 t (.lst [])) m (.ins (CM K) dx (machFs a D lf sv t 0 "running"))) ?_
      have hmZ : upd (upd Y2 t (.lst [])) m (.ins (CM K) dx (machFs a D lf sv t 0 "running")) m = some (.ins (CM K) dx (machFs a D lf sv t 0 "running")) := upd_same
      have klf3 := k3 _ _ klf2 n1
      generalize upd (upd Y2 t (.lst [])) m (.ins (CM K) dx (machFs a D lf sv t 0 "running")) = Z at k3 k3l klf3 hmZ ⊢
      have KP : ∀ b y, H' b = some y → b ≠ m → Z b = some y := fun b y h n => k3 _ _ (k2 _ _ (k1 _ _ (kp _ _ h n) n) n) n
      have KY : ∀ b y, H' b = some y → b ≠ m → Y b = some y ∧ Y1 b = some y ∧ Y2 b = some y := fun b y h n => ⟨kp _ _ h n, k1 _ _ (kp _ _ h n) n, k2 _ _ (k1 _ _ (kp _ _ h n) n) n⟩
      have sZ : Same H0 Z := fun b y h => KP b y (A.same _ _ (sX _ _ h)) (fun e => by rw [e, h0m] at h; cases h)
      have lst : ∀ q ∈ D :: (rgs ++ bks), ∃ y, H' q = some (.lst y) := fun q hq => by
        rcases List.mem_cons.mp hq with z | z
        · rw [z]; exact ⟨_, A.ls⟩
        · rcases List.mem_append.mp z with z | z
          · exact ⟨_, A.rg q z⟩
          · exact ⟨_, A.bk q z⟩
      have nm2 : ∀ q ∈ D :: (rgs ++ bks), q ≠ m := fun q hq => nm q (by
        rcases List.mem_cons.mp hq with z | z
        · simp [z]
        · rcases List.mem_append.mp z with z | z <;> simp [z])
      have nlf : lf ∉ D :: (rgs ++ bks) := fun z => by
        obtain ⟨y, hy⟩ := lst lf z
        rw [(KY _ _ hy (nm2 _ z)).1] at hlf; cases hlf
      have nrw : t ∉ D :: (rgs ++ bks) := fun z => by
        obtain ⟨y, hy⟩ := lst t z
        rw [(KY _ _ hy (nm2 _ z)).2.2] at ht; cases ht
      have nlr : lf ≠ t := fun e => by rw [← e, klf2] at ht; cases ht
      obtain ⟨q1, q2⟩ := List.nodup_cons.mp A.ndl
      have hlen : (rgs ++ bks).length = 2 * C.h := by rw [List.length_append, A.lr, A.lb]; show C.votes.length + C.votes.length = 2 * C.votes.length; omega
      have hlr : rgs.length = C.h := A.lr
      have hlb : bks.length = C.h := A.lb
      have g0 : ((rgs ++ bks) ++ [lf, t, D]).getD (2 * C.h) 0 = lf := by rw [getD_app_ge (by omega), hlen, Nat.sub_self]; rfl
      have g1 : ((rgs ++ bks) ++ [lf, t, D]).getD (2 * C.h + 1) 0 = t := by rw [getD_app_ge (by omega), hlen, show 2 * C.h + 1 - 2 * C.h = 1 by omega]; rfl
      have g2 : ((rgs ++ bks) ++ [lf, t, D]).getD (2 * C.h + 2) 0 = D := by rw [getD_app_ge (by omega), hlen, show 2 * C.h + 2 - 2 * C.h = 2 by omega]; rfl
      have gr : ∀ i < C.h, ((rgs ++ bks) ++ [lf, t, D]).getD i 0 = rgs.getD i 0 := fun i hi => by rw [getD_app_lt (by omega), getD_app_lt (by omega)]
      have gb : ∀ i < C.h, ((rgs ++ bks) ++ [lf, t, D]).getD (C.h + i) 0 = bks.getD i 0 := fun i hi => by rw [getD_app_lt (by omega), getD_app_ge (by omega), hlr, Nat.add_sub_cancel_left]
      refine ⟨dx, sv, (rgs ++ bks) ++ [lf, t, D], fun k => if k < C.h then (List.replicate 8 0).map nV else if k < 2 * C.h then C.bank.map nV else if k = 2 * C.h then inp.map nV else if k = 2 * C.h + 1 then [] else hs.map V.ref, 0, ⟨?_, A.lh, by simp [hlr, hlb]; omega, ?_, ?_, fun j l hj => ?_, fun j x hx => ?_, sZ, fun x hx => ?_⟩, fun j hj => ?_, fun j hj => ?_, ?_, ?_, ?_⟩
      · rw [g0, g1, g2]; exact hmZ
      · rw [List.nodup_append]
        refine ⟨q2, ?_, fun p hp q hq e => ?_⟩
        · refine List.nodup_cons.mpr ⟨fun z => ?_, List.nodup_cons.mpr ⟨fun z => ?_, by simp⟩⟩
          · simp only [List.mem_cons, List.not_mem_nil, or_false] at z
            rcases z with z | z
            · exact nlr z
            · exact nlf (by rw [z]; exact List.mem_cons_self ..)
          · rw [List.mem_singleton] at z
            exact nrw (by rw [z]; exact List.mem_cons_self ..)
        · subst e
          simp only [List.mem_cons, List.not_mem_nil, or_false] at hq
          rcases hq with z | z | z
          · exact nlf (by rw [← z]; exact List.mem_cons_of_mem _ hp)
          · exact nrw (by rw [← z]; exact List.mem_cons_of_mem _ hp)
          · exact q1 (by rw [← z]; exact hp)
      · exact List.nodup_cons.mpr ⟨fun z => nm m (by simp [z]) rfl, A.ndh⟩
      · by_cases e1 : j < C.h
        · rw [List.getElem?_append_left (by omega), List.getElem?_append_left (by omega)] at hj
          show Z l = some (.lst (if j < C.h then _ else _))
          rw [if_pos e1]
          have hm2 := List.mem_of_getElem? hj
          exact KP _ _ (A.rg l hm2) (nm2 l (by simp [hm2]))
        · by_cases e2 : j < 2 * C.h
          · rw [List.getElem?_append_left (by omega), List.getElem?_append_right (by omega)] at hj
            show Z l = some (.lst (if j < C.h then _ else if j < 2 * C.h then _ else _))
            rw [if_neg e1, if_pos e2]
            have hm2 := List.mem_of_getElem? hj
            exact KP _ _ (A.bk l hm2) (nm2 l (by simp [hm2]))
          · rw [List.getElem?_append_right (by omega), hlen] at hj
            have hj3 := (List.getElem?_eq_some_iff.mp hj).1
            simp only [List.length_cons, List.length_nil] at hj3
            show Z l = some (.lst (if j < C.h then _ else if j < 2 * C.h then _ else if j = 2 * C.h then _ else if j = 2 * C.h + 1 then _ else _))
            rw [if_neg e1, if_neg e2]
            by_cases e3 : j = 2 * C.h
            · rw [if_pos e3]
              rw [e3, Nat.sub_self] at hj
              cases hj
              exact klf3
            · rw [if_neg e3]
              by_cases e4 : j = 2 * C.h + 1
              · rw [if_pos e4]
                rw [e4, show 2 * C.h + 1 - 2 * C.h = 1 by omega] at hj
                cases hj
                exact k3l
              · rw [if_neg e4]
                rw [show j - 2 * C.h = 2 by omega] at hj
                cases hj
                exact KP _ _ A.ls (nm2 D (List.mem_cons_self ..))
      · have hjh : j < C.h := by have := (List.getElem?_eq_some_iff.mp hx).1; rw [A.lh] at this; exact this
        obtain ⟨dx3, ch, h1, h2⟩ := A.hue j x hx
        refine ⟨dx3, ch, ?_, ?_⟩
        · rw [gr j hjh, gb j hjh]
          exact KP _ _ h1 (nm x (by simp [List.mem_of_getElem? hx]))
        · exact KP _ _ h2 (fun e => by rw [e, hm1] at h2; cases h2)
      · have same0 : ∀ {q}, H' q = none → H0 q = none := fun {q} h => by
          cases e : H0 q with
          | none => rfl
          | some y => rw [A.same _ _ (sX _ _ e)] at h; cases h
        have hn : ∀ q ∈ D :: (hs ++ (rgs ++ bks)), H0 q = none := fun q hq => same_none sX (A.fr q hq)
        have up : ∀ {q}, q ≠ m → Y q = none → H0 q = none := fun {q} nq h => by
          cases e : H0 q with
          | none => rfl
          | some y => rw [(KY _ _ (A.same _ _ (sX _ _ e)) nq).1] at h; cases h
        have up2 : ∀ {q}, q ≠ m → Y2 q = none → H0 q = none := fun {q} nq h => by
          cases e : H0 q with
          | none => rfl
          | some y => rw [(KY _ _ (A.same _ _ (sX _ _ e)) nq).2.2] at h; cases h
        rcases List.mem_cons.mp hx with z | z
        · rw [z]; exact h0m
        · rcases List.mem_append.mp z with z | z
          · exact hn x (by simp [z])
          · rcases List.mem_append.mp z with z | z
            · exact hn x (by rcases List.mem_append.mp z with z | z <;> simp [z])
            · simp only [List.mem_cons, List.not_mem_nil, or_false] at z
              rcases z with z | z | z
              · rw [z]; exact up n1 hlf
              · rw [z]; exact up2 n3 ht
              · exact hn x (by simp [z])
      · show (if j < C.h then _ else _) = _
        rw [if_pos hj]
        unfold regL
        refine List.ext_getElem? fun z => ?_
        by_cases hz : z < 8
        · rw [range_get _ hz, List.getElem?_map, List.getElem?_replicate, if_pos hz]
          show some (nV 0) = some (nV (if z < 8 then 0 else C.bank.getD (z - 8) 0))
          rw [if_pos hz]
        · rw [List.getElem?_eq_none (by simp; omega), List.getElem?_eq_none (by simp; omega)]
      · show (if C.h + j < C.h then _ else if C.h + j < 2 * C.h then _ else _) = _
        rw [if_neg (by omega), if_pos (by omega)]
        unfold bankL
        refine List.ext_getElem? fun z => ?_
        by_cases hz : z < C.bank.length
        · rw [range_get _ hz, List.getElem?_map, List.getElem?_eq_getElem hz]
          show some (nV C.bank[z]) = some (nV (if 8 + z < 8 then 0 else C.bank.getD (8 + z - 8) 0))
          rw [if_neg (by omega), Nat.add_sub_cancel_left, List.getD_eq_getElem?_getD, List.getElem?_eq_getElem hz]; rfl
        · rw [List.getElem?_eq_none (by simp; omega), List.getElem?_eq_none (by simp; omega)]
      · show (if 2 * C.h < C.h then _ else if 2 * C.h < 2 * C.h then _ else if 2 * C.h = 2 * C.h then _ else _) = _
        rw [if_neg (by omega), if_neg (by omega), if_pos rfl]; rfl
      · show (if 2 * C.h + 1 < C.h then (List.replicate 8 0).map nV else if 2 * C.h + 1 < 2 * C.h then C.bank.map nV else if 2 * C.h + 1 = 2 * C.h then inp.map nV else if 2 * C.h + 1 = 2 * C.h + 1 then [] else hs.map V.ref).length ≤ 0
        rw [if_neg (by omega), if_neg (by omega), if_neg (by omega), if_pos rfl]; exact Nat.le_refl _
      · show (if 2 * C.h + 2 < C.h then _ else if 2 * C.h + 2 < 2 * C.h then _ else if 2 * C.h + 2 = 2 * C.h then _ else if 2 * C.h + 2 = 2 * C.h + 1 then _ else hs.map V.ref) = _
        rw [if_neg (by omega), if_neg (by omega), if_neg (by omega), if_neg (by omega)]
end Hw
namespace Hw
open PySem PySem.Spec PyProof.Rows L2
variable {P : Program} {w : World} {K : PySem.W.Frag} {mg : Str → Option Value} {base : Heap}
abbrev s_first_parting : Stmt := top 76
abbrev N_first_parting : List Str := ["code", "inputs", "steps", "machine", "step", "address"]
theorem sc_first_parting : FnScope N_first_parting ["code", "inputs", "steps"] (defScope s_first_parting) := ⟨rfl, rfl, rfl, by decide +kernel, rfl, by decide +kernel, by decide +kernel⟩
theorem step_unan {num tk : Nat → Nat} {h many : Nat} {s : SS Nat} {c : Cell} (hc : c.hue = none) :
    (unan h many s c = true → c = .stop ∨ ∃ s', step num tk h many s c = .go s') ∧ (unan h many s c = false → ∃ u, step num tk h many s c = .bad u) := by
  cases c with
  | take b w => exact ⟨fun _ => .inr ⟨_, rfl⟩, fun e => by cases e⟩
  | stop => exact ⟨fun _ => .inl rfl, fun e => by cases e⟩
  | sho p w =>
    constructor
    · intro e
      have e2 : (unlike ((List.range w).map s.S)).isNone = true := e
      cases q : unlike ((List.range w).map s.S) with
      | none => exact .inr ⟨_, by simp only [step]; rw [q]⟩
      | some u => rw [q] at e2; cases e2
    · intro e
      have e2 : (unlike ((List.range w).map s.S)).isNone = false := e
      cases q : unlike ((List.range w).map s.S) with
      | none => rw [q] at e2; cases e2
      | some u => exact ⟨u, by simp only [step]; rw [q]⟩
  | mark =>
    constructor
    · intro e
      have e2 : (marked h many s.F).isNone = true := e
      cases q : marked h many s.F with
      | none => exact .inr ⟨_, by simp only [step]; rw [q]⟩
      | some u => rw [q] at e2; cases e2
    · intro e
      have e2 : (marked h many s.F).isNone = false := e
      cases q : marked h many s.F with
      | none => rw [q] at e2; cases e2
      | some u => exact ⟨u, by simp only [step]; rw [q]⟩
  | _ => cases hc
theorem step_hue {num tk : Nat → Nat} {h many i : Nat} {s : SS Nat} {c : Cell} (hc : c.hue = some i) : ∃ s', step num tk h many s c = .go s' := by
  cases c with
  | set i b n => exact ⟨_, rfl⟩
  | get i b n z => exact ⟨_, rfl⟩
  | put i b n z => exact ⟨_, rfl⟩
  | offer i b => exact ⟨_, rfl⟩
  | _ => cases hc
theorem drop_at {α : Type} {l : List α} {d : Nat} {c : α} (h : l[d]? = some c) : l.drop d = c :: l.drop (d + 1) := by
  obtain ⟨h1, h2⟩ := List.getElem?_eq_some_iff.mp h
  rw [List.drop_eq_getElem_cons h1, h2]
theorem MachA.stt {K : PySem.W.Frag} {H0 H : Hp} {m a : Addr} {hs : List Addr} {C : Code} {inp : List Nat} {s : SS Nat} {P : Nat → Nat} {st : Str} {bud : Nat} (M : MachA K H0 H m a hs C inp s P st bud) :
    ∃ dx hl lf sv rw0 steps, H m = some (.ins (CM K) dx [("m_code", .ref a), ("m_hues", .ref hl), ("m_left", .ref lf), ("m_strikes", .ref sv), ("m_row", .ref rw0), ("m_steps", .int steps), ("m_state", .str st), ("address", .int 0)]) := by
  obtain ⟨dxm, sv, L, cont, steps, M, _⟩ := M.ex
  exact ⟨_, _, _, _, _, _, M.ob⟩
def oN : Option (Nat × Option (Nat × Nat)) → V
  | none => .non
  | some (d, _) => nV d
def sp_first_parting (K : PySem.W.Frag) : Sp := fun vs H Q _ => ∃ (a i : Addr) (C : Code) (inp : List Nat) (n : Nat), vs = [.ref a, .ref i, nV n] ∧ IsCode H a C ∧ C.Ok ∧ H i = some (.lst (inp.map nV)) ∧ inp.length ≤ 400 ∧ (∀ n ∈ inp, n ≤ 9999) ∧ C.cells.length + 1 ≤ n ∧ n ≤ 1000 ∧
  ∀ H', Same H H' → Q (oN (run id (tkI inp C.size) C.h (8 + C.bank.length) C.cells (m0 C) 0)) H'
theorem C_first_parting (T : Txt K mg) {e : Addr} (ME : MkM K mg e) : C8.Cal P w K mg base 10 "first_parting" (sp_first_parting K) [] := by
  have C_Machine := C_Machine (P := P) (w := w) (base := base) T ME
  have C_need_steps := C_need_steps (P := P) (w := w) (base := base) T
  have C_machine_address := C_machine_address (P := P) (w := w) (base := base) T
  have C_is_settle := C_is_settle (P := P) (w := w) (base := base) T
  have C_is_unanimous := C_is_unanimous (P := P) (w := w) (base := base) T
  have C_machine_step := C_machine_step (P := P) (w := w) (base := base) T
  refine cal (N := N_first_parting) (ps := ["code", "inputs", "steps"]) T.d_first_parting (fun _ _ _ _ _ _ us hl => match us, hl with | [_, _, _], _ => rfl) sc_first_parting (fun vs H Q E h => ?_) (fun f cdv A outer s H vs Q E hr h => ?_)
  · obtain ⟨a, i, C, inp, n, rfl, _⟩ := h
    rfl
  · obtain ⟨a, i, C, inp, n, rfl, hcode, ok, hinp, hl, hle, hn1, hn2, k⟩ := h
    obtain ⟨va, ca, ba, vs, hc⟩ := hcode
    refine ⟨_, (pss_cons (ps_set (i := 3) sc_first_parting.nd rfl (by first | exact .inl rfl | exact .inr rfl) (C8.pe_mk C_Machine hr (by decide) rfl (pa_cons (pv 0) (pa_cons (pv 1) pa_nil))))
    (pss_cons (ps_expr (C8.pe_c C_need_steps hr (by decide) rfl (pa_cons (pv 2) pa_nil)))
    (pss_cons (ps_for PassesOwn.never rfl (pi_range1 (by rfl) T.b_range (pa_cons (pv 2) pa_nil)) (pg_name (i := 4) sc_first_parting.nd rfl (by first | exact .inl rfl | exact .inr rfl)) (pss_cons (ps_if (pt_cmpR op_ne (pe_fldK (K := K) rfl (pv 3) rfl) pe_str (nomark _)) (pss_one (ps_ret pe_non)) pss_nil)
    (pss_cons (ps_set (i := 5) sc_first_parting.nd rfl (by first | exact .inl rfl | exact .inr rfl) (C8.pe_c C_machine_address hr (by decide) rfl (pa_cons (pv 3) pa_nil)))
    (pss_cons (ps_if (PW.pt (pw_or (pt_cmpR op_isN (pv 5) pe_non (nomark _)) (pw_or1 (PW.pt (pw_and (pt_val (C8.pe_c C_is_settle hr (by decide) rfl (pa_cons (pe_ix (ix_tupK (K := K) rfl) (pe_ix (ix_tupK (K := K) rfl) (pv 0) pe_int (fun _ _ => rfl)) (pv 5) (fun _ _ => rfl)) pa_nil))) (pw_and1 (pt_not (pt_val (C8.pe_c C_is_unanimous hr (by decide) rfl (pa_cons (pv 3) (pa_cons (pe_ix (ix_tupK (K := K) rfl) (pe_ix (ix_tupK (K := K) rfl) (pv 0) pe_int (fun _ _ => rfl)) (pv 5) (fun _ _ => rfl)) pa_nil))))))))))) (pss_one (ps_ret (pv 4))) pss_nil)
    (pss_one (ps_expr (C8.pe_c C_machine_step hr (by decide) rfl (pa_cons (pv 3) pa_nil))))))))
    (pss_one (ps_ret pe_non))))), ?_⟩
    refine ⟨_, rfl, ?_⟩
    refine ⟨_, rfl, ?_⟩
    intro m dx hm hdx hne
    refine ⟨H, m, dx, a, i, C, inp, rfl, upd_same, (same_upd hdx).trans (same_upd (by rw [upd_ne hne.symm]; exact hm)), hm, ⟨va, ca, ba, vs, hc⟩, ok, hinp, hl, hle, fun hs H1 M1 => ⟨rfl, ?_⟩⟩
    refine ⟨_, rfl, ?_⟩
    refine ⟨_, rfl, ?_⟩
    refine ⟨by omega, fun H2 s2 => ?_⟩
    have M2 := M1.keep s2
    refine ⟨_, rfl, ?_⟩
    refine ⟨_, rfl, ?_⟩
    have p62 : (2 : Int) ^ 62 = 4611686018427387904 := by decide
    refine ⟨by rw [p62]; omega, by rw [p62]; omega, ?_⟩
    obtain ⟨R, hR⟩ : ∃ r, r = run id (tkI inp C.size) C.h (8 + C.bank.length) C.cells (m0 C) 0 := ⟨_, rfl⟩
    rw [← hR] at k
    refine for_range (lo := 0) (n := n) (fun d σ Y => (∃ l4 l5, σ = [some (V.ref a), some (V.ref i), some (nV n), some (V.ref m), l4, l5]) ∧
      ((∃ s Pt, d ≤ C.cells.length ∧ (∀ j < C.h, Pt j = d) ∧ MachA K H Y m a hs C inp s Pt "running" d ∧ run id (tkI inp C.size) C.h (8 + C.bank.length) (C.cells.drop d) s d = R) ∨ (R = none ∧ ∃ s Pt b, MachA K H Y m a hs C inp s Pt "stopped" b)))
      ⟨⟨_, _, rfl⟩, .inl ⟨m0 C, fun _ => 0, Nat.zero_le _, fun _ _ => rfl, M2, by rw [hR]; rfl⟩⟩ (fun d σ Y hd q => ?_) (fun σ Y q => ?_)
    · obtain ⟨⟨l4, l5, rfl⟩, q⟩ := q
      rw [show (0 : Int) + (d : Nat) = (d : Nat) by omega]
      rcases q with ⟨s, Pt, hdl, hPt, MY, hrun⟩ | ⟨hnone, s, Pt, b, MY⟩
      · have ob := MY.stt
        obtain ⟨x1, x2, x3, x4, x5, x6, ob⟩ := ob
        iterate 6 first | refine iteF ?_ | refine ⟨_, rfl, ?_⟩ | refine ⟨rfl, ?_⟩ | refine ⟨_, _, _, _, _, rfl, (by repeat (first | assumption | exact upd_same .. | refine u1 (by assumption) ?_ | refine um (by assumption) ?_ | refine sa (by assumption) ?_)), T.cl_Machine, T.no_Machine_m_state, by rfl, ?_⟩
        refine ⟨H, m, a, hs, C, inp, s, Pt, "running", d, d, rfl, MY, ⟨va, ca, ba, vs, hc⟩, ok, hPt, fun Y1 s1 => ?_⟩
        have MY1 := MY.keep s1
        have obY1 := s1 _ _ ob
        by_cases hlt : d < C.cells.length
        · rw [if_pos hlt]
          obtain ⟨c, hcd⟩ : ∃ c, C.cells[d]? = some c := ⟨_, List.getElem?_eq_getElem hlt⟩
          rw [drop_at hcd] at hrun
          have hcY := hc.same MY1.same
          have e1 := hcY.top
          have e3 := hcY.ce
          obtain ⟨vl, hcs⟩ := hcY.cs
          obtain ⟨v, hv⟩ : ∃ v, vs[d]? = some v := ⟨_, List.getElem?_eq_getElem (by omega)⟩
          obtain ⟨q, rfl, hqY⟩ := hcs d v c hv hcd
          obtain ⟨q0, e0, hq0⟩ := hc.cs.2 d _ c hv hcd
          cases e0
          have okc := ok.ce c (List.mem_of_getElem? hcd)
          obtain ⟨x0, xs0, hx1, hx2, hx3, hx4⟩ := cell_hd c
          iterate 8 first | refine iteF ?_ | refine ⟨_, rfl, ?_⟩ | refine ⟨rfl, ?_⟩ | refine ⟨_, _, _, _, rfl, rfl, SqT.of (by repeat (first | assumption | exact upd_same .. | refine u1 (by assumption) ?_ | refine um (by assumption) ?_ | refine sa (by assumption) ?_)), atI_nat (j := 2) rfl, ?_⟩ | refine ⟨_, _, _, _, rfl, rfl, SqT.of (by repeat (first | assumption | exact upd_same .. | refine u1 (by assumption) ?_ | refine um (by assumption) ?_ | refine sa (by assumption) ?_)), atI_nat (by assumption), ?_⟩
          have go : ∀ s', step id (tkI inp C.size) C.h (8 + C.bank.length) s c = .go s' → R = run id (tkI inp C.size) C.h (8 + C.bank.length) (C.cells.drop (d + 1)) s' (d + 1) := fun s' hs' => by
            rw [← hrun]
            simp only [run]
            rw [hs']
          have sto : c = .stop → R = none := fun e => by
            rw [← hrun, e]; rfl
          refine ⟨q, x0, xs0, rfl, by rw [← hx1]; exact hqY, hx2, _, rfl, ?_⟩
          rw [hx3]
          cases hh : c.hue with
          | none =>
            refine itBT rfl ?_
            iterate 5 first | refine ⟨_, rfl, ?_⟩ | refine ⟨_, _, _, _, rfl, rfl, SqT.of (by repeat (first | assumption | exact upd_same .. | refine u1 (by assumption) ?_ | refine um (by assumption) ?_ | refine sa (by assumption) ?_)), atI_nat (j := 2) rfl, ?_⟩ | refine ⟨_, _, _, _, rfl, rfl, SqT.of (by repeat (first | assumption | exact upd_same .. | refine u1 (by assumption) ?_ | refine um (by assumption) ?_ | refine sa (by assumption) ?_)), atI_nat (by assumption), ?_⟩
            refine ⟨H, m, a, q, hs, C, inp, s, Pt, "running", d, c, rfl, MY1, hq0, hh, ok, okc, fun Y2 s2 => ?_⟩
            have MY2 := MY1.keep s2
            cases hu : unan C.h (8 + C.bank.length) s c with
            | true =>
              iterate 3 first | refine iteF ?_ | refine ⟨_, rfl, ?_⟩
              refine ⟨H, m, a, hs, C, inp, s, Pt, "running", d, d, c, rfl, MY2, ⟨va, ca, ba, vs, hc⟩, ok, by omega, hPt, hcd, fun _ => hu, fun s' hs' H' Pt' hp' M' => ?_, fun hs' H' Pt' M' => ?_⟩
              · skip
                exact ⟨⟨_, _, rfl⟩, .inl ⟨s', Pt', by omega, hp', M', (go s' hs').symm⟩⟩
              · skip
                exact ⟨⟨_, _, rfl⟩, .inr ⟨sto hs', s, Pt', _, M'⟩⟩
            | false =>
              iterate 3 first | refine iteT ?_ | refine ⟨_, rfl, ?_⟩
              obtain ⟨u, hu2⟩ := (step_unan (num := id) (tk := tkI inp C.size) hh).2 hu
              have hR2 : R = some (d, u) := by
                rw [← hrun]
                simp only [run]
                rw [hu2]
              rw [hR2] at k
              exact k _ MY2.same
          | some j =>
            refine itBF rfl ?_
            iterate 2 first | refine iteF ?_ | refine ⟨_, rfl, ?_⟩
            refine ⟨H, m, a, hs, C, inp, s, Pt, "running", d, d, c, rfl, MY1, ⟨va, ca, ba, vs, hc⟩, ok, by omega, hPt, hcd, (fun e => by rw [e] at hh; cases hh), fun s' hs' H' Pt' hp' M' => ?_, fun hs' H' Pt' M' => ?_⟩
            · skip
              exact ⟨⟨_, _, rfl⟩, .inl ⟨s', Pt', by omega, hp', M', (go s' hs').symm⟩⟩
            · skip
              exact ⟨⟨_, _, rfl⟩, .inr ⟨sto hs', s, Pt', _, M'⟩⟩
        · rw [if_neg hlt]
          iterate 6 first | refine iteT ?_ | refine ⟨_, rfl, ?_⟩ | refine ⟨rfl, ?_⟩
          have hdd : C.cells.drop d = [] := List.drop_eq_nil_of_le (by omega)
          rw [hdd] at hrun
          rw [← hrun] at k
          exact k _ MY1.same
      · have ob := MY.stt
        obtain ⟨x1, x2, x3, x4, x5, x6, ob⟩ := ob
        iterate 5 first | refine iteT ?_ | refine ⟨_, rfl, ?_⟩ | refine ⟨rfl, ?_⟩ | refine ⟨_, _, _, _, _, rfl, (by repeat (first | assumption | exact upd_same .. | refine u1 (by assumption) ?_ | refine um (by assumption) ?_ | refine sa (by assumption) ?_)), T.cl_Machine, T.no_Machine_m_state, by rfl, ?_⟩
        rw [hnone] at k
        exact k _ MY.same
    · obtain ⟨⟨l4, l5, rfl⟩, q⟩ := q
      rcases q with ⟨s, Pt, hdl, hPt, MY, hrun⟩ | ⟨hnone, s, Pt, b, MY⟩
      · omega
      · skip
        rw [hnone] at k
        exact k _ MY.same
end Hw
namespace Hw
open PySem PySem.Spec PyProof.Rows L2
def CauO (cls : Value) (d : Option Addr) (a : Addr) : HO := .ext fun h => ∃ oe : Obj, h.get? a = some oe ∧ Zc cls d oe ∧ ∃ vs : Array Value, oe.data = .fields vs
section
variable {X : Cx} {pins : List (Addr × Obj)} {σ : L2.St} {H : Hp} {s : Shared}
theorem inv_told {a : Addr} {oe : Obj} {vs : Array Value} {cls : Value} {d : Option Addr} (J : Inv X ((a, oe) :: pins) σ H s) (z : Zc cls d oe) (fd : oe.data = .fields vs)
    (old : X.s_0.heap.get? a = none) (oth : ∀ p ∈ X.pn ++ pins, p.1 ≠ a) : Inv X pins σ (upd H a (CauO cls d a)) s := by
  have hp : ∀ p ∈ X.pn ++ pins, p ∈ X.pn ++ (a, oe) :: pins := fun p m => by
    rcases List.mem_append.mp m with q | q
    · exact List.mem_append.mpr (.inl q)
    · exact List.mem_append.mpr (.inr (List.mem_cons_of_mem _ q))
  obtain ⟨p1, p2, p3, p4, p5⟩ := J.pin (a, oe) (List.mem_append.mpr (.inr (List.mem_cons_self ..)))
  dsimp only at p1 p2 p3 p4 p5
  have there : ∀ (b : Addr) (u : HO), H b = some u → upd H a (CauO cls d a) b = some u := fun b u e => (upd_ne (ne_of_none e p2)).trans e
  have B := J.base
  constructor
  case ok => exact J.ok
  case os => exact J.os
  case bare => exact J.bare
  case base =>
    constructor
    case keep => exact B.keep
    case slot => exact B.slot
    case free =>
      intro b o e n x
      have nb : b ≠ a := fun q => by
        rw [q, old] at e
        cases e
      rw [upd_ne nb]
      exact B.free b o e n x
    case there => exact B.there
    case tups => exact fun b xs e => there b _ (B.tups b xs e)
    case frzs => exact fun b o u e => there b _ (B.frzs b o u e)
    case tbls =>
      intro b ps e
      obtain ⟨more, q⟩ := B.tbls b ps e
      exact ⟨more, there b _ q⟩
  case loc => exact J.loc
  case cell => exact J.cell
  case free => exact (upd_ne (Ne.symm p3)).trans J.free
  case freeC =>
    intro x c e
    have nc : c ≠ a := fun q => by
      obtain ⟨v, o, h1, h2⟩ := J.cell x c e
      rw [q, p1] at h1
      cases h1
      exact p5 v h2
    exact (upd_ne nc).trans (J.freeC x c e)
  case pin =>
    intro p m
    obtain ⟨q1, q2, q3, q4, q5⟩ := J.pin p (hp p m)
    exact ⟨q1, (upd_ne (oth p m)).trans q2, q3, q4, q5⟩
  case hok =>
    refine J.hok.laidN (fun _ _ q => q) p2 ⟨⟨oe, p1, z, vs, fd⟩, ⟨oe, p1⟩, ?_⟩
    intro _ _ w st
    obtain ⟨o, w1, w2⟩ := w
    exact ⟨o, st o w1, w2⟩
  case len => exact J.len
def wKeep (K : PySem.W.Frag) (c : Value) (i : Nat) (ts : Addr → TS) (D : Ends) : WX := fun cls d σ H =>
  PySem.W.exmOne K cls c = some true ∧
    ∀ a : Addr, H a = none → ts a { nx := fun τ G => D.nx (τ.set i none) (upd G a (CauO cls d a)), rt := fun _ _ => False, bk := fun _ _ => False, ct := fun _ _ => False } (σ.set i (some (.ref a))) H
theorem ps_try_keep {x n : Str} {c : Value} {i : Nat} {body suite : List Stmt} {b0 : Stmt} {np p1 p2 : Pos} {tb : WX → TS} {ts : Addr → TS}
    (hex : X.ex = []) (hs : X.stack = X.env :: X.outer) (hf : X.env.frame = some X.env.locals) (nd : X.N.Nodup) (hn : X.N[i]? = some n) (loc : X.env.kindOf n = some .local) (nm : Names X x c)
    (hb : ∀ (W : WX) (pn : List (Addr × Obj)) (xe : Value → Shared → Prop), Takes (X.tr pn xe) W → PassesOwn (model X.prog X.w) X.A X.env xe → PSs (X.tr pn xe) body (tb W))
    (hsu : ∀ (a : Addr) (oe : Obj) (pn : List (Addr × Obj)), PSs (X.suite a ((a, oe) :: pn)) (b0 :: suite) (ts a)) :
    PS X (.Try body [.ExceptHandler (some (.Name x np)) (some n) (b0 :: suite) p1] [] [] p2) (fun D σ H => tb (wKeep X.K c i ts D) D σ H) := by
  constructor
  intro pins s σ H D I want
  have ok := I.ok
  have stk : X.A.frames = some (X.env :: X.outer) := ok.frames.trans (congrArg some hs)
  let air : Value → Shared → Prop := fun e t0 => wpAny (model X.prog X.w) X.A (noteFrame e X.env) (fun _ t1 => wpAny (model X.prog X.w) X.A (setFlight e none)
    (fun _ t2 => wpAny (model X.prog X.w) X.A (handleBy e X.env [.ExceptHandler (some (.Name x np)) (some n) (b0 :: suite) p1]) (SP X pins D) X.xe t2) X.xe t1) X.xe t0
  have caught : Takes (X.tr (X.pn ++ pins) air) (wKeep X.K c i ts D) := by
    intro u t0 xx
    obtain ⟨a, B, sI, ps', τ, G, cls, d, rfl, J0, nb, up, sky, na, os, ag, hit, go⟩ := xx
    have J : Inv X pins τ G sI := J0.ofTry ok
    have sky1 : Sky B (X.env :: X.outer) a (Zc cls d) X.env.locals t0.heap := hs ▸ sky
    show air (.ref a) t0
    refine sky1.land Zc.steady stk hf fun g1 fly1 up1 => ?_
    have K1 : Inv X pins τ G { t0 with heap := g1 } := J.landed nb fly1.1 (up.trans up1) os ag
    obtain ⟨o1, v1, get1, z1, f1⟩ := fly1.there
    have noF : a ∉ frs (X.env :: X.outer) := by
      intro m
      obtain ⟨_, o, ho, no⟩ := fly1.2.2.1.mem m
      rw [get1] at ho
      cases ho
      exact no _ f1
    have neL : a ≠ X.env.locals := fun q => noF (by rw [q]; exact List.mem_filterMap.mpr ⟨X.env, List.mem_cons_self .., hf⟩)
    have noO : a ∉ X.fs := fun m => noF (by
      obtain ⟨v, hv, q⟩ := List.mem_filterMap.mp m
      exact List.mem_filterMap.mpr ⟨v, List.mem_cons_of_mem _ hv, q⟩)
    have out : ∀ o : Obj, sI.heap.get? a ≠ some o := fun o q => by
      have q2 := nb a o q (by rw [hs]; exact noF)
      rw [fly1.2.1] at q2
      cases q2
    have oth : ∀ p ∈ X.pn ++ pins, p.1 ≠ a := fun p m q => out p.2 (q ▸ (J.pin p m).1)
    have old : X.s_0.heap.get? a = none := by
      cases e : X.s_0.heap.get? a with
      | none => rfl
      | some o =>
        obtain ⟨o', q⟩ := J.base.there a o e (by rw [hex]; exact List.not_mem_nil)
        exact absurd q (out o')
    have S1 := K1.suite get1 f1 na neL noO
    refine wpAny_handleBy_cons (codeAny_handlers_test ?_) (by intro q; cases q)
    have isT : PySem.W.Looks (model X.prog X.w) g1 (typeOf (.ref a)) cls := fun A Q E t k q => wpAny_typeOf_ref (k _ _ get1) (z1.1.symm ▸ q)
    have isM := PySem.W.exm_one (M := model X.prog X.w) K1.kIn isT hit
    have look : ∀ {Q : Value → Shared → Prop} {E : Value → Shared → Prop}, Q c { t0 with heap := g1 } → wpAny (model X.prog X.w) (X.A.mark (some (.ref a))) (eval (.Name x np) X.env) Q E { t0 with heap := g1 } := by
      intro Q E q
      obtain ⟨g, nd, m | ⟨m, bv, nn⟩⟩ := nm
      · exact ld_glob S1 g m q nd
      · exact ld_blt S1 g m bv q nn nd
    refine look (isM.here (codeAny_handlers_suite_as (HandSPX.lands_againZ fly1 fun g2 fly2 up2 => ?_)))
    have K2 : Inv X pins τ G { t0 with heap := g2 } := J.landed nb fly2.1 ((up.trans up1).trans up2) os ag
    obtain ⟨o2, v2, get2, z2, f2⟩ := fly2.there
    have S2 := K2.suite get2 f2 na neL noO
    refine store_ok (X := X.suite a ((a, o2) :: (X.pn ++ pins))) (v := .ref a) S2 nd hn (.inl loc) rfl (fun t3 S3 => ?_) (.inr loc)
    refine wpAny_mono ((hsu a o2 (X.pn ++ pins)).run [] t3 _ G _ S3 (go a na)) (fun fl t4 w4 => ?_) fun _ _ q => q.elim
    cases fl with
    | brk => exact (show ∃ _ _, _ ∧ False from w4).elim fun _ ⟨_, _, q⟩ => q.elim
    | cont => exact (show ∃ _ _, _ ∧ False from w4).elim fun _ ⟨_, _, q⟩ => q.elim
    | ret u => exact (show ∃ _ _ _, _ ∧ _ ∧ False from w4).elim fun _ ⟨_, _, _, _, q⟩ => q.elim
    | next =>
      obtain ⟨τ4, G4, S4, w4⟩ := w4
      have P4 : Inv X ((a, o2) :: pins) τ4 G4 t4 := (S4.unsuite ok).pins_of fun p m => S4.pin p (by
        rcases List.mem_cons.mp m with q | q
        · exact List.mem_append_left _ (q ▸ List.mem_cons_self ..)
        · exact List.mem_append_left _ (List.mem_cons_of_mem _ (List.mem_append_right _ q)))
      exact gone_ok P4 nd hn loc fun t5 P5 => ⟨_, _, inv_told P5 z2 f2 old oth, w4⟩
  refine wpAny_Try_except (wpAny_mono ((hb _ _ air caught PassesOwn.looking).run [] s σ H D (I.toTry _) want) (fun fl t w => ?_) fun _ _ q => q)
  cases fl with
  | next =>
    obtain ⟨τ, G, J, q⟩ := w
    exact wpAny_execs_nil ⟨τ, G, J.ofTry ok, q⟩
  | ret u =>
    obtain ⟨v, τ, G, J, r, q⟩ := w
    exact ⟨v, τ, G, J.ofTry ok, r, q⟩
  | brk =>
    obtain ⟨τ, G, J, q⟩ := w
    exact ⟨τ, G, J.ofTry ok, q⟩
  | cont =>
    obtain ⟨τ, G, J, q⟩ := w
    exact ⟨τ, G, J.ofTry ok, q⟩
end
section
variable {X : Cx}
theorem held_inst {P : Program} {w : World} {H : Hp} {h : Heap} {a dd D : Addr} {fs : List (Str × V)} (ok : HOk P w H h) (ha : H a = some (CauO (.ref D) (some dd) a)) (hd : H dd = some (.xd fs)) :
    ∃ (oe od : Obj) (m : Str → Option Value), PySem.W.InstAt h a oe D (some od) ∧ (∀ f, PySem.W.lookIn f od = some (m f)) ∧ ∀ f, RelO (fs.lookup f) (m f) := by
  obtain ⟨⟨oe, get, ⟨z1, z2⟩, vs, fd⟩, _, _⟩ := ok a _ ha
  obtain ⟨m, ns, rel⟩ := (show ObjOk P w H h dd (.xd fs) from ok dd _ hd)
  obtain ⟨od, ho, hl⟩ := lookIn_ns ns
  refine ⟨oe, od, m, ⟨get, z1, ?_, by rw [z2]; exact ho⟩, hl, rel⟩
  show PySem.W.notCls oe = true
  unfold PySem.W.notCls
  rw [fd] <;> rfl
def tXfV (K : PySem.W.Frag) (C : Addr) (f : Str) (te : TE) : TE := fun σ H Q => te σ H fun x G => ∃ (a dd : Addr) (fs : List (Str × V)) (v : V), x = .ref a ∧ G a = some (CauO (.ref C) (some dd) a) ∧ G dd = some (.xd fs) ∧ fs.lookup f = some v ∧ Q v G
theorem pe_xfV {C : Addr} {e : Expr} {te : TE} {pos : Pos} {f : Str} (T : XfC X.K C) (no : PySem.W.findIn X.K (.ref C) f = some none) (he : PE X e te) (hb : attributeBase e f X.env (eval e X.env) = eval e X.env := by rfl) :
    PE X (.Attribute e f pos) (tXfV X.K C f te) := by
  constructor
  intro pins s σ H Q I h
  refine attr_of hb (thn (he.run pins s σ H _ I h) fun u t w => ?_)
  obtain ⟨x, G, J, rx, a, dd, fs, v, rfl, h1, h2, h3, q⟩ := w
  obtain rfl : u = Value.ref a := rx
  obtain ⟨oe, od, m, inst, hl, rel⟩ := held_inst J.hok h1 h2
  obtain ⟨z, hz, rz⟩ := RelO.some_of (v := v) (o := m f) (h3 ▸ rel f)
  exact HandSPX.exc_get J.kIn inst T.ga T.gg T.exC (PySem.W.findObj_own T.hdC no rfl (by rw [hl, hz])) (handed_of rz) ⟨v, G, J.tok _, rz, q⟩
def rIsV (K : PySem.W.Frag) : List V → Hp → VK → Prop := fun xs H Q => ∃ (a dd D : Addr) (fs : List (Str × V)) (c : V) (cv : Value) (b : Bool), xs = [.ref a, c] ∧ H a = some (CauO (.ref D) (some dd) a) ∧ H dd = some (.xd fs) ∧ ExcC K D ∧
  (∀ u, RelV c u → u = cv) ∧ PySem.W.kitOne K (.ref D) cv = some b ∧ Q (.bl b) H
theorem call_isV : CallR X (.builtin "isinstance") (rIsV X.K) := by
  intro pins s σ H xs us Q I r h
  obtain ⟨a, dd, D, fs, c, cv, b, rfl, h1, h2, T, hcv, one, q⟩ := h
  match us, r with
  | [u0, u1], .cons r0 (.cons r1 .nil) =>
    obtain rfl : u0 = Value.ref a := r0
    obtain rfl := hcv _ r1
    obtain ⟨oe, od, m, inst, _, _⟩ := held_inst I.hok h1 h2
    obtain ⟨cd, hcd, _⟩ := PySem.W.any_some T.hd
    have kx := PySem.W.kitx_exc (od := some od) (ox := oe) (x := a) (Option.isSome_iff_exists.mpr ⟨cd, hcd⟩) T.hg T.hk T.hs T.ha T.hn T.ht T.hm
    exact PySem.W.kia_one kx I.kIn inst one (fun z => nomatch z) fun tk => ⟨.bl b, H, I.kept (t' := tk) fun _ _ z => z, rfl, q⟩
theorem call_isVK {K : PySem.W.Frag} (h : X.K = K) : CallR X (.builtin "isinstance") (rIsV K) := h ▸ call_isV
theorem pe_callV {CX : CXT} {k i : Nat} {f : Addr} {fd : FuncData} {ps : List Str} {sp : Sp} {E : XK} {a : Str} {p pos : Pos} {e : Expr} {es : List Expr} {t : TA} (F : FnOk X.prog X.w X.K X.mg X.base CX k f fd ps sp) (hr : Room k X.A) (hk : PySem.W.keepIn X.K (.ref f) = true) (hb : Binds X.K fd ps [])
    (hx : Passes CX X E) (hN : X.N[i]? = some a) (hv : Vis X.env.scope a) (ha : PA X (e :: es) t) (d1 : (a == ("__debug__" : Str)) = false := by decide) (d2 : (a == ("__classdict__" : Str)) = false := by decide)
    (he : starEach (e :: es) X.env = (false, eval e X.env) :: starEach es X.env := by rfl) (hpl : (backTo pos (starEach es X.env)).any (·.1) = false := by rfl) :
    PE X (.Call (.Name a p) (e :: es) [] pos) (fun σ H Q => σ[i]? = some (some (.ref f)) ∧ t σ H fun vs G => sp vs G Q E) := by
  constructor
  intro pins s σ H Q I h
  refine wpAny_Call_Name_kw (thn ((pe_var (pos := p) (i := i) hN hv d1 d2).run pins s σ H (fun v G => v = .ref f ∧ G = H) I ⟨.ref f, h.1, rfl, rfl⟩) fun u t1 w1 => ?_)
  obtain ⟨v, G, I1, r1, rfl, rfl⟩ := w1
  obtain rfl : u = Value.ref f := r1
  refine PySem.W.callWith_K (h₀ := X.base) I.ok.mod.kin hk (thn (ha.run pos pins t1 σ G _ I1 h.2) fun us t2 w2 => ?_) he hpl
  obtain ⟨vs, G2, I2, r2, q⟩ := w2
  refine ⟨I2.kIn, wpAny_call (codeAny_mono (F.run X.A X.stack t2 G2 ⟨us, []⟩ us vs Q E hr I2.env0 ?_ r2 q) fun r t3 w3 => ?_)⟩
  · have hl : us.length = ps.length := by rw [← r2.length]; exact F.len _ _ _ _ q
    have := hb t2 us I2.kIn (by simpa using hl)
    simpa using this
  · cases r with
    | error e => exact hx pins σ G2 t2 e t3 I2 w3
    | ok fl =>
      cases fl with
      | ret u => exact I2.after w3
      | next => exact w3.elim
      | brk => exact w3.elim
      | cont => exact w3.elim
end
end Hw
namespace Hw
open PySem PySem.Spec PyProof.Rows L2 LamX
section
variable {X : Cx}
theorem takes_len {W : WX} (tk : Takes X W) : Takes X (fun cls d σ H => σ.length = X.N.length → W cls d σ H) := fun u s' x => by
  obtain ⟨a, B, sI, ps, σ, H, cls, d, e, I, nb, up, sky, na, os, ag, w⟩ := x
  exact tk u s' ⟨a, B, sI, ps, σ, H, cls, d, e, I, nb, up, sky, na, os, ag, w I.len⟩
theorem pe_mono {e : Expr} {t : TE} (h : PE X e t) : PE X e (fun σ H Q => ∃ Q1 : VK, (∀ v G, Q1 v G → Q v G) ∧ t σ H Q1) := by
  constructor
  intro pins s σ H Q I w
  obtain ⟨Q1, m, w⟩ := w
  refine wpAny_mono (h.run pins s σ H Q1 I w) (fun u t1 x => ?_) fun _ _ x => x
  obtain ⟨v, G, J, r, q⟩ := x
  exact ⟨v, G, J, r, m v G q⟩
abbrev s__law_caught : Stmt := top 82
abbrev N__law_caught : List Str := ["_law_action", "_law_found", "_law_error"]
theorem sc__law_caught : FnScope N__law_caught ["_law_action"] (defScope s__law_caught) := ⟨rfl, rfl, rfl, by decide +kernel, rfl, by decide +kernel, by decide +kernel⟩
def TTcau (K : PySem.W.Frag) (CS : Addr) : (XK → Hp → VK → Prop) → Hp → VK → Prop := fun tl H Q =>
  tl (fun cls d G => PySem.W.exmOne K cls (.ref CS) = some true ∧ ∀ a : Addr, G a = none → Q (.ref a) (upd G a (CauO cls d a))) H fun _ G => Q .non G
theorem gives_caught {g CS : Addr} {cdg : Value} {q : Str} (hm : X.mg "HueError" = some (.ref CS)) :
    GivesTo X N__law_caught "_law_caught" (defScope s__law_caught) g cdg (defBody s__law_caught) "_law_action" q (TTcau X.K CS) := by
  intro f c' s H Q tl act hc h
  refine ⟨_, pss_cons (ps_set (i := 1) sc__law_caught.nd rfl (.inl rfl) pe_non)
    (pss_cons (ps_try_keep (X := (cxOf C8.CX0 X.prog X.w X.K X.mg X.base N__law_caught "_law_caught" (defScope s__law_caught) g cdg X.A X.stack s H C8.E0).nox) (i := 2) (c := .ref CS)
        (tb := fun W D σ G => ∃ Ech : XK, (∀ cls d τ F, Ech cls d F → τ.length = 3 → W cls d τ F) ∧ σ[0]? = some (some (.ref f)) ∧ G c' = some (CodeO c' q) ∧ ∃ Q1 : VK, (∀ v F, Q1 v F → D.nx σ F) ∧ tl Ech G Q1)
        rfl rfl rfl sc__law_caught.nd rfl rfl ⟨rfl, rfl, .inl hm⟩ (fun W pn xe tk _ => ?_) (fun a oe pn => pss_one (ps_set (i := 1) sc__law_caught.nd rfl (.inl rfl) (pv 2))))
      (pss_one (ps_ret (pv 1)))), ?_⟩
  · constructor
    intro pins t σ G D I want
    obtain ⟨Ech, hW, h1, h2, h3⟩ := want
    exact (pss_one (ps_expr (pe_mono (act _ pn xe Ech _ _ (takes_len tk) hW)))).run pins t σ G D I (by
      obtain ⟨Q1, m, w⟩ := h3
      exact ⟨Q1, m, h1, h2, w⟩)
  · refine ⟨fun cls d G => PySem.W.exmOne X.K cls (.ref CS) = some true ∧ ∀ a : Addr, G a = none → Q (.ref a) (upd G a (CauO cls d a)), fun cls d τ F w hl => ⟨w.1, fun a na => ?_⟩, rfl, hc, ?_⟩
    · match τ, hl with
      | [x, y, z], _ => exact ⟨_, rfl, _, rfl, w.2 a na⟩
    · exact ⟨_, fun v F w => ⟨_, rfl, w⟩, h⟩
end
section
variable {X : Cx}
def rNeDV (K : PySem.W.Frag) : R2 := fun x y H Q => ∃ (a b : Addr) (k : Key) (v z : V) (d e : PyData), x = .ref a ∧ y = .ref b ∧ H a = some (.dK [(k, v)]) ∧ H b = some (.dK [(k, z)]) ∧
  Dp K H v d ∧ Dp K H z e ∧ SeqAt.shaped d = true ∧ SeqAt.shaped e = true ∧ Q (.bl (!PyData.eqv d e)) H
theorem op_neDV (hu : X.A.units + 66 < cLine) : OpR X (compareOp .NotEq) (rNeDV X.K) := by
  intro pins s σ H x y v u Q I rx ry h
  obtain ⟨a, b, k, v1, z1, d, e, rfl, rfl, ea, eb, dv, dz, sd, se, q⟩ := h
  obtain rfl : v = Value.ref a := rx
  obtain rfl : u = Value.ref b := ry
  obtain ⟨_, ya, va, ra, da⟩ := (show ObjOk X.prog X.w H s.heap a (.dK [(k, v1)]) from I.hok a _ ea)
  obtain ⟨_, yb, vb, rb, db⟩ := (show ObjOk X.prog X.w H s.heap b (.dK [(k, z1)]) from I.hok b _ eb)
  cases ra with
  | cons r1 r2 =>
    cases r2
    cases rb with
    | cons r3 r4 =>
      cases r4
      rename_i p1 p2
      obtain ⟨k1, w1⟩ := p1
      obtain ⟨k2, w2⟩ := p2
      obtain ⟨e1, r1⟩ := r1
      obtain ⟨e2, r3⟩ := r3
      have e1 : k = k1 := e1
      have e2 : k = k2 := e2
      subst e1
      subst e2
      obtain ⟨as, q1⟩ := Dp.reads I d v1 w1 dv r1
      obtain ⟨bs, q2⟩ := Dp.reads I e z1 w2 dz r3
      have dep : min d.depth e.depth ≤ 64 := Nat.le_trans (Nat.min_le_left ..) (by
        have := (Bool.and_eq_true_iff.mp sd).2
        simpa using this)
      have hit := SeqAt.eqAt_reads d e X.A.in1 s w1 w2 as bs q1 q2 (SeqAt.canLay_of_shaped sd) (SeqAt.canLay_of_shaped se) (by show X.A.units + 1 + min d.depth e.depth < cLine; omega)
      refine PySem.W.keq_ne (knd := mixKind X.prog X.w) (r := PyData.eqv d e && true) ya yb da db (by omega) (fun _ => .hit (by simp [valueAt]) hit .nil) ⟨.bl (!PyData.eqv d e), H, I, ?_, q⟩
      show Value.bool _ = Value.bool _
      simp
end
end Hw
namespace Hw
open PySem PySem.Spec PyProof.Rows L2 LamX
structure NPX (K : PySem.W.Frag) : Prop where
  xf : XfC K (CN K)
  ec : ExcC K (CN K)
  hit : PySem.W.exmOne K (.ref (CN K)) (.ref (CH K)) = some true
  one : PySem.W.kitOne K (.ref (CN K)) (.ref (CN K)) = some true
theorem IsCode.extN {H H' : Hp} {a : Addr} {C : Code} (e : ExtN H H') (h : IsCode H a C) : IsCode H' a C := by
  have kt : ∀ b xs, H b = some (.tup xs) → H' b = some (.tup xs) := fun b xs h => e b _ h fun _ z => by cases z
  exact h.k kt
variable {P : Program} {w : World} {K : PySem.W.Frag} {mg : Str → Option Value} {base : Heap}
abbrev s__law_pp_told : Stmt := top 90
abbrev N__law_pp_told : List Str := ["_law_code", "_law_action", "_law_found", "_law_error"]
theorem sc__law_pp_told : FnScope N__law_pp_told ["_law_code", "_law_action"] (defScope s__law_pp_told) := ⟨rfl, rfl, rfl, by decide +kernel, rfl, by decide +kernel, by decide +kernel⟩
def sp__law_pp_told (K : PySem.W.Frag) (mg : Str → Option Value) : Sp := fun vs H Q _ => ∃ (a f : Addr) (C : Code), vs = [.ref a, .ref f] ∧ mg "made_paper" = some (.ref f) ∧ IsCode H a C ∧ C.Ok ∧ Tabs (TT K) H ∧ match runT C with
  | none => ∀ p t H', ExtN H H' → Tabs (TT K) H' → H' p = some (.dK [(Sum.inl 0, .ref t)]) → IsTab H' t (tableOf C) → Q (.ref p) H'
  | some (d, _) => ∀ H', ExtN H H' → Tabs (TT K) H' → Q (nV d) H'
theorem C__law_pp_told (T : Txt K mg) (L : Lams K mg base) (N : NPF P K mg) (Z : NPX K) : C8.Cal P w K mg base 12 "_law_pp_told" (sp__law_pp_told K mg) [] := by
  obtain ⟨fm, fdm, mm, km, Fm, bm⟩ := C_made_paper (P := P) (w := w) (base := base) T L N
  obtain ⟨fc, fdc, Fc, mc⟩ := T.d__law_caught
  have kc := Fc.kp
  have bc := Fc.bindsN (ps := ["_law_action"]) (fun _ _ _ _ _ _ us hl => match us, hl with | [_], _ => rfl)
  obtain ⟨oc, od, dV, kV, doc, pm, an, cdv, ct, osl, rfl, lk, hcd, _, _⟩ := Fc.ex
  refine calC (N := N__law_pp_told) (ps := ["_law_code", "_law_action"]) L.d3 (fun _ _ _ _ _ _ us hl => match us, hl with | [_, _], _ => rfl) sc__law_pp_told (fun vs H Q E h => ?_) (fun f A outer s H vs Q E hr h => ?_)
  · obtain ⟨a, f, C, rfl, _⟩ := h
    rfl
  · obtain ⟨a, f2, C, rfl, hf2, hc0, ok, hT, k⟩ := h
    have ef : f2 = fm := by
      rw [mm] at hf2
      cases hf2
      rfl
    subst ef
    have hu := hu_of hr
    refine ⟨_, (pss_cons (ps_set (i := 2) sc__law_pp_told.nd rfl (by first | exact .inl rfl | exact .inr rfl) (pe_lst pa_nil))
      (pss_cons (ps_set (i := 3) sc__law_pp_told.nd rfl (by first | exact .inl rfl | exact .inr rfl)
          (pe_lamcall (T := TT K) (TT := TTcau K (CH K)) (k := 9) (t := fun E => tBM K "list" rAppend (tVar 2) (tCons (fun σ H Q => σ[1]? = some (some (.ref f2)) ∧ (tCons (tVar 0) tNil) σ H fun vs G => sp_made_paper K vs G Q E) tNil)) (by rfl) mc kc lk hcd bc sc__law_caught rfl (.inl rfl) (gives_caught N.mgH) L.tb3 rfl L.mem3 L.hu3 hr (lamS_by (sc := defScope s__law_pp_told) (by decide +kernel)) rfl (fun _ _ _ _ _ => rfl)
            ?hb))
      (pss_cons (ps_if (pt_cmpR op_isN (pv 3) pe_non (nomark _)) (pss_one (ps_ret (pe_ix (ix_listK (K := K) rfl) (pv 2) pe_int (fun _ _ => rfl)))) pss_nil)
      (pss_one (ps_ret (pe_ifExp (pt_val (pe_callB (call_isVK (K := K) rfl) (by rfl) T.b_isinstance (by decide +kernel) (pa_cons (pv 3) (pa_cons (C8.pe_gc (v := .ref (CN K)) rfl ⟨_, N.mgC, rfl⟩) pa_nil)))) (pe_xfV Z.xf N.no (pv 3)) pe_non)))))), ?_⟩
    case hb =>
      intro A outer s H E f c' hr2
      exact pe_bm PySem.F.plainAttrs_list PySem.F.slot_list_append PySem.F.type_list_append mt_append (pv 2)
              (pa_cons (pe_callV (i := 1) Fm hr2 km bm (passes_call (takes_of rfl rfl rfl rfl) (fun _ _ _ _ w => w)) rfl (.inr (.inr rfl)) (pa_cons (pv 0) pa_nil)) pa_nil)
    refine ⟨le_line (of_decide_eq_true rfl), fun t ht => ?_⟩
    have s0 : Same H (upd H t (.lst [])) := same_upd ht
    refine ⟨hT.ext s0, fun H1 eN T1 => ?_⟩
    have s1 : ExtN H H1 := fun b o h n => eN b o (s0 _ _ h) n
    have hD : H1 t = some (.lst []) := eN _ _ upd_same fun _ z => by cases z
    refine ⟨_, rfl, .inl ⟨rfl, _, SqL.of hD⟩, rfl, _, rfl, a, C, rfl, hc0.extN s1, ok, T1, ?_⟩
    cases e : runT C with
    | none =>
      rw [e] at k
      intro p q H2 e2 T2 hp hq
      have hD2 : H2 t = some (.lst []) := e2 _ _ hD fun _ z => by cases z
      have s2 := s1.trans e2
      refine ⟨_, _, _, rfl, rfl, hD2, Nat.lt_of_lt_of_le (by decide : 0 < 100000) big_line, ?_⟩
      have hp3 : upd H2 t (.lst ([] ++ [.ref p])) p = some (.dK [(Sum.inl 0, .ref q)]) := um (new_kind hp hD2 (by simp [HO.kd])) hp
      have hD3 : upd H2 t (.lst ([] ++ [.ref p])) t = some (.lst [.ref p]) := upd_same
      have T3 : Tabs (TT K) (upd H2 t (.lst ([] ++ [.ref p]))) := T2.mut hD2 (by simp [HO.kd]) trivial
      have s3 : ExtN H (upd H2 t (.lst ([] ++ [.ref p]))) := extN_mut s2 ht
      have kt : ∀ b xs, H2 b = some (.tup xs) → upd H2 t (.lst ([] ++ [.ref p])) b = some (.tup xs) := fun b xs h => um (new_kind h hD2 (by simp [HO.kd])) h
      have hq3 : IsTab (upd H2 t (.lst ([] ++ [.ref p]))) q (tableOf C) := by
        obtain ⟨vs, x, y⟩ := hq
        refine ⟨vs, um (fun z => ?_) x, y.mono fun _ _ h => h.k kt⟩
        rw [z, hD2] at x
        cases x
        have g := (table_gok C).all (0, 0) (spots_mem.mpr ⟨ok.h1, by omega⟩)
        obtain ⟨g, hg, _⟩ := g
        have := y.1
        rw [show tableOf C = [] from List.eq_nil_of_length_eq_zero this.symm] at hg
        cases hg
      generalize upd H2 t (.lst ([] ++ [.ref p])) = X at hp3 hD3 T3 s3 hq3 ⊢
      iterate 5 first | refine iteT ?_ | refine ⟨_, rfl, ?_⟩ | refine ⟨rfl, ?_⟩
      refine ⟨_, _, _, _, rfl, rfl, SqL.of hD3, atI_nat (j := 0) rfl, ?_⟩
      exact k p q _ s3 T3 hp3 hq3
    | some u =>
      obtain ⟨d, u⟩ := u
      rw [e] at k
      intro dx H2 e2 T2 hx
      refine ⟨Z.hit, fun b hb => ?_⟩
      have s2 := s1.trans e2
      have s3 : Same H2 (upd H2 b (CauO (.ref (CN K)) (some dx) b)) := same_upd hb
      have hx3 := s3 _ _ hx
      have hb3 : upd H2 b (CauO (.ref (CN K)) (some dx) b) b = some (CauO (.ref (CN K)) (some dx) b) := upd_same
      have T3 := T2.ext s3
      have s4 := s2.trans (.of s3)
      generalize upd H2 b (CauO (.ref (CN K)) (some dx) b) = X at hx3 hb3 T3 s4 ⊢
      iterate 5 first | refine iteF ?_ | refine ⟨_, rfl, ?_⟩ | refine ⟨rfl, ?_⟩
      refine ⟨b, dx, CN K, _, _, .ref (CN K), true, rfl, hb3, hx3, Z.ec, fun u h => h, Z.one, true, rfl, iteT ⟨_, rfl, b, dx, _, _, rfl, hb3, hx3, rfl, ?_⟩⟩
      exact k _ s4 T3
end Hw
namespace Hw
open PySem PySem.Spec PyProof.Rows L2
structure StAt (H : Hp) (st g c : Addr) (gr cs : List Int) (r t : Int) : Prop where
  ob : H st = some (.dK [(Sum.inr "great", .ref g), (Sum.inr "cells", .ref c), (Sum.inr "rest", .int r), (Sum.inr "turn", .int t)])
  gr : H g = some (.lst (gr.map V.int))
  cs : H c = some (.lst (cs.map V.int))
  ne : g ≠ c
def IsSt (H : Hp) (st g c : Addr) (m : Nat) : Prop := ∃ gr cs r t, StAt H st g c gr cs r t ∧ 0 ≤ t ∧ t + m ≤ 1000000000
theorem IsSt.le {H : Hp} {st g c : Addr} {m n : Nat} (h : IsSt H st g c m) (l : n ≤ m) : IsSt H st g c n := by
  obtain ⟨gr, cs, r, t, S, h1, h2⟩ := h
  exact ⟨gr, cs, r, t, S, h1, by omega⟩
theorem StAt.rest {H : Hp} {st g c : Addr} {gr cs : List Int} {r t : Int} (S : StAt H st g c gr cs r t) (r' : Int) : StAt (upd H st (.dK (putK [(Sum.inr "great", .ref g), (Sum.inr "cells", .ref c), (Sum.inr "rest", .int r), (Sum.inr "turn", .int t)] (Sum.inr "rest") (.int r')))) st g c gr cs r' t :=
  ⟨upd_same, um (fun e => by have := S.gr; rw [e, S.ob] at this; cases this) S.gr, um (fun e => by have := S.cs; rw [e, S.ob] at this; cases this) S.cs, S.ne⟩
variable {P : Program} {w : World} {K : PySem.W.Frag} {mg : Str → Option Value} {base : Heap}
abbrev s__law_mixed : Stmt := top 79
abbrev N__law_mixed : List Str := ["_law_state", "_law_turn", "_law_found", "_law_prime", "_law_blend", "_law_cell"]
theorem sc__law_mixed : FnScope N__law_mixed ["_law_state"] (defScope s__law_mixed) := ⟨rfl, rfl, rfl, by decide +kernel, rfl, by decide +kernel, by decide +kernel⟩
def sp__law_mixed (K : PySem.W.Frag) : Sp := fun vs H Q _ => ∃ (st g c : Addr) (gr cs : List Int) (r t : Int), vs = [.ref st] ∧ StAt H st g c gr cs r t ∧ 0 ≤ t ∧ t < 1000000000 ∧
  ∀ (i : Int) H', StAt H' st g c gr cs r (t + 1) → Fr [st] [2] H H' → Q (.int i) H'
theorem C__law_mixed (T : Txt K mg) : C8.Cal P w K mg base 1 "_law_mixed" (sp__law_mixed K) [] := by
  refine cal (N := N__law_mixed) (ps := ["_law_state"]) T.d__law_mixed (fun _ _ _ _ _ _ us hl => match us, hl with | [_], _ => rfl) sc__law_mixed (fun vs H Q E h => ?_) (fun f cdv A outer s H vs Q E hr h => ?_)
  · obtain ⟨st, g, c, gr, cs, r, t, rfl, _⟩ := h
    rfl
  · obtain ⟨st, g, c, gr, cs, r, t, rfl, S, ht0, ht1, k⟩ := h
    have hu := hu_of hr
    have ob := S.ob
    refine ⟨_, (pss_cons (ps_par (i := 1) (j := 2) (by rfl) sc__law_mixed.nd rfl rfl (by decide) rfl rfl (pa_cons (pe_op op_add (pe_dget hu (pv 0) pe_str (fun _ _ => rfl)) pe_int) (pa_cons pe_int pa_nil)) (by rfl))
    (pss_cons (ps_dput hu (pv 0) pe_str (pv 1) rfl)
    (pss_cons (ps_for PassesOwn.never rfl (pi_list (pe_lst (pa_cons pe_int (pa_cons pe_int (pa_cons pe_int (pa_cons pe_int pa_nil)))))) (pg_name (i := 3) sc__law_mixed.nd rfl (by first | exact .inl rfl | exact .inr rfl)) (pss_cons (ps_set (i := 4) sc__law_mixed.nd rfl (by first | exact .inl rfl | exact .inr rfl) (pe_op op_add (pe_op op_mul pe_int (pv 1)) (pe_op op_fdiv (pv 3) pe_int)))
    (pss_cons (ps_for PassesOwn.never rfl (pi_list (pe_dget hu (pv 0) pe_str (fun _ _ => rfl))) (pg_name (i := 5) sc__law_mixed.nd rfl (by first | exact .inl rfl | exact .inr rfl)) (pss_one (ps_set (i := 4) sc__law_mixed.nd rfl (by first | exact .inl rfl | exact .inr rfl) (pe_op op_mod (pe_callTy call_int1 (by rfl) T.b_int (by decide +kernel) (pa_cons (pe_op op_add (pe_op op_add (pe_op op_mul (pv 4) pe_int) (pv 5)) (pv 1)) pa_nil)) (pv 3)))))
    (pss_one (ps_set (i := 2) sc__law_mixed.nd rfl (by first | exact .inl rfl | exact .inr rfl) (pe_op op_add (pe_op op_mul (pv 2) pe_int) (pe_op op_mod (pe_callTy call_int1 (by rfl) T.b_int (by decide +kernel) (pa_cons (pe_op op_pow (pv 4) pe_int) pa_nil)) (pv 3))))))))
    (pss_one (ps_ret (pv 2)))))), ?_⟩
    refine ⟨_, rfl, ?_⟩
    refine ⟨_, _, rfl, .inl ⟨_, Sum.inr "turn", .inl ob, rfl, rfl⟩, ?_⟩
    refine ⟨_, _, rfl, rfl, ?_⟩
    refine ⟨_, _, rfl, ?_⟩
    refine ⟨_, rfl, ?_⟩
    refine ⟨_, rfl, ?_⟩
    refine ⟨_, _, rfl, .inl ⟨_, Sum.inr "turn", ob, rfl, by show (4 : Nat) < _; have := big_line; omega, rfl⟩, ?_⟩
    have S1 : StAt (upd H st (.dK (putK [(Sum.inr "great", .ref g), (Sum.inr "cells", .ref c), (Sum.inr "rest", .int r), (Sum.inr "turn", .int t)] (Sum.inr "turn") (.int (t + 1))))) st g c gr cs r (t + 1) :=
      ⟨upd_same, um (fun e => by have := S.gr; rw [e, ob] at this; cases this) S.gr, um (fun e => by have := S.cs; rw [e, ob] at this; cases this) S.cs, S.ne⟩
    have f1 : Fr [st] [2] H (upd H st (.dK (putK [(Sum.inr "great", .ref g), (Sum.inr "cells", .ref c), (Sum.inr "rest", .int r), (Sum.inr "turn", .int t)] (Sum.inr "turn") (.int (t + 1))))) := .upd ob (by simp) (by simp [HO.kd])
    generalize upd H st (.dK (putK [(Sum.inr "great", .ref g), (Sum.inr "cells", .ref c), (Sum.inr "rest", .int r), (Sum.inr "turn", .int t)] (Sum.inr "turn") (.int (t + 1)))) = X at S1 f1 ⊢
    have ob1 := S1.ob
    refine ⟨le_line (of_decide_eq_true rfl), fun q hq => ?_⟩
    have hql : upd X q (.lst [.int 2147483629, .int 2147483647, .int 2147483563, .int 2147483587]) q = _ := upd_same
    have sq := same_upd (o := .lst [.int 2147483629, .int 2147483647, .int 2147483563, .int 2147483587]) hq
    have S2 : StAt (upd X q (.lst [.int 2147483629, .int 2147483647, .int 2147483563, .int 2147483587])) st g c gr cs r (t + 1) := ⟨sq _ _ S1.ob, sq _ _ S1.gr, sq _ _ S1.cs, S1.ne⟩
    have f2 := f1.trans (Fr.of sq)
    generalize upd X q (.lst [.int 2147483629, .int 2147483647, .int 2147483563, .int 2147483587]) = Y at hql S2 f2 ⊢
    have ob2 := S2.ob
    refine ⟨_, rfl, ⟨_, SqL.of hql⟩, ?_⟩
    refine for_list (xs := [.int 2147483629, .int 2147483647, .int 2147483563, .int 2147483587]) (fun i σ Z => Z = Y ∧ ∃ fd l3 l4 l5, σ = [some (V.ref st), some (.int (t + 1)), some (.int fd), l3, l4, l5]) ⟨rfl, _, _, _, _, rfl⟩ (fun i σ Z _ e => by rw [e.1]; exact SqL.of hql) (fun i x σ Z hi e => ?_) (fun σ Z e => ?_)
    · obtain ⟨rfl, fd, l3, l4, l5, rfl⟩ := e
      obtain ⟨p, rfl, hp1, hp2⟩ : ∃ p : Int, x = .int p ∧ 0 < p ∧ p < 2147483648 := by
        match i, hi with
        | 0, h => cases h; exact ⟨_, rfl, by decide, by decide⟩
        | 1, h => cases h; exact ⟨_, rfl, by decide, by decide⟩
        | 2, h => cases h; exact ⟨_, rfl, by decide, by decide⟩
        | 3, h => cases h; exact ⟨_, rfl, by decide, by decide⟩
      iterate 2 first | refine ⟨_, rfl, ?_⟩ | refine ⟨_, _, rfl, rfl, ?_⟩
      refine ⟨.inl ⟨by decide, by decide⟩, ?_⟩
      iterate 2 first | refine ⟨_, rfl, ?_⟩ | refine ⟨_, _, rfl, rfl, ?_⟩
      refine ⟨⟨by decide, by decide⟩, ?_⟩
      iterate 2 first | refine ⟨_, rfl, ?_⟩ | refine ⟨_, _, rfl, rfl, ?_⟩
      refine ⟨_, _, rfl, .inl ⟨_, Sum.inr "cells", .inl ob2, rfl, rfl⟩, ?_⟩
      refine ⟨_, rfl, ⟨_, SqL.of S2.cs⟩, ?_⟩
      refine for_list (xs := cs.map V.int) (fun i σ Z' => Z' = Z ∧ ∃ b l5, 0 ≤ b ∧ b < 1152921504606846976 ∧ σ = [some (V.ref st), some (.int (t + 1)), some (.int fd), some (.int p), some (.int b), l5]) ⟨rfl, _, _, ?_, ?_, rfl⟩ (fun i σ Z' _ e => by rw [e.1]; exact SqL.of S2.cs) (fun i x σ Z' hi e => ?_) (fun σ Z' e => ?_)
      · show 0 ≤ 69621 * (t + 1) + p / 41; omega
      · show 69621 * (t + 1) + p / 41 < _; omega
      · obtain ⟨rfl, b, l5', hb0, hb1, rfl⟩ := e
        rw [List.getElem?_map] at hi
        obtain ⟨y, _, rfl⟩ := Option.map_eq_some_iff.mp hi
        iterate 2 first | refine ⟨_, rfl, ?_⟩ | refine ⟨_, _, rfl, rfl, ?_⟩
        refine ⟨.inr ⟨by decide, by decide⟩, ?_⟩
        iterate 4 first | refine ⟨_, rfl, ?_⟩ | refine ⟨_, _, rfl, rfl, ?_⟩
        refine .inl ⟨_, rfl, ?_⟩
        iterate 2 first | refine ⟨_, rfl, ?_⟩ | refine ⟨_, _, rfl, rfl, ?_⟩
        refine ⟨hp1, ?_⟩
        have m1 := Int.emod_nonneg (b * 48271 + y + (t + 1)) (Int.ne_of_gt hp1)
        have m2 := Int.emod_lt_of_pos (b * 48271 + y + (t + 1)) hp1
        exact ⟨rfl, _, _, m1, by omega, rfl⟩
      · obtain ⟨rfl, b, l5', hb0, hb1, rfl⟩ := e
        iterate 2 first | refine ⟨_, rfl, ?_⟩ | refine ⟨_, _, rfl, rfl, ?_⟩
        refine ⟨.inr ⟨by decide, by decide⟩, ?_⟩
        iterate 2 first | refine ⟨_, rfl, ?_⟩ | refine ⟨_, _, rfl, rfl, ?_⟩
        refine ⟨⟨by decide, by decide, by rw [show (2 : Nat) ^ 64 = 18446744073709551616 by decide]; omega⟩, ?_⟩
        refine .inl ⟨_, rfl, ?_⟩
        iterate 2 first | refine ⟨_, rfl, ?_⟩ | refine ⟨_, _, rfl, rfl, ?_⟩
        refine ⟨hp1, ?_⟩
        iterate 2 first | refine ⟨_, _, rfl, rfl, ?_⟩ | refine ⟨rfl, ?_⟩
        exact ⟨_, _, _, _, rfl⟩
    · obtain ⟨rfl, fd, l3, l4, l5, rfl⟩ := e
      refine ⟨_, rfl, ?_⟩
      exact k _ _ S2 f2
abbrev s__law_draw : Stmt := top 80
abbrev N__law_draw : List Str := ["_law_state", "_law_room", "_law_found"]
theorem sc__law_draw : FnScope N__law_draw ["_law_state", "_law_room"] (defScope s__law_draw) := ⟨rfl, rfl, rfl, by decide +kernel, rfl, by decide +kernel, by decide +kernel⟩
def sp__law_draw (K : PySem.W.Frag) : Sp := fun vs H Q _ => ∃ (st g c : Addr) (m n : Nat), vs = [.ref st, nV n] ∧ IsSt H st g c (m + 1) ∧ 0 < n ∧ n ≤ 1000000 ∧
  ∀ (d : Nat) H', d < n → IsSt H' st g c m → Fr [st, g] [0, 2] H H' → Q (nV d) H'
theorem C__law_draw (T : Txt K mg) : C8.Cal P w K mg base 2 "_law_draw" (sp__law_draw K) [] := by
  have C__law_mixed := C__law_mixed (P := P) (w := w) (base := base) T
  refine cal (N := N__law_draw) (ps := ["_law_state", "_law_room"]) T.d__law_draw (fun _ _ _ _ _ _ us hl => match us, hl with | [_, _], _ => rfl) sc__law_draw (fun vs H Q E h => ?_) (fun f cdv A outer s H vs Q E hr h => ?_)
  · obtain ⟨st, g, c, m, n, rfl, _⟩ := h
    rfl
  · obtain ⟨st, g, c, m, n, rfl, ⟨gr, cs, r, tu, S, ht0, ht1⟩, hn, hn2, k⟩ := h
    have hu := hu_of hr
    have ob := S.ob
    refine ⟨_, (pss_cons (ps_if (pt_cmpR op_eq (pe_dget hu (pv 0) pe_str (fun _ _ => rfl)) pe_int (nomark _)) (pss_one (ps_dput hu (pv 0) pe_str (pe_ifExp (pt_cmpR (op_neE hr.units0) (pe_dget hu (pv 0) pe_str (fun _ _ => rfl)) (pe_lst pa_nil) (nomark _)) (pe_bm PySem.F.plainAttrs_list PySem.F.slot_list_pop PySem.F.type_list_pop mt_popAt (pe_dget hu (pv 0) pe_str (fun _ _ => rfl)) (pa_cons pe_int pa_nil)) (C8.pe_c C__law_mixed hr (by decide) rfl (pa_cons (pv 0) pa_nil))) rfl)) pss_nil)
    (pss_cons (ps_set (i := 2) sc__law_draw.nd rfl (by first | exact .inl rfl | exact .inr rfl) (pe_op op_mod (pe_callTy call_int1 (by rfl) T.b_int (by decide +kernel) (pa_cons (pe_dget hu (pv 0) pe_str (fun _ _ => rfl)) pa_nil)) (pv 1)))
    (pss_cons (ps_dput hu (pv 0) pe_str (pe_op op_fdiv (pe_dget hu (pv 0) pe_str (fun _ _ => rfl)) (pv 1)) rfl)
    (pss_one (ps_ret (pv 2)))))), ?_⟩
    refine ⟨_, rfl, ?_⟩
    refine ⟨_, _, rfl, .inl ⟨_, Sum.inr "rest", .inl ob, rfl, rfl⟩, ?_⟩
    iterate 2 first | refine ⟨_, rfl, ?_⟩ | refine ⟨rfl, ?_⟩
    by_cases hr0 : r = 0
    · refine itT (show V.int r = V.int 0 by rw [hr0]) ?_
      refine ⟨_, rfl, ?_⟩
      refine ⟨_, _, rfl, .inl ⟨_, Sum.inr "great", .inl ob, rfl, rfl⟩, ?_⟩
      refine ⟨le_line (of_decide_eq_true rfl), fun t ht => ?_⟩
      have sX := same_upd (o := .lst []) ht
      have hX : upd H t (.lst []) t = _ := upd_same
      have S1 : StAt (upd H t (.lst [])) st g c gr cs r tu := ⟨sX _ _ S.ob, sX _ _ S.gr, sX _ _ S.cs, S.ne⟩
      have f1 : Fr [st, g] [0, 2] H (upd H t (.lst [])) := Fr.of sX
      generalize upd H t (.lst []) = X at hX S1 f1 ⊢
      refine ⟨_, _, _, rfl, rfl, SqL.of S1.gr, SqL.of hX, _, rfl, ?_⟩
      cases gr with
      | nil =>
        refine itBF rfl ?_
        refine ⟨_, rfl, ?_⟩
        refine ⟨st, g, c, [], cs, r, tu, rfl, S1, ht0, by omega, fun i X2 S2 f2 => ?_⟩
        have f3 := f1.trans (f2.mono (S' := [st, g]) (ks' := [0, 2]) (by simp) (by simp))
        have obP := S2.ob
        refine ⟨_, rfl, ?_⟩
        refine ⟨_, _, rfl, .inl ⟨_, Sum.inr "rest", obP, rfl, by show (4 : Nat) < _; have := big_line; omega, rfl⟩, ?_⟩
        have SP := S2.rest (i)
        have fP := f3.trans (Fr.upd (S := [st, g]) (ks := [0, 2]) (x := .dK (putK [(Sum.inr "great", .ref g), (Sum.inr "cells", .ref c), (Sum.inr "rest", .int (r)), (Sum.inr "turn", .int (tu + 1))] (Sum.inr "rest") (.int (i)))) obP (by simp) (by simp [HO.kd]))
        generalize upd X2 st (.dK (putK [(Sum.inr "great", .ref g), (Sum.inr "cells", .ref c), (Sum.inr "rest", .int (r)), (Sum.inr "turn", .int (tu + 1))] (Sum.inr "rest") (.int (i)))) = W at SP fP ⊢
        have obT := SP.ob
        refine ⟨_, rfl, ?_⟩
        refine ⟨_, _, rfl, .inl ⟨_, Sum.inr "rest", .inl obT, rfl, rfl⟩, ?_⟩
        refine .inl ⟨_, rfl, ?_⟩
        iterate 2 first | refine ⟨_, rfl, ?_⟩ | refine ⟨_, _, rfl, rfl, ?_⟩
        refine ⟨by omega, ?_⟩
        refine ⟨_, rfl, ?_⟩
        refine ⟨_, _, rfl, .inl ⟨_, Sum.inr "rest", .inl obT, rfl, rfl⟩, ?_⟩
        iterate 2 first | refine ⟨_, rfl, ?_⟩ | refine ⟨_, _, rfl, rfl, ?_⟩
        refine ⟨⟨by omega, by omega⟩, ?_⟩
        refine ⟨_, rfl, ?_⟩
        refine ⟨_, _, rfl, .inl ⟨_, Sum.inr "rest", obT, rfl, by show (4 : Nat) < _; have := big_line; omega, rfl⟩, ?_⟩
        have SF := SP.rest ((i) / (n : Int))
        have fF := fP.trans (Fr.upd (S := [st, g]) (ks := [0, 2]) (x := .dK (putK [(Sum.inr "great", .ref g), (Sum.inr "cells", .ref c), (Sum.inr "rest", .int (i)), (Sum.inr "turn", .int (tu + 1))] (Sum.inr "rest") (.int ((i) / (n : Int))))) obT (by simp) (by simp [HO.kd]))
        refine ⟨_, rfl, ?_⟩
        have e0 := Int.emod_nonneg (i) (show (n : Int) ≠ 0 by omega)
        have e1 := Int.emod_lt_of_pos (i) (show (0 : Int) < n by omega)
        obtain ⟨d, hd⟩ := Int.eq_ofNat_of_zero_le e0
        have hk := k d _ (by omega) ⟨_, _, _, _, SF, by omega, by omega⟩ fF
        have hd2 : nV d = V.int ((i) % (n : Int)) := congrArg V.int hd.symm
        rw [hd2] at hk
        exact hk
      | cons y ys =>
        refine itBT rfl ?_
        have ob1 := S1.ob
        have hg := S1.gr
        refine ⟨_, rfl, ?_⟩
        refine ⟨_, _, rfl, .inl ⟨_, Sum.inr "great", .inl ob1, rfl, rfl⟩, ?_⟩
        refine ⟨.inl ⟨rfl, _, SqL.of hg⟩, ?_⟩
        refine ⟨_, _, _, 0, .int y, rfl, rfl, hg, by decide, by decide, by simp [seqIndex?], rfl, ?_⟩
        have S3 : StAt (upd X g (.lst (ys.map V.int))) st g c ys cs r tu := ⟨um (fun e => by rw [e, hg] at ob1; cases ob1) ob1, upd_same, um (Ne.symm S1.ne) S1.cs, S1.ne⟩
        have f3 := f1.trans (Fr.upd (S := [st, g]) (ks := [0, 2]) (x := .lst (ys.map V.int)) hg (by simp) (by simp [HO.kd]))
        rw [show List.eraseIdx (List.map V.int (y :: ys)) 0 = ys.map V.int from rfl]
        clear ob1 hg
        generalize upd X g (.lst (ys.map V.int)) = X2 at S3 f3 ⊢
        have obP := S3.ob
        refine ⟨_, rfl, ?_⟩
        refine ⟨_, _, rfl, .inl ⟨_, Sum.inr "rest", obP, rfl, by show (4 : Nat) < _; have := big_line; omega, rfl⟩, ?_⟩
        have SP := S3.rest (y)
        have fP := f3.trans (Fr.upd (S := [st, g]) (ks := [0, 2]) (x := .dK (putK [(Sum.inr "great", .ref g), (Sum.inr "cells", .ref c), (Sum.inr "rest", .int (r)), (Sum.inr "turn", .int (tu))] (Sum.inr "rest") (.int (y)))) obP (by simp) (by simp [HO.kd]))
        generalize upd X2 st (.dK (putK [(Sum.inr "great", .ref g), (Sum.inr "cells", .ref c), (Sum.inr "rest", .int (r)), (Sum.inr "turn", .int (tu))] (Sum.inr "rest") (.int (y)))) = W at SP fP ⊢
        have obT := SP.ob
        refine ⟨_, rfl, ?_⟩
        refine ⟨_, _, rfl, .inl ⟨_, Sum.inr "rest", .inl obT, rfl, rfl⟩, ?_⟩
        refine .inl ⟨_, rfl, ?_⟩
        iterate 2 first | refine ⟨_, rfl, ?_⟩ | refine ⟨_, _, rfl, rfl, ?_⟩
        refine ⟨by omega, ?_⟩
        refine ⟨_, rfl, ?_⟩
        refine ⟨_, _, rfl, .inl ⟨_, Sum.inr "rest", .inl obT, rfl, rfl⟩, ?_⟩
        iterate 2 first | refine ⟨_, rfl, ?_⟩ | refine ⟨_, _, rfl, rfl, ?_⟩
        refine ⟨⟨by omega, by omega⟩, ?_⟩
        refine ⟨_, rfl, ?_⟩
        refine ⟨_, _, rfl, .inl ⟨_, Sum.inr "rest", obT, rfl, by show (4 : Nat) < _; have := big_line; omega, rfl⟩, ?_⟩
        have SF := SP.rest ((y) / (n : Int))
        have fF := fP.trans (Fr.upd (S := [st, g]) (ks := [0, 2]) (x := .dK (putK [(Sum.inr "great", .ref g), (Sum.inr "cells", .ref c), (Sum.inr "rest", .int (y)), (Sum.inr "turn", .int (tu))] (Sum.inr "rest") (.int ((y) / (n : Int))))) obT (by simp) (by simp [HO.kd]))
        refine ⟨_, rfl, ?_⟩
        have e0 := Int.emod_nonneg (y) (show (n : Int) ≠ 0 by omega)
        have e1 := Int.emod_lt_of_pos (y) (show (0 : Int) < n by omega)
        obtain ⟨d, hd⟩ := Int.eq_ofNat_of_zero_le e0
        have hk := k d _ (by omega) ⟨_, _, _, _, SF, ht0, by omega⟩ fF
        have hd2 : nV d = V.int ((y) % (n : Int)) := congrArg V.int hd.symm
        rw [hd2] at hk
        exact hk
    · refine itF (fun e => hr0 (V.int.inj e)) ?_
      have obT := S.ob
      refine ⟨_, rfl, ?_⟩
      refine ⟨_, _, rfl, .inl ⟨_, Sum.inr "rest", .inl obT, rfl, rfl⟩, ?_⟩
      refine .inl ⟨_, rfl, ?_⟩
      iterate 2 first | refine ⟨_, rfl, ?_⟩ | refine ⟨_, _, rfl, rfl, ?_⟩
      refine ⟨by omega, ?_⟩
      refine ⟨_, rfl, ?_⟩
      refine ⟨_, _, rfl, .inl ⟨_, Sum.inr "rest", .inl obT, rfl, rfl⟩, ?_⟩
      iterate 2 first | refine ⟨_, rfl, ?_⟩ | refine ⟨_, _, rfl, rfl, ?_⟩
      refine ⟨⟨by omega, by omega⟩, ?_⟩
      refine ⟨_, rfl, ?_⟩
      refine ⟨_, _, rfl, .inl ⟨_, Sum.inr "rest", obT, rfl, by show (4 : Nat) < _; have := big_line; omega, rfl⟩, ?_⟩
      have SF := S.rest (r / (n : Int))
      have fF := (Fr.refl (S := [st, g]) (ks := [0, 2]) H).trans (Fr.upd (S := [st, g]) (ks := [0, 2]) (x := .dK (putK [(Sum.inr "great", .ref g), (Sum.inr "cells", .ref c), (Sum.inr "rest", .int r), (Sum.inr "turn", .int tu)] (Sum.inr "rest") (.int (r / (n : Int))))) obT (by simp) (by simp [HO.kd]))
      refine ⟨_, rfl, ?_⟩
      have e0 := Int.emod_nonneg (r) (show (n : Int) ≠ 0 by omega)
      have e1 := Int.emod_lt_of_pos (r) (show (0 : Int) < n by omega)
      obtain ⟨d, hd⟩ := Int.eq_ofNat_of_zero_le e0
      have hk := k d _ (by omega) ⟨_, _, _, _, SF, ht0, by omega⟩ fF
      have hd2 : nV d = V.int (r % (n : Int)) := congrArg V.int hd.symm
      rw [hd2] at hk
      exact hk
end Hw
namespace Hw
open PySem PySem.Spec PyProof.Rows L2
variable {P : Program} {w : World} {K : PySem.W.Frag} {mg : Str → Option Value} {base : Heap}
theorem IsSt.gl {H : Hp} {st g c : Addr} {m : Nat} (h : IsSt H st g c m) : ∃ gr : List Int, H g = some (.lst (gr.map V.int)) := by
  obtain ⟨gr, cs, r, t, S, _⟩ := h
  exact ⟨gr, S.gr⟩
theorem IsSt.same {H H' : Hp} {st g c : Addr} {m : Nat} (h : IsSt H st g c m) (s : Same H H') : IsSt H' st g c m := by
  obtain ⟨gr, cs, r, t, S, q⟩ := h
  exact ⟨gr, cs, r, t, ⟨s _ _ S.ob, s _ _ S.gr, s _ _ S.cs, S.ne⟩, q⟩
theorem IsSt.nst {H : Hp} {st g c l : Addr} {m : Nat} {xs : List V} (h : IsSt H st g c m) (hl : H l = some (.lst xs)) : l ≠ st := fun e => by
  obtain ⟨gr, cs, r, t, S, q⟩ := h
  rw [e, S.ob] at hl; cases hl
theorem IsSt.ng {H : Hp} {st g c l : Addr} {m : Nat} (h : IsSt H st g c m) (hl : H l = none) : l ≠ g := fun e => by
  obtain ⟨gr, z⟩ := h.gl
  rw [e, z] at hl; cases hl
theorem IsSt.up {H : Hp} {st g c D : Addr} {m : Nat} {x : HO} (h : IsSt H st g c m) (ns : D ≠ st) (ng : D ≠ g) (nc : D ≠ c) : IsSt (upd H D x) st g c m := by
  obtain ⟨gr, cs, r, t, S, q⟩ := h
  exact ⟨gr, cs, r, t, ⟨um (Ne.symm ns) S.ob, um (Ne.symm ng) S.gr, um (Ne.symm nc) S.cs, S.ne⟩, q⟩
theorem IsSt.nc {H : Hp} {st g c l : Addr} {m : Nat} (h : IsSt H st g c m) (hl : H l = none) : l ≠ c := fun e => by
  obtain ⟨gr, cs, r, t, S, q⟩ := h
  rw [e, S.cs] at hl; cases hl
abbrev s__law_pick : Stmt := top 81
abbrev N__law_pick : List Str := ["_law_state", "_law_some"]
theorem sc__law_pick : FnScope N__law_pick ["_law_state", "_law_some"] (defScope s__law_pick) := ⟨rfl, rfl, rfl, by decide +kernel, rfl, by decide +kernel, by decide +kernel⟩
def sp__law_pick (K : PySem.W.Frag) : Sp := fun vs H Q _ => ∃ (st g c l : Addr) (m : Nat) (xs : List V), vs = [.ref st, .ref l] ∧ IsSt H st g c (m + 1) ∧ H l = some (.lst xs) ∧ l ≠ g ∧ 0 < xs.length ∧ xs.length ≤ 1000 ∧
  ∀ (i : Nat) (v : V) H', xs[i]? = some v → IsSt H' st g c m → Fr [st, g] [0, 2] H H' → Q v H'
theorem C__law_pick (T : Txt K mg) : C8.Cal P w K mg base 3 "_law_pick" (sp__law_pick K) [] := by
  have C__law_draw := C__law_draw (P := P) (w := w) (base := base) T
  refine cal (N := N__law_pick) (ps := ["_law_state", "_law_some"]) T.d__law_pick (fun _ _ _ _ _ _ us hl => match us, hl with | [_, _], _ => rfl) sc__law_pick (fun vs H Q E h => ?_) (fun f cdv A outer s H vs Q E hr h => ?_)
  · obtain ⟨st, g, c, l, m, xs, rfl, _⟩ := h
    rfl
  · obtain ⟨st, g, c, l, m, xs, rfl, I, hl, ng, h1, h2, k⟩ := h
    refine ⟨_, (pss_one (ps_ret (pe_ix (ix_listK (K := K) rfl) (pv 1) (C8.pe_c C__law_draw hr (by decide) rfl (pa_cons (pv 0) (pa_cons (pe_callB (call_lenK (K := K) rfl) (by rfl) T.b_len PySem.boot_len (pa_cons (pv 1) pa_nil)) pa_nil))) (fun _ _ => rfl)))), ?_⟩
    iterate 4 first | refine ⟨_, rfl, ?_⟩ | refine ⟨_, _, rfl, .inl (SqL.of (by repeat (first | assumption | exact upd_same .. | refine u1 (by assumption) ?_ | refine um (by assumption) ?_ | refine sa (by assumption) ?_))), ?_⟩
    refine ⟨st, g, c, m, xs.length, rfl, I, h1, by omega, fun d H' hd I' f => ?_⟩
    have hl' := f.n hl (by simp [I.nst hl, ng])
    obtain ⟨v, hv⟩ : ∃ v, xs[d]? = some v := ⟨_, List.getElem?_eq_getElem hd⟩
    refine (show rIxL _ _ _ _ _ from ⟨_, _, _, _, rfl, rfl, SqL.of hl', atI_nat hv, ?_⟩)
    exact k d v H' hv I' f
abbrev s__law_number : Stmt := top 83
abbrev N__law_number : List Str := ["_law_state", "_law_size_here"]
theorem sc__law_number : FnScope N__law_number ["_law_state", "_law_size_here"] (defScope s__law_number) := ⟨rfl, rfl, rfl, by decide +kernel, rfl, by decide +kernel, by decide +kernel⟩
def sp__law_number (K : PySem.W.Frag) : Sp := fun vs H Q _ => ∃ (st g c : Addr) (m n : Nat), vs = [.ref st, nV n] ∧ IsSt H st g c (m + 2) ∧ 2 ≤ n ∧ n ≤ 10000 ∧
  ∀ (d : Nat) H', d < n → IsSt H' st g c m → Fr [st, g] [0, 2] H H' → Q (nV d) H'
theorem C__law_number (T : Txt K mg) : C8.Cal P w K mg base 4 "_law_number" (sp__law_number K) [] := by
  have C__law_draw := C__law_draw (P := P) (w := w) (base := base) T
  have C__law_pick := C__law_pick (P := P) (w := w) (base := base) T
  refine cal (N := N__law_number) (ps := ["_law_state", "_law_size_here"]) T.d__law_number (fun _ _ _ _ _ _ us hl => match us, hl with | [_, _], _ => rfl) sc__law_number (fun vs H Q E h => ?_) (fun f cdv A outer s H vs Q E hr h => ?_)
  · obtain ⟨st, g, c, m, n, rfl, _⟩ := h
    rfl
  · obtain ⟨st, g, c, m, n, rfl, I, h1, h2, k⟩ := h
    refine ⟨_, (pss_one (ps_ret (pe_op op_mod (C8.pe_c C__law_pick hr (by decide) rfl (pa_cons (pv 0) (pa_cons (pe_lst (pa_cons pe_int (pa_cons pe_int (pa_cons pe_int (pa_cons pe_int (pa_cons pe_int (pa_cons pe_int (pa_cons (pe_op op_sub (pv 1) pe_int) (pa_cons pe_int (pa_cons (C8.pe_c C__law_draw hr (by decide) rfl (pa_cons (pv 0) (pa_cons (pv 1) pa_nil))) pa_nil)))))))))) pa_nil))) (pv 1)))), ?_⟩
    iterate 5 first | refine ⟨_, rfl, ?_⟩ | refine ⟨_, _, rfl, rfl, ?_⟩
    refine ⟨st, g, c, m + 1, n, rfl, I, by omega, by omega, fun d H1 hd I1 f1 => ?_⟩
    refine ⟨le_line (of_decide_eq_true rfl), fun t ht => ?_⟩
    have I2 := I1.same (same_upd (o := .lst [.int 0, .int 1, .int 1, .int 0, .int 2, .int 3, .int ((n : Int) - 1), .int 4, nV d]) ht)
    refine ⟨st, g, c, t, m, _, rfl, I2, upd_same, I1.ng ht, by simp, by simp, fun i v H2 hv I3 f2 => ?_⟩
    obtain ⟨z, rfl⟩ : ∃ z : Int, v = .int z := by
      have hm := List.mem_of_getElem? hv
      simp only [List.mem_cons, List.not_mem_nil, or_false] at hm
      rcases hm with e | e | e | e | e | e | e | e | e <;> exact ⟨_, e⟩
    iterate 2 first | refine ⟨_, rfl, ?_⟩ | refine ⟨_, _, rfl, rfl, ?_⟩
    refine ⟨by omega, ?_⟩
    have e0 := Int.emod_nonneg z (show (n : Int) ≠ 0 by omega)
    have e1 := Int.emod_lt_of_pos z (show (0 : Int) < n by omega)
    obtain ⟨q, hq⟩ := Int.eq_ofNat_of_zero_le e0
    have hk := k q H2 (by omega) I3 (f1.trans ((Fr.of (same_upd ht)).trans f2))
    have hd2 : nV q = V.int (z % (n : Int)) := congrArg V.int hq.symm
    rw [hd2] at hk
    exact hk
abbrev s__law_size : Stmt := top 84
abbrev N__law_size : List Str := ["_law_state"]
theorem sc__law_size : FnScope N__law_size ["_law_state"] (defScope s__law_size) := ⟨rfl, rfl, rfl, by decide +kernel, rfl, by decide +kernel, by decide +kernel⟩
def sp__law_size (K : PySem.W.Frag) : Sp := fun vs H Q _ => ∃ (st g c : Addr) (m : Nat), vs = [.ref st] ∧ IsSt H st g c (m + 1) ∧
  ∀ (d : Nat) H', 2 ≤ d → d ≤ 10000 → IsSt H' st g c m → Fr [st, g] [0, 2] H H' → Q (nV d) H'
theorem C__law_size (T : Txt K mg) : C8.Cal P w K mg base 4 "_law_size" (sp__law_size K) [] := by
  have C__law_pick := C__law_pick (P := P) (w := w) (base := base) T
  refine cal (N := N__law_size) (ps := ["_law_state"]) T.d__law_size (fun _ _ _ _ _ _ us hl => match us, hl with | [_], _ => rfl) sc__law_size (fun vs H Q E h => ?_) (fun f cdv A outer s H vs Q E hr h => ?_)
  · obtain ⟨st, g, c, m, rfl, _⟩ := h
    rfl
  · obtain ⟨st, g, c, m, rfl, I, k⟩ := h
    refine ⟨_, (pss_one (ps_ret (C8.pe_c C__law_pick hr (by decide) rfl (pa_cons (pv 0) (pa_cons (pe_lst (pa_cons pe_int (pa_cons pe_int (pa_cons pe_int (pa_cons pe_int (pa_cons pe_int (pa_cons pe_int (pa_cons pe_int (pa_cons pe_int pa_nil))))))))) pa_nil))))), ?_⟩
    iterate 2 first | refine ⟨_, rfl, ?_⟩ | refine ⟨le_line (of_decide_eq_true rfl), fun t ht => ?_⟩
    have I2 := I.same (same_upd (o := .lst [nV 10, nV 10000, nV 7, nV 2, nV 100, nV 16, nV 3, nV 255]) ht)
    refine ⟨st, g, c, t, m, _, rfl, I2, upd_same, I.ng ht, by decide, by decide, fun i v H2 hv I3 f2 => ?_⟩
    obtain ⟨z, rfl, z1, z2⟩ : ∃ z : Nat, v = nV z ∧ 2 ≤ z ∧ z ≤ 10000 := by
      have hm := List.mem_of_getElem? hv
      simp only [List.mem_cons, List.not_mem_nil, or_false] at hm
      rcases hm with e | e | e | e | e | e | e | e <;> exact ⟨_, e, by decide, by decide⟩
    exact k z H2 z1 z2 I3 ((Fr.of (same_upd ht)).trans f2)
end Hw
namespace Hw
open PySem PySem.Spec PyProof.Rows L2
variable {P : Program} {w : World} {K : PySem.W.Frag} {mg : Str → Option Value} {base : Heap}
theorem fr_mut {S : List Addr} {ks : List Nat} {H H' : Hp} {D : Addr} {x : HO} (f : Fr S ks H H') (h : H D = none) : Fr S ks H (upd H' D x) := fun b y hb n => um (fun e => by rw [e, h] at hb; cases hb) (f b y hb n)
abbrev s__law_inputs : Stmt := top 85
abbrev N__law_inputs : List Str := ["_law_state", "_law_some", "_law_turn"]
theorem sc__law_inputs : FnScope N__law_inputs ["_law_state"] (defScope s__law_inputs) := ⟨rfl, rfl, rfl, by decide +kernel, rfl, by decide +kernel, by decide +kernel⟩
def sp__law_inputs (K : PySem.W.Frag) : Sp := fun vs H Q _ => ∃ (st g c : Addr) (m : Nat), vs = [.ref st] ∧ IsSt H st g c (m + 7) ∧
  ∀ (l : Addr) (ns : List Nat) H', H l = none → H' l = some (.lst (ns.map nV)) → ns.length ≤ 6 → (∀ n ∈ ns, n ≤ 9999) → IsSt H' st g c m → Fr [st, g] [0, 2] H H' → Q (.ref l) H'
theorem C__law_inputs (T : Txt K mg) : C8.Cal P w K mg base 4 "_law_inputs" (sp__law_inputs K) [] := by
  have C__law_pick := C__law_pick (P := P) (w := w) (base := base) T
  refine cal (N := N__law_inputs) (ps := ["_law_state"]) T.d__law_inputs (fun _ _ _ _ _ _ us hl => match us, hl with | [_], _ => rfl) sc__law_inputs (fun vs H Q E h => ?_) (fun f cdv A outer s H vs Q E hr h => ?_)
  · obtain ⟨st, g, c, m, rfl, _⟩ := h
    rfl
  · obtain ⟨st, g, c, m, rfl, I, k⟩ := h
    refine ⟨_, (pss_cons (ps_set (i := 1) sc__law_inputs.nd rfl (by first | exact .inl rfl | exact .inr rfl) (pe_lst (pa_cons pe_int (pa_cons pe_int (pa_cons pe_int (pa_cons pe_int (pa_cons pe_int (pa_cons pe_int (pa_cons pe_int (pa_cons pe_int (pa_cons pe_int (pa_cons pe_int pa_nil))))))))))))
    (pss_one (ps_ret (pe_lc (own := [("_law_turn", 2)]) rfl sc__law_inputs.nd (pi_range1 (by rfl) T.b_range (pa_cons (C8.pe_c C__law_pick hr (by decide) rfl (pa_cons (pv 0) (pa_cons (pe_lst (pa_cons pe_int (pa_cons pe_int (pa_cons pe_int (pa_cons pe_int (pa_cons pe_int pa_nil)))))) pa_nil))) pa_nil)) (blkOk_by (own := [("_law_turn", 2)]) (N := N__law_inputs) (sc := defScope s__law_inputs) (by decide +kernel)) (fun _ _ _ _ _ => (pg_name (i := 2) sc__law_inputs.nd rfl (by first | exact .inl rfl | exact .inr rfl))) (fun _ _ _ _ _ => pts_nil) (fun _ _ _ _ _ => (C8.pe_c C__law_pick hr (by decide) rfl (pa_cons (pv 0) (pa_cons (pv 1) pa_nil)))))))), ?_⟩
    iterate 3 first | refine ⟨_, rfl, ?_⟩ | refine ⟨le_line (of_decide_eq_true rfl), fun t ht => ?_⟩
    rename_i t0 ht0
    have s0 : Same H (upd (upd H t0 (.lst [nV 0, nV 1, nV 2, nV 3, nV 5, nV 9, nV 9999, nV 100, nV 17, nV 6])) t (.lst [nV 3, nV 0, nV 1, nV 6, nV 4])) := (same_upd ht0).trans (same_upd ht)
    have l0 : upd (upd H t0 (.lst [nV 0, nV 1, nV 2, nV 3, nV 5, nV 9, nV 9999, nV 100, nV 17, nV 6])) t (.lst [nV 3, nV 0, nV 1, nV 6, nV 4]) t0 = some (.lst [nV 0, nV 1, nV 2, nV 3, nV 5, nV 9, nV 9999, nV 100, nV 17, nV 6]) := u1 ht upd_same
    have ng0 := I.ng ht0
    have nst0 := (I.same s0).nst l0
    refine ⟨st, g, c, t, m + 6, _, rfl, I.same s0, upd_same, (I.same (same_upd ht0)).ng ht, by simp, by simp, fun i v H1 hv I1 f1 => ?_⟩
    obtain ⟨k0, rfl, hk0⟩ : ∃ z : Nat, v = nV z ∧ z ≤ 6 := by
      have hm := List.mem_of_getElem? hv
      simp only [List.mem_cons, List.not_mem_nil, or_false] at hm
      rcases hm with e | e | e | e | e <;> exact ⟨_, e, by decide⟩
    have l1 := f1.n l0 (by simp [ng0, nst0])
    have fa := (Fr.of (S := [st, g]) (ks := [0, 2]) s0).trans f1
    refine ⟨_, rfl, ?_⟩
    have p62 : (2 : Int) ^ 62 = 4611686018427387904 := by decide
    refine ⟨by rw [p62]; omega, by rw [p62]; omega, fun D hD => ?_⟩
    have nDs : D ≠ st := fun e => by
      obtain ⟨gr, cs, r, t', S, _⟩ := I1
      rw [e, S.ob] at hD; cases hD
    have nDg := I1.ng hD
    have nDc := I1.nc hD
    have n0D : t0 ≠ D := fun e => by rw [e, hD] at l1; cases l1
    have hHD : H D = none := by
      cases e : H D with
      | none => rfl
      | some y => rw [fa.n e (by simp [nDs, nDg])] at hD; cases hD
    have bl := big_line
    refine lc_range (lo := 0) (n := k0) (fun i Z => ∃ ns : List Nat, ns.length = i ∧ (∀ n ∈ ns, n ≤ 9999) ∧ Z D = some (.lst (ns.map nV)) ∧ IsSt Z st g c (m + (6 - i)) ∧ Fr [st, g] [0, 2] H Z ∧ Z t0 = some (.lst [nV 0, nV 1, nV 2, nV 3, nV 5, nV 9, nV 9999, nV 100, nV 17, nV 6]))
      ⟨[], rfl, fun n h => (by cases h), upd_same, I1.up nDs nDg nDc, fr_mut fa hHD, um n0D l1⟩ (fun i Z hi q => ?_) (fun Z q => ?_)
    · obtain ⟨ns, e1, e2, e3, IZ, fZ, lZ⟩ := q
      iterate 3 first | refine ⟨_, rfl, ?_⟩ | refine ⟨rfl, ?_⟩
      refine ⟨st, g, c, t0, m + (6 - (i + 1)), _, rfl, by rw [show m + (6 - (i + 1)) + 1 = m + (6 - i) by omega]; exact IZ, lZ, ng0, by simp, by simp, fun j v Z2 hv2 I2 f2 => ?_⟩
      obtain ⟨x, rfl, hx⟩ : ∃ z : Nat, v = nV z ∧ z ≤ 9999 := by
        have hm := List.mem_of_getElem? hv2
        simp only [List.mem_cons, List.not_mem_nil, or_false] at hm
        rcases hm with e | e | e | e | e | e | e | e | e | e <;> exact ⟨_, e, by decide⟩
      have e4 := f2.n e3 (by simp [nDs, nDg])
      refine ⟨_, e4, by rw [List.length_map]; omega, ns ++ [x], by simp [e1], fun n hn => ?_, by rw [upd_same, List.map_append]; rfl, I2.up nDs nDg nDc, fr_mut (fZ.trans f2) hHD, um n0D (f2.n lZ (by simp [ng0, nst0]))⟩
      rcases List.mem_append.mp hn with z | z
      · exact e2 n z
      · rw [List.mem_singleton.mp z]; exact hx
    · obtain ⟨ns, e1, e2, e3, IZ, fZ, lZ⟩ := q
      exact k D ns Z hHD e3 (by omega) e2 (IZ.le (by omega)) fZ
end Hw
namespace Hw
open PySem PySem.Spec PyProof.Rows L2
variable {P : Program} {w : World} {K : PySem.W.Frag} {mg : Str → Option Value} {base : Heap}
abbrev s__law_votes : Stmt := top 86
abbrev N__law_votes : List Str := ["_law_state", "_law_hues", "_law_found", "_law_width", "_law_least"]
theorem sc__law_votes : FnScope N__law_votes ["_law_state"] (defScope s__law_votes) := ⟨rfl, rfl, rfl, by decide +kernel, rfl, by decide +kernel, by decide +kernel⟩
def sp__law_votes (K : PySem.W.Frag) : Sp := fun vs H Q _ => ∃ (st g c : Addr) (m : Nat), vs = [.ref st] ∧ IsSt H st g c (m + 11) ∧
  ∀ (l : Addr) (ns : List Nat) H', H l = none → H' l = some (.tup (ns.map nV)) → 1 ≤ ns.length → ns.length ≤ 5 → (∀ i v, ns[i]? = some v → i + 1 < 2 * v ∧ v ≤ i + 1) → IsSt H' st g c m → Fr [st, g] [0, 2] H H' → Q (.ref l) H'
theorem C__law_votes (T : Txt K mg) : C8.Cal P w K mg base 4 "_law_votes" (sp__law_votes K) [] := by
  have C__law_draw := C__law_draw (P := P) (w := w) (base := base) T
  have C__law_pick := C__law_pick (P := P) (w := w) (base := base) T
  refine cal (N := N__law_votes) (ps := ["_law_state"]) T.d__law_votes (fun _ _ _ _ _ _ us hl => match us, hl with | [_], _ => rfl) sc__law_votes (fun vs H Q E h => ?_) (fun f cdv A outer s H vs Q E hr h => ?_)
  · obtain ⟨st, g, c, m, rfl, _⟩ := h
    rfl
  · obtain ⟨st, g, c, m, rfl, I, k⟩ := h
    refine ⟨_, (pss_cons (ps_par (i := 1) (j := 2) (by rfl) sc__law_votes.nd rfl rfl (by decide) rfl rfl (pa_cons (C8.pe_c C__law_pick hr (by decide) rfl (pa_cons (pv 0) (pa_cons (pe_lst (pa_cons pe_int (pa_cons pe_int (pa_cons pe_int (pa_cons pe_int (pa_cons pe_int (pa_cons pe_int (pa_cons pe_int pa_nil)))))))) pa_nil))) (pa_cons (pe_lst pa_nil) pa_nil)) (by rfl))
    (pss_cons (ps_for PassesOwn.never rfl (pi_range2 (by rfl) T.b_range (pa_cons pe_int (pa_cons (pe_op op_add (pv 1) pe_int) pa_nil))) (pg_name (i := 3) sc__law_votes.nd rfl (by first | exact .inl rfl | exact .inr rfl)) (pss_cons (ps_set (i := 4) sc__law_votes.nd rfl (by first | exact .inl rfl | exact .inr rfl) (pe_op op_add (pe_op op_fdiv (pv 3) pe_int) pe_int))
    (pss_one (ps_expr (pe_bm PySem.F.plainAttrs_list PySem.F.slot_list_append PySem.F.type_list_append mt_append (pv 2) (pa_cons (C8.pe_c C__law_pick hr (by decide) rfl (pa_cons (pv 0) (pa_cons (pe_lst (pa_cons (pv 4) (pa_cons (pv 3) (pa_cons (pe_op op_add (pv 4) (C8.pe_c C__law_draw hr (by decide) rfl (pa_cons (pv 0) (pa_cons (pe_op op_sub (pv 3) (pe_op op_fdiv (pv 3) pe_int)) pa_nil)))) pa_nil)))) pa_nil))) pa_nil))))))
    (pss_one (ps_ret (pe_callTy (call_tupleK (K := K) rfl) (by rfl) T.b_tuple (by decide +kernel) (pa_cons (pv 2) pa_nil)))))), ?_⟩
    iterate 2 first | refine ⟨_, rfl, ?_⟩ | refine ⟨le_line (of_decide_eq_true rfl), fun t ht => ?_⟩
    have s0 := same_upd (o := .lst [nV 3, nV 2, nV 3, nV 1, nV 5, nV 4, nV 2]) ht
    refine ⟨st, g, c, t, m + 10, _, rfl, I.same s0, upd_same, I.ng ht, by simp, by simp, fun i v H1 hv I1 f1 => ?_⟩
    obtain ⟨k0, rfl, hk0, hk1⟩ : ∃ z : Nat, v = nV z ∧ z ≤ 5 ∧ 1 ≤ z := by
      have hm := List.mem_of_getElem? hv
      simp only [List.mem_cons, List.not_mem_nil, or_false] at hm
      rcases hm with e | e | e | e | e | e | e <;> exact ⟨_, e, by decide, by decide⟩
    have fa := (Fr.of (S := [st, g]) (ks := [0, 2]) s0).trans f1
    refine ⟨le_line (of_decide_eq_true rfl), fun t ht => ?_⟩
    rename_i t0 ht0
    generalize t = D at ht ⊢
    have hD := ht
    have nDs : D ≠ st := fun e => by
      obtain ⟨gr, cs, r, D', S, _⟩ := I1
      rw [e, S.ob] at hD; cases hD
    have nDg := I1.ng hD
    have nDc := I1.nc hD
    have hHD : H D = none := by
      cases e : H D with
      | none => rfl
      | some y => rw [fa.n e (by simp [nDs, nDg])] at hD; cases hD
    have hDl : upd H1 D (.lst []) D = _ := upd_same
    have I2 := I1.up (x := .lst []) nDs nDg nDc
    have f2 := fr_mut (x := .lst []) fa hHD
    generalize upd H1 D (.lst []) = X at hDl I2 f2 ⊢
    refine ⟨_, _, rfl, ?_⟩
    iterate 2 first | refine ⟨_, rfl, ?_⟩ | refine ⟨_, _, rfl, rfl, ?_⟩
    have p62 : (2 : Int) ^ 62 = 4611686018427387904 := by decide
    refine ⟨1, (k0 : Int) + 1, rfl, ⟨by decide, by decide, by rw [p62]; omega, by rw [p62]; omega⟩, ?_⟩
    rw [show ((k0 : Int) + 1 - 1).toNat = k0 by omega]
    have bl := big_line
    refine for_range (lo := 1) (n := k0) (fun i σ Z => (∃ l3 l4, σ = [some (V.ref st), some (nV k0), some (V.ref D), l3, l4]) ∧ ∃ ns : List Nat, ns.length = i ∧ (∀ i v, ns[i]? = some v → i + 1 < 2 * v ∧ v ≤ i + 1) ∧ Z D = some (.lst (ns.map nV)) ∧ IsSt Z st g c (m + 2 * (5 - i)) ∧ Fr [st, g] [0, 2] H Z)
      ⟨⟨_, _, rfl⟩, [], rfl, fun i v h => by simp at h, hDl, I2, f2⟩ (fun i σ Z hi q => ?_) (fun σ Z q => ?_)
    · obtain ⟨⟨l3, l4, rfl⟩, ns, e1, e2, e3, IZ, fZ⟩ := q
      iterate 2 first | refine ⟨_, rfl, ?_⟩ | refine ⟨_, _, rfl, rfl, ?_⟩
      refine ⟨⟨by decide, by decide⟩, ?_⟩
      iterate 2 first | refine ⟨_, rfl, ?_⟩ | refine ⟨_, _, rfl, rfl, ?_⟩
      refine ⟨.inl ⟨rfl, _, SqL.of e3⟩, ?_⟩
      iterate 8 first | refine ⟨_, rfl, ?_⟩ | refine ⟨_, _, rfl, rfl, ?_⟩
      refine ⟨⟨by decide, by decide⟩, ?_⟩
      refine ⟨_, _, rfl, rfl, ?_⟩
      refine ⟨st, g, c, m + 2 * (5 - i) - 1, (1 + i) - (1 + i) / 2, (by
        have e : (1 + (i : Int)) - (1 + (i : Int)) / 2 = (((1 + i) - (1 + i) / 2 : Nat) : Int) := by omega
        exact congrArg (fun z => [V.ref st, V.int z]) e), by rw [show m + 2 * (5 - i) - 1 + 1 = m + 2 * (5 - i) by omega]; exact IZ, by omega, by omega, fun d Z1 hd I3 f3 => ?_⟩
      have e4 := f3.n e3 (by simp [nDs, nDg])
      iterate 2 first | refine ⟨_, _, rfl, rfl, ?_⟩ | refine ⟨le_line (of_decide_eq_true rfl), fun t ht => ?_⟩
      have I4 := I3.same (same_upd (o := .lst [.int ((1 + (i : Int)) / 2 + 1), .int (1 + (i : Int)), .int ((1 + (i : Int)) / 2 + 1 + (d : Int))]) ht)
      have e5 := same_upd (o := .lst [.int ((1 + (i : Int)) / 2 + 1), .int (1 + (i : Int)), .int ((1 + (i : Int)) / 2 + 1 + (d : Int))]) ht _ _ e4
      refine ⟨st, g, c, t, m + 2 * (5 - (i + 1)), _, rfl, by rw [show m + 2 * (5 - (i + 1)) + 1 = m + 2 * (5 - i) - 1 by omega]; exact I4, upd_same, I3.ng ht, by simp, by simp, fun j v Z2 hv2 I5 f5 => ?_⟩
      obtain ⟨x, rfl, hx1, hx2⟩ : ∃ z : Nat, v = nV z ∧ i + 1 < 2 * z ∧ z ≤ i + 1 := by
        have hm := List.mem_of_getElem? hv2
        simp only [List.mem_cons, List.not_mem_nil, or_false] at hm
        rcases hm with e | e | e
        · exact ⟨(1 + i) / 2 + 1, e, by omega, by omega⟩
        · exact ⟨1 + i, e, by omega, by omega⟩
        · exact ⟨(1 + i) / 2 + 1 + d, e, by omega, by omega⟩
      have e6 := f5.n e5 (by simp [nDs, nDg])
      have bl := big_line
      refine ⟨_, _, _, rfl, rfl, e6, by rw [List.length_map]; omega, ?_⟩
      refine ⟨⟨_, _, rfl⟩, ns ++ [x], by simp [e1], fun p v hp => ?_, by rw [upd_same, List.map_append]; rfl, I5.up nDs nDg nDc, fr_mut (fZ.trans (f3.trans ((Fr.of (same_upd ht)).trans f5))) hHD⟩
      by_cases hpi : p < ns.length
      · rw [List.getElem?_append_left hpi] at hp
        exact e2 p v hp
      · have hpl := (List.getElem?_eq_some_iff.mp hp).1
        rw [List.length_append] at hpl
        simp only [List.length_cons, List.length_nil] at hpl
        rw [List.getElem?_append_right (by omega), show p - ns.length = 0 by omega] at hp
        cases hp
        exact ⟨by omega, by omega⟩
    · obtain ⟨⟨l3, l4, rfl⟩, ns, e1, e2, e3, IZ, fZ⟩ := q
      refine ⟨_, rfl, ?_⟩
      refine ⟨_, _, rfl, .inl ⟨SqL.of e3, fun l hl => ?_⟩⟩
      have nls : l ≠ st := fun e => by
        obtain ⟨gr, cs, r, D', S, _⟩ := IZ
        rw [e, S.ob] at hl; cases hl
      have nlg := IZ.ng hl
      have hHl : H l = none := by
        cases e : H l with
        | none => rfl
        | some y => rw [fZ.n e (by simp [nls, nlg])] at hl; cases hl
      exact k l ns _ hHl upd_same (by omega) (by omega) e2 ((IZ.le (by omega)).up nls nlg (IZ.nc hl)) (fr_mut fZ hHl)
end Hw
namespace Hw
open PySem PySem.Spec PyProof.Rows L2
variable {P : Program} {w : World} {K : PySem.W.Frag} {mg : Str → Option Value} {base : Heap}
abbrev s__law_copy_step : Stmt := top 91
abbrev N__law_copy_step : List Str := ["_law_state", "_law_size_here", "_law_bank", "_law_way", "_law_b"]
theorem sc__law_copy_step : FnScope N__law_copy_step ["_law_state", "_law_size_here", "_law_bank"] (defScope s__law_copy_step) := ⟨rfl, rfl, rfl, by decide +kernel, rfl, by decide +kernel, by decide +kernel⟩
def IsStep (xs : List V) (f : Nat → Cell) (size bank : Nat) : Prop := (∀ i, cellV (f i) = nV i :: xs ∧ (f i).hue = some i) ∧ ∀ h i, i < h → (f i).Ok h size bank
def sp__law_copy_step (K : PySem.W.Frag) : Sp := fun vs H Q _ => ∃ (st g c : Addr) (m size bank : Nat), vs = [.ref st, nV size, nV bank] ∧ IsSt H st g c (m + 4) ∧ 2 ≤ size ∧ size ≤ 10000 ∧ bank ≤ 3 ∧
  ∀ (l : Addr) (xs : List V) (f : Nat → Cell) H', H l = none → H' l = some (.tup xs) → IsStep xs f size bank → IsSt H' st g c m → Fr [st, g] [0, 2] H H' → Q (.ref l) H'
theorem C__law_copy_step (T : Txt K mg) : C8.Cal P w K mg base 5 "_law_copy_step" (sp__law_copy_step K) [] := by
  have C__law_draw := C__law_draw (P := P) (w := w) (base := base) T
  have C__law_number := C__law_number (P := P) (w := w) (base := base) T
  refine cal (N := N__law_copy_step) (ps := ["_law_state", "_law_size_here", "_law_bank"]) T.d__law_copy_step (fun _ _ _ _ _ _ us hl => match us, hl with | [_, _, _], _ => rfl) sc__law_copy_step (fun vs H Q E h => ?_) (fun f cdv A outer s H vs Q E hr h => ?_)
  · obtain ⟨st, g, c, m, size, bank, rfl, _⟩ := h
    rfl
  · obtain ⟨st, g, c, m, size, bank, rfl, I, h1, h2, h3, k⟩ := h
    refine ⟨_, (pss_cons (ps_par (i := 3) (j := 4) (by rfl) sc__law_copy_step.nd rfl rfl (by decide) rfl rfl (pa_cons (C8.pe_c C__law_draw hr (by decide) rfl (pa_cons (pv 0) (pa_cons pe_int pa_nil))) (pa_cons (C8.pe_c C__law_draw hr (by decide) rfl (pa_cons (pv 0) (pa_cons pe_int pa_nil))) pa_nil)) (by rfl))
    (pss_cons (ps_if (PW.pt (pw_and (pt_cmpR op_lt (pv 3) pe_int (nomark _)) (pw_and1 (pt_cmpR op_gt (pv 2) pe_int (nomark _))))) (pss_one (ps_ret (pe_tup (pa_cons pe_str (pa_cons (pv 4) (pa_cons (C8.pe_c C__law_draw hr (by decide) rfl (pa_cons (pv 0) (pa_cons pe_int pa_nil))) (pa_cons (C8.pe_c C__law_draw hr (by decide) rfl (pa_cons (pv 0) (pa_cons (pv 2) pa_nil))) (pa_cons pe_int pa_nil)))))))) pss_nil)
    (pss_cons (ps_if (PW.pt (pw_and (pt_cmpR op_lt (pv 3) pe_int (nomark _)) (pw_and1 (pt_cmpR op_gt (pv 2) pe_int (nomark _))))) (pss_one (ps_ret (pe_tup (pa_cons pe_str (pa_cons (pv 4) (pa_cons (C8.pe_c C__law_draw hr (by decide) rfl (pa_cons (pv 0) (pa_cons pe_int pa_nil))) (pa_cons (C8.pe_c C__law_draw hr (by decide) rfl (pa_cons (pv 0) (pa_cons (pv 2) pa_nil))) (pa_cons pe_int pa_nil)))))))) pss_nil)
    (pss_one (ps_ret (pe_ifExp (pt_cmpR op_eq (pv 3) pe_int (nomark _)) (pe_tup (pa_cons pe_str (pa_cons (pv 4) pa_nil))) (pe_tup (pa_cons pe_str (pa_cons (pv 4) (pa_cons (C8.pe_c C__law_number hr (by decide) rfl (pa_cons (pv 0) (pa_cons (pv 1) pa_nil))) pa_nil)))))))))), ?_⟩
    refine ⟨_, rfl, ?_⟩
    refine ⟨st, g, c, m + 3, 6, rfl, I, by omega, by omega, fun way H1 hway I1 f1 => ?_⟩
    refine ⟨_, rfl, ?_⟩
    refine ⟨st, g, c, m + 2, 3, rfl, I1, by omega, by omega, fun b H2 hb I2 f2 => ?_⟩
    refine ⟨_, _, rfl, ?_⟩
    have fin : ∀ {xs : List V} {f : Nat → Cell} {H3 : Hp} {mm : Nat} (q : Addr), IsStep xs f size bank → IsSt H3 st g c mm → m ≤ mm → Fr [st, g] [0, 2] H H3 → H3 q = none → Q (.ref q) (upd H3 q (.tup xs)) := fun {xs f H3 mm} q hs I3 le f3 hq => by
      have nqs : q ≠ st := fun e => by
        obtain ⟨gr, cs, r, t', S, _⟩ := I3
        rw [e, S.ob] at hq; cases hq
      have hHq : H q = none := by
        cases e : H q with
        | none => rfl
        | some y => rw [f3.n e (by simp [nqs, I3.ng hq])] at hq; cases hq
      exact k q xs f _ hHq upd_same hs ((I3.le le).up nqs (I3.ng hq) (I3.nc hq)) (fr_mut f3 hHq)
    by_cases hb0 : 0 < bank
    · by_cases w1 : way < 2
      · skip
        iterate 10 first | refine ⟨_, rfl, ?_⟩ | refine ⟨_, _, rfl, rfl, ?_⟩ | refine itT (by omega) ?_
        refine ⟨st, g, c, m + 1, 3, rfl, I2, by omega, by omega, fun x H3 hx I3 f3 => ?_⟩
        refine ⟨_, rfl, ?_⟩
        refine ⟨_, rfl, ?_⟩
        refine ⟨st, g, c, m, bank, rfl, I3, by omega, by omega, fun z H4 hz I4 f4 => ?_⟩
        refine ⟨le_line (of_decide_eq_true rfl), fun t ht => ?_⟩
        exact fin t (f := fun i => .get i b x z) ⟨fun i => ⟨rfl, rfl⟩, fun h i hi => ⟨hi, by omega, by omega, hz⟩⟩ I4 (Nat.le_refl _) (f1.trans (f2.trans (f3.trans f4))) ht
      · by_cases w2 : way < 4
        · skip
          iterate 15 first | refine iteF ?_ | refine ⟨_, rfl, ?_⟩ | refine ⟨_, _, rfl, rfl, ?_⟩ | refine itF (by omega) ?_ | refine itT (by omega) ?_
          refine ⟨st, g, c, m + 1, 3, rfl, I2, by omega, by omega, fun x H3 hx I3 f3 => ?_⟩
          refine ⟨_, rfl, ?_⟩
          refine ⟨_, rfl, ?_⟩
          refine ⟨st, g, c, m, bank, rfl, I3, by omega, by omega, fun z H4 hz I4 f4 => ?_⟩
          refine ⟨le_line (of_decide_eq_true rfl), fun t ht => ?_⟩
          exact fin t (f := fun i => .put i b x z) ⟨fun i => ⟨rfl, rfl⟩, fun h i hi => ⟨hi, by omega, by omega, hz⟩⟩ I4 (Nat.le_refl _) (f1.trans (f2.trans (f3.trans f4))) ht
        · by_cases w4 : way = 4
          · subst w4
            iterate 16 first | refine iteT ?_ | refine iteF ?_ | refine ⟨_, rfl, ?_⟩ | refine ⟨_, _, rfl, rfl, ?_⟩ | refine ⟨rfl, ?_⟩ | refine ⟨le_line (of_decide_eq_true rfl), fun t ht => ?_⟩
            exact fin t (f := fun i => .offer i b) ⟨fun i => ⟨rfl, rfl⟩, fun h i hi => ⟨hi, by omega⟩⟩ I2 (by omega) (f1.trans f2) ht
          · skip
            iterate 13 first | refine iteF ?_ | refine ⟨_, rfl, ?_⟩ | refine ⟨_, _, rfl, rfl, ?_⟩ | refine ⟨rfl, ?_⟩ | refine itF (by omega) ?_
            refine itF (fun e => absurd (V.int.inj e) (by omega)) ?_
            refine ⟨_, rfl, ?_⟩
            refine ⟨_, rfl, ?_⟩
            refine ⟨_, rfl, ?_⟩
            refine ⟨st, g, c, m, size, rfl, I2, by omega, by omega, fun n H3 hn I3 f3 => ?_⟩
            refine ⟨le_line (of_decide_eq_true rfl), fun t ht => ?_⟩
            exact fin t (f := fun i => .set i b n) ⟨fun i => ⟨rfl, rfl⟩, fun h i hi => ⟨hi, by omega, hn⟩⟩ I3 (Nat.le_refl _) (f1.trans (f2.trans f3)) ht
    · by_cases w1 : way < 2
      · skip
        iterate 19 first | refine ⟨_, rfl, ?_⟩ | refine ⟨_, _, rfl, rfl, ?_⟩ | refine ⟨rfl, ?_⟩ | refine itF (by omega) ?_ | refine itT (by omega) ?_
        refine itF (fun e => absurd (V.int.inj e) (by omega)) ?_
        refine ⟨_, rfl, ?_⟩
        refine ⟨_, rfl, ?_⟩
        refine ⟨_, rfl, ?_⟩
        refine ⟨st, g, c, m, size, rfl, I2, by omega, by omega, fun n H3 hn I3 f3 => ?_⟩
        refine ⟨le_line (of_decide_eq_true rfl), fun t ht => ?_⟩
        exact fin t (f := fun i => .set i b n) ⟨fun i => ⟨rfl, rfl⟩, fun h i hi => ⟨hi, by omega, hn⟩⟩ I3 (Nat.le_refl _) (f1.trans (f2.trans f3)) ht
      · by_cases w2 : way < 4
        · skip
          iterate 16 first | refine iteF ?_ | refine ⟨_, rfl, ?_⟩ | refine ⟨_, _, rfl, rfl, ?_⟩ | refine ⟨rfl, ?_⟩ | refine itF (by omega) ?_ | refine itT (by omega) ?_
          refine itF (fun e => absurd (V.int.inj e) (by omega)) ?_
          refine ⟨_, rfl, ?_⟩
          refine ⟨_, rfl, ?_⟩
          refine ⟨_, rfl, ?_⟩
          refine ⟨st, g, c, m, size, rfl, I2, by omega, by omega, fun n H3 hn I3 f3 => ?_⟩
          refine ⟨le_line (of_decide_eq_true rfl), fun t ht => ?_⟩
          exact fin t (f := fun i => .set i b n) ⟨fun i => ⟨rfl, rfl⟩, fun h i hi => ⟨hi, by omega, hn⟩⟩ I3 (Nat.le_refl _) (f1.trans (f2.trans f3)) ht
        · by_cases w4 : way = 4
          · subst w4
            iterate 16 first | refine iteT ?_ | refine iteF ?_ | refine ⟨_, rfl, ?_⟩ | refine ⟨_, _, rfl, rfl, ?_⟩ | refine ⟨rfl, ?_⟩ | refine ⟨le_line (of_decide_eq_true rfl), fun t ht => ?_⟩
            exact fin t (f := fun i => .offer i b) ⟨fun i => ⟨rfl, rfl⟩, fun h i hi => ⟨hi, by omega⟩⟩ I2 (by omega) (f1.trans f2) ht
          · skip
            iterate 13 first | refine iteF ?_ | refine ⟨_, rfl, ?_⟩ | refine ⟨_, _, rfl, rfl, ?_⟩ | refine ⟨rfl, ?_⟩ | refine itF (by omega) ?_
            refine itF (fun e => absurd (V.int.inj e) (by omega)) ?_
            refine ⟨_, rfl, ?_⟩
            refine ⟨_, rfl, ?_⟩
            refine ⟨_, rfl, ?_⟩
            refine ⟨st, g, c, m, size, rfl, I2, by omega, by omega, fun n H3 hn I3 f3 => ?_⟩
            refine ⟨le_line (of_decide_eq_true rfl), fun t ht => ?_⟩
            exact fin t (f := fun i => .set i b n) ⟨fun i => ⟨rfl, rfl⟩, fun h i hi => ⟨hi, by omega, hn⟩⟩ I3 (Nat.le_refl _) (f1.trans (f2.trans f3)) ht
end Hw
namespace Hw
open PySem PySem.Spec PyProof.Rows L2
variable {P : Program} {w : World} {K : PySem.W.Frag} {mg : Str → Option Value} {base : Heap}
theorem op_catTK {X : Cx} {K : PySem.W.Frag} (h : X.K = K) : OpR X (binaryOp .Add) (rCatT K) := h ▸ op_catT
theorem IsSt.fresh {H X : Hp} {st g c q : Addr} {m : Nat} (I : IsSt X st g c m) (f : Fr [st, g] [0, 2] H X) (h : X q = none) : H q = none ∧ q ≠ st ∧ q ≠ g ∧ q ≠ c := by
  have n1 : q ≠ st := fun e => by
    obtain ⟨gr, cs, r, t, S, _⟩ := I
    rw [e, S.ob] at h
    cases h
  have n2 := I.ng h
  refine ⟨?_, n1, n2, I.nc h⟩
  cases e : H q with
  | none => rfl
  | some y =>
    rw [f.n e (by simp [n1, n2])] at h
    cases h
theorem Fr.tups {S : List Addr} {H X : Hp} (f : Fr S [0, 2] H X) : ∀ b xs, H b = some (.tup xs) → X b = some (.tup xs) := fun b xs h => f.k h (by simp [HO.kd])
theorem AreCells.k {H X : Hp} (f : ∀ b xs, H b = some (.tup xs) → X b = some (.tup xs)) {vs : List V} {cs : List Cell} (h : AreCells H vs cs) : AreCells X vs cs :=
  ⟨h.1, fun i v c a b => let ⟨q, e1, e2⟩ := h.2 i v c a b; ⟨q, e1, f _ _ e2⟩⟩
theorem AreCells.snoc {H : Hp} {vs : List V} {cs : List Cell} {v : V} {c : Cell} (h : AreCells H vs cs) (hv : IsCell H v c) : AreCells H (vs ++ [v]) (cs ++ [c]) := AllAt.snoc (R := IsCell H) h hv
theorem AreCells.app {H : Hp} : ∀ {ws : List V} {ds : List Cell} {vs : List V} {cs : List Cell}, AreCells H vs cs → AreCells H ws ds → AreCells H (vs ++ ws) (cs ++ ds)
  | [], [], vs, cs, h, _ => by simpa using h
  | [], d :: ds, vs, cs, _, h => by have := h.1; simp at this
  | w :: ws, [], vs, cs, _, h => by have := h.1; simp at this
  | w :: ws, d :: ds, vs, cs, h, h2 => by
    have := AreCells.app (h.snoc (h2.2 0 w d rfl rfl)) (ws := ws) (ds := ds) ⟨by have := h2.1; simpa using this, fun i v x a b => h2.2 (i + 1) v x (by simpa using a) (by simpa using b)⟩
    simpa using this
theorem cells_nil {H : Hp} : AreCells H [] [] := ⟨rfl, fun i v c h => by simp at h⟩
abbrev s__law_copy_block : Stmt := top 92
abbrev N__law_copy_block : List Str := ["_law_state", "_law_hues", "_law_size_here", "_law_bank", "_law_cells", "_law_turn", "_law_step", "_law_alone", "_law_way", "_law_slot", "_law_left", "_law_hue"]
theorem sc__law_copy_block : FnScope N__law_copy_block ["_law_state", "_law_hues", "_law_size_here", "_law_bank"] (defScope s__law_copy_block) := ⟨rfl, rfl, rfl, by decide +kernel, rfl, by decide +kernel, by decide +kernel⟩
def sp__law_copy_block (K : PySem.W.Frag) : Sp := fun vs H Q _ => ∃ (st g c : Addr) (m h size bank : Nat), vs = [.ref st, nV h, nV size, nV bank] ∧ IsSt H st g c (m + 30) ∧ 1 ≤ h ∧ h ≤ 5 ∧ 2 ≤ size ∧ size ≤ 10000 ∧ bank ≤ 3 ∧
  ∀ (l : Addr) (vs : List V) (cs : List Cell) H', H l = none → H' l = some (.lst vs) → AreCells H' vs cs → cs.length ≤ 21 → (∀ x ∈ cs, x.Ok h size bank) → IsSt H' st g c m → Fr [st, g] [0, 2] H H' → Q (.ref l) H'
theorem C__law_copy_block (T : Txt K mg) : C8.Cal P w K mg base 6 "_law_copy_block" (sp__law_copy_block K) [] := by
  have C__law_draw := C__law_draw (P := P) (w := w) (base := base) T
  have C__law_pick := C__law_pick (P := P) (w := w) (base := base) T
  have C__law_copy_step := C__law_copy_step (P := P) (w := w) (base := base) T
  refine cal (N := N__law_copy_block) (ps := ["_law_state", "_law_hues", "_law_size_here", "_law_bank"]) T.d__law_copy_block (fun _ _ _ _ _ _ us hl => match us, hl with | [_, _, _, _], _ => rfl) sc__law_copy_block (fun vs H Q E h => ?_) (fun f cdv A outer s H vs Q E hr h => ?_)
  · obtain ⟨st, g, c, m, h, size, bank, rfl, _⟩ := h
    rfl
  · obtain ⟨st, g, c, m, hh, size, bank, rfl, I, h1, h5, h2, h3, h4, k⟩ := h
    refine ⟨_, (pss_cons (ps_set (i := 4) sc__law_copy_block.nd rfl (by first | exact .inl rfl | exact .inr rfl) (pe_lst pa_nil))
    (pss_cons (ps_for PassesOwn.never rfl (pi_range1 (by rfl) T.b_range (pa_cons (C8.pe_c C__law_pick hr (by decide) rfl (pa_cons (pv 0) (pa_cons (pe_lst (pa_cons pe_int (pa_cons pe_int (pa_cons pe_int (pa_cons pe_int pa_nil))))) pa_nil))) pa_nil)) (pg_name (i := 5) sc__law_copy_block.nd rfl (by first | exact .inl rfl | exact .inr rfl)) (pss_cons (ps_set (i := 6) sc__law_copy_block.nd rfl (by first | exact .inl rfl | exact .inr rfl) (C8.pe_c C__law_copy_step hr (by decide) rfl (pa_cons (pv 0) (pa_cons (pv 2) (pa_cons (pv 3) pa_nil)))))
    (pss_cons (ps_set (i := 7) sc__law_copy_block.nd rfl (by first | exact .inl rfl | exact .inr rfl) (C8.pe_c C__law_draw hr (by decide) rfl (pa_cons (pv 0) (pa_cons (pe_op op_mul pe_int (pv 1)) pa_nil))))
    (pss_one (ps_set (i := 4) sc__law_copy_block.nd rfl (by first | exact .inl rfl | exact .inr rfl) (pe_ifExp (pt_cmpR op_lt (pv 7) (pv 1) (nomark _)) (pe_op op_cat (pv 4) (pe_lst (pa_cons (pe_op (op_catTK (K := K) rfl) (pe_tup (pa_cons (pv 7) pa_nil)) (pv 6)) pa_nil))) (pe_op op_cat (pv 4) (pe_lc (own := [("_law_hue", 11)]) rfl sc__law_copy_block.nd (pi_range1 (by rfl) T.b_range (pa_cons (pv 1) pa_nil)) (blkOk_by (own := [("_law_hue", 11)]) (N := N__law_copy_block) (sc := defScope s__law_copy_block) (by decide +kernel)) (fun _ _ _ _ _ => (pg_name (i := 11) sc__law_copy_block.nd rfl (by first | exact .inl rfl | exact .inr rfl))) (fun _ _ _ _ _ => pts_nil) (fun _ _ _ _ _ => (pe_op (op_catTK (K := K) rfl) (pe_tup (pa_cons (pv 11) pa_nil)) (pv 6)))))))))))
    (pss_cons (ps_asg (pe_tup (pa_cons (C8.pe_c C__law_draw hr (by decide) rfl (pa_cons (pv 0) (pa_cons pe_int pa_nil))) (pa_cons (C8.pe_c C__law_draw hr (by decide) rfl (pa_cons (pv 0) (pa_cons pe_int pa_nil))) pa_nil))) (pg_tup rfl (pgs_cons (pg_name (i := 8) sc__law_copy_block.nd rfl (by first | exact .inl rfl | exact .inr rfl)) (pgs_cons (pg_name (i := 9) sc__law_copy_block.nd rfl (by first | exact .inl rfl | exact .inr rfl)) pgs_nil))))
    (pss_cons (ps_if (pt_cmpR op_lt (pv 8) pe_int (nomark _)) (pss_one (ps_ret (pe_op op_cat (pv 4) (pe_lst (pa_cons (pe_tup (pa_cons pe_str (pa_cons (C8.pe_c C__law_draw hr (by decide) rfl (pa_cons (pv 0) (pa_cons pe_int pa_nil))) (pa_cons (pe_ifExp (pt_cmpR op_gt (C8.pe_c C__law_draw hr (by decide) rfl (pa_cons (pv 0) (pa_cons pe_int pa_nil))) pe_int (nomark _)) (pv 1) (pe_op op_add pe_int (C8.pe_c C__law_draw hr (by decide) rfl (pa_cons (pv 0) (pa_cons (pv 1) pa_nil))))) pa_nil)))) pa_nil))))) pss_nil)
    (pss_cons (ps_if (PW.pt (pw_and (pt_cmpR op_eq (pv 8) pe_int (nomark _)) (pw_and1 (pt_cmpR op_eq (C8.pe_c C__law_draw hr (by decide) rfl (pa_cons (pv 0) (pa_cons pe_int pa_nil))) pe_int (nomark _))))) (pss_one (ps_ret (pe_op op_cat (pv 4) (pe_lst (pa_cons (pe_tup (pa_cons pe_str pa_nil)) pa_nil))))) pss_nil)
    (pss_cons (ps_set (i := 10) sc__law_copy_block.nd rfl (by first | exact .inl rfl | exact .inr rfl) (C8.pe_c C__law_draw hr (by decide) rfl (pa_cons (pv 0) (pa_cons (pe_op op_mul pe_int (pv 1)) pa_nil))))
    (pss_cons (ps_set (i := 4) sc__law_copy_block.nd rfl (by first | exact .inl rfl | exact .inr rfl) (pe_op op_cat (pv 4) (pe_lc (own := [("_law_hue", 11)]) rfl sc__law_copy_block.nd (pi_range1 (by rfl) T.b_range (pa_cons (pv 1) pa_nil)) (blkOk_by (own := [("_law_hue", 11)]) (N := N__law_copy_block) (sc := defScope s__law_copy_block) (by decide +kernel)) (fun _ _ _ _ _ => (pg_name (i := 11) sc__law_copy_block.nd rfl (by first | exact .inl rfl | exact .inr rfl))) (fun _ _ _ _ _ => (pts_one (pt_cmpR op_ne (pv 11) (pv 10) (nomark _)))) (fun _ _ _ _ _ => (pe_tup (pa_cons (pv 11) (pa_cons pe_str (pa_cons (pv 9) pa_nil))))))))
    (pss_one (ps_ret (pe_op op_cat (pv 4) (pe_lst (pa_cons (pe_tup (pa_cons pe_str (pa_cons (C8.pe_c C__law_draw hr (by decide) rfl (pa_cons (pv 0) (pa_cons pe_int pa_nil))) (pa_cons (pe_ifExp (pt_cmpR op_gt (C8.pe_c C__law_draw hr (by decide) rfl (pa_cons (pv 0) (pa_cons pe_int pa_nil))) pe_int (nomark _)) (pv 1) (pe_op op_add pe_int (C8.pe_c C__law_draw hr (by decide) rfl (pa_cons (pv 0) (pa_cons (pv 1) pa_nil))))) pa_nil)))) pa_nil)))))))))))), ?_⟩
    iterate 3 first | refine ⟨_, rfl, ?_⟩ | refine ⟨le_line (of_decide_eq_true rfl), fun t ht => ?_⟩
    rename_i t0 ht0
    have bl := big_line
    have s0 : Same H (upd (upd H t0 (.lst [])) t (.lst [nV 1, nV 2, nV 0, nV 3])) := (same_upd ht0).trans (same_upd ht)
    have l0 : upd (upd H t0 (.lst [])) t (.lst [nV 1, nV 2, nV 0, nV 3]) t0 = some (.lst []) := u1 ht upd_same
    have I0 := I.same s0
    have ng0 := I.ng ht0
    have nst0 := I0.nst l0
    refine ⟨st, g, c, t, m + 29, _, rfl, I0, upd_same, (I.same (same_upd ht0)).ng ht, by simp, by simp, fun i v H1 hv I1 f1 => ?_⟩
    obtain ⟨k0, rfl, hk0⟩ : ∃ z : Nat, v = nV z ∧ z ≤ 3 := by
      have hm := List.mem_of_getElem? hv
      simp only [List.mem_cons, List.not_mem_nil, or_false] at hm
      rcases hm with e | e | e | e <;> exact ⟨_, e, by decide⟩
    have l1 := f1.n l0 (by simp [ng0, nst0])
    have fa := (Fr.of (S := [st, g]) (ks := [0, 2]) s0).trans f1
    refine ⟨_, rfl, ?_⟩
    have p62 : (2 : Int) ^ 62 = 4611686018427387904 := by decide
    refine ⟨by rw [p62]; omega, by rw [p62]; omega, ?_⟩
    rw [Int.toNat_natCast]
    refine for_range (lo := 0) (n := k0) (fun i σ Z => ∃ (l : Addr) (vs : List V) (cs : List Cell), (∃ x5 x6 x7 x8 x9 x10 x11, σ = [some (V.ref st), some (nV hh), some (nV size), some (nV bank), some (.ref l), x5, x6, x7, x8, x9, x10, x11]) ∧
        Z l = some (.lst vs) ∧ l ≠ st ∧ l ≠ g ∧ AreCells Z vs cs ∧ cs.length ≤ 5 * i ∧ (∀ x ∈ cs, x.Ok hh size bank) ∧ IsSt Z st g c (m + 14 + 5 * (3 - i)) ∧ Fr [st, g] [0, 2] H Z)
      ⟨t0, [], [], ⟨_, _, _, _, _, _, _, rfl⟩, l1, nst0, ng0, cells_nil, Nat.le_refl _, fun x h => (by cases h), I1, fa⟩ (fun i σ Z hi q => ?_) (fun σ Z q => ?_)
    · obtain ⟨l, vs, cs, ⟨x5, x6, x7, x8, x9, x10, x11, rfl⟩, e1, e2, e3, e4, e5, e6, IZ, fZ⟩ := q
      refine ⟨_, rfl, ?_⟩
      refine ⟨_, rfl, ?_⟩
      refine ⟨_, rfl, ?_⟩
      refine ⟨st, g, c, m + 10 + 5 * (3 - i), size, bank, rfl, by rw [show m + 10 + 5 * (3 - i) + 4 = m + 14 + 5 * (3 - i) by omega]; exact IZ, h2, h3, h4, fun ls xs fc Z1 hls hls2 hst I1 f1 => ?_⟩
      have fZ1 := fZ.trans f1
      have e1b := f1.n e1 (by simp [e2, e3])
      have e4b := e4.k f1.tups
      iterate 3 first | refine ⟨_, rfl, ?_⟩ | refine ⟨_, _, rfl, rfl, ?_⟩
      refine ⟨.inl ⟨by decide, by decide⟩, ?_⟩
      refine ⟨st, g, c, m + 9 + 5 * (3 - i), 5 * hh, congrArg (fun z => [V.ref st, V.int z]) (by omega), by rw [show m + 9 + 5 * (3 - i) + 1 = m + 10 + 5 * (3 - i) by omega]; exact I1, by omega, by omega, fun alone Z2 hal I2 f2 => ?_⟩
      have fZ2 := fZ1.trans f2
      have e1c := f2.n e1b (by simp [e2, e3])
      have e4c := e4b.k f2.tups
      have hls3 := f2.tups _ _ hls2
      have el : m + 9 + 5 * (3 - i) = m + 14 + 5 * (3 - (i + 1)) := by omega
      rw [el] at I2
      iterate 4 first | refine ⟨_, rfl, ?_⟩ | refine ⟨_, _, rfl, rfl, ?_⟩
      have fin : ∀ (X : Hp) (q : Addr) (ws : List V) (ds : List Cell), Same Z2 X → X q = none → AreCells X ws ds → ds.length ≤ 5 → (∀ x ∈ ds, x.Ok hh size bank) →
          upd X q (.lst (vs ++ ws)) q = some (.lst (vs ++ ws)) ∧ q ≠ st ∧ q ≠ g ∧ AreCells (upd X q (.lst (vs ++ ws))) (vs ++ ws) (cs ++ ds) ∧ (cs ++ ds).length ≤ 5 * (i + 1) ∧ (∀ x ∈ cs ++ ds, x.Ok hh size bank) ∧
            IsSt (upd X q (.lst (vs ++ ws))) st g c (m + 14 + 5 * (3 - (i + 1))) ∧ Fr [st, g] [0, 2] H (upd X q (.lst (vs ++ ws))) := fun X q ws ds sX hq a5 l5 o5 => by
        have IX := I2.same sX
        have fX := fZ2.trans (Fr.of sX)
        obtain ⟨n1, n2, n3, n4⟩ := IX.fresh fX hq
        refine ⟨upd_same, n2, n3, ((e4c.same sX).app a5).same (same_upd hq), by rw [List.length_append]; omega, fun x hx => ?_, IX.same (same_upd hq), fr_mut fX n1⟩
        rcases List.mem_append.mp hx with z | z
        · exact e6 x z
        · exact o5 x z
      have lvs : vs.length ≤ 15 := by have := e4.1; omega
      have xsl : ∀ k, xs.length ≤ 5 ∧ xs ≠ [] := fun k => by
        have h1 := (hst.1 k).1
        have h2 := (hst.1 k).2
        cases e : fc k with
        | set => rw [e] at h1; cases h1; exact ⟨by simp, by simp⟩
        | get => rw [e] at h1; cases h1; exact ⟨by simp, by simp⟩
        | put => rw [e] at h1; cases h1; exact ⟨by simp, by simp⟩
        | offer => rw [e] at h1; cases h1; exact ⟨by simp, by simp⟩
        | take => rw [e] at h2; cases h2
        | sho => rw [e] at h2; cases h2
        | mark => rw [e] at h2; cases h2
        | stop => rw [e] at h2; cases h2
      obtain ⟨xl, xn⟩ := xsl 0
      by_cases ha : alone < hh
      · skip
        iterate 5 first | refine ⟨_, rfl, ?_⟩ | refine ⟨le_line (of_decide_eq_true rfl), fun t ht => ?_⟩ | refine itT (by omega) ?_
        have s3 := same_upd (o := .tup [nV alone]) ht
        refine ⟨t, ls, _, _, rfl, rfl, SqT.of upd_same, SqT.of (s3 _ _ hls3), by simp, by simp; omega, fun e => absurd e xn, fun _ p hp => ?_⟩
        rw [show [nV alone] ++ xs = cellV (fc alone) from (hst.1 alone).1.symm]
        have s4 := s3.trans (same_upd (o := .tup (cellV (fc alone))) hp)
        have hp4 : upd (upd Z2 t (.tup [nV alone])) p (.tup (cellV (fc alone))) p = _ := upd_same
        generalize upd (upd Z2 t (.tup [nV alone])) p (.tup (cellV (fc alone))) = X at s4 hp4 ⊢
        clear hp s3
        clear ht
        clear t
        refine ⟨le_line (of_decide_eq_true rfl), fun t ht => ?_⟩
        have s5 := s4.trans (same_upd (o := .lst [.ref p]) ht)
        refine ⟨_, _, _, _, rfl, rfl, s5 _ _ e1c, upd_same, by simp; omega, fun q hq => ?_⟩
        exact ⟨q, _, _, ⟨_, _, _, _, _, _, _, rfl⟩, fin _ q [.ref p] [fc alone] s5 hq (cells_nil.snoc ⟨p, rfl, u1 ht hp4⟩) (by simp) fun x hx => by rw [List.mem_singleton.mp hx]; exact hst.2 hh alone ha⟩
      · skip
        iterate 4 first | refine ⟨_, rfl, ?_⟩ | refine itF (by omega) ?_
        refine ⟨by rw [p62]; omega, by rw [p62]; omega, fun D hD => ?_⟩
        rw [Int.toNat_natCast]
        refine lc_range (lo := 0) (n := hh) (fun j G => Same Z2 G ∧ ∃ ws, G D = some (.lst ws) ∧ ws.length = j ∧ AreCells G ws ((List.range j).map fc)) ⟨same_upd hD, [], upd_same, rfl, cells_nil⟩ (fun j G hj e => ?_) (fun G e => ?_)
        · obtain ⟨sG, ws, g1, g2, g3⟩ := e
          iterate 4 first | refine ⟨_, rfl, ?_⟩ | refine ⟨rfl, ?_⟩ | refine ⟨le_line (of_decide_eq_true rfl), fun t ht => ?_⟩
          have s3 := same_upd (o := .tup [V.int (0 + (j : Int))]) ht
          refine ⟨t, ls, _, _, rfl, rfl, SqT.of upd_same, SqT.of (s3 _ _ (sG _ _ hls3)), by simp, by simp; omega, fun e => absurd e xn, fun _ p hp => ?_⟩
          rw [show [V.int (0 + (j : Int))] ++ xs = cellV (fc j) by rw [(hst.1 j).1, Int.zero_add]; rfl]
          have s4 := s3.trans (same_upd (o := .tup (cellV (fc j))) hp)
          have hp4 : upd (upd G t (.tup [V.int (0 + (j : Int))])) p (.tup (cellV (fc j))) p = _ := upd_same
          generalize upd (upd G t (.tup [V.int (0 + (j : Int))])) p (.tup (cellV (fc j))) = X at s4 hp4 ⊢
          have g4 := s4 _ _ g1
          refine ⟨ws, g4, by omega, same_mut (sG.trans s4) hD, ws ++ [.ref p], upd_same, by simp [g2], ?_⟩
          have kt : ∀ b xs, X b = some (.tup xs) → upd X D (.lst (ws ++ [.ref p])) b = some (.tup xs) := fun b xs h => um (new_kind h g4 (by simp [HO.kd])) h
          rw [List.range_succ, List.map_append]
          exact ((g3.same s4).k kt).snoc ⟨p, rfl, kt _ _ hp4⟩
        · obtain ⟨sG, ws, g1, g2, g3⟩ := e
          refine ⟨_, _, _, _, rfl, rfl, sG _ _ e1c, g1, by omega, fun q hq => ?_⟩
          exact ⟨q, _, _, ⟨_, _, _, _, _, _, _, rfl⟩, fin _ q ws _ sG hq g3 (by simp; omega) fun x hx => by
            obtain ⟨y, hy, rfl⟩ := List.mem_map.mp hx
            exact hst.2 hh y (List.mem_range.mp hy)⟩
    · obtain ⟨l, vs, cs, ⟨x5, x6, x7, x8, x9, x10, x11, rfl⟩, e1, e2, e3, e4, e5, e6, IZ, fZ⟩ := q
      have fin : ∀ (X : Hp) (mm : Nat) (l : Addr) (vs : List V) (cs : List Cell) (x : Cell) (xs : List V) (t1 t2 q : Addr), IsSt X st g c mm → m ≤ mm → Fr [st, g] [0, 2] H X → AreCells X vs cs → cs.length ≤ 20 → (∀ x ∈ cs, x.Ok hh size bank) → x.Ok hh size bank → xs = cellV x →
          X t1 = none → upd X t1 (.tup xs) t2 = none → upd (upd X t1 (.tup xs)) t2 (.lst [.ref t1]) q = none → Q (.ref q) (upd (upd (upd X t1 (.tup xs)) t2 (.lst [.ref t1])) q (.lst (vs ++ [.ref t1]))) :=
        fun X mm l vs cs x xs t1 t2 q IX lm fX aX lX oX ox ex n1 n2 n3 => by
          subst ex
          have sX : Same X (upd (upd X t1 (.tup (cellV x))) t2 (.lst [.ref t1])) := (same_upd n1).trans (same_upd n2)
          have IY := IX.same sX
          have fY := fX.trans (Fr.of sX)
          obtain ⟨a1, a2, a3, a4⟩ := IY.fresh fY n3
          refine k q _ (cs ++ [x]) _ a1 upd_same ((((aX.same sX).snoc ⟨t1, rfl, u1 n2 upd_same⟩)).same (same_upd n3)) (by rw [List.length_append, List.length_singleton]; omega) (fun y hy => ?_) ((IY.same (same_upd n3)).le lm) (fr_mut fY a1)
          rcases List.mem_append.mp hy with z | z
          · exact oX y z
          · rw [List.mem_singleton.mp z]; exact ox
      have l15 : cs.length ≤ 15 := by omega
      refine ⟨_, rfl, ?_⟩
      refine ⟨st, g, c, m + 13, 6, rfl, IZ.le (by omega), by omega, by omega, fun way Z1 hway I1 f1 => ?_⟩
      refine ⟨_, rfl, ?_⟩
      refine ⟨st, g, c, m + 12, 3, rfl, I1, by omega, by omega, fun slot Z2 hslot I2 f2 => ?_⟩
      have fZ2 := fZ.trans (f1.trans f2)
      have e1c := f2.n (f1.n e1 (by simp [e2, e3])) (by simp [e2, e3])
      have e4c := (e4.k f1.tups).k f2.tups
      iterate 5 first | refine ⟨_, rfl, ?_⟩ | refine ⟨_, _, rfl, rfl, ?_⟩ | refine ⟨_, _, rfl, SqT.of (by repeat (first | assumption | exact upd_same .. | refine u1 (by assumption) ?_ | refine um (by assumption) ?_ | refine sa (by assumption) ?_)), rfl, _, _, rfl, _, _, rfl, rfl, ?_⟩ | refine ⟨le_line (of_decide_eq_true rfl), fun t ht => ?_⟩
      have s3 := same_upd (o := .tup [nV way, nV slot]) ht
      have I3 := I2.same s3
      have f3 := fZ2.trans (Fr.of s3)
      have e1d := s3 _ _ e1c
      have e4d := e4c.same s3
      generalize upd Z2 t (.tup [nV way, nV slot]) = Z3 at I3 f3 e1d e4d ⊢
      have lvs : vs.length ≤ 15 := by have := e4.1; omega
      have lvs : vs.length ≤ 15 := by have := e4.1; omega
      by_cases w1 : way < 2
      · skip
        iterate 3 first | refine ⟨_, rfl, ?_⟩ | refine itT (by omega) ?_
        refine ⟨st, g, c, m + 11, 3, rfl, I3.le (by omega), by omega, by omega, fun b Za hb Ia fa1 => ?_⟩
        have fZa := f3.trans fa1
        have ea1 := fa1.n e1d (by simp [e2, e3])
        have ea4 := e4d.k fa1.tups
        refine ⟨_, rfl, ?_⟩
        refine ⟨st, g, c, m + 10, 4, rfl, Ia, by omega, by omega, fun d Zb hd Ib fb1 => ?_⟩
        have fZb := fZa.trans fb1
        have eb1 := fb1.n ea1 (by simp [e2, e3])
        have eb4 := ea4.k fb1.tups
        iterate 2 first | refine ⟨_, rfl, ?_⟩ | refine ⟨_, _, rfl, rfl, ?_⟩
        by_cases hd0 : 0 < d
        · skip
          iterate 4 first | refine ⟨_, rfl, ?_⟩ | refine ⟨le_line (of_decide_eq_true rfl), fun t ht => ?_⟩ | refine itT (by omega) ?_
          rename_i t1 ht1
          refine ⟨_, _, _, _, rfl, rfl, u1 ht (u1 ht1 eb1), upd_same, by simp; omega, fun q hq => ?_⟩
          exact fin Zb _ l vs cs (.take b hh) _ t1 t q Ib (by omega) fZb eb4 (by omega) e6 ⟨by omega, by omega, by omega⟩ rfl ht1 ht hq
        · skip
          iterate 3 first | refine ⟨_, rfl, ?_⟩ | refine itF (by omega) ?_
          refine ⟨st, g, c, m + 9, hh, rfl, Ib, by omega, by omega, fun x Zc hx Ic fc1 => ?_⟩
          have fZc := fZb.trans fc1
          have ec1 := fc1.n eb1 (by simp [e2, e3])
          have ec4 := eb4.k fc1.tups
          iterate 3 first | refine ⟨_, _, rfl, rfl, ?_⟩ | refine ⟨le_line (of_decide_eq_true rfl), fun t ht => ?_⟩
          rename_i t1 ht1
          refine ⟨_, _, _, _, rfl, rfl, u1 ht (u1 ht1 ec1), upd_same, by simp; omega, fun q hq => ?_⟩
          exact fin Zc _ l vs cs (.take b (1 + x)) _ t1 t q Ic (by omega) fZc ec4 (by omega) e6 ⟨by omega, by omega, by omega⟩ rfl ht1 ht hq
      · skip
        iterate 4 first | refine ⟨_, rfl, ?_⟩ | refine ⟨rfl, ?_⟩ | refine itF (by omega) ?_
        by_cases w2 : way = 2
        · subst w2
          refine itT rfl ?_
          refine ⟨_, rfl, ?_⟩
          refine ⟨st, g, c, m + 11, 3, rfl, I3, by omega, by omega, fun z Z4 hz4 I4 f4 => ?_⟩
          have fZ4 := f3.trans f4
          have e1e := f4.n e1d (by simp [e2, e3])
          have e4e := e4d.k f4.tups
          iterate 2 first | refine ⟨_, rfl, ?_⟩ | refine ⟨rfl, ?_⟩
          by_cases hz0 : z = 0
          · subst hz0
            refine itT rfl ?_
            iterate 3 first | refine ⟨_, rfl, ?_⟩ | refine ⟨le_line (of_decide_eq_true rfl), fun t ht => ?_⟩
            rename_i t1 ht1
            refine ⟨_, _, _, _, rfl, rfl, u1 ht (u1 ht1 e1e), upd_same, by simp; omega, fun q hq => ?_⟩
            exact fin Z4 _ l vs cs .mark _ t1 t q I4 (by omega) fZ4 e4e (by omega) e6 trivial rfl ht1 ht hq
          · refine itF (fun e => hz0 (by have := V.int.inj e; omega)) ?_
            iterate 3 first | refine ⟨_, rfl, ?_⟩ | refine ⟨_, _, rfl, rfl, ?_⟩
            refine ⟨.inl ⟨by decide, by decide⟩, ?_⟩
            refine ⟨st, g, c, m + 10, 20 * hh, congrArg (fun z => [V.ref st, V.int z]) (by omega), I4.le (by omega), by omega, by omega, fun left Z5 hleft I5 f5 => ?_⟩
            have fZ5 := fZ4.trans f5
            have e1f := f5.n e1e (by simp [e2, e3])
            have e4f := e4e.k f5.tups
            refine ⟨_, rfl, ?_⟩
            refine ⟨_, rfl, ?_⟩
            refine ⟨_, rfl, ?_⟩
            refine ⟨by rw [p62]; omega, by rw [p62]; omega, fun D hD => ?_⟩
            rw [Int.toNat_natCast]
            refine lc_range (lo := 0) (n := hh) (fun j G => Same Z5 G ∧ ∃ (ws : List V) (ds : List Cell), G D = some (.lst ws) ∧ AreCells G ws ds ∧ ds.length ≤ j ∧ ∀ x ∈ ds, x.Ok hh size bank) ⟨same_upd hD, [], [], upd_same, cells_nil, Nat.le_refl _, fun x h => (by cases h)⟩ (fun j G hj e => ?_) (fun G e => ?_)
            · obtain ⟨sG, ws, ds, g1, g2, g3, g4⟩ := e
              have g5 := g2.1
              iterate 5 first | refine ⟨_, rfl, ?_⟩ | refine ⟨rfl, ?_⟩
              by_cases hz : j = left
              · subst hz
                refine itNF (congrArg V.int (by omega)) ?_
                exact ⟨sG, ws, ds, g1, g2, by omega, g4⟩
              · refine itNT (fun e => hz (by have := V.int.inj e; omega)) ?_
                iterate 3 first | refine ⟨_, rfl, ?_⟩ | refine ⟨le_line (of_decide_eq_true rfl), fun t ht => ?_⟩
                rw [show [V.int (0 + (j : Int)), V.str "offer", nV slot] = cellV (.offer j slot) by rw [Int.zero_add]; rfl]
                have s4 := same_upd (o := .tup (cellV (.offer j slot))) ht
                have hp4 : upd G t (.tup (cellV (.offer j slot))) t = _ := upd_same
                generalize upd G t (.tup (cellV (.offer j slot))) = X at s4 hp4 ⊢
                have g6 := s4 _ _ g1
                refine ⟨ws, g6, by omega, same_mut (sG.trans s4) hD, ws ++ [.ref t], ds ++ [.offer j slot], upd_same, ?_, by rw [List.length_append, List.length_singleton]; omega, fun x hx => ?_⟩
                · have kt : ∀ b xs, X b = some (.tup xs) → upd X D (.lst (ws ++ [.ref t])) b = some (.tup xs) := fun b xs h => um (new_kind h g6 (by simp [HO.kd])) h
                  exact ((g2.same s4).k kt).snoc ⟨t, rfl, kt _ _ hp4⟩
                · rcases List.mem_append.mp hx with z | z
                  · exact g4 x z
                  · rw [List.mem_singleton.mp z]
                    exact ⟨by omega, by omega⟩
            · obtain ⟨sG, ws, ds, g1, g2, g3, g4⟩ := e
              have g5 := g2.1
              refine ⟨_, _, _, _, rfl, rfl, sG _ _ e1f, g1, by omega, fun q0 hq0 => ?_⟩
              have sq := sG.trans (same_upd (o := .lst (vs ++ ws)) hq0)
              have I6 := I5.same sq
              have f6 := fZ5.trans (Fr.of sq)
              obtain ⟨_, q2, q3, _⟩ := (I5.same sG).fresh (fZ5.trans (Fr.of sG)) hq0
              have e16 : upd G q0 (.lst (vs ++ ws)) q0 = _ := upd_same
              have e46 := ((e4f.same sG).app g2).same (same_upd (o := .lst (vs ++ ws)) hq0)
              have ok6 : ∀ x ∈ cs ++ ds, x.Ok hh size bank := fun x hx => by
                rcases List.mem_append.mp hx with z | z
                · exact e6 x z
                · exact g4 x z
              have l6 : (cs ++ ds).length ≤ 20 := by rw [List.length_append]; omega
              have l7 := e46.1
              generalize upd G q0 (.lst (vs ++ ws)) = Z6 at I6 f6 e16 e46 ⊢
              generalize vs ++ ws = us at e16 e46 l7 ⊢
              refine ⟨_, rfl, ?_⟩
              refine ⟨_, rfl, ?_⟩
              refine ⟨st, g, c, m + 9, 6, rfl, I6.le (by omega), by omega, by omega, fun b Za hb Ia fa1 => ?_⟩
              have fZa := f6.trans fa1
              have ea1 := fa1.n e16 (by simp [q2, q3])
              have ea4 := e46.k fa1.tups
              refine ⟨_, rfl, ?_⟩
              refine ⟨st, g, c, m + 8, 3, rfl, Ia, by omega, by omega, fun d Zb hd Ib fb1 => ?_⟩
              have fZb := fZa.trans fb1
              have eb1 := fb1.n ea1 (by simp [q2, q3])
              have eb4 := ea4.k fb1.tups
              iterate 2 first | refine ⟨_, rfl, ?_⟩ | refine ⟨_, _, rfl, rfl, ?_⟩
              by_cases hd0 : 0 < d
              · skip
                iterate 4 first | refine ⟨_, rfl, ?_⟩ | refine ⟨le_line (of_decide_eq_true rfl), fun t ht => ?_⟩ | refine itT (by omega) ?_
                rename_i t1 ht1
                refine ⟨_, _, _, _, rfl, rfl, u1 ht (u1 ht1 eb1), upd_same, by simp; omega, fun q hq => ?_⟩
                exact fin Zb _ q0 us (cs ++ ds) (.sho b hh) _ t1 t q Ib (by omega) fZb eb4 (by omega) ok6 ⟨by omega, by omega, by omega⟩ rfl ht1 ht hq
              · skip
                iterate 3 first | refine ⟨_, rfl, ?_⟩ | refine itF (by omega) ?_
                refine ⟨st, g, c, m + 7, hh, rfl, Ib, by omega, by omega, fun x Zc hx Ic fc1 => ?_⟩
                have fZc := fZb.trans fc1
                have ec1 := fc1.n eb1 (by simp [q2, q3])
                have ec4 := eb4.k fc1.tups
                iterate 3 first | refine ⟨_, _, rfl, rfl, ?_⟩ | refine ⟨le_line (of_decide_eq_true rfl), fun t ht => ?_⟩
                rename_i t1 ht1
                refine ⟨_, _, _, _, rfl, rfl, u1 ht (u1 ht1 ec1), upd_same, by simp; omega, fun q hq => ?_⟩
                exact fin Zc _ q0 us (cs ++ ds) (.sho b (1 + x)) _ t1 t q Ic (by omega) fZc ec4 (by omega) ok6 ⟨by omega, by omega, by omega⟩ rfl ht1 ht hq
        · refine itF (fun e => w2 (by have := V.int.inj e; omega)) ?_
          refine iteF ?_
          iterate 3 first | refine ⟨_, rfl, ?_⟩ | refine ⟨_, _, rfl, rfl, ?_⟩
          refine ⟨.inl ⟨by decide, by decide⟩, ?_⟩
          refine ⟨st, g, c, m + 11, 20 * hh, congrArg (fun z => [V.ref st, V.int z]) (by omega), I3.le (by omega), by omega, by omega, fun left Z5 hleft I5 f5 => ?_⟩
          have fZ5 := f3.trans f5
          have e1f := f5.n e1d (by simp [e2, e3])
          have e4f := e4d.k f5.tups
          refine ⟨_, rfl, ?_⟩
          refine ⟨_, rfl, ?_⟩
          refine ⟨_, rfl, ?_⟩
          refine ⟨by rw [p62]; omega, by rw [p62]; omega, fun D hD => ?_⟩
          rw [Int.toNat_natCast]
          refine lc_range (lo := 0) (n := hh) (fun j G => Same Z5 G ∧ ∃ (ws : List V) (ds : List Cell), G D = some (.lst ws) ∧ AreCells G ws ds ∧ ds.length ≤ j ∧ ∀ x ∈ ds, x.Ok hh size bank) ⟨same_upd hD, [], [], upd_same, cells_nil, Nat.le_refl _, fun x h => (by cases h)⟩ (fun j G hj e => ?_) (fun G e => ?_)
          · obtain ⟨sG, ws, ds, g1, g2, g3, g4⟩ := e
            have g5 := g2.1
            iterate 5 first | refine ⟨_, rfl, ?_⟩ | refine ⟨rfl, ?_⟩
            by_cases hz : j = left
            · subst hz
              refine itNF (congrArg V.int (by omega)) ?_
              exact ⟨sG, ws, ds, g1, g2, by omega, g4⟩
            · refine itNT (fun e => hz (by have := V.int.inj e; omega)) ?_
              iterate 3 first | refine ⟨_, rfl, ?_⟩ | refine ⟨le_line (of_decide_eq_true rfl), fun t ht => ?_⟩
              rw [show [V.int (0 + (j : Int)), V.str "offer", nV slot] = cellV (.offer j slot) by rw [Int.zero_add]; rfl]
              have s4 := same_upd (o := .tup (cellV (.offer j slot))) ht
              have hp4 : upd G t (.tup (cellV (.offer j slot))) t = _ := upd_same
              generalize upd G t (.tup (cellV (.offer j slot))) = X at s4 hp4 ⊢
              have g6 := s4 _ _ g1
              refine ⟨ws, g6, by omega, same_mut (sG.trans s4) hD, ws ++ [.ref t], ds ++ [.offer j slot], upd_same, ?_, by rw [List.length_append, List.length_singleton]; omega, fun x hx => ?_⟩
              · have kt : ∀ b xs, X b = some (.tup xs) → upd X D (.lst (ws ++ [.ref t])) b = some (.tup xs) := fun b xs h => um (new_kind h g6 (by simp [HO.kd])) h
                exact ((g2.same s4).k kt).snoc ⟨t, rfl, kt _ _ hp4⟩
              · rcases List.mem_append.mp hx with z | z
                · exact g4 x z
                · rw [List.mem_singleton.mp z]
                  exact ⟨by omega, by omega⟩
          · obtain ⟨sG, ws, ds, g1, g2, g3, g4⟩ := e
            have g5 := g2.1
            refine ⟨_, _, _, _, rfl, rfl, sG _ _ e1f, g1, by omega, fun q0 hq0 => ?_⟩
            have sq := sG.trans (same_upd (o := .lst (vs ++ ws)) hq0)
            have I6 := I5.same sq
            have f6 := fZ5.trans (Fr.of sq)
            obtain ⟨_, q2, q3, _⟩ := (I5.same sG).fresh (fZ5.trans (Fr.of sG)) hq0
            have e16 : upd G q0 (.lst (vs ++ ws)) q0 = _ := upd_same
            have e46 := ((e4f.same sG).app g2).same (same_upd (o := .lst (vs ++ ws)) hq0)
            have ok6 : ∀ x ∈ cs ++ ds, x.Ok hh size bank := fun x hx => by
              rcases List.mem_append.mp hx with z | z
              · exact e6 x z
              · exact g4 x z
            have l6 : (cs ++ ds).length ≤ 20 := by rw [List.length_append]; omega
            have l7 := e46.1
            generalize upd G q0 (.lst (vs ++ ws)) = Z6 at I6 f6 e16 e46 ⊢
            generalize vs ++ ws = us at e16 e46 l7 ⊢
            refine ⟨_, rfl, ?_⟩
            refine ⟨_, rfl, ?_⟩
            refine ⟨st, g, c, m + 10, 6, rfl, I6.le (by omega), by omega, by omega, fun b Za hb Ia fa1 => ?_⟩
            have fZa := f6.trans fa1
            have ea1 := fa1.n e16 (by simp [q2, q3])
            have ea4 := e46.k fa1.tups
            refine ⟨_, rfl, ?_⟩
            refine ⟨st, g, c, m + 9, 3, rfl, Ia, by omega, by omega, fun d Zb hd Ib fb1 => ?_⟩
            have fZb := fZa.trans fb1
            have eb1 := fb1.n ea1 (by simp [q2, q3])
            have eb4 := ea4.k fb1.tups
            iterate 2 first | refine ⟨_, rfl, ?_⟩ | refine ⟨_, _, rfl, rfl, ?_⟩
            by_cases hd0 : 0 < d
            · skip
              iterate 4 first | refine ⟨_, rfl, ?_⟩ | refine ⟨le_line (of_decide_eq_true rfl), fun t ht => ?_⟩ | refine itT (by omega) ?_
              rename_i t1 ht1
              refine ⟨_, _, _, _, rfl, rfl, u1 ht (u1 ht1 eb1), upd_same, by simp; omega, fun q hq => ?_⟩
              exact fin Zb _ q0 us (cs ++ ds) (.sho b hh) _ t1 t q Ib (by omega) fZb eb4 (by omega) ok6 ⟨by omega, by omega, by omega⟩ rfl ht1 ht hq
            · skip
              iterate 3 first | refine ⟨_, rfl, ?_⟩ | refine itF (by omega) ?_
              refine ⟨st, g, c, m + 8, hh, rfl, Ib, by omega, by omega, fun x Zc hx Ic fc1 => ?_⟩
              have fZc := fZb.trans fc1
              have ec1 := fc1.n eb1 (by simp [q2, q3])
              have ec4 := eb4.k fc1.tups
              iterate 3 first | refine ⟨_, _, rfl, rfl, ?_⟩ | refine ⟨le_line (of_decide_eq_true rfl), fun t ht => ?_⟩
              rename_i t1 ht1
              refine ⟨_, _, _, _, rfl, rfl, u1 ht (u1 ht1 ec1), upd_same, by simp; omega, fun q hq => ?_⟩
              exact fin Zc _ q0 us (cs ++ ds) (.sho b (1 + x)) _ t1 t q Ic (by omega) fZc ec4 (by omega) ok6 ⟨by omega, by omega, by omega⟩ rfl ht1 ht hq
end Hw
namespace Hw
open PySem PySem.Spec PyProof.Rows L2
variable {P : Program} {w : World} {K : PySem.W.Frag} {mg : Str → Option Value} {base : Heap}
abbrev s__law_copying_code : Stmt := top 93
abbrev N__law_copying_code : List Str := ["_law_state", "_law_votes_here", "_law_size_here", "_law_bank", "_law_cells", "_law_turn", "_law_at", "_law_spot"]
theorem sc__law_copying_code : FnScope N__law_copying_code ["_law_state"] (defScope s__law_copying_code) := ⟨rfl, rfl, rfl, by decide +kernel, rfl, by decide +kernel, by decide +kernel⟩
def sp__law_copying_code (K : PySem.W.Frag) : Sp := fun vs H Q _ => ∃ (st g c : Addr) (m : Nat), vs = [.ref st] ∧ IsSt H st g c (m + 180) ∧
  ∀ (a : Addr) (C : Code) H', IsCode H' a C → C.Ok → IsSt H' st g c m → Fr [st, g] [0, 2] H H' → Q (.ref a) H'
theorem C__law_copying_code (T : Txt K mg) : C8.Cal P w K mg base 7 "_law_copying_code" (sp__law_copying_code K) [] := by
  have C__law_draw := C__law_draw (P := P) (w := w) (base := base) T
  have C__law_pick := C__law_pick (P := P) (w := w) (base := base) T
  have C__law_votes := C__law_votes (P := P) (w := w) (base := base) T
  have C__law_size := C__law_size (P := P) (w := w) (base := base) T
  have C__law_number := C__law_number (P := P) (w := w) (base := base) T
  have C__law_copy_block := C__law_copy_block (P := P) (w := w) (base := base) T
  refine cal (N := N__law_copying_code) (ps := ["_law_state"]) T.d__law_copying_code (fun _ _ _ _ _ _ us hl => match us, hl with | [_], _ => rfl) sc__law_copying_code (fun vs H Q E h => ?_) (fun f cdv A outer s H vs Q E hr h => ?_)
  · obtain ⟨st, g, c, m, rfl, _⟩ := h
    rfl
  · obtain ⟨st, g, c, m, rfl, I, k⟩ := h
    refine ⟨_, (pss_cons (ps_asg (pe_tup (pa_cons (C8.pe_c C__law_votes hr (by decide) rfl (pa_cons (pv 0) pa_nil)) (pa_cons (C8.pe_c C__law_size hr (by decide) rfl (pa_cons (pv 0) pa_nil)) (pa_cons (C8.pe_c C__law_pick hr (by decide) rfl (pa_cons (pv 0) (pa_cons (pe_lst (pa_cons pe_int (pa_cons pe_int (pa_cons pe_int (pa_cons pe_int pa_nil))))) pa_nil))) pa_nil)))) (pg_tup rfl (pgs_cons (pg_name (i := 1) sc__law_copying_code.nd rfl (by first | exact .inl rfl | exact .inr rfl)) (pgs_cons (pg_name (i := 2) sc__law_copying_code.nd rfl (by first | exact .inl rfl | exact .inr rfl)) (pgs_cons (pg_name (i := 3) sc__law_copying_code.nd rfl (by first | exact .inl rfl | exact .inr rfl)) pgs_nil)))))
    (pss_cons (ps_setLc (i := 4) (own := [("_law_at", 6)]) rfl sc__law_copying_code.nd rfl rfl (sw_true rfl rfl rfl (by decide +kernel)) (pi_range1 (by rfl) T.b_range (pa_cons (C8.pe_c C__law_pick hr (by decide) rfl (pa_cons (pv 0) (pa_cons (pe_lst (pa_cons pe_int (pa_cons pe_int (pa_cons pe_int (pa_cons pe_int pa_nil))))) pa_nil))) pa_nil)) (blkOk_by (own := [("_law_at", 6)]) (N := N__law_copying_code) (sc := defScope s__law_copying_code) (by decide +kernel)) (fun _ _ _ _ _ => (pg_name (i := 6) sc__law_copying_code.nd rfl (by first | exact .inl rfl | exact .inr rfl))) (fun _ _ _ _ _ => pts_nil) (fun _ _ _ _ _ => (pe_tup (pa_cons pe_str (pa_cons (pv 6) (pa_cons (pe_callB (call_lenK (K := K) rfl) (by rfl) T.b_len PySem.boot_len (pa_cons (pv 1) pa_nil)) pa_nil))))))
    (pss_cons (ps_for PassesOwn.never rfl (pi_range1 (by rfl) T.b_range (pa_cons (C8.pe_c C__law_pick hr (by decide) rfl (pa_cons (pv 0) (pa_cons (pe_lst (pa_cons pe_int (pa_cons pe_int (pa_cons pe_int (pa_cons pe_int pa_nil))))) pa_nil))) pa_nil)) (pg_name (i := 5) sc__law_copying_code.nd rfl (by first | exact .inl rfl | exact .inr rfl)) (pss_one (ps_set (i := 4) sc__law_copying_code.nd rfl (by first | exact .inl rfl | exact .inr rfl) (pe_op op_cat (pv 4) (C8.pe_c C__law_copy_block hr (by decide) rfl (pa_cons (pv 0) (pa_cons (pe_callB (call_lenK (K := K) rfl) (by rfl) T.b_len PySem.boot_len (pa_cons (pv 1) pa_nil)) (pa_cons (pv 2) (pa_cons (pv 3) pa_nil)))))))))
    (pss_cons (ps_if (PW.pt (pw_or (pt_cmpR op_gt (C8.pe_c C__law_draw hr (by decide) rfl (pa_cons (pv 0) (pa_cons pe_int pa_nil))) pe_int (nomark _)) (pw_or1 (pt_cmpR (op_eqE hr.units0) (pv 4) (pe_lst pa_nil) (nomark _))))) (pss_one (ps_expr (pe_bm PySem.F.plainAttrs_list PySem.F.slot_list_append PySem.F.type_list_append mt_append (pv 4) (pa_cons (pe_tup (pa_cons pe_str pa_nil)) pa_nil)))) pss_nil)
    (pss_one (ps_ret (pe_tup (pa_cons (pv 1) (pa_cons (pv 2) (pa_cons (pe_callTy (call_tupleK (K := K) rfl) (by rfl) T.b_tuple (by decide +kernel) (pa_cons (pv 4) pa_nil)) (pa_cons (pe_callTy (call_tupleK (K := K) rfl) (by rfl) T.b_tuple (by decide +kernel) (pa_cons (pe_lc (own := [("_law_spot", 7)]) rfl sc__law_copying_code.nd (pi_range1 (by rfl) T.b_range (pa_cons (pv 3) pa_nil)) (blkOk_by (own := [("_law_spot", 7)]) (N := N__law_copying_code) (sc := defScope s__law_copying_code) (by decide +kernel)) (fun _ _ _ _ _ => (pg_name (i := 7) sc__law_copying_code.nd rfl (by first | exact .inl rfl | exact .inr rfl))) (fun _ _ _ _ _ => pts_nil) (fun _ _ _ _ _ => (C8.pe_c C__law_number hr (by decide) rfl (pa_cons (pv 0) (pa_cons (pv 2) pa_nil))))) pa_nil)) pa_nil))))))))))), ?_⟩
    refine ⟨_, rfl, ?_⟩
    have bl := big_line
    have p62 : (2 : Int) ^ 62 = 4611686018427387904 := by decide
    refine ⟨st, g, c, m + 169, rfl, I, fun lv ns H1 nlv hlv v1 v5 vok I1 f1 => ?_⟩
    refine ⟨_, rfl, ?_⟩
    refine ⟨st, g, c, m + 168, rfl, I1, fun n H2 hn2 hn4 I2 f2 => ?_⟩
    have f02 := f1.trans f2
    have hlv2 := f2.tups _ _ hlv
    iterate 2 first | refine ⟨_, rfl, ?_⟩ | refine ⟨le_line (of_decide_eq_true rfl), fun t ht => ?_⟩
    have s2 := same_upd (o := .lst [nV 2, nV 1, nV 0, nV 3]) ht
    refine ⟨st, g, c, t, m + 167, _, rfl, I2.same s2, upd_same, I2.ng ht, by simp, by simp, fun i v H3 hv I3 f3 => ?_⟩
    obtain ⟨bk, rfl, hbk⟩ : ∃ z : Nat, v = nV z ∧ z ≤ 3 := by
      have hm := List.mem_of_getElem? hv
      simp only [List.mem_cons, List.not_mem_nil, or_false] at hm
      rcases hm with e | e | e | e <;> exact ⟨_, e, by decide⟩
    have f03 := f02.trans ((Fr.of s2).trans f3)
    have hlv3 := f3.tups _ _ (s2 _ _ hlv2)
    iterate 4 first | refine ⟨_, rfl, ?_⟩ | refine ⟨_, _, rfl, SqT.of (by repeat (first | assumption | exact upd_same .. | refine u1 (by assumption) ?_ | refine um (by assumption) ?_ | refine sa (by assumption) ?_)), rfl, _, _, rfl, _, _, rfl, _, _, rfl, rfl, ?_⟩ | refine ⟨le_line (of_decide_eq_true rfl), fun t ht => ?_⟩
    rename_i t1 ht1
    have s4 : Same H3 (upd (upd H3 t1 (.tup [.ref lv, nV n, nV bk])) t (.lst [nV 2, nV 1, nV 0, nV 3])) := (same_upd ht1).trans (same_upd ht)
    refine ⟨st, g, c, t, m + 166, _, rfl, I3.same s4, upd_same, (I3.same (same_upd ht1)).ng ht, by simp, by simp, fun i v H5 hv I5 f5 => ?_⟩
    obtain ⟨k0, rfl, hk0⟩ : ∃ z : Nat, v = nV z ∧ z ≤ 3 := by
      have hm := List.mem_of_getElem? hv
      simp only [List.mem_cons, List.not_mem_nil, or_false] at hm
      rcases hm with e | e | e | e <;> exact ⟨_, e, by decide⟩
    have f05 := f03.trans ((Fr.of s4).trans f5)
    have hlv5 := f5.tups _ _ (s4 _ _ hlv3)
    refine ⟨_, rfl, ?_⟩
    refine ⟨by rw [p62]; omega, by rw [p62]; omega, fun D hD => ?_⟩
    rw [Int.toNat_natCast]
    refine lc_range (lo := 0) (n := k0) (fun j G => Same H5 G ∧ ∃ ws : List V, G D = some (.lst ws) ∧ AreCells G ws ((List.range j).map fun a => Cell.take a ns.length)) ⟨same_upd hD, [], upd_same, cells_nil⟩ (fun j G hj e => ?_) (fun G e => ?_)
    · obtain ⟨sG, ws, g1, g2⟩ := e
      have hlvG := sG _ _ hlv5
      have g3 := g2.1
      rw [List.length_map, List.length_range] at g3
      iterate 5 first | refine ⟨_, rfl, ?_⟩ | refine ⟨rfl, ?_⟩ | refine ⟨_, _, rfl, .inr (SqT.of (by repeat (first | assumption | exact upd_same .. | refine u1 (by assumption) ?_ | refine um (by assumption) ?_ | refine sa (by assumption) ?_))), ?_⟩ | refine ⟨le_line (of_decide_eq_true rfl), fun t ht => ?_⟩
      rw [show [V.str "take", V.int (0 + (j : Int)), V.int ((ns.map nV).length : Nat)] = cellV (.take j ns.length) by rw [Int.zero_add, List.length_map]; rfl]
      have s6 := same_upd (o := .tup (cellV (.take j ns.length))) ht
      have hp6 : upd G t (.tup (cellV (.take j ns.length))) t = _ := upd_same
      generalize upd G t (.tup (cellV (.take j ns.length))) = X at s6 hp6 ⊢
      have g6 := s6 _ _ g1
      refine ⟨ws, g6, by omega, same_mut (sG.trans s6) hD, ws ++ [.ref t], upd_same, ?_⟩
      have kt : ∀ b xs, X b = some (.tup xs) → upd X D (.lst (ws ++ [.ref t])) b = some (.tup xs) := fun b xs h => um (new_kind h g6 (by simp [HO.kd])) h
      rw [List.range_succ, List.map_append]
      exact ((g2.same s6).k kt).snoc ⟨t, rfl, kt _ _ hp6⟩
    obtain ⟨sG, ws, g1, g2⟩ := e
    have I6 := I5.same sG
    have f06 := f05.trans (Fr.of sG)
    have hlv6 := sG _ _ hlv5
    obtain ⟨D1, D2, D3, D4⟩ := I5.fresh f05 hD
    iterate 2 first | refine ⟨_, rfl, ?_⟩ | refine ⟨le_line (of_decide_eq_true rfl), fun t ht => ?_⟩
    have s7 := same_upd (o := .lst [nV 3, nV 4, nV 2, nV 5]) ht
    have D7 := s7 _ _ g1
    refine ⟨st, g, c, t, m + 165, _, rfl, I6.same s7, upd_same, I6.ng ht, by simp, by simp, fun i v H7 hv I7 f7 => ?_⟩
    obtain ⟨k1, rfl, hk1⟩ : ∃ z : Nat, v = nV z ∧ z ≤ 5 := by
      have hm := List.mem_of_getElem? hv
      simp only [List.mem_cons, List.not_mem_nil, or_false] at hm
      rcases hm with e | e | e | e <;> exact ⟨_, e, by decide⟩
    have f07 := f06.trans ((Fr.of s7).trans f7)
    have hlv7 := f7.tups _ _ (s7 _ _ hlv6)
    have g7 := f7.n D7 (by simp [D2, D3])
    have a7 := (g2.same s7).k f7.tups
    refine ⟨_, rfl, ?_⟩
    refine ⟨by rw [p62]; omega, by rw [p62]; omega, ?_⟩
    rw [Int.toNat_natCast]
    refine for_range (lo := 0) (n := k1) (fun i σ Z => ∃ (l : Addr) (vs : List V) (cs : List Cell), (∃ x5 x6 x7, σ = [some (V.ref st), some (.ref lv), some (nV n), some (nV bk), some (.ref l), x5, x6, x7]) ∧
        Z l = some (.lst vs) ∧ l ≠ st ∧ l ≠ g ∧ l ≠ c ∧ H l = none ∧ AreCells Z vs cs ∧ cs.length ≤ 3 + 21 * i ∧ (∀ x ∈ cs, x.Ok ns.length n bk) ∧ IsSt Z st g c (m + 15 + 30 * (5 - i)) ∧ Fr [st, g] [0, 2] H Z ∧ Z lv = some (.tup (ns.map nV)))
      ⟨D, ws, _, ⟨_, _, _, rfl⟩, g7, D2, D3, D4, D1, a7, by rw [List.length_map, List.length_range]; omega, fun x hx => ?_, I7, f07, hlv7⟩ (fun i σ Z hi q => ?_) (fun σ Z q => ?_)
    · obtain ⟨y, hy, rfl⟩ := List.mem_map.mp hx
      have := List.mem_range.mp hy
      exact ⟨by omega, v1, Nat.le_refl _⟩
    · obtain ⟨l, vs, cs, ⟨x5, x6, x7, rfl⟩, e1, e2, e3, ec, hl0, e4, e5, e6, IZ, fZ, eV⟩ := q
      iterate 6 first | refine ⟨_, rfl, ?_⟩ | refine ⟨_, _, rfl, .inr (SqT.of (by repeat (first | assumption | exact upd_same .. | refine u1 (by assumption) ?_ | refine um (by assumption) ?_ | refine sa (by assumption) ?_))), ?_⟩
      refine ⟨st, g, c, m + 15 + 30 * (5 - (i + 1)), ns.length, n, bk, by rw [List.length_map]; rfl, by rw [show m + 15 + 30 * (5 - (i + 1)) + 30 = m + 15 + 30 * (5 - i) by omega]; exact IZ, v1, v5, hn2, hn4, by omega, fun l2 vs2 cs2 Z2 nl2 el2 ea2 ln2 ok2 I2 f2 => ?_⟩
      have f22 := fZ.trans f2
      have e12 := f2.n e1 (by simp [e2, e3])
      have e42 := e4.k f2.tups
      have la := e42.1
      have lb := ea2.1
      refine ⟨_, _, _, _, rfl, rfl, e12, el2, by omega, fun q hq => ?_⟩
      obtain ⟨q1, q2, q3, q4⟩ := I2.fresh f22 hq
      have sq := same_upd (o := .lst (vs ++ vs2)) hq
      refine ⟨q, _, _, ⟨_, _, _, rfl⟩, upd_same, q2, q3, q4, q1, (e42.app ea2).same sq, by rw [List.length_append]; omega, fun x hx => ?_, I2.same sq, f22.trans (Fr.of sq), sq _ _ (f2.tups _ _ eV)⟩
      rcases List.mem_append.mp hx with z | z
      · exact e6 x z
      · exact ok2 x z
    · obtain ⟨l, vs, cs, ⟨x5, x6, x7, rfl⟩, e1, e2, e3, ec, hl0, e4, e5, e6, IZ, fZ, eV⟩ := q
      have lc : cs.length ≤ 108 := by omega
      refine ⟨_, rfl, ?_⟩
      refine ⟨st, g, c, m + 14, 12, rfl, IZ.le (by omega), by omega, by omega, fun d Z1 hd I1 f1 => ?_⟩
      have F1 := fZ.trans f1
      have E1 := f1.n e1 (by simp [e2, e3])
      have E4 := e4.k f1.tups
      have EV := f1.tups _ _ eV
      have LV := E4.1
      iterate 2 first | refine ⟨_, rfl, ?_⟩ | refine ⟨_, _, rfl, rfl, ?_⟩
      by_cases hd0 : 0 < d
      · skip
        iterate 3 first | refine iteT ?_ | refine ⟨_, rfl, ?_⟩ | refine itT (by omega) ?_
        refine ⟨.inl ⟨rfl, _, SqL.of E1⟩, ?_⟩
        refine ⟨le_line (of_decide_eq_true rfl), fun t ht => ?_⟩
        have sA := same_upd (o := .tup [.str "stop"]) ht
        have E1a := sA _ _ E1
        refine ⟨_, _, _, rfl, rfl, E1a, by omega, ?_⟩
        have kA : ∀ b xs, upd Z1 t (.tup [.str "stop"]) b = some (.tup xs) → upd (upd Z1 t (.tup [.str "stop"])) l (.lst (vs ++ [.ref t])) b = some (.tup xs) := fun b xs h => um (new_kind h E1a (by simp [HO.kd])) h
        have I7 := ((I1.le (Nat.le_refl _)).same sA).up (x := .lst (vs ++ [.ref t])) e2 e3 ec
        have f7 := fr_mut (x := .lst (vs ++ [.ref t])) ((F1).trans (Fr.of sA)) hl0
        have E17 : upd (upd Z1 t (.tup [.str "stop"])) l (.lst (vs ++ [.ref t])) l = _ := upd_same
        have E47 := ((E4.same sA).k kA).snoc (c := .stop) ⟨t, rfl, kA _ _ upd_same⟩
        have EV7 := kA _ _ (sA _ _ EV)
        generalize upd (upd Z1 t (.tup [.str "stop"])) l (.lst (vs ++ [.ref t])) = Z7 at I7 f7 E17 E47 EV7 ⊢
        generalize vs ++ [V.ref t] = us at E17 E47 ⊢
        have ok7 : ∀ x ∈ cs ++ [Cell.stop], x.Ok ns.length n bk := fun x hx => by
          rcases List.mem_append.mp hx with z | z
          · exact e6 x z
          · rw [List.mem_singleton.mp z]; trivial
        refine ⟨_, rfl, ?_⟩
        refine ⟨_, rfl, ?_⟩
        refine ⟨_, rfl, ?_⟩
        refine ⟨_, _, rfl, .inl ⟨SqL.of E17, fun tc htc => ?_⟩⟩
        have sT := same_upd (o := .tup us) htc
        have I8 := (I7).same sT
        have f8 := (f7).trans (Fr.of sT)
        have a8 := AreCells.same sT E47
        have v8 := sT _ _ EV7
        have c8 : upd Z7 tc (.tup us) tc = some (.tup us) := upd_same
        generalize upd Z7 tc (.tup us) = Z8 at I8 f8 a8 v8 c8 ⊢
        refine ⟨_, rfl, ?_⟩
        refine ⟨_, rfl, ?_⟩
        refine ⟨by rw [p62]; omega, by rw [p62]; omega, fun D hD => ?_⟩
        rw [Int.toNat_natCast]
        obtain ⟨d1, d2, d3, d4⟩ := I8.fresh f8 hD
        refine lc_range (lo := 0) (n := bk) (fun j G => ∃ bs : List Nat, bs.length = j ∧ (∀ b ∈ bs, b < n) ∧ G D = some (.lst (bs.map nV)) ∧ IsSt G st g c (m + 2 * (3 - j)) ∧ Fr [st, g] [0, 2] Z8 G)
          ⟨[], rfl, fun b h => (by cases h), upd_same, (I8.le (by omega)).up d2 d3 d4, fr_mut (Fr.refl _) hD⟩ (fun j G hj e => ?_) (fun G e => ?_)
        · obtain ⟨bs, b1, b2, b3, b4, b5⟩ := e
          iterate 3 first | refine ⟨_, rfl, ?_⟩ | refine ⟨rfl, ?_⟩
          refine ⟨st, g, c, m + 2 * (3 - (j + 1)), n, rfl, by rw [show m + 2 * (3 - (j + 1)) + 2 = m + 2 * (3 - j) by omega]; exact b4, hn2, hn4, fun z G2 hz IG fG => ?_⟩
          have b6 := fG.n b3 (by simp [d2, d3])
          refine ⟨_, b6, by rw [List.length_map]; omega, bs ++ [z], by simp [b1], fun b hb => ?_, by rw [upd_same, List.map_append]; rfl, IG.up d2 d3 d4, fr_mut (b5.trans fG) hD⟩
          rcases List.mem_append.mp hb with q | q
          · exact b2 b q
          · rw [List.mem_singleton.mp q]; exact hz
        · obtain ⟨bs, b1, b2, b3, b4, b5⟩ := e
          refine ⟨_, _, rfl, .inl ⟨SqL.of b3, fun tb htb => ?_⟩⟩
          have sB := same_upd (o := .tup (bs.map nV)) htb
          refine ⟨le_line (of_decide_eq_true rfl), fun t ht => ?_⟩
          have sC := sB.trans (same_upd (o := .tup [.ref lv, nV n, .ref tc, .ref tb]) ht)
          have f9 := f8.trans (b5.trans (Fr.of sC))
          have ft := (b5.trans (Fr.of sC)).tups
          refine k t ⟨ns, n, (cs ++ [Cell.stop]), bs⟩ _ ⟨lv, tc, tb, _, upd_same, ft _ _ v8, ft _ _ c8, a8.k ft, u1 ht upd_same⟩ ⟨v1, v5, vok, hn2, hn4, by show 1 ≤ (cs ++ [Cell.stop]).length; simp, by show (cs ++ [Cell.stop]).length ≤ 200; simp; omega, fun x hx => ?_, by show bs.length ≤ 3; omega, b2⟩ ((b4.same sC).le (by omega)) f9
          show x.Ok ns.length n bs.length
          rw [b1]
          exact ok7 x hx
      · skip
        iterate 3 first | refine ⟨_, rfl, ?_⟩ | refine ⟨le_line (of_decide_eq_true rfl), fun t ht => ?_⟩ | refine itF (by omega) ?_
        have sE := same_upd (o := .lst []) ht
        refine ⟨_, _, _, rfl, rfl, SqL.of (sE _ _ E1), SqL.of upd_same, _, rfl, ?_⟩
        replace E1 := sE _ _ E1
        replace E4 := E4.same sE
        replace EV := sE _ _ EV
        replace I1 := I1.same sE
        replace F1 := F1.trans (Fr.of sE)
        generalize upd Z1 t (.lst []) = Z3 at E1 E4 EV I1 F1 ⊢
        cases vs with
        | nil =>
          refine itBT rfl ?_
          obtain ⟨vs, hvs⟩ : ∃ vs : List V, vs = [] := ⟨_, rfl⟩
          rw [← hvs] at E1 E4 LV
          refine ⟨_, rfl, ?_⟩
          refine ⟨.inl ⟨rfl, _, SqL.of E1⟩, ?_⟩
          refine ⟨le_line (of_decide_eq_true rfl), fun t ht => ?_⟩
          have sA := same_upd (o := .tup [.str "stop"]) ht
          have E1a := sA _ _ E1
          refine ⟨_, _, _, rfl, rfl, E1a, by omega, ?_⟩
          have kA : ∀ b xs, upd Z3 t (.tup [.str "stop"]) b = some (.tup xs) → upd (upd Z3 t (.tup [.str "stop"])) l (.lst (vs ++ [.ref t])) b = some (.tup xs) := fun b xs h => um (new_kind h E1a (by simp [HO.kd])) h
          have I7 := ((I1).same sA).up (x := .lst (vs ++ [.ref t])) e2 e3 ec
          have f7 := fr_mut (x := .lst (vs ++ [.ref t])) ((F1).trans (Fr.of sA)) hl0
          have E17 : upd (upd Z3 t (.tup [.str "stop"])) l (.lst (vs ++ [.ref t])) l = _ := upd_same
          have E47 := ((E4.same sA).k kA).snoc (c := .stop) ⟨t, rfl, kA _ _ upd_same⟩
          have EV7 := kA _ _ (sA _ _ EV)
          generalize upd (upd Z3 t (.tup [.str "stop"])) l (.lst (vs ++ [.ref t])) = Z7 at I7 f7 E17 E47 EV7 ⊢
          generalize vs ++ [V.ref t] = us at E17 E47 ⊢
          have ok7 : ∀ x ∈ cs ++ [Cell.stop], x.Ok ns.length n bk := fun x hx => by
            rcases List.mem_append.mp hx with z | z
            · exact e6 x z
            · rw [List.mem_singleton.mp z]; trivial
          refine ⟨_, rfl, ?_⟩
          refine ⟨_, rfl, ?_⟩
          refine ⟨_, rfl, ?_⟩
          refine ⟨_, _, rfl, .inl ⟨SqL.of E17, fun tc htc => ?_⟩⟩
          have sT := same_upd (o := .tup us) htc
          have I8 := (I7).same sT
          have f8 := (f7).trans (Fr.of sT)
          have a8 := AreCells.same sT E47
          have v8 := sT _ _ EV7
          have c8 : upd Z7 tc (.tup us) tc = some (.tup us) := upd_same
          generalize upd Z7 tc (.tup us) = Z8 at I8 f8 a8 v8 c8 ⊢
          refine ⟨_, rfl, ?_⟩
          refine ⟨_, rfl, ?_⟩
          refine ⟨by rw [p62]; omega, by rw [p62]; omega, fun D hD => ?_⟩
          rw [Int.toNat_natCast]
          obtain ⟨d1, d2, d3, d4⟩ := I8.fresh f8 hD
          refine lc_range (lo := 0) (n := bk) (fun j G => ∃ bs : List Nat, bs.length = j ∧ (∀ b ∈ bs, b < n) ∧ G D = some (.lst (bs.map nV)) ∧ IsSt G st g c (m + 2 * (3 - j)) ∧ Fr [st, g] [0, 2] Z8 G)
            ⟨[], rfl, fun b h => (by cases h), upd_same, (I8.le (by omega)).up d2 d3 d4, fr_mut (Fr.refl _) hD⟩ (fun j G hj e => ?_) (fun G e => ?_)
          · obtain ⟨bs, b1, b2, b3, b4, b5⟩ := e
            iterate 3 first | refine ⟨_, rfl, ?_⟩ | refine ⟨rfl, ?_⟩
            refine ⟨st, g, c, m + 2 * (3 - (j + 1)), n, rfl, by rw [show m + 2 * (3 - (j + 1)) + 2 = m + 2 * (3 - j) by omega]; exact b4, hn2, hn4, fun z G2 hz IG fG => ?_⟩
            have b6 := fG.n b3 (by simp [d2, d3])
            refine ⟨_, b6, by rw [List.length_map]; omega, bs ++ [z], by simp [b1], fun b hb => ?_, by rw [upd_same, List.map_append]; rfl, IG.up d2 d3 d4, fr_mut (b5.trans fG) hD⟩
            rcases List.mem_append.mp hb with q | q
            · exact b2 b q
            · rw [List.mem_singleton.mp q]; exact hz
          · obtain ⟨bs, b1, b2, b3, b4, b5⟩ := e
            refine ⟨_, _, rfl, .inl ⟨SqL.of b3, fun tb htb => ?_⟩⟩
            have sB := same_upd (o := .tup (bs.map nV)) htb
            refine ⟨le_line (of_decide_eq_true rfl), fun t ht => ?_⟩
            have sC := sB.trans (same_upd (o := .tup [.ref lv, nV n, .ref tc, .ref tb]) ht)
            have f9 := f8.trans (b5.trans (Fr.of sC))
            have ft := (b5.trans (Fr.of sC)).tups
            refine k t ⟨ns, n, (cs ++ [Cell.stop]), bs⟩ _ ⟨lv, tc, tb, _, upd_same, ft _ _ v8, ft _ _ c8, a8.k ft, u1 ht upd_same⟩ ⟨v1, v5, vok, hn2, hn4, by show 1 ≤ (cs ++ [Cell.stop]).length; simp, by show (cs ++ [Cell.stop]).length ≤ 200; simp; omega, fun x hx => ?_, by show bs.length ≤ 3; omega, b2⟩ ((b4.same sC).le (by omega)) f9
            show x.Ok ns.length n bs.length
            rw [b1]
            exact ok7 x hx
        | cons v0 vs =>
          refine itBF rfl ?_
          have lo : 1 ≤ cs.length := by simp at LV; omega
          obtain ⟨us, hus⟩ : ∃ us : List V, us = v0 :: vs := ⟨_, rfl⟩
          rw [← hus] at E1 E4
          refine ⟨_, rfl, ?_⟩
          refine ⟨_, rfl, ?_⟩
          refine ⟨_, rfl, ?_⟩
          refine ⟨_, _, rfl, .inl ⟨SqL.of E1, fun tc htc => ?_⟩⟩
          have sT := same_upd (o := .tup us) htc
          have I8 := (I1).same sT
          have f8 := (F1).trans (Fr.of sT)
          have a8 := AreCells.same sT E4
          have v8 := sT _ _ EV
          have c8 : upd Z3 tc (.tup us) tc = some (.tup us) := upd_same
          generalize upd Z3 tc (.tup us) = Z8 at I8 f8 a8 v8 c8 ⊢
          refine ⟨_, rfl, ?_⟩
          refine ⟨_, rfl, ?_⟩
          refine ⟨by rw [p62]; omega, by rw [p62]; omega, fun D hD => ?_⟩
          rw [Int.toNat_natCast]
          obtain ⟨d1, d2, d3, d4⟩ := I8.fresh f8 hD
          refine lc_range (lo := 0) (n := bk) (fun j G => ∃ bs : List Nat, bs.length = j ∧ (∀ b ∈ bs, b < n) ∧ G D = some (.lst (bs.map nV)) ∧ IsSt G st g c (m + 2 * (3 - j)) ∧ Fr [st, g] [0, 2] Z8 G)
            ⟨[], rfl, fun b h => (by cases h), upd_same, (I8.le (by omega)).up d2 d3 d4, fr_mut (Fr.refl _) hD⟩ (fun j G hj e => ?_) (fun G e => ?_)
          · obtain ⟨bs, b1, b2, b3, b4, b5⟩ := e
            iterate 3 first | refine ⟨_, rfl, ?_⟩ | refine ⟨rfl, ?_⟩
            refine ⟨st, g, c, m + 2 * (3 - (j + 1)), n, rfl, by rw [show m + 2 * (3 - (j + 1)) + 2 = m + 2 * (3 - j) by omega]; exact b4, hn2, hn4, fun z G2 hz IG fG => ?_⟩
            have b6 := fG.n b3 (by simp [d2, d3])
            refine ⟨_, b6, by rw [List.length_map]; omega, bs ++ [z], by simp [b1], fun b hb => ?_, by rw [upd_same, List.map_append]; rfl, IG.up d2 d3 d4, fr_mut (b5.trans fG) hD⟩
            rcases List.mem_append.mp hb with q | q
            · exact b2 b q
            · rw [List.mem_singleton.mp q]; exact hz
          · obtain ⟨bs, b1, b2, b3, b4, b5⟩ := e
            refine ⟨_, _, rfl, .inl ⟨SqL.of b3, fun tb htb => ?_⟩⟩
            have sB := same_upd (o := .tup (bs.map nV)) htb
            refine ⟨le_line (of_decide_eq_true rfl), fun t ht => ?_⟩
            have sC := sB.trans (same_upd (o := .tup [.ref lv, nV n, .ref tc, .ref tb]) ht)
            have f9 := f8.trans (b5.trans (Fr.of sC))
            have ft := (b5.trans (Fr.of sC)).tups
            refine k t ⟨ns, n, cs, bs⟩ _ ⟨lv, tc, tb, _, upd_same, ft _ _ v8, ft _ _ c8, a8.k ft, u1 ht upd_same⟩ ⟨v1, v5, vok, hn2, hn4, lo, by show cs.length ≤ 200; omega, fun x hx => ?_, by show bs.length ≤ 3; omega, b2⟩ ((b4.same sC).le (by omega)) f9
            show x.Ok ns.length n bs.length
            rw [b1]
            exact e6 x hx
end Hw
namespace Hw
open PySem PySem.Spec PyProof.Rows L2
variable {P : Program} {w : World} {K : PySem.W.Frag} {mg : Str → Option Value} {base : Heap}
theorem same_l {K : PySem.W.Frag} {H H' : Hp} {a : Addr} {xs : List V} (e : Same H H') (h : SqL K H a xs) : SqL K H' a xs := by
  rcases h with (h | ⟨o, h⟩) | h
  · exact .inl (.inl (e _ _ h))
  · exact .inl (.inr ⟨o, e _ _ h⟩)
  · exact .inr h
abbrev s__law_begun : Stmt := top 78
abbrev N__law_begun : List Str := ["_law_script", "_law_great", "_law_cell"]
theorem sc__law_begun : FnScope N__law_begun ["_law_script"] (defScope s__law_begun) := ⟨rfl, rfl, rfl, by decide +kernel, rfl, by decide +kernel, by decide +kernel⟩
def sp__law_begun (K : PySem.W.Frag) : Sp := fun vs H Q _ => ∃ (a : Addr) (ns : List Int), vs = [.ref a] ∧ SqL K H a (ns.map V.int) ∧ ns.length ≤ 63 ∧
  ∀ (st g c : Addr) H', Same H H' → H st = none → H g = none → IsSt H' st g c 1000000000 → Q (.ref st) H'
theorem C__law_begun (T : Txt K mg) : C8.Cal P w K mg base 1 "_law_begun" (sp__law_begun K) [] := by
  refine cal (N := N__law_begun) (ps := ["_law_script"]) T.d__law_begun (fun _ _ _ _ _ _ us hl => match us, hl with | [_], _ => rfl) sc__law_begun (fun vs H Q E h => ?_) (fun f cdv A outer s H vs Q E hr h => ?_)
  · obtain ⟨a, ns, rfl, _⟩ := h
    rfl
  · obtain ⟨a, ns, rfl, ha, hn, k⟩ := h
    have hu := hu_of hr
    refine ⟨_, (pss_cons (ps_setLc (i := 1) (own := [("_law_cell", 2)]) rfl sc__law_begun.nd rfl rfl (sw_true rfl rfl rfl (by decide +kernel)) (pi_list (pv 0)) (blkOk_by (own := [("_law_cell", 2)]) (N := N__law_begun) (sc := defScope s__law_begun) (by decide +kernel)) (fun _ _ _ _ _ => (pg_name (i := 2) sc__law_begun.nd rfl (by first | exact .inl rfl | exact .inr rfl))) (fun _ _ _ _ _ => (pts_one (pt_cmpR op_ge (pe_callB call_abs (by rfl) T.b_abs (by decide +kernel) (pa_cons (pv 2) pa_nil)) (pe_op op_pow pe_int pe_int) (nomark _)))) (fun _ _ _ _ _ => (pe_op op_sub (pe_callB call_abs (by rfl) T.b_abs (by decide +kernel) (pa_cons (pv 2) pa_nil)) (pe_op op_pow pe_int pe_int))))
    (pss_one (ps_ret (pe_disp (pps_cons pe_str (pv 1) (pps_cons pe_str (pe_lc (own := [("_law_cell", 2)]) rfl sc__law_begun.nd (pi_list (pv 0)) (blkOk_by (own := [("_law_cell", 2)]) (N := N__law_begun) (sc := defScope s__law_begun) (by decide +kernel)) (fun _ _ _ _ _ => (pg_name (i := 2) sc__law_begun.nd rfl (by first | exact .inl rfl | exact .inr rfl))) (fun _ _ _ _ _ => pts_nil) (fun _ _ _ _ _ => (pe_callB call_abs (by rfl) T.b_abs (by decide +kernel) (pa_cons (pv 2) pa_nil)))) (pps_cons pe_str pe_int (pps_cons pe_str pe_int pps_nil)))) (by rfl) (by rfl) (fun z => by cases z) (by decide))))), ?_⟩
    refine ⟨_, rfl, ?_⟩
    refine ⟨_, rfl, ?_⟩
    have bl := big_line
    refine ⟨⟨_, ha⟩, fun g hg => ?_⟩
    refine lc_list (xs := ns.map V.int) (fun i G => Same H G ∧ ∃ gr : List Int, gr.length ≤ i ∧ G g = some (.lst (gr.map V.int))) ⟨same_upd hg, [], Nat.le_refl _, upd_same⟩ (fun i G _ e => same_l e.1 ha) (fun i y G hi e => ?_) (fun G e => ?_)
    · obtain ⟨s1, gr, g1, g2⟩ := e
      have hil := (List.getElem?_eq_some_iff.mp hi).1
      rw [List.length_map] at hil
      rw [List.getElem?_map] at hi
      obtain ⟨n, _, rfl⟩ := Option.map_eq_some_iff.mp hi
      iterate 4 first | refine ⟨_, rfl, ?_⟩ | refine ⟨_, _, rfl, rfl, ?_⟩ | refine ⟨rfl, ?_⟩
      refine ⟨⟨by decide, by decide, by decide⟩, ?_⟩
      iterate 2 first | refine ⟨_, rfl, ?_⟩ | refine ⟨_, _, rfl, rfl, ?_⟩
      generalize decide (10 ^ Int.toNat 18 ≤ if n < 0 then -n else n) = b
      cases b with
      | false => exact iteF ⟨s1, gr, by omega, g2⟩
      | true =>
        refine iteT ?_
        iterate 3 first | refine ⟨_, rfl, ?_⟩ | refine ⟨_, _, rfl, rfl, ?_⟩
        refine ⟨⟨by decide, by decide, by decide⟩, ?_⟩
        refine ⟨_, _, rfl, rfl, ?_⟩
        refine ⟨_, g2, by rw [List.length_map]; omega, same_mut s1 hg, gr ++ [(if n < 0 then -n else n) - 10 ^ Int.toNat 18], by simp; omega, ?_⟩
        rw [upd_same, List.map_append]
        rfl
    · obtain ⟨s1, gr, g1, g2⟩ := e
      intro st hst
      have s2 := s1.trans (same_upd (o := .dK []) hst)
      have g3 := u1 (o := .dK []) hst g2
      have st3 : upd G st (.dK []) st = some (.dK []) := upd_same
      have hst0 : H st = none := same_none s1 hst
      have ng : g ≠ st := ne_of_none g2 hst
      generalize upd G st (.dK []) = X at s2 g3 st3 ⊢
      refine ⟨_, rfl, ?_⟩
      refine ⟨_, rfl, ?_⟩
      refine ⟨_, rfl, ?_⟩
      refine ⟨⟨_, same_l s2 ha⟩, fun c hc => ?_⟩
      have hc0 : H c = none := same_none s2 hc
      have nsc : st ≠ c := ne_of_none st3 hc
      have ngc : g ≠ c := ne_of_none g3 hc
      refine lc_list (xs := ns.map V.int) (fun i Z => Same H Z ∧ Z g = some (.lst (gr.map V.int)) ∧ Z st = some (.dK []) ∧ ∃ cs : List Int, cs.length ≤ i ∧ Z c = some (.lst (cs.map V.int))) ⟨same_mut s2 hc0, um ngc g3, um nsc st3, [], Nat.le_refl _, upd_same⟩ (fun i Z _ e => same_l e.1 ha) (fun i y Z hi e => ?_) (fun Z e => ?_)
      · obtain ⟨z1, z2, z3, cs, c1, c2⟩ := e
        have hil := (List.getElem?_eq_some_iff.mp hi).1
        rw [List.length_map] at hil
        rw [List.getElem?_map] at hi
        obtain ⟨n, _, rfl⟩ := Option.map_eq_some_iff.mp hi
        iterate 3 first | refine ⟨_, rfl, ?_⟩ | refine ⟨rfl, ?_⟩
        refine ⟨_, c2, by rw [List.length_map]; omega, same_mut z1 hc0, um ngc z2, um nsc z3, cs ++ [if n < 0 then -n else n], by simp; omega, ?_⟩
        rw [upd_same, List.map_append]
        rfl
      · obtain ⟨z1, z2, z3, cs, c1, c2⟩ := e
        refine ⟨z3, [(Sum.inr "great", .ref g), (Sum.inr "cells", .ref c), (Sum.inr "rest", .int 0), (Sum.inr "turn", .int 0)], rfl, by simp, ?_⟩
        show Q (.ref st) (upd Z st (.dK [(Sum.inr "great", V.ref g), (Sum.inr "cells", V.ref c), (Sum.inr "rest", V.int 0), (Sum.inr "turn", V.int 0)]))
        exact k st g c _ (same_mut z1 hst0) hst0 hg ⟨gr, cs, 0, 0, ⟨upd_same, um ng z2, um (Ne.symm nsc) c2, ngc⟩, by omega, by omega⟩
end Hw
namespace Hw
open PySem PySem.Spec PyProof.Rows L2
def thV : Th → List V
  | .num n => [.str "number", nV n]
  | .take k => [.str "take", nV k]
def IsTh (H : Hp) (v : V) (t : Th) : Prop := ∃ q, v = .ref q ∧ H q = some (.tup (thV t))
def IsThO (H : Hp) (v : V) : Option Th → Prop
  | none => v = .non
  | some t => IsTh H v t
theorem IsTh.k {H H' : Hp} (f : ∀ b xs, H b = some (.tup xs) → H' b = some (.tup xs)) {v : V} {t : Th} (h : IsTh H v t) : IsTh H' v t := let ⟨q, a, b⟩ := h; ⟨q, a, f _ _ b⟩
theorem IsThO.k {H H' : Hp} (f : ∀ b xs, H b = some (.tup xs) → H' b = some (.tup xs)) {v : V} {o : Option Th} (h : IsThO H v o) : IsThO H' v o := by
  cases o with
  | none => exact h
  | some t => exact IsTh.k f h
def thD : Th → PyData
  | .num n => .tuple [.str "number", .int n]
  | .take k => .tuple [.str "take", .int k]
def thOD : Option Th → PyData
  | none => .none
  | some t => thD t
theorem th_dp {K : PySem.W.Frag} {H : Hp} {v : V} {t : Th} (h : IsTh H v t) : Dp K H v (thD t) := by
  obtain ⟨q, rfl, hq⟩ := h
  cases t with
  | num n => exact .tup (SqT.of hq) (.cons (.str _) (.cons (.int _) .nil))
  | take n => exact .tup (SqT.of hq) (.cons (.str _) (.cons (.int _) .nil))
theorem tho_dp {K : PySem.W.Frag} {H : Hp} {v : V} {o : Option Th} (h : IsThO H v o) : Dp K H v (thOD o) := by
  cases o with
  | none => rw [show v = .non from h]; exact .non
  | some t => exact th_dp h
theorem dp_all {K : PySem.W.Frag} {H : Hp} {α : Type} {R : V → α → Prop} {g : α → PyData} (f : ∀ v x, R v x → Dp K H v (g x)) : ∀ {vs : List V} {xs : List α}, AllAt R vs xs → DpAll K H vs (xs.map g)
  | [], [], _ => .nil
  | [], x :: xs, h => by have := h.1; simp at this
  | v :: vs, [], h => by have := h.1; simp at this
  | v :: vs, x :: xs, h => .cons (f v x (h.2 0 v x rfl rfl)) (dp_all f ⟨by have := h.1; simpa using this, fun i a b h1 h2 => h.2 (i + 1) a b (by simpa using h1) (by simpa using h2)⟩)
theorem thD_shaped (t : Th) : SeqAt.shaped (thD t) = true := by
  cases t <;> simp [thD, SeqAt.shaped, PyData.canLay0, PyData.canLayAll0, PyData.depth, PyData.depthAll] <;> decide +kernel
theorem tho_lay : ∀ l : List (Option Th), PyData.canLayAll0 (l.map thOD) = true
  | [] => by simp [PyData.canLayAll0]
  | o :: l => by
    have h : (thOD o).canLay0 = true := by
      cases o with
      | none => rfl
      | some t => cases t <;> simp [thOD, thD, PyData.canLay0, PyData.canLayAll0] <;> decide +kernel
    simp [PyData.canLayAll0, h, tho_lay l]
theorem tho_depth : ∀ l : List (Option Th), PyData.depthAll (l.map thOD) ≤ 2
  | [] => by simp [PyData.depthAll]
  | o :: l => by
    have h : (thOD o).depth ≤ 1 := by
      cases o with
      | none => decide
      | some t => cases t <;> simp [thOD, thD, PyData.depth, PyData.depthAll]
    have := tho_depth l
    simp only [List.map_cons, PyData.depthAll]; omega
theorem tho_shaped (l : List (Option Th)) : SeqAt.shaped (.list (l.map thOD)) = true := by
  have h1 := tho_depth l
  show ((PyData.list (l.map thOD)).canLay0 && decide ((PyData.list (l.map thOD)).depth ≤ 64)) = true
  rw [Bool.and_eq_true]
  refine ⟨by simp only [PyData.canLay0]; exact tho_lay l, decide_eq_true ?_⟩
  simp only [PyData.depth]; omega
theorem th_eqv (a b : Th) : PyData.eqv (thD a) (thD b) = decide (a = b) := by
  cases a with
  | num n => cases b with
    | num m => by_cases e : n = m
               · subst e; simp [thD, PyData.eqv, PyData.eqvAll]
               · have : ¬ (n : Int) = m := by omega
                 simp [thD, PyData.eqv, PyData.eqvAll, e, this]
    | take m => simp [thD, PyData.eqv, PyData.eqvAll]; exact fun e => absurd e (by decide)
  | take n => cases b with
    | take m => by_cases e : n = m
                · subst e; simp [thD, PyData.eqv, PyData.eqvAll]
                · have : ¬ (n : Int) = m := by omega
                  simp [thD, PyData.eqv, PyData.eqvAll, e, this]
    | num m => simp [thD, PyData.eqv, PyData.eqvAll]; exact fun e => absurd e (by decide)
theorem none_any : ∀ l : List (Option Th), ((l.map thOD).any fun z => PyData.eqv z .none) = l.any Option.isNone
  | [] => rfl
  | o :: l => by
    rw [List.map_cons, List.any_cons, List.any_cons, none_any l]
    cases o with
    | none => rfl
    | some t => cases t <;> rfl
theorem all_some : ∀ {l : List (Option Th)}, l.any Option.isNone = false → ∃ ts : List Th, l = ts.map some
  | [], _ => ⟨[], rfl⟩
  | none :: l, h => by simp at h
  | some t :: l, h => by
    obtain ⟨ts, e⟩ := all_some (l := l) (by simpa using h)
    exact ⟨t :: ts, by rw [e]; rfl⟩
theorem unlike_map (t0 : Th) (ts : List Th) : unlike ((t0 :: ts).map some) = (((t0 :: ts).filter fun t => !decide (t = t0)).head?).map fun y => some (t0, y) := by
  unfold unlike
  have h1 : ((t0 :: ts).map some).any Option.isNone = false := by simp
  have h2 : ((t0 :: ts).map some).filterMap id = t0 :: ts := by
    simp [List.filterMap_map]
  rw [h1, h2, List.filter_cons]
  simp only [decide_true, Bool.not_true, Bool.false_eq_true, if_false]
  congr 1
  rw [← List.head?_filter]
  congr 1
  refine List.filter_congr fun x _ => ?_
  simp
def IsDue (H : Hp) (v : V) (u : Option (Th × Th)) : Prop := ∃ p, v = .ref p ∧ match u with
  | none => H p = some (.tup [.non, .non])
  | some (x, y) => ∃ vx vy, H p = some (.tup [vx, vy]) ∧ IsTh H vx x ∧ IsTh H vy y
def IsDueO (H : Hp) (v : V) : Option (Option (Th × Th)) → Prop
  | none => v = .non
  | some u => IsDue H v u
variable {P : Program} {w : World} {K : PySem.W.Frag} {mg : Str → Option Value} {base : Heap}
abbrev s__law_copy_unlike : Stmt := top 94
abbrev N__law_copy_unlike : List Str := ["_law_some", "_law_others", "_law_one"]
theorem sc__law_copy_unlike : FnScope N__law_copy_unlike ["_law_some"] (defScope s__law_copy_unlike) := ⟨rfl, rfl, rfl, by decide +kernel, rfl, by decide +kernel, by decide +kernel⟩
def sp__law_copy_unlike : Sp := fun vs H Q _ => ∃ (l : Addr) (xs : List V) (os : List (Option Th)), vs = [.ref l] ∧ H l = some (.lst xs) ∧ AllAt (IsThO H) xs os ∧ xs.length ≤ 64 ∧ 1 ≤ xs.length ∧
  ∀ v H', Same H H' → IsDueO H' v (unlike os) → Q v H'
theorem C__law_copy_unlike (T : Txt K mg) : C8.Cal P w K mg base 1 "_law_copy_unlike" sp__law_copy_unlike [] := by
  refine cal (N := N__law_copy_unlike) (ps := ["_law_some"]) T.d__law_copy_unlike (fun _ _ _ _ _ _ us hl => match us, hl with | [_], _ => rfl) sc__law_copy_unlike (fun vs H Q E h => ?_) (fun f cdv A outer s H vs Q E hr h => ?_)
  · obtain ⟨l, xs, os, rfl, _⟩ := h
    rfl
  · obtain ⟨l, xs, os, rfl, hl, al, len, ne, k⟩ := h
    have hu := hu_of hr
    refine ⟨_, (pss_cons (ps_if (pt_cmpR (op_inD (room65 hr)) pe_non (pv 0) (by with_unfolding_all rfl)) (pss_one (ps_ret (pe_tup (pa_cons pe_non (pa_cons pe_non pa_nil))))) pss_nil)
    (pss_cons (ps_setLc (i := 1) (own := [("_law_one", 2)]) rfl sc__law_copy_unlike.nd rfl rfl (sw_true rfl rfl rfl (by decide +kernel)) (pi_list (pv 0)) (blkOk_by (own := [("_law_one", 2)]) (N := N__law_copy_unlike) (sc := defScope s__law_copy_unlike) (by decide +kernel)) (fun _ _ _ _ _ => (pg_name (i := 2) sc__law_copy_unlike.nd rfl (by first | exact .inl rfl | exact .inr rfl))) (fun _ _ _ _ _ => (pts_one (pt_cmpR (op_neDK (K := K) rfl hr.units) (pv 2) (pe_ix (ix_listK (K := K) rfl) (pv 0) pe_int (fun _ _ => rfl)) (nomark _)))) (fun _ _ _ _ _ => (pv 2)))
    (pss_one (ps_ret (pe_ifExp (pt_cmpR (op_eqE hr.units0) (pv 1) (pe_lst pa_nil) (nomark _)) pe_non (pe_tup (pa_cons (pe_ix (ix_listK (K := K) rfl) (pv 0) pe_int (fun _ _ => rfl)) (pa_cons (pe_ix (ix_listK (K := K) rfl) (pv 1) pe_int (fun _ _ => rfl)) pa_nil)))))))), ?_⟩
    refine ⟨_, rfl, ?_⟩
    have lo : os.length ≤ 64 := by have := al.1; omega
    refine ⟨.none, os.map thOD, .non, .lst (SqL.of hl) (dp_all (g := thOD) (fun _ _ h => tho_dp h) al), by decide +kernel, tho_shaped os, _, rfl, ?_⟩
    rw [none_any]
    cases e : os.any Option.isNone with
    | true =>
      refine iteT ?_
      refine ⟨le_line (of_decide_eq_true rfl), fun t ht => ?_⟩
      refine k _ _ (same_upd ht) ?_
      have hu2 : unlike os = some none := by unfold unlike; rw [e]; rfl
      rw [hu2]
      exact ⟨t, rfl, upd_same⟩
    | false =>
      refine iteF ?_
      obtain ⟨ts, rfl⟩ := all_some e
      cases ts with
      | nil =>
        have h9 := al.1
        rw [List.map_nil, List.length_nil] at h9
        omega
      | cons t0 ts =>
      have al2 : AllAt (IsTh H) xs (t0 :: ts) := ⟨by have := al.1; simpa using this, fun i v x h1 h2 => al.2 i v (some x) h1 (by rw [List.getElem?_map, h2]; rfl)⟩
      cases xs with
      | nil => simp at ne
      | cons v0 xs =>
      have hv0 : IsTh H v0 t0 := al2.2 0 v0 t0 rfl rfl
      refine ⟨_, rfl, ?_⟩
      refine ⟨_, rfl, ?_⟩
      refine ⟨⟨_, SqL.of hl⟩, fun D hD => ?_⟩
      have nlD : l ≠ D := ne_of_none hl hD
      refine lc_list (xs := v0 :: xs) (fun i G => Same H G ∧ ∃ acc, acc.length ≤ i ∧ G D = some (.lst acc) ∧ AllAt (IsTh G) acc (((t0 :: ts).take i).filter fun t => !decide (t = t0))) ⟨same_upd hD, [], Nat.le_refl _, upd_same, AllAt.nil⟩ (fun i G _ e => SqL.of (e.1 _ _ hl)) (fun i y G hi e => ?_) (fun G e => ?_)
      · obtain ⟨s1, acc, a1, a2, a3⟩ := e
        have hlG := s1 _ _ hl
        obtain ⟨ti, hti, hyi⟩ := al2.get hi
        have len2 : (v0 :: xs).length ≤ 64 := len
        have hil := (List.getElem?_eq_some_iff.mp hi).1
        iterate 3 first | refine ⟨_, rfl, ?_⟩ | refine ⟨rfl, ?_⟩
        refine ⟨_, _, _, _, rfl, rfl, SqL.of hlG, atI_nat (j := 0) rfl, ?_⟩
        refine ⟨thD ti, thD t0, th_dp (hyi.k fun b xs h => s1 _ _ h), th_dp (hv0.k fun b xs h => s1 _ _ h), thD_shaped _, thD_shaped _, _, rfl, ?_⟩
        rw [th_eqv]
        have tk : (t0 :: ts).take (i + 1) = (t0 :: ts).take i ++ [ti] := by rw [List.take_succ, hti]; rfl
        by_cases hz : ti = t0
        · refine itNF hz ?_
          refine ⟨s1, acc, by omega, a2, ?_⟩
          rw [tk, List.filter_append, List.filter_cons, if_neg (by simp [hz])]
          simpa using a3
        · refine itNT hz ?_
          have bl := big_line
          refine ⟨_, rfl, acc, a2, by omega, same_mut s1 hD, acc ++ [y], by simp; omega, upd_same, ?_⟩
          have kt : ∀ b xs, G b = some (.tup xs) → upd G D (.lst (acc ++ [y])) b = some (.tup xs) := fun b xs h => um (new_kind h a2 (by simp [HO.kd])) h
          rw [tk, List.filter_append, List.filter_cons, if_pos (by simp [hz]), List.filter_nil]
          exact (a3.mono fun _ _ h => h.k kt).snoc ((hyi.k fun b xs h => s1 _ _ h).k kt)
      · obtain ⟨s1, acc, a1, a2, a3⟩ := e
        rw [show (t0 :: ts).take (v0 :: xs).length = t0 :: ts from List.take_of_length_le (by have := al2.1; omega)] at a3
        have hlG := s1 _ _ hl
        iterate 2 first | refine ⟨_, rfl, ?_⟩ | refine ⟨le_line (of_decide_eq_true rfl), fun t ht => ?_⟩
        revert ht
        revert t
        intro q hq
        have s2 := s1.trans (same_upd (o := .lst []) hq)
        have al3 := a3.mono fun (v : V) (t : Th) (h : IsTh G v t) => IsTh.k (H' := upd G q (.lst [])) (fun b xs h => u1 hq h) h
        refine ⟨_, _, _, rfl, rfl, SqL.of (u1 hq a2), SqL.of upd_same, _, rfl, ?_⟩
        rw [unlike_map] at k
        cases acc with
        | nil =>
          refine itBT rfl ?_
          rw [show ((t0 :: ts).filter fun t => !decide (t = t0)) = [] from List.eq_nil_of_length_eq_zero (by have := a3.1; simpa using this.symm)] at k
          exact k _ _ s2 rfl
        | cons w0 ws =>
          refine itBF rfl ?_
          have h0 := al3.1
          cases e3 : ((t0 :: ts).filter fun t => !decide (t = t0)) with
          | nil => rw [e3] at h0; simp at h0
          | cons y0 ys =>
            rw [e3] at k al3
            have hw0 := al3.2 0 w0 y0 rfl rfl
            have hv1 := IsTh.k (H' := upd G q (.lst [])) (fun b xs h => u1 hq (s1 _ _ h)) hv0
            refine ⟨_, rfl, ?_⟩
            refine ⟨_, _, _, _, rfl, rfl, SqL.of (u1 hq hlG), atI_nat (j := 0) rfl, ?_⟩
            refine ⟨_, rfl, ?_⟩
            refine ⟨_, _, _, _, rfl, rfl, SqL.of (u1 hq a2), atI_nat (j := 0) rfl, ?_⟩
            refine ⟨le_line (of_decide_eq_true rfl), fun t ht => ?_⟩
            refine k _ _ (s2.trans (same_upd ht)) ⟨t, rfl, v0, w0, upd_same, hv1.k fun b xs h => u1 ht h, hw0.k fun b xs h => u1 ht h⟩
end Hw
namespace Hw
open PySem PySem.Spec PyProof.Rows L2
abbrev spK (i a : Nat) : List Key := [Sum.inl (i : Int), Sum.inl (a : Int)]
theorem spK_inj {i a j b : Nat} : spK i a = spK j b ↔ i = j ∧ a = b := by
  constructor
  · intro e
    have e1 : (i : Int) = j := by simpa using (List.cons.inj e).1
    have e2 : (a : Int) = b := by simpa using (List.cons.inj (List.cons.inj e).2).1
    exact ⟨by omega, by omega⟩
  · rintro ⟨rfl, rfl⟩; rfl
def SpAt (H : Hp) (sp : Addr) (h many : Nat) (F : Nat → Nat → Th) (bud : Nat) : Prop := ∃ kvs : List (List Key × V), H sp = some (.dT kvs) ∧ kvs.length ≤ bud ∧ ∀ i < h, ∀ a < many, ∃ v, valV kvs (spK i a) = some v ∧ IsTh H v (F i a)
def SlAt (H : Hp) (sl : Addr) (S : Nat → Option Th) (bud : Nat) : Prop := ∃ kvs : List (Key × V), H sl = some (.dK kvs) ∧ kvs.length ≤ bud ∧ ∀ i : Nat, match S i with
  | none => valV kvs (Sum.inl (i : Int)) = none
  | some t => ∃ v, valV kvs (Sum.inl (i : Int)) = some v ∧ IsTh H v t
theorem SpAt.k {H H' : Hp} {sp : Addr} {h many bud : Nat} {F : Nat → Nat → Th} (S : SpAt H sp h many F bud) (f : ∀ b xs, H b = some (.tup xs) → H' b = some (.tup xs)) (e : ∀ kvs, H sp = some (.dT kvs) → H' sp = some (.dT kvs)) : SpAt H' sp h many F bud :=
  let ⟨kvs, a, b, c⟩ := S; ⟨kvs, e _ a, b, fun i hi x hx => let ⟨v, p, q⟩ := c i hi x hx; ⟨v, p, q.k f⟩⟩
theorem SlAt.k {H H' : Hp} {sl : Addr} {bud : Nat} {S : Nat → Option Th} (L : SlAt H sl S bud) (f : ∀ b xs, H b = some (.tup xs) → H' b = some (.tup xs)) (e : ∀ kvs, H sl = some (.dK kvs) → H' sl = some (.dK kvs)) : SlAt H' sl S bud := by
  obtain ⟨kvs, a, b, c⟩ := L
  refine ⟨kvs, e _ a, b, fun i => ?_⟩
  have := c i
  cases q : S i with
  | none => rw [q] at this; exact this
  | some t =>
    rw [q] at this
    obtain ⟨v, x, y⟩ := this
    exact ⟨v, x, y.k f⟩
theorem SpAt.le {H : Hp} {sp : Addr} {h many bud b2 : Nat} {F : Nat → Nat → Th} (S : SpAt H sp h many F bud) (l : bud ≤ b2) : SpAt H sp h many F b2 := let ⟨kvs, a, b, c⟩ := S; ⟨kvs, a, Nat.le_trans b l, c⟩
theorem SlAt.le {H : Hp} {sl : Addr} {bud b2 : Nat} {S : Nat → Option Th} (L : SlAt H sl S bud) (l : bud ≤ b2) : SlAt H sl S b2 := let ⟨kvs, a, b, c⟩ := L; ⟨kvs, a, Nat.le_trans b l, c⟩
theorem sp_put {H : Hp} {sp : Addr} {h many bud i a : Nat} {F : Nat → Nat → Th} {kvs : List (List Key × V)} {v : V} {t : Th} (e : H sp = some (.dT kvs)) (lb : kvs.length ≤ bud) (all : ∀ j < h, ∀ b < many, (j = i ∧ b = a) ∨ ∃ v, valV kvs (spK j b) = some v ∧ IsTh H v (F j b)) (hv : IsTh H v t) :
    SpAt (upd H sp (.dT (putK kvs (spK i a) v))) sp h many (setF F i a t) (bud + 1) := by
  have kt : ∀ b xs, H b = some (.tup xs) → upd H sp (.dT (putK kvs (spK i a) v)) b = some (.tup xs) := fun b xs h => um (new_kind h e (by simp [HO.kd])) h
  refine ⟨_, upd_same, Nat.le_trans (putK_le _ _ _) (by omega), fun j hj b hb => ?_⟩
  rw [valV_put]
  by_cases q : j = i ∧ b = a
  · obtain ⟨rfl, rfl⟩ := q
    refine ⟨v, if_pos rfl, ?_⟩
    simp only [setF, and_self, if_true]
    exact hv.k kt
  · rw [if_neg (fun z => q (spK_inj.mp z))]
    simp only [setF, if_neg q]
    rcases all j hj b hb with z | ⟨v', p1, p2⟩
    · exact absurd z q
    · exact ⟨v', p1, p2.k kt⟩
theorem sl_put {H : Hp} {sl : Addr} {bud i : Nat} {S : Nat → Option Th} {kvs : List (Key × V)} {v : V} {t : Th} (e : H sl = some (.dK kvs)) (lb : kvs.length ≤ bud) (all : ∀ j : Nat, match S j with
    | none => valV kvs (Sum.inl (j : Int)) = none
    | some t => ∃ v, valV kvs (Sum.inl (j : Int)) = some v ∧ IsTh H v t) (hv : IsTh H v t) :
    SlAt (upd H sl (.dK (putK kvs (Sum.inl (i : Int)) v))) sl (setS S i (some t)) (bud + 1) := by
  have kt : ∀ b xs, H b = some (.tup xs) → upd H sl (.dK (putK kvs (Sum.inl (i : Int)) v)) b = some (.tup xs) := fun b xs h => um (new_kind h e (by simp [HO.kd])) h
  refine ⟨_, upd_same, Nat.le_trans (putK_le _ _ _) (by omega), fun j => ?_⟩
  rw [valV_put]
  by_cases q : j = i
  · subst q
    simp only [setS, if_true]
    exact ⟨v, rfl, hv.k kt⟩
  · have ne : (Sum.inl (j : Int) : Key) ≠ Sum.inl (i : Int) := fun z => q (by have := Sum.inl.inj z; omega)
    rw [if_neg ne]
    simp only [setS, if_neg q]
    have := all j
    cases z : S j with
    | none => rw [z] at this; exact this
    | some t' =>
      rw [z] at this
      obtain ⟨v', x, y⟩ := this
      exact ⟨v', x, y.k kt⟩
variable {P : Program} {w : World} {K : PySem.W.Frag} {mg : Str → Option Value} {base : Heap}
abbrev s__law_copy_cell : Stmt := top 95
abbrev N__law_copy_cell : List Str := ["_law_spots", "_law_slots", "_law_cell", "_law_hue", "_law_word", "_law_b"]
theorem sc__law_copy_cell : FnScope N__law_copy_cell ["_law_spots", "_law_slots", "_law_cell"] (defScope s__law_copy_cell) := ⟨rfl, rfl, rfl, by decide +kernel, rfl, by decide +kernel, by decide +kernel⟩
def sp__law_copy_cell : Sp := fun vs H Q _ => ∃ (sp sl q : Addr) (c : Cell) (i h size bank bud : Nat) (s : SS Th), vs = [.ref sp, .ref sl, .ref q] ∧ H q = some (.tup (cellV c)) ∧ c.hue = some i ∧ c.Ok h size bank ∧
  SpAt H sp h (8 + bank) s.F bud ∧ SlAt H sl s.S bud ∧ bud ≤ 50000 ∧
  ∀ s' H', step .num .take h (8 + bank) s c = .go s' → SpAt H' sp h (8 + bank) s'.F (bud + 1) → SlAt H' sl s'.S (bud + 1) → Fr [sp, sl] [2, 3] H H' → Q .non H'
theorem C__law_copy_cell (T : Txt K mg) : C8.Cal P w K mg base 1 "_law_copy_cell" sp__law_copy_cell [] := by
  refine cal (N := N__law_copy_cell) (ps := ["_law_spots", "_law_slots", "_law_cell"]) T.d__law_copy_cell (fun _ _ _ _ _ _ us hl => match us, hl with | [_, _, _], _ => rfl) sc__law_copy_cell (fun vs H Q E h => ?_) (fun f cdv A outer s H vs Q E hr h => ?_)
  · obtain ⟨sp, sl, q, c, i, h, size, bank, bud, s, rfl, _⟩ := h
    rfl
  · obtain ⟨sp, sl, q, c, i, h, size, bank, bud, s, rfl, hq, hc, ok, SP, SL, hb, k⟩ := h
    have hu := hu_of hr
    have bl := big_line
    refine ⟨_, (pss_cons (ps_par3 (i := 3) (j := 4) (l := 5) (by rfl) sc__law_copy_cell.nd rfl rfl rfl (by decide) (by decide) (by decide) rfl rfl rfl (pa_cons (pe_ix (ix_tupK (K := K) rfl) (pv 2) pe_int (fun _ _ => rfl)) (pa_cons (pe_ix (ix_tupK (K := K) rfl) (pv 2) pe_int (fun _ _ => rfl)) (pa_cons (pe_ix (ix_tupK (K := K) rfl) (pv 2) pe_int (fun _ _ => rfl)) pa_nil))) (by rfl))
    (pss_one (ps_if (pt_cmpR op_eq (pv 4) pe_str (nomark _)) (pss_one (ps_dput hu (pv 0) (pe_tup (pa_cons (pv 3) (pa_cons (pv 5) pa_nil))) (pe_tup (pa_cons pe_str (pa_cons (pe_ix (ix_tupK (K := K) rfl) (pv 2) pe_int (fun _ _ => rfl)) pa_nil))) rfl)) (pss_one (ps_if (pt_cmpR op_eq (pv 4) pe_str (nomark _)) (pss_one (ps_dput hu (pv 0) (pe_tup (pa_cons (pv 3) (pa_cons (pv 5) pa_nil))) (pe_dget hu (pv 0) (pe_tup (pa_cons (pv 3) (pa_cons (pe_op op_add pe_int (pe_ix (ix_tupK (K := K) rfl) (pv 2) pe_int (fun _ _ => rfl))) pa_nil))) (fun _ _ => rfl)) rfl)) (pss_one (ps_if (pt_cmpR op_eq (pv 4) pe_str (nomark _)) (pss_one (ps_dput hu (pv 0) (pe_tup (pa_cons (pv 3) (pa_cons (pe_op op_add pe_int (pe_ix (ix_tupK (K := K) rfl) (pv 2) pe_int (fun _ _ => rfl))) pa_nil))) (pe_dget hu (pv 0) (pe_tup (pa_cons (pv 3) (pa_cons (pv 5) pa_nil))) (fun _ _ => rfl)) rfl)) (pss_one (ps_dput hu (pv 1) (pv 3) (pe_dget hu (pv 0) (pe_tup (pa_cons (pv 3) (pa_cons (pv 5) pa_nil))) (fun _ _ => rfl)) rfl))))))))), ?_⟩
    obtain ⟨kvs, hsp, hl, all⟩ := SP
    have fin : ∀ (X : Hp) (a : Nat) (v : V) (t : Th), Same H X → IsTh X v t → step .num .take h (8 + bank) s c = .go { s with F := setF s.F i a t } → Q .non (upd X sp (.dT (putK kvs (spK i a) v))) := fun X a v t sX hv st => by
      have e := sX _ _ hsp
      have kt : ∀ b xs, X b = some (.tup xs) → upd X sp (.dT (putK kvs (spK i a) v)) b = some (.tup xs) := fun b xs h => um (new_kind h e (by simp [HO.kd])) h
      refine k _ _ st (sp_put e hl (fun j hj b hb => ?_) hv) ((SL.k (H' := upd X sp (.dT (putK kvs (spK i a) v))) (fun b xs h => kt _ _ (sX _ _ h)) fun kvs' h => um (new_kind (sX _ _ h) e (by simp [HO.kd])) (sX _ _ h)).le (by omega)) ((Fr.of sX).trans (.upd e (by simp) (by simp [HO.kd])))
      obtain ⟨v', p1, p2⟩ := all j hj b hb
      exact .inr ⟨v', p1, p2.k fun b xs h => sX _ _ h⟩
    cases c with
    | take => cases hc
    | sho => cases hc
    | mark => cases hc
    | stop => cases hc
    | set i' b n =>
      cases hc
      simp only [cellV] at hq
      iterate 6 first | refine ⟨_, rfl, ?_⟩ | refine ⟨_, _, _, _, rfl, rfl, SqT.of (by repeat (first | assumption | exact upd_same .. | refine u1 (by assumption) ?_ | refine um (by assumption) ?_ | refine sa (by assumption) ?_)), atI_nat (j := 0) rfl, ?_⟩ | refine ⟨_, _, _, _, rfl, rfl, SqT.of (by repeat (first | assumption | exact upd_same .. | refine u1 (by assumption) ?_ | refine um (by assumption) ?_ | refine sa (by assumption) ?_)), atI_nat (j := 1) rfl, ?_⟩ | refine ⟨_, _, _, _, rfl, rfl, SqT.of (by repeat (first | assumption | exact upd_same .. | refine u1 (by assumption) ?_ | refine um (by assumption) ?_ | refine sa (by assumption) ?_)), atI_nat (j := 2) rfl, ?_⟩
      refine ⟨_, _, _, rfl, ?_⟩
      iterate 11 first | refine iteT ?_ | refine ⟨_, rfl, ?_⟩ | refine ⟨rfl, ?_⟩ | refine ⟨_, _, _, _, rfl, rfl, SqT.of (by repeat (first | assumption | exact upd_same .. | refine u1 (by assumption) ?_ | refine um (by assumption) ?_ | refine sa (by assumption) ?_)), atI_nat (j := 3) rfl, ?_⟩ | refine ⟨le_line (of_decide_eq_true rfl), fun t ht => ?_⟩
      rename_i t1 ht1
      have s1 : Same H (upd (upd H t1 (.tup [.str "number", nV n])) t (.tup [nV i, nV b])) := (same_upd ht1).trans (same_upd ht)
      refine ⟨_, _, rfl, DPut.t (k := spK i b) (s1 _ _ hsp) upd_same (by omega), ?_⟩
      exact fin _ b _ (.num n) s1 ⟨t1, rfl, u1 ht upd_same⟩ rfl
    | get i' b c z =>
      cases hc
      obtain ⟨o1, o2, o3, o4⟩ := ok
      obtain ⟨v, hv1, hv2⟩ := all i o1 (8 + z) (by omega)
      have ez : (8 : Int) + (z : Int) = ((8 + z : Nat) : Int) := by omega
      simp only [cellV] at hq
      iterate 6 first | refine ⟨_, rfl, ?_⟩ | refine ⟨_, _, _, _, rfl, rfl, SqT.of (by repeat (first | assumption | exact upd_same .. | refine u1 (by assumption) ?_ | refine um (by assumption) ?_ | refine sa (by assumption) ?_)), atI_nat (j := 0) rfl, ?_⟩ | refine ⟨_, _, _, _, rfl, rfl, SqT.of (by repeat (first | assumption | exact upd_same .. | refine u1 (by assumption) ?_ | refine um (by assumption) ?_ | refine sa (by assumption) ?_)), atI_nat (j := 1) rfl, ?_⟩ | refine ⟨_, _, _, _, rfl, rfl, SqT.of (by repeat (first | assumption | exact upd_same .. | refine u1 (by assumption) ?_ | refine um (by assumption) ?_ | refine sa (by assumption) ?_)), atI_nat (j := 2) rfl, ?_⟩
      refine ⟨_, _, _, rfl, ?_⟩
      iterate 14 first | refine iteT ?_ | refine iteF ?_ | refine ⟨_, rfl, ?_⟩ | refine ⟨_, _, rfl, rfl, ?_⟩ | refine ⟨rfl, ?_⟩ | refine ⟨_, _, _, _, rfl, rfl, SqT.of (by repeat (first | assumption | exact upd_same .. | refine u1 (by assumption) ?_ | refine um (by assumption) ?_ | refine sa (by assumption) ?_)), atI_nat (j := 4) rfl, ?_⟩ | refine ⟨le_line (of_decide_eq_true rfl), fun t ht => ?_⟩
      have s0 := same_upd (o := .tup [nV i, .int (8 + (z : Int))]) ht
      refine ⟨_, v, rfl, hv1 ▸ DGet.t (k := spK i (8 + z)) (s0 _ _ hsp) upd_same, ?_⟩
      have hv3 := hv2.k fun b xs h => s0 _ _ h
      generalize upd H t (.tup [nV i, .int (8 + (z : Int))]) = Y at s0 hv3 ⊢
      iterate 4 first | refine ⟨_, rfl, ?_⟩ | refine ⟨le_line (of_decide_eq_true rfl), fun t ht => ?_⟩
      have s1 := s0.trans (same_upd (o := .tup [nV i, nV b]) ht)
      refine ⟨_, _, rfl, DPut.t (k := spK i b) (s1 _ _ hsp) upd_same (by omega), ?_⟩
      exact fin _ b _ (s.F i (8 + z)) s1 (hv3.k fun b xs h => u1 ht h) rfl
    | put i' b c z =>
      cases hc
      obtain ⟨o1, o2, o3, o4⟩ := ok
      obtain ⟨v, hv1, hv2⟩ := all i o1 b (by omega)
      have ez : (8 : Int) + (z : Int) = ((8 + z : Nat) : Int) := by omega
      simp only [cellV] at hq
      iterate 6 first | refine ⟨_, rfl, ?_⟩ | refine ⟨_, _, _, _, rfl, rfl, SqT.of (by repeat (first | assumption | exact upd_same .. | refine u1 (by assumption) ?_ | refine um (by assumption) ?_ | refine sa (by assumption) ?_)), atI_nat (j := 0) rfl, ?_⟩ | refine ⟨_, _, _, _, rfl, rfl, SqT.of (by repeat (first | assumption | exact upd_same .. | refine u1 (by assumption) ?_ | refine um (by assumption) ?_ | refine sa (by assumption) ?_)), atI_nat (j := 1) rfl, ?_⟩ | refine ⟨_, _, _, _, rfl, rfl, SqT.of (by repeat (first | assumption | exact upd_same .. | refine u1 (by assumption) ?_ | refine um (by assumption) ?_ | refine sa (by assumption) ?_)), atI_nat (j := 2) rfl, ?_⟩
      refine ⟨_, _, _, rfl, ?_⟩
      iterate 16 first | refine iteT ?_ | refine iteF ?_ | refine ⟨_, rfl, ?_⟩ | refine ⟨rfl, ?_⟩ | refine ⟨le_line (of_decide_eq_true rfl), fun t ht => ?_⟩
      have s0 := same_upd (o := .tup [nV i, nV b]) ht
      refine ⟨_, v, rfl, hv1 ▸ DGet.t (k := spK i b) (s0 _ _ hsp) upd_same, ?_⟩
      have hv3 := hv2.k fun b xs h => s0 _ _ h
      have hq2 := s0 _ _ hq
      generalize upd H t (.tup [nV i, nV b]) = Y at s0 hv3 hq2 ⊢
      iterate 6 first | refine ⟨_, rfl, ?_⟩ | refine ⟨_, _, rfl, rfl, ?_⟩ | refine ⟨_, _, _, _, rfl, rfl, SqT.of (by repeat (first | assumption | exact upd_same .. | refine u1 (by assumption) ?_ | refine um (by assumption) ?_ | refine sa (by assumption) ?_)), atI_nat (j := 4) rfl, ?_⟩ | refine ⟨le_line (of_decide_eq_true rfl), fun t ht => ?_⟩
      have s1 := s0.trans (same_upd (o := .tup [nV i, .int (8 + (z : Int))]) ht)
      refine ⟨_, _, rfl, DPut.t (k := spK i (8 + z)) (s1 _ _ hsp) upd_same (by omega), ?_⟩
      exact fin _ (8 + z) _ (s.F i b) s1 (hv3.k fun b xs h => u1 ht h) rfl
    | offer i' b =>
      cases hc
      obtain ⟨o1, o2⟩ := ok
      obtain ⟨v, hv1, hv2⟩ := all i o1 b (by omega)
      obtain ⟨kls, hsl, hl2, all2⟩ := SL
      simp only [cellV] at hq
      iterate 6 first | refine ⟨_, rfl, ?_⟩ | refine ⟨_, _, _, _, rfl, rfl, SqT.of (by repeat (first | assumption | exact upd_same .. | refine u1 (by assumption) ?_ | refine um (by assumption) ?_ | refine sa (by assumption) ?_)), atI_nat (j := 0) rfl, ?_⟩ | refine ⟨_, _, _, _, rfl, rfl, SqT.of (by repeat (first | assumption | exact upd_same .. | refine u1 (by assumption) ?_ | refine um (by assumption) ?_ | refine sa (by assumption) ?_)), atI_nat (j := 1) rfl, ?_⟩ | refine ⟨_, _, _, _, rfl, rfl, SqT.of (by repeat (first | assumption | exact upd_same .. | refine u1 (by assumption) ?_ | refine um (by assumption) ?_ | refine sa (by assumption) ?_)), atI_nat (j := 2) rfl, ?_⟩
      refine ⟨_, _, _, rfl, ?_⟩
      iterate 16 first | refine iteF ?_ | refine ⟨_, rfl, ?_⟩ | refine ⟨rfl, ?_⟩ | refine ⟨le_line (of_decide_eq_true rfl), fun t ht => ?_⟩
      have s0 := same_upd (o := .tup [nV i, nV b]) ht
      refine ⟨_, v, rfl, hv1 ▸ DGet.t (k := spK i b) (s0 _ _ hsp) upd_same, ?_⟩
      have hv3 := hv2.k fun b xs h => s0 _ _ h
      generalize upd H t (.tup [nV i, nV b]) = Y at s0 hv3 ⊢
      have e := s0 _ _ hsl
      refine ⟨_, rfl, ?_⟩
      refine ⟨_, rfl, ?_⟩
      refine ⟨_, _, rfl, DPut.k (k := Sum.inl (i : Int)) e (by omega), ?_⟩
      have kt : ∀ b xs, Y b = some (.tup xs) → upd Y sl (.dK (putK kls (Sum.inl (i : Int)) v)) b = some (.tup xs) := fun b xs h => um (new_kind h e (by simp [HO.kd])) h
      refine k _ _ rfl ⟨kvs, um (new_kind (s0 _ _ hsp) e (by simp [HO.kd])) (s0 _ _ hsp), by omega, fun j hj x hx => ?_⟩ (sl_put e hl2 (fun j => ?_) hv3) ((Fr.of s0).trans (.upd e (by simp) (by simp [HO.kd])))
      · obtain ⟨v', p1, p2⟩ := all j hj x hx
        exact ⟨v', p1, p2.k fun b xs h => kt _ _ (s0 _ _ h)⟩
      · have := all2 j
        cases q : s.S j with
        | none => rw [q] at this; exact this
        | some t =>
          rw [q] at this
          obtain ⟨v', x, y⟩ := this
          exact ⟨v', x, y.k fun b xs h => s0 _ _ h⟩
end Hw
namespace Hw
open PySem PySem.Spec PyProof.Rows L2
variable {P : Program} {w : World} {K : PySem.W.Frag} {mg : Str → Option Value} {base : Heap}
theorem marked_at {h many i : Nat} {F : Nat → Nat → Th} {u : Option (Th × Th)} (hi : i < many) (h0 : ∀ a < i, unlike ((List.range h).map fun j => some (F j a)) = none) (h1 : unlike ((List.range h).map fun j => some (F j i)) = some u) : marked h many F = some u := by
  unfold marked
  obtain ⟨r, rfl⟩ : ∃ r, many = i + (r + 1) := ⟨many - i - 1, by omega⟩
  rw [List.range_add, List.findSome?_append]
  rw [List.findSome?_eq_none_iff.mpr fun a ha => h0 a (List.mem_range.mp ha)]
  rw [List.range_succ_eq_map]
  simp [h1]
theorem marked_no {h many : Nat} {F : Nat → Nat → Th} (h0 : ∀ a < many, unlike ((List.range h).map fun j => some (F j a)) = none) : marked h many F = none :=
  List.findSome?_eq_none_iff.mpr fun a ha => h0 a (List.mem_range.mp ha)
abbrev s__law_copy_marked : Stmt := top 96
abbrev N__law_copy_marked : List Str := ["_law_spots", "_law_hues", "_law_many", "_law_at", "_law_found", "_law_hue"]
theorem sc__law_copy_marked : FnScope N__law_copy_marked ["_law_spots", "_law_hues", "_law_many"] (defScope s__law_copy_marked) := ⟨rfl, rfl, rfl, by decide +kernel, rfl, by decide +kernel, by decide +kernel⟩
def sp__law_copy_marked : Sp := fun vs H Q _ => ∃ (sp : Addr) (h many bud : Nat) (F : Nat → Nat → Th), vs = [.ref sp, nV h, nV many] ∧ SpAt H sp h many F bud ∧ 1 ≤ h ∧ h ≤ 5 ∧ many ≤ 11 ∧
  ∀ v H', Same H H' → IsDueO H' v (marked h many F) → Q v H'
theorem C__law_copy_marked (T : Txt K mg) : C8.Cal P w K mg base 2 "_law_copy_marked" sp__law_copy_marked [] := by
  have C__law_copy_unlike := C__law_copy_unlike (P := P) (w := w) (base := base) T
  refine cal (N := N__law_copy_marked) (ps := ["_law_spots", "_law_hues", "_law_many"]) T.d__law_copy_marked (fun _ _ _ _ _ _ us hl => match us, hl with | [_, _, _], _ => rfl) sc__law_copy_marked (fun vs H Q E h => ?_) (fun f cdv A outer s H vs Q E hr h => ?_)
  · obtain ⟨sp, h, many, bud, F, rfl, _⟩ := h
    rfl
  · obtain ⟨sp, hh, many, bud, F, rfl, ⟨kvs, hsp, hl, all⟩, h1, h5, hm, k⟩ := h
    have hu := hu_of hr
    have bl := big_line
    have p62 : (2 : Int) ^ 62 = 4611686018427387904 := by decide
    refine ⟨_, (pss_cons (ps_for PassesOwn.never rfl (pi_range1 (by rfl) T.b_range (pa_cons (pv 2) pa_nil)) (pg_name (i := 3) sc__law_copy_marked.nd rfl (by first | exact .inl rfl | exact .inr rfl)) (pss_cons (ps_set (i := 4) sc__law_copy_marked.nd rfl (by first | exact .inl rfl | exact .inr rfl) (C8.pe_c C__law_copy_unlike hr (by decide) rfl (pa_cons (pe_lc (own := [("_law_hue", 5)]) rfl sc__law_copy_marked.nd (pi_range1 (by rfl) T.b_range (pa_cons (pv 1) pa_nil)) (blkOk_by (own := [("_law_hue", 5)]) (N := N__law_copy_marked) (sc := defScope s__law_copy_marked) (by decide +kernel)) (fun _ _ _ _ _ => (pg_name (i := 5) sc__law_copy_marked.nd rfl (by first | exact .inl rfl | exact .inr rfl))) (fun _ _ _ _ _ => pts_nil) (fun _ _ _ _ _ => (pe_dget hu (pv 0) (pe_tup (pa_cons (pv 5) (pa_cons (pv 3) pa_nil))) (fun _ _ => rfl)))) pa_nil)))
    (pss_one (ps_if (pt_cmpR op_notN (pv 4) pe_non (nomark _)) (pss_one (ps_ret (pv 4))) pss_nil))))
    (pss_one (ps_ret pe_non))), ?_⟩
    refine ⟨_, rfl, ?_⟩
    refine ⟨_, rfl, ?_⟩
    refine ⟨by rw [p62]; omega, by rw [p62]; omega, ?_⟩
    rw [Int.toNat_natCast]
    refine for_range (lo := 0) (n := many) (fun i σ Z => (∃ x3 x4 x5, σ = [some (V.ref sp), some (nV hh), some (nV many), x3, x4, x5]) ∧ Same H Z ∧ ∀ a < i, unlike ((List.range hh).map fun j => some (F j a)) = none)
      ⟨⟨_, _, _, rfl⟩, fun _ _ h => h, fun a h => absurd h (Nat.not_lt_zero _)⟩ (fun i σ Z hi q => ?_) (fun σ Z q => ?_)
    · obtain ⟨⟨x3, x4, x5, rfl⟩, s1, none_⟩ := q
      refine ⟨_, rfl, ?_⟩
      refine ⟨_, rfl, ?_⟩
      refine ⟨by rw [p62]; omega, by rw [p62]; omega, fun D hD => ?_⟩
      rw [Int.toNat_natCast]
      refine lc_range (lo := 0) (n := hh) (fun j G => Same Z G ∧ ∃ ws, G D = some (.lst ws) ∧ AllAt (IsThO G) ws ((List.range j).map fun j => some (F j i))) ⟨same_upd hD, [], upd_same, AllAt.nil⟩ (fun j G hj e => ?_) (fun G e => ?_)
      · obtain ⟨sG, ws, g1, g2⟩ := e
        have g3 := g2.1
        rw [List.length_map, List.length_range] at g3
        obtain ⟨v, v1, v2⟩ := all j hj i hi
        iterate 5 first | refine ⟨_, rfl, ?_⟩ | refine ⟨rfl, ?_⟩ | refine ⟨le_line (of_decide_eq_true rfl), fun t ht => ?_⟩
        have s4 := sG.trans (same_upd (o := .tup [.int (0 + (j : Int)), .int (0 + (i : Int))]) ht)
        have ek : upd G t (.tup [.int (0 + (j : Int)), .int (0 + (i : Int))]) t = some (.tup ((spK j i).map kV)) := by rw [upd_same, Int.zero_add, Int.zero_add]; rfl
        have g4 := u1 (o := .tup [.int (0 + (j : Int)), .int (0 + (i : Int))]) ht g1
        have g5 := g2.mono fun v o (h : IsThO G v o) => IsThO.k (H' := upd G t (.tup [.int (0 + (j : Int)), .int (0 + (i : Int))])) (fun b xs h => u1 ht h) h
        generalize upd G t (.tup [.int (0 + (j : Int)), .int (0 + (i : Int))]) = Y at s4 ek g4 g5 ⊢
        refine ⟨_, v, rfl, v1 ▸ DGet.t (k := spK j i) (s4 _ _ (s1 _ _ hsp)) ek, ?_⟩
        refine ⟨ws, g4, by omega, same_mut s4 hD, ws ++ [v], upd_same, ?_⟩
        have kt : ∀ b xs, Y b = some (.tup xs) → upd Y D (.lst (ws ++ [v])) b = some (.tup xs) := fun b xs h => um (new_kind h g4 (by simp [HO.kd])) h
        rw [List.range_succ, List.map_append]
        exact (g5.mono fun _ _ h => h.k kt).snoc (x := some (F j i)) (IsTh.k (fun b xs h => kt _ _ (s4 _ _ (s1 _ _ h))) v2)
      · obtain ⟨sG, ws, g1, g2⟩ := e
        have g3 := g2.1
        rw [List.length_map, List.length_range] at g3
        refine ⟨D, ws, _, rfl, g1, g2, by omega, by omega, fun v Z2 s2 due => ?_⟩
        have s3 := (s1.trans sG).trans s2
        iterate 3 first | refine ⟨_, rfl, ?_⟩ | refine ⟨rfl, ?_⟩
        cases e : unlike ((List.range hh).map fun j => some (F j i)) with
        | none =>
          rw [e] at due
          rw [show v = .non from due]
          refine iteF ?_
          refine ⟨⟨_, _, _, rfl⟩, s3, fun a ha => ?_⟩
          by_cases q : a = i
          · rw [q]; exact e
          · exact none_ a (by omega)
        | some u =>
          rw [e] at due
          obtain ⟨p, rfl, _⟩ := id due
          iterate 2 first | refine iteT ?_ | refine ⟨_, rfl, ?_⟩
          refine k _ _ s3 ?_
          rw [marked_at hi none_ e]
          exact due
    · obtain ⟨⟨x3, x4, x5, rfl⟩, s1, none_⟩ := q
      refine k _ _ s1 ?_
      rw [marked_no none_]
      rfl
end Hw
namespace Hw
open PySem PySem.Spec PyProof.Rows L2
def SpP (H : Hp) (sp : Addr) (Pd : Nat → Nat → Prop) (F : Nat → Nat → Th) (bud : Nat) : Prop := ∃ kvs : List (List Key × V), H sp = some (.dT kvs) ∧ kvs.length ≤ bud ∧ ∀ i a, Pd i a → ∃ v, valV kvs (spK i a) = some v ∧ IsTh H v (F i a)
theorem SpP.imp {H : Hp} {sp : Addr} {Pd Pd' : Nat → Nat → Prop} {F : Nat → Nat → Th} {bud b2 : Nat} (S : SpP H sp Pd F bud) (f : ∀ i a, Pd' i a → Pd i a) (l : bud ≤ b2) : SpP H sp Pd' F b2 := let ⟨kvs, a, b, c⟩ := S; ⟨kvs, a, Nat.le_trans b l, fun i x h => c i x (f i x h)⟩
theorem SpP.at {H : Hp} {sp : Addr} {h many bud : Nat} {F : Nat → Nat → Th} (S : SpP H sp (fun i a => i < h ∧ a < many) F bud) : SpAt H sp h many F bud := let ⟨kvs, a, b, c⟩ := S; ⟨kvs, a, b, fun i hi x hx => c i x ⟨hi, hx⟩⟩
theorem spp_put {H : Hp} {sp : Addr} {bud i a : Nat} {Pd : Nat → Nat → Prop} {F : Nat → Nat → Th} {kvs : List (List Key × V)} {v : V} (e : H sp = some (.dT kvs)) (lb : kvs.length ≤ bud) (all : ∀ j b, Pd j b → ∃ v, valV kvs (spK j b) = some v ∧ IsTh H v (F j b)) (hv : IsTh H v (F i a)) :
    SpP (upd H sp (.dT (putK kvs (spK i a) v))) sp (fun j b => Pd j b ∨ (j = i ∧ b = a)) F (bud + 1) := by
  have kt : ∀ b xs, H b = some (.tup xs) → upd H sp (.dT (putK kvs (spK i a) v)) b = some (.tup xs) := fun b xs h => um (new_kind h e (by simp [HO.kd])) h
  refine ⟨_, upd_same, Nat.le_trans (putK_le _ _ _) (by omega), fun j b hj => ?_⟩
  rw [valV_put]
  by_cases q : j = i ∧ b = a
  · obtain ⟨rfl, rfl⟩ := q
    exact ⟨v, if_pos rfl, hv.k kt⟩
  · rw [if_neg (fun z => q (spK_inj.mp z))]
    rcases hj with hj | z
    · obtain ⟨v', p1, p2⟩ := all j b hj
      exact ⟨v', p1, p2.k kt⟩
    · exact absurd z q
def IsWalk (H : Hp) (v : V) : Option (Nat × Option (Th × Th)) → Prop
  | none => v = .non
  | some (d, u) => ∃ p y, v = .ref p ∧ H p = some (.tup [nV d, y]) ∧ IsDue H y u
theorem IsDue.k {H H' : Hp} (f : ∀ b xs, H b = some (.tup xs) → H' b = some (.tup xs)) {v : V} {u : Option (Th × Th)} (h : IsDue H v u) : IsDue H' v u := by
  obtain ⟨p, rfl, h⟩ := h
  cases u with
  | none => exact ⟨p, rfl, f _ _ h⟩
  | some xy =>
    obtain ⟨x, y⟩ := xy
    obtain ⟨vx, vy, a, b, c⟩ := h
    exact ⟨p, rfl, vx, vy, f _ _ a, b.k f, c.k f⟩
variable {P : Program} {w : World} {K : PySem.W.Frag} {mg : Str → Option Value} {base : Heap}
abbrev s__law_copy_walk : Stmt := top 97
abbrev N__law_copy_walk : List Str := ["_law_code", "_law_hues", "_law_many", "_law_takes", "_law_slots", "_law_spots", "_law_hue", "_law_at", "_law_here", "_law_cell", "_law_found"]
theorem sc__law_copy_walk : FnScope N__law_copy_walk ["_law_code"] (defScope s__law_copy_walk) := ⟨rfl, rfl, rfl, by decide +kernel, rfl, by decide +kernel, by decide +kernel⟩
def sp__law_copy_walk : Sp := fun vs H Q _ => ∃ (a : Addr) (C : Code), vs = [.ref a] ∧ IsCode H a C ∧ C.Ok ∧ ∀ v H', Same H H' → IsWalk H' v (runT C) → Q v H'
theorem C__law_copy_walk (T : Txt K mg) : C8.Cal P w K mg base 3 "_law_copy_walk" sp__law_copy_walk [] := by
  have C__law_copy_unlike := C__law_copy_unlike (P := P) (w := w) (base := base) T
  have C__law_copy_cell := C__law_copy_cell (P := P) (w := w) (base := base) T
  have C__law_copy_marked := C__law_copy_marked (P := P) (w := w) (base := base) T
  refine cal (N := N__law_copy_walk) (ps := ["_law_code"]) T.d__law_copy_walk (fun _ _ _ _ _ _ us hl => match us, hl with | [_], _ => rfl) sc__law_copy_walk (fun vs H Q E h => ?_) (fun f cdv A outer s H vs Q E hr h => ?_)
  · obtain ⟨a, C, rfl, _⟩ := h
    rfl
  · obtain ⟨a, C, rfl, ⟨va, ca, ba, vs, hc⟩, ok, k⟩ := h
    have hu := hu_of hr
    have bl := big_line
    have p62 : (2 : Int) ^ 62 = 4611686018427387904 := by decide
    have h1 : 1 ≤ C.votes.length := ok.h1
    have h5 : C.votes.length ≤ 5 := ok.h5
    have z3 : C.bank.length ≤ 3 := ok.b3
    have c2 := ok.c2
    have e1 := hc.top
    have e2 := hc.vo
    have e3 := hc.ba
    refine ⟨_, (pss_cons (ps_asg (pe_tup (pa_cons (pe_callB (call_lenK (K := K) rfl) (by rfl) T.b_len PySem.boot_len (pa_cons (pe_ix (ix_tupK (K := K) rfl) (pv 0) pe_int (fun _ _ => rfl)) pa_nil)) (pa_cons (pe_op op_add pe_int (pe_callB (call_lenK (K := K) rfl) (by rfl) T.b_len PySem.boot_len (pa_cons (pe_ix (ix_tupK (K := K) rfl) (pv 0) pe_int (fun _ _ => rfl)) pa_nil))) (pa_cons pe_int (pa_cons pe_dnewK pa_nil))))) (pg_tup rfl (pgs_cons (pg_name (i := 1) sc__law_copy_walk.nd rfl (by first | exact .inl rfl | exact .inr rfl)) (pgs_cons (pg_name (i := 2) sc__law_copy_walk.nd rfl (by first | exact .inl rfl | exact .inr rfl)) (pgs_cons (pg_name (i := 3) sc__law_copy_walk.nd rfl (by first | exact .inl rfl | exact .inr rfl)) (pgs_cons (pg_name (i := 4) sc__law_copy_walk.nd rfl (by first | exact .inl rfl | exact .inr rfl)) pgs_nil))))))
    (pss_cons (ps_set (i := 5) sc__law_copy_walk.nd rfl (by first | exact .inl rfl | exact .inr rfl) pe_dnewT)
    (pss_cons (ps_for PassesOwn.never rfl (pi_range1 (by rfl) T.b_range (pa_cons (pv 1) pa_nil)) (pg_name (i := 6) sc__law_copy_walk.nd rfl (by first | exact .inl rfl | exact .inr rfl)) (pss_one (ps_for PassesOwn.never rfl (pi_range1 (by rfl) T.b_range (pa_cons (pv 2) pa_nil)) (pg_name (i := 7) sc__law_copy_walk.nd rfl (by first | exact .inl rfl | exact .inr rfl)) (pss_one (ps_dput hu (pv 5) (pe_tup (pa_cons (pv 6) (pa_cons (pv 7) pa_nil))) (pe_tup (pa_cons pe_str (pa_cons (pe_ifExp (pt_cmpR op_lt (pv 7) pe_int (nomark _)) pe_int (pe_ix (ix_tupK (K := K) rfl) (pe_ix (ix_tupK (K := K) rfl) (pv 0) pe_int (fun _ _ => rfl)) (pe_op op_sub (pv 7) pe_int) (fun _ _ => rfl))) pa_nil))) rfl)))))
    (pss_cons (ps_for PassesOwn.never rfl (pi_enumT (by rfl) T.b_enumerate (pa_cons (pe_ix (ix_tupK (K := K) rfl) (pv 0) pe_int (fun _ _ => rfl)) pa_nil)) (pg_tup rfl (pgs_cons (pg_name (i := 8) sc__law_copy_walk.nd rfl (by first | exact .inl rfl | exact .inr rfl)) (pgs_cons (pg_name (i := 9) sc__law_copy_walk.nd rfl (by first | exact .inl rfl | exact .inr rfl)) pgs_nil))) (pss_cons (ps_set (i := 10) sc__law_copy_walk.nd rfl (by first | exact .inl rfl | exact .inr rfl) pe_non)
    (pss_cons (ps_if (pt_val (pe_callB call_isi (by rfl) T.b_isinstance (by decide +kernel) (pa_cons (pe_ix (ix_tupK (K := K) rfl) (pv 9) pe_int (fun _ _ => rfl)) (pa_cons (pe_bltn (v := .ty "int") (u := .type "int") (by rfl) T.b_int (by decide +kernel) rfl) pa_nil)))) (pss_one (ps_expr (C8.pe_c C__law_copy_cell hr (by decide) rfl (pa_cons (pv 5) (pa_cons (pv 4) (pa_cons (pv 9) pa_nil)))))) (pss_one (ps_if (pt_cmpR op_eq (pe_ix (ix_tupK (K := K) rfl) (pv 9) pe_int (fun _ _ => rfl)) pe_str (nomark _)) (pss_cons (ps_for PassesOwn.never rfl (pi_range1 (by rfl) T.b_range (pa_cons (pe_ix (ix_tupK (K := K) rfl) (pv 9) pe_int (fun _ _ => rfl)) pa_nil)) (pg_name (i := 6) sc__law_copy_walk.nd rfl (by first | exact .inl rfl | exact .inr rfl)) (pss_one (ps_dput hu (pv 5) (pe_tup (pa_cons (pv 6) (pa_cons (pe_ix (ix_tupK (K := K) rfl) (pv 9) pe_int (fun _ _ => rfl)) pa_nil))) (pe_tup (pa_cons pe_str (pa_cons (pv 3) pa_nil))) rfl)))
    (pss_one (ps_set (i := 3) sc__law_copy_walk.nd rfl (by first | exact .inl rfl | exact .inr rfl) (pe_op op_add (pv 3) pe_int)))) (pss_one (ps_if (pt_cmpR op_eq (pe_ix (ix_tupK (K := K) rfl) (pv 9) pe_int (fun _ _ => rfl)) pe_str (nomark _)) (pss_one (ps_ret pe_non)) (pss_cons (ps_set (i := 10) sc__law_copy_walk.nd rfl (by first | exact .inl rfl | exact .inr rfl) (pe_ifExp (pt_cmpR op_eq (pe_ix (ix_tupK (K := K) rfl) (pv 9) pe_int (fun _ _ => rfl)) pe_str (nomark _)) (C8.pe_c C__law_copy_marked hr (by decide) rfl (pa_cons (pv 5) (pa_cons (pv 1) (pa_cons (pv 2) pa_nil)))) pe_non))
    (pss_cons (ps_if (pt_cmpR op_eq (pe_ix (ix_tupK (K := K) rfl) (pv 9) pe_int (fun _ _ => rfl)) pe_str (nomark _)) (pss_one (ps_set (i := 10) sc__law_copy_walk.nd rfl (by first | exact .inl rfl | exact .inr rfl) (C8.pe_c C__law_copy_unlike hr (by decide) rfl (pa_cons (pe_lc (own := [("_law_hue", 6)]) rfl sc__law_copy_walk.nd (pi_range1 (by rfl) T.b_range (pa_cons (pe_ix (ix_tupK (K := K) rfl) (pv 9) pe_int (fun _ _ => rfl)) pa_nil)) (blkOk_by (own := [("_law_hue", 6)]) (N := N__law_copy_walk) (sc := defScope s__law_copy_walk) (by decide +kernel)) (fun _ _ _ _ _ => (pg_name (i := 6) sc__law_copy_walk.nd rfl (by first | exact .inl rfl | exact .inr rfl))) (fun _ _ _ _ _ => pts_nil) (fun _ _ _ _ _ => (pe_dget1 hu (pv 4) (pv 6) ⟨by rfl, by rfl, by rfl, by rfl⟩))) pa_nil)))) pss_nil)
    (pss_one (ps_set (i := 4) sc__law_copy_walk.nd rfl (by first | exact .inl rfl | exact .inr rfl) pe_dnewK)))))))))
    (pss_one (ps_if (pt_cmpR op_notN (pv 10) pe_non (nomark _)) (pss_one (ps_ret (pe_tup (pa_cons (pv 8) (pa_cons (pv 10) pa_nil))))) pss_nil)))))
    (pss_one (ps_ret (pe_tup (pa_cons (pe_callB (call_lenK (K := K) rfl) (by rfl) T.b_len PySem.boot_len (pa_cons (pe_ix (ix_tupK (K := K) rfl) (pv 0) pe_int (fun _ _ => rfl)) pa_nil)) (pa_cons (pe_tup (pa_cons pe_non (pa_cons pe_non pa_nil))) pa_nil))))))))), ?_⟩
    iterate 7 first | refine ⟨_, rfl, ?_⟩ | refine ⟨_, _, rfl, rfl, ?_⟩ | refine ⟨_, _, rfl, .inr (SqT.of (by repeat (first | assumption | exact upd_same .. | refine u1 (by assumption) ?_ | refine um (by assumption) ?_ | refine sa (by assumption) ?_))), ?_⟩ | refine ⟨_, _, _, _, rfl, rfl, SqT.of (by repeat (first | assumption | exact upd_same .. | refine u1 (by assumption) ?_ | refine um (by assumption) ?_ | refine sa (by assumption) ?_)), atI_nat (j := 0) rfl, ?_⟩ | refine ⟨_, _, _, _, rfl, rfl, SqT.of (by repeat (first | assumption | exact upd_same .. | refine u1 (by assumption) ?_ | refine um (by assumption) ?_ | refine sa (by assumption) ?_)), atI_nat (j := 3) rfl, ?_⟩
    intro sl hsl
    iterate 2 first | refine ⟨_, _, rfl, SqT.of (by repeat (first | assumption | exact upd_same .. | refine u1 (by assumption) ?_ | refine um (by assumption) ?_ | refine sa (by assumption) ?_)), rfl, _, _, rfl, _, _, rfl, _, _, rfl, _, _, rfl, rfl, ?_⟩ | refine ⟨le_line (of_decide_eq_true rfl), fun t ht => ?_⟩
    have sA : Same H (upd (upd H sl (.dK [])) t (.tup [.int ((C.votes.map nV).length : Nat), .int (8 + ((C.bank.map nV).length : Nat)), .int 0, .ref sl])) := (same_upd hsl).trans (same_upd ht)
    have eA : upd (upd H sl (.dK [])) t (.tup [.int ((C.votes.map nV).length : Nat), .int (8 + ((C.bank.map nV).length : Nat)), .int 0, .ref sl]) sl = some (.dK []) := u1 ht upd_same
    intro sp hsp
    have hsp0 : H sp = none := same_none sA hsp
    have sB := sA.trans (same_upd (o := .dT []) hsp)
    have eB := u1 (o := .dT []) hsp eA
    have pB : upd (upd (upd H sl (.dK [])) t (.tup [.int ((C.votes.map nV).length : Nat), .int (8 + ((C.bank.map nV).length : Nat)), .int 0, .ref sl])) sp (.dT []) sp = some (.dT []) := upd_same
    generalize upd (upd (upd H sl (.dK [])) t (.tup [.int ((C.votes.map nV).length : Nat), .int (8 + ((C.bank.map nV).length : Nat)), .int 0, .ref sl])) sp (.dT []) = Y at sB eB pB ⊢
    simp only [List.length_map]
    refine ⟨_, rfl, ?_⟩
    refine ⟨_, rfl, ?_⟩
    refine ⟨by rw [p62]; omega, by rw [p62]; omega, ?_⟩
    rw [Int.toNat_natCast]
    refine for_range (lo := 0) (n := C.votes.length) (fun i σ Z => (∃ x6 x7 x8 x9 x10, σ = [some (V.ref a), some (nV C.votes.length), some (nV (8 + C.bank.length)), some (nV 0), some (.ref sl), some (.ref sp), x6, x7, x8, x9, x10]) ∧
        Same H Z ∧ Z sl = some (.dK []) ∧ SpP Z sp (fun j b => j < i ∧ b < 8 + C.bank.length) (s0 C).F (11 * i))
      ⟨⟨_, _, _, _, _, rfl⟩, sB, eB, [], pB, Nat.le_refl _, fun i a h => absurd h.1 (Nat.not_lt_zero _)⟩ (fun i σ Z hi q => ?_) (fun σ Z q => ?_)
    · obtain ⟨⟨x6, x7, x8, x9, x10, rfl⟩, s1, l1, p1⟩ := q
      refine ⟨_, rfl, ?_⟩
      refine ⟨_, rfl, ?_⟩
      refine ⟨by rw [p62]; omega, by rw [p62]; omega, ?_⟩
      rw [Int.toNat_natCast]
      refine for_range (lo := 0) (n := 8 + C.bank.length) (fun b σ Z => (∃ x7 x8 x9 x10, σ = [some (V.ref a), some (nV C.votes.length), some (nV (8 + C.bank.length)), some (nV 0), some (.ref sl), some (.ref sp), some (.int (0 + (i : Int))), x7, x8, x9, x10]) ∧
          Same H Z ∧ Z sl = some (.dK []) ∧ SpP Z sp (fun j c => (j < i ∧ c < 8 + C.bank.length) ∨ (j = i ∧ c < b)) (s0 C).F (11 * i + b))
        ⟨⟨_, _, _, _, rfl⟩, s1, l1, p1.imp (fun j c h => h.elim id fun z => absurd z.2 (Nat.not_lt_zero _)) (Nat.le_refl _)⟩ (fun b σ Z hb q => ?_) (fun σ Z q => ?_)
      · obtain ⟨⟨x7, x8, x9, x10, rfl⟩, s2, l2, kvs, k1, k2, k3⟩ := q
        have fin : ∀ X : Hp, Same Z X → ∀ t1 t : Addr, X t1 = some (.tup [.str "number", nV (ini C.bank b)]) → X t = some (.tup [.int (0 + (i : Int)), .int (0 + (b : Int))]) →
            X t = some (.tup ((spK i b).map kV)) ∧ X sp = some (.dT kvs) ∧ Same H (upd X sp (.dT (putK kvs (spK i b) (.ref t1)))) ∧ upd X sp (.dT (putK kvs (spK i b) (.ref t1))) sl = some (.dK []) ∧
              SpP (upd X sp (.dT (putK kvs (spK i b) (.ref t1)))) sp (fun j c => (j < i ∧ c < 8 + C.bank.length) ∨ (j = i ∧ c < b + 1)) (s0 C).F (11 * i + (b + 1)) := fun X sX t1 t h1 h2 => by
          have e := sX _ _ k1
          refine ⟨by rw [h2, Int.zero_add, Int.zero_add]; rfl, e, same_mut (s2.trans sX) hsp0, um (new_kind (sX _ _ l2) e (by simp [HO.kd])) (sX _ _ l2), ?_⟩
          refine (spp_put (Pd := fun j c => (j < i ∧ c < 8 + C.bank.length) ∨ (j = i ∧ c < b)) (F := (s0 C).F) e k2 (fun j c hj => ?_) ⟨t1, rfl, h1⟩).imp (fun j c h => ?_) (by omega)
          · obtain ⟨v, p, q⟩ := k3 j c hj
            exact ⟨v, p, q.k fun b xs h => sX _ _ h⟩
          · rcases h with h | h
            · exact .inl (.inl h)
            · by_cases z : c = b
              · exact .inr ⟨h.1, z⟩
              · exact .inl (.inr ⟨h.1, by omega⟩)
        by_cases hb8 : b < 8
        · skip
          iterate 9 first | refine ⟨_, rfl, ?_⟩ | refine ⟨_, _, rfl, rfl, ?_⟩ | refine ⟨le_line (of_decide_eq_true rfl), fun t ht => ?_⟩ | refine itT (by omega) ?_
          rename_i t1 ht1
          have ei : ini C.bank b = 0 := if_pos hb8
          obtain ⟨f1, f2, f3, f4, f5⟩ := fin _ ((same_upd ht1).trans (same_upd ht)) t1 t (by rw [ei]; exact u1 ht upd_same) upd_same
          exact ⟨_, _, rfl, DPut.t (k := spK i b) f2 f1 (by omega), ⟨_, _, _, _, rfl⟩, f3, f4, f5⟩
        · have hz : b - 8 < C.bank.length := by omega
          have ez : (0 + (b : Int) - 8) = ((b - 8 : Nat) : Int) := by omega
          have hat : (C.bank.map nV)[b - 8]? = some (nV (ini C.bank b)) := by
            rw [List.getElem?_map, List.getElem?_eq_getElem hz]
            show some (nV C.bank[b - 8]) = some (nV (ini C.bank b))
            unfold ini
            rw [if_neg hb8, List.getD_eq_getElem?_getD, List.getElem?_eq_getElem hz]; rfl
          have e1Z := (hc.same s2).top
          have e3Z := (hc.same s2).ba
          iterate 8 first | refine ⟨_, rfl, ?_⟩ | refine ⟨_, _, rfl, rfl, ?_⟩ | refine ⟨_, _, _, _, rfl, rfl, SqT.of (by repeat (first | assumption | exact upd_same .. | refine u1 (by assumption) ?_ | refine um (by assumption) ?_ | refine sa (by assumption) ?_)), atI_nat (j := 3) rfl, ?_⟩ | refine itF (by omega) ?_
          refine ⟨_, _, _, _, rfl, rfl, SqT.of e3Z, (by rw [ez]; exact atI_nat hat), ?_⟩
          iterate 5 first | refine ⟨_, rfl, ?_⟩ | refine ⟨le_line (of_decide_eq_true rfl), fun t ht => ?_⟩
          rename_i t1 ht1
          obtain ⟨f1, f2, f3, f4, f5⟩ := fin _ ((same_upd ht1).trans (same_upd ht)) t1 t (u1 ht upd_same) upd_same
          exact ⟨_, _, rfl, DPut.t (k := spK i b) f2 f1 (by omega), ⟨_, _, _, _, rfl⟩, f3, f4, f5⟩
      · obtain ⟨⟨x7, x8, x9, x10, rfl⟩, s2, l2, p2⟩ := q
        refine ⟨⟨_, _, _, _, _, rfl⟩, s2, l2, p2.imp (fun j c h => ?_) (by omega)⟩
        by_cases z : j = i
        · exact .inr ⟨z, h.2⟩
        · exact .inl ⟨by omega, h.2⟩
    · obtain ⟨⟨x6, x7, x8, x9, x10, rfl⟩, s1, l1, p1⟩ := q
      have ceZ := (hc.same s1).ce
      have topZ := (hc.same s1).top
      iterate 2 first | refine ⟨_, rfl, ?_⟩ | refine ⟨_, _, _, _, rfl, rfl, SqT.of (by repeat (first | assumption | exact upd_same .. | refine u1 (by assumption) ?_ | refine um (by assumption) ?_ | refine sa (by assumption) ?_)), atI_nat (j := 2) rfl, ?_⟩
      refine ⟨_, _, rfl, SqT.of ceZ, ?_⟩
      refine for_it walk_enumT (fun d σ Z => ∃ (s : SS Th) (sl2 : Addr), (∃ x6 x7 x8 x9 x10, σ = [some (V.ref a), some (nV C.votes.length), some (nV (8 + C.bank.length)), some (nV s.t), some (.ref sl2), some (.ref sp), x6, x7, x8, x9, x10]) ∧
          Same H Z ∧ H sl2 = none ∧ SpAt Z sp C.votes.length (8 + C.bank.length) s.F (100 + 6 * d) ∧ SlAt Z sl2 s.S (100 + 6 * d) ∧ run .num .take C.votes.length (8 + C.bank.length) (C.cells.drop d) s d = runT C)
        ⟨s0 C, sl, ⟨_, _, _, _, _, rfl⟩, s1, hsl, (p1.imp (fun j c h => h) (by omega)).at, ⟨[], l1, Nat.zero_le _, fun i => rfl⟩, rfl⟩ (fun d σ Z _ e => by
          obtain ⟨_, _, _, s2, _⟩ := e
          exact SqT.of (hc.same s2).ce) (fun d x σ Z Z' hd e y => ?_) (fun σ Z e => ?_)
      · obtain ⟨s, sl2, ⟨x6, x7, x8, x9, x10, rfl⟩, s2, hsl2, SP, SL, er⟩ := e
        obtain ⟨t, x1, x2, rfl, ht, rfl, y1, y2⟩ := y
        cases y1
        obtain ⟨q, rfl, hq0⟩ : ∃ q, x2 = .ref q ∧ ∃ c, C.cells[d]? = some c ∧ Z q = some (.tup (cellV c)) := by
          have hl := (List.getElem?_eq_some_iff.mp y2).1
          rw [hc.cs.1] at hl
          have z := (hc.same s2).cs.2 d x2 _ y2 (List.getElem?_eq_getElem hl)
          obtain ⟨q, e1, e2⟩ := z
          exact ⟨q, e1, _, List.getElem?_eq_getElem hl, e2⟩
        obtain ⟨c, hcd, hq1⟩ := hq0
        have okc := ok.ce c (List.mem_of_getElem? hcd)
        have hdl := (List.getElem?_eq_some_iff.mp hcd).1
        rw [show C.cells.drop d = c :: C.cells.drop (d + 1) by rw [List.drop_eq_getElem_cons hdl, (List.getElem?_eq_some_iff.mp hcd).2]] at er
        have sT := same_upd (o := .tup [.int (0 + ((d : Nat) : Int)), .ref q]) ht
        have hT : upd Z t (.tup [.int (0 + ((d : Nat) : Int)), .ref q]) t = _ := upd_same
        have hq := sT _ _ hq1
        replace SP := SP.k (H' := upd Z t (.tup [.int (0 + ((d : Nat) : Int)), .ref q])) (fun b xs h => sT _ _ h) fun kvs h => sT _ _ h
        replace SL := SL.k (H' := upd Z t (.tup [.int (0 + ((d : Nat) : Int)), .ref q])) (fun b xs h => sT _ _ h) fun kvs h => sT _ _ h
        replace s2 := s2.trans sT
        generalize upd Z t (.tup [.int (0 + ((d : Nat) : Int)), .ref q]) = Z1 at hT hq SP SL s2 ⊢
        have dl : d < 200 := by omega
        cases c with
        | set i b n =>
          simp only [cellV] at hq
          iterate 9 first | refine iteT ?_ | refine ⟨_, rfl, ?_⟩ | refine ⟨_, _, _, _, rfl, rfl, SqT.of (by repeat (first | assumption | exact upd_same .. | refine u1 (by assumption) ?_ | refine um (by assumption) ?_ | refine sa (by assumption) ?_)), atI_nat (j := 0) rfl, ?_⟩ | refine ⟨_, _, rfl, SqT.of (by repeat (first | assumption | exact upd_same .. | refine u1 (by assumption) ?_ | refine um (by assumption) ?_ | refine sa (by assumption) ?_)), rfl, _, _, rfl, _, _, rfl, rfl, ?_⟩ | refine ⟨_, _, _, _, true, rfl, .ty _, .base (.int _), kit_ty (by decide +kernel), ?_⟩
          refine ⟨sp, sl2, q, .set i b n, _, C.votes.length, C.size, C.bank.length, 100 + 6 * d, s, rfl, hq, rfl, okc, SP, SL, by omega, fun s' Z2 st SP3 SL3 f3 => ?_⟩
          have s3 := f3.same s2 (by simp [hsp0, hsl2])
          iterate 4 first | refine iteF ?_ | refine ⟨_, rfl, ?_⟩ | refine ⟨rfl, ?_⟩
          simp only [run, st] at er
          cases st
          exact ⟨{ s with F := setF s.F i b (.num n) }, sl2, ⟨_, _, _, _, _, rfl⟩, s3, hsl2, SP3.le (by omega), SL3.le (by omega), er⟩
        | get i b x z =>
          simp only [cellV] at hq
          iterate 9 first | refine iteT ?_ | refine ⟨_, rfl, ?_⟩ | refine ⟨_, _, _, _, rfl, rfl, SqT.of (by repeat (first | assumption | exact upd_same .. | refine u1 (by assumption) ?_ | refine um (by assumption) ?_ | refine sa (by assumption) ?_)), atI_nat (j := 0) rfl, ?_⟩ | refine ⟨_, _, rfl, SqT.of (by repeat (first | assumption | exact upd_same .. | refine u1 (by assumption) ?_ | refine um (by assumption) ?_ | refine sa (by assumption) ?_)), rfl, _, _, rfl, _, _, rfl, rfl, ?_⟩ | refine ⟨_, _, _, _, true, rfl, .ty _, .base (.int _), kit_ty (by decide +kernel), ?_⟩
          refine ⟨sp, sl2, q, .get i b x z, _, C.votes.length, C.size, C.bank.length, 100 + 6 * d, s, rfl, hq, rfl, okc, SP, SL, by omega, fun s' Z2 st SP3 SL3 f3 => ?_⟩
          have s3 := f3.same s2 (by simp [hsp0, hsl2])
          iterate 4 first | refine iteF ?_ | refine ⟨_, rfl, ?_⟩ | refine ⟨rfl, ?_⟩
          simp only [run, st] at er
          cases st
          exact ⟨{ s with F := setF s.F i b (s.F i (8 + z)) }, sl2, ⟨_, _, _, _, _, rfl⟩, s3, hsl2, SP3.le (by omega), SL3.le (by omega), er⟩
        | put i b x z =>
          simp only [cellV] at hq
          iterate 9 first | refine iteT ?_ | refine ⟨_, rfl, ?_⟩ | refine ⟨_, _, _, _, rfl, rfl, SqT.of (by repeat (first | assumption | exact upd_same .. | refine u1 (by assumption) ?_ | refine um (by assumption) ?_ | refine sa (by assumption) ?_)), atI_nat (j := 0) rfl, ?_⟩ | refine ⟨_, _, rfl, SqT.of (by repeat (first | assumption | exact upd_same .. | refine u1 (by assumption) ?_ | refine um (by assumption) ?_ | refine sa (by assumption) ?_)), rfl, _, _, rfl, _, _, rfl, rfl, ?_⟩ | refine ⟨_, _, _, _, true, rfl, .ty _, .base (.int _), kit_ty (by decide +kernel), ?_⟩
          refine ⟨sp, sl2, q, .put i b x z, _, C.votes.length, C.size, C.bank.length, 100 + 6 * d, s, rfl, hq, rfl, okc, SP, SL, by omega, fun s' Z2 st SP3 SL3 f3 => ?_⟩
          have s3 := f3.same s2 (by simp [hsp0, hsl2])
          iterate 4 first | refine iteF ?_ | refine ⟨_, rfl, ?_⟩ | refine ⟨rfl, ?_⟩
          simp only [run, st] at er
          cases st
          exact ⟨{ s with F := setF s.F i (8 + z) (s.F i b) }, sl2, ⟨_, _, _, _, _, rfl⟩, s3, hsl2, SP3.le (by omega), SL3.le (by omega), er⟩
        | offer i b =>
          simp only [cellV] at hq
          iterate 9 first | refine iteT ?_ | refine ⟨_, rfl, ?_⟩ | refine ⟨_, _, _, _, rfl, rfl, SqT.of (by repeat (first | assumption | exact upd_same .. | refine u1 (by assumption) ?_ | refine um (by assumption) ?_ | refine sa (by assumption) ?_)), atI_nat (j := 0) rfl, ?_⟩ | refine ⟨_, _, rfl, SqT.of (by repeat (first | assumption | exact upd_same .. | refine u1 (by assumption) ?_ | refine um (by assumption) ?_ | refine sa (by assumption) ?_)), rfl, _, _, rfl, _, _, rfl, rfl, ?_⟩ | refine ⟨_, _, _, _, true, rfl, .ty _, .base (.int _), kit_ty (by decide +kernel), ?_⟩
          refine ⟨sp, sl2, q, .offer i b, _, C.votes.length, C.size, C.bank.length, 100 + 6 * d, s, rfl, hq, rfl, okc, SP, SL, by omega, fun s' Z2 st SP3 SL3 f3 => ?_⟩
          have s3 := f3.same s2 (by simp [hsp0, hsl2])
          iterate 4 first | refine iteF ?_ | refine ⟨_, rfl, ?_⟩ | refine ⟨rfl, ?_⟩
          simp only [run, st] at er
          cases st
          exact ⟨{ s with S := setS s.S i (some (s.F i b)) }, sl2, ⟨_, _, _, _, _, rfl⟩, s3, hsl2, SP3.le (by omega), SL3.le (by omega), er⟩
        | stop =>
          simp only [cellV] at hq
          iterate 16 first | refine iteT ?_ | refine iteF ?_ | refine ⟨_, rfl, ?_⟩ | refine ⟨rfl, ?_⟩ | refine ⟨_, _, _, _, rfl, rfl, SqT.of (by repeat (first | assumption | exact upd_same .. | refine u1 (by assumption) ?_ | refine um (by assumption) ?_ | refine sa (by assumption) ?_)), atI_nat (j := 0) rfl, ?_⟩ | refine ⟨_, _, rfl, SqT.of (by repeat (first | assumption | exact upd_same .. | refine u1 (by assumption) ?_ | refine um (by assumption) ?_ | refine sa (by assumption) ?_)), rfl, _, _, rfl, _, _, rfl, rfl, ?_⟩ | refine ⟨_, _, _, _, false, rfl, .ty _, .base (.str _), kit_ty (by decide +kernel), ?_⟩
          simp only [run, step] at er
          refine k _ _ s2 ?_
          rw [← er]; rfl
        | mark =>
          simp only [cellV] at hq
          iterate 24 first | refine iteT ?_ | refine iteF ?_ | refine ⟨_, rfl, ?_⟩ | refine ⟨rfl, ?_⟩ | refine ⟨_, _, _, _, rfl, rfl, SqT.of (by repeat (first | assumption | exact upd_same .. | refine u1 (by assumption) ?_ | refine um (by assumption) ?_ | refine sa (by assumption) ?_)), atI_nat (j := 0) rfl, ?_⟩ | refine ⟨_, _, rfl, SqT.of (by repeat (first | assumption | exact upd_same .. | refine u1 (by assumption) ?_ | refine um (by assumption) ?_ | refine sa (by assumption) ?_)), rfl, _, _, rfl, _, _, rfl, rfl, ?_⟩ | refine ⟨_, _, _, _, false, rfl, .ty _, .base (.str _), kit_ty (by decide +kernel), ?_⟩
          refine ⟨sp, C.votes.length, 8 + C.bank.length, _, s.F, rfl, SP, h1, h5, by omega, fun v Z2 s3 due => ?_⟩
          have hq2 := s3 _ _ hq
          iterate 5 first | refine iteF ?_ | refine ⟨_, rfl, ?_⟩ | refine ⟨rfl, ?_⟩ | refine ⟨_, _, _, _, rfl, rfl, SqT.of (by repeat (first | assumption | exact upd_same .. | refine u1 (by assumption) ?_ | refine um (by assumption) ?_ | refine sa (by assumption) ?_)), atI_nat (j := 0) rfl, ?_⟩
          intro sl3 hsl3'
          have s4 := s3.trans (same_upd (o := .dK []) hsl3')
          have s5 := s2.trans s4
          have hsl3 : H sl3 = none := same_none (s2.trans s3) hsl3'
          have esl3 : upd Z2 sl3 (.dK []) sl3 = some (.dK []) := upd_same
          have SP5 := SP.k (H' := upd Z2 sl3 (.dK [])) (fun b xs h => s4 _ _ h) fun kvs h => s4 _ _ h
          replace due : IsDueO (upd Z2 sl3 (.dK [])) v (marked C.votes.length (8 + C.bank.length) s.F) := by
            cases eo : marked C.votes.length (8 + C.bank.length) s.F with
            | none => rw [eo] at due; exact due
            | some u => rw [eo] at due; exact IsDue.k (fun b xs h => u1 hsl3' h) due
          generalize upd Z2 sl3 (.dK []) = Z3 at s5 esl3 SP5 due ⊢
          iterate 3 first | refine ⟨_, rfl, ?_⟩ | refine ⟨rfl, ?_⟩
          cases eo : marked C.votes.length (8 + C.bank.length) s.F with
          | none =>
            rw [eo] at due
            rw [show v = .non from due]
            refine iteF ?_
            simp only [run, step, eo] at er
            exact ⟨{ s with S := fun _ => none }, sl3, ⟨_, _, _, _, _, rfl⟩, s5, hsl3, SP5.le (by omega), ⟨[], esl3, Nat.zero_le _, fun i => rfl⟩, er⟩
          | some u =>
            rw [eo] at due
            obtain ⟨p, rfl, _⟩ := id due
            iterate 4 first | refine iteT ?_ | refine ⟨_, rfl, ?_⟩ | refine ⟨le_line (of_decide_eq_true rfl), fun t ht => ?_⟩
            simp only [run, step, eo] at er
            refine k _ _ (s5.trans (same_upd ht)) ?_
            rw [← er]
            exact ⟨t, .ref p, rfl, by rw [upd_same, Int.zero_add], due.k fun b xs h => u1 ht h⟩
        | sho p w =>
          obtain ⟨o1, o2, o3⟩ := okc
          replace o3 : w ≤ C.votes.length := o3
          simp only [cellV] at hq
          obtain ⟨kls, ksl, kl, kall⟩ := SL
          iterate 29 first | refine iteT ?_ | refine iteF ?_ | refine ⟨_, rfl, ?_⟩ | refine ⟨rfl, ?_⟩ | refine ⟨_, _, _, _, rfl, rfl, SqT.of (by repeat (first | assumption | exact upd_same .. | refine u1 (by assumption) ?_ | refine um (by assumption) ?_ | refine sa (by assumption) ?_)), atI_nat (j := 0) rfl, ?_⟩ | refine ⟨_, _, _, _, rfl, rfl, SqT.of (by repeat (first | assumption | exact upd_same .. | refine u1 (by assumption) ?_ | refine um (by assumption) ?_ | refine sa (by assumption) ?_)), atI_nat (j := 2) rfl, ?_⟩ | refine ⟨_, _, rfl, SqT.of (by repeat (first | assumption | exact upd_same .. | refine u1 (by assumption) ?_ | refine um (by assumption) ?_ | refine sa (by assumption) ?_)), rfl, _, _, rfl, _, _, rfl, rfl, ?_⟩ | refine ⟨_, _, _, _, false, rfl, .ty _, .base (.str _), kit_ty (by decide +kernel), ?_⟩
          refine ⟨by rw [p62]; omega, by rw [p62]; omega, fun D hD => ?_⟩
          rw [Int.toNat_natCast]
          have hD0 : H D = none := same_none s2 hD
          refine lc_range (lo := 0) (n := w) (fun j G => Same Z1 G ∧ ∃ ws, G D = some (.lst ws) ∧ AllAt (IsThO G) ws ((List.range j).map s.S)) ⟨same_upd hD, [], upd_same, AllAt.nil⟩ (fun j G hj e => ?_) (fun G e => ?_)
          · obtain ⟨sG, ws, g1, g2⟩ := e
            have g3 := g2.1
            rw [List.length_map, List.length_range] at g3
            have kG := sG _ _ ksl
            iterate 3 first | refine ⟨_, rfl, ?_⟩ | refine ⟨rfl, ?_⟩
            refine ⟨.inl ⟨_, .inl kG⟩, ?_⟩
            refine ⟨_, rfl, ?_⟩
            refine ⟨_, DGet.k (k := Sum.inl (0 + (j : Int))) kG, ?_⟩
            refine ⟨ws, g1, by omega, same_mut sG hD, ws ++ [_], upd_same, ?_⟩
            have kt : ∀ b xs, G b = some (.tup xs) → upd G D (.lst (ws ++ [(valV kls (Sum.inl (0 + (j : Int)))).getD .non])) b = some (.tup xs) := fun b xs h => um (new_kind h g1 (by simp [HO.kd])) h
            rw [List.range_succ, List.map_append]
            refine (g2.mono fun _ _ h => h.k kt).snoc (x := s.S j) ?_
            have := kall j
            rw [Int.zero_add] at kt ⊢
            cases eS : s.S j with
            | none =>
              rw [eS] at this
              rw [this]; rfl
            | some t =>
              rw [eS] at this
              obtain ⟨v, p, q⟩ := this
              rw [p] at kt ⊢
              exact q.k fun b xs h => kt _ _ (sG _ _ h)
          · obtain ⟨sG, ws, g1, g2⟩ := e
            have g3 := g2.1
            rw [List.length_map, List.length_range] at g3
            refine ⟨D, ws, _, rfl, g1, g2, by omega, by omega, fun v Z2 s3' due => ?_⟩
            have s3 := sG.trans s3'
            intro sl3 hsl3'
            have s4 := s3.trans (same_upd (o := .dK []) hsl3')
            have s5 := s2.trans s4
            have hsl3 : H sl3 = none := same_none (s2.trans s3) hsl3'
            have esl3 : upd Z2 sl3 (.dK []) sl3 = some (.dK []) := upd_same
            have SP5 := SP.k (H' := upd Z2 sl3 (.dK [])) (fun b xs h => s4 _ _ h) fun kvs h => s4 _ _ h
            replace due : IsDueO (upd Z2 sl3 (.dK [])) v (unlike ((List.range w).map s.S)) := by
              cases eo : unlike ((List.range w).map s.S) with
              | none => rw [eo] at due; exact due
              | some u => rw [eo] at due; exact IsDue.k (fun b xs h => u1 hsl3' h) due
            generalize upd Z2 sl3 (.dK []) = Z3 at s5 esl3 SP5 due ⊢
            iterate 3 first | refine ⟨_, rfl, ?_⟩ | refine ⟨rfl, ?_⟩
            cases eo : unlike ((List.range w).map s.S) with
            | none =>
              rw [eo] at due
              rw [show v = .non from due]
              refine iteF ?_
              simp only [run, step, eo] at er
              exact ⟨{ s with S := fun _ => none }, sl3, ⟨_, _, _, _, _, rfl⟩, s5, hsl3, SP5.le (by omega), ⟨[], esl3, Nat.zero_le _, fun i => rfl⟩, er⟩
            | some u =>
              rw [eo] at due
              obtain ⟨p, rfl, _⟩ := id due
              iterate 4 first | refine iteT ?_ | refine ⟨_, rfl, ?_⟩ | refine ⟨le_line (of_decide_eq_true rfl), fun t ht => ?_⟩
              simp only [run, step, eo] at er
              refine k _ _ (s5.trans (same_upd ht)) ?_
              rw [← er]
              exact ⟨t, .ref p, rfl, by rw [upd_same, Int.zero_add], due.k fun b xs h => u1 ht h⟩
        | take b w =>
          obtain ⟨o1, o2, o3⟩ := okc
          replace o3 : w ≤ C.votes.length := o3
          simp only [cellV] at hq
          iterate 14 first | refine iteT ?_ | refine iteF ?_ | refine ⟨_, rfl, ?_⟩ | refine ⟨rfl, ?_⟩ | refine ⟨_, _, _, _, rfl, rfl, SqT.of (by repeat (first | assumption | exact upd_same .. | refine u1 (by assumption) ?_ | refine um (by assumption) ?_ | refine sa (by assumption) ?_)), atI_nat (j := 0) rfl, ?_⟩ | refine ⟨_, _, _, _, rfl, rfl, SqT.of (by repeat (first | assumption | exact upd_same .. | refine u1 (by assumption) ?_ | refine um (by assumption) ?_ | refine sa (by assumption) ?_)), atI_nat (j := 2) rfl, ?_⟩ | refine ⟨_, _, rfl, SqT.of (by repeat (first | assumption | exact upd_same .. | refine u1 (by assumption) ?_ | refine um (by assumption) ?_ | refine sa (by assumption) ?_)), rfl, _, _, rfl, _, _, rfl, rfl, ?_⟩ | refine ⟨_, _, _, _, false, rfl, .ty _, .base (.str _), kit_ty (by decide +kernel), ?_⟩
          refine ⟨by rw [p62]; omega, by rw [p62]; omega, ?_⟩
          rw [Int.toNat_natCast]
          refine for_range (lo := 0) (n := w) (fun j σ Z => (∃ x6 x7 x8, σ = [some (V.ref a), some (nV C.votes.length), some (nV (8 + C.bank.length)), some (nV s.t), some (.ref sl2), some (.ref sp), x6, x7, x8, some (.ref q), some V.non]) ∧ Same H Z ∧ Z q = some (.tup [.str "take", nV b, nV w]) ∧
              SpAt Z sp C.votes.length (8 + C.bank.length) (fun i a => if i < j ∧ a = b then .take s.t else s.F i a) (100 + 6 * d + j) ∧ SlAt Z sl2 s.S (100 + 6 * d))
            ⟨⟨_, _, _, rfl⟩, s2, hq, by simpa using SP, SL⟩ (fun j σ Z hj e => ?_) (fun σ Z e => ?_)
          · obtain ⟨⟨x6, x7, x8, rfl⟩, s3, hq3, ⟨kvs, k1, k2, k3⟩, SL3⟩ := e
            iterate 7 first | refine ⟨_, rfl, ?_⟩ | refine ⟨_, _, _, _, rfl, rfl, SqT.of (by repeat (first | assumption | exact upd_same .. | refine u1 (by assumption) ?_ | refine um (by assumption) ?_ | refine sa (by assumption) ?_)), atI_nat (j := 1) rfl, ?_⟩ | refine ⟨le_line (of_decide_eq_true rfl), fun t ht => ?_⟩
            rename_i t1 ht1
            have sX := (same_upd (o := .tup [.str "take", nV s.t]) ht1).trans (same_upd (o := .tup [.int (0 + (j : Int)), nV b]) ht)
            have ek : upd (upd Z t1 (.tup [.str "take", nV s.t])) t (.tup [.int (0 + (j : Int)), nV b]) t = some (.tup ((spK j b).map kV)) := by rw [upd_same, Int.zero_add]; rfl
            have ev : IsTh (upd (upd Z t1 (.tup [.str "take", nV s.t])) t (.tup [.int (0 + (j : Int)), nV b])) (.ref t1) (.take s.t) := ⟨t1, rfl, u1 ht upd_same⟩
            generalize upd (upd Z t1 (.tup [.str "take", nV s.t])) t (.tup [.int (0 + (j : Int)), nV b]) = X at sX ek ev ⊢
            have e := sX _ _ k1
            have kt : ∀ b' xs, X b' = some (.tup xs) → upd X sp (.dT (putK kvs (spK j b) (.ref t1))) b' = some (.tup xs) := fun b' xs h => um (new_kind h e (by simp [HO.kd])) h
            have eF : setF (fun i a => if i < j ∧ a = b then Th.take s.t else s.F i a) j b (.take s.t) = fun i a => if i < j + 1 ∧ a = b then Th.take s.t else s.F i a := by
              funext i a
              simp only [setF]
              by_cases z1 : a = b
              · by_cases z2 : i = j
                · rw [if_pos ⟨z2, z1⟩, if_pos ⟨by omega, z1⟩]
                · rw [if_neg fun z => z2 z.1]
                  by_cases z3 : i < j
                  · rw [if_pos ⟨z3, z1⟩, if_pos ⟨by omega, z1⟩]
                  · rw [if_neg fun z => z3 z.1, if_neg fun z => z3 (by omega)]
              · rw [if_neg fun z => z1 z.2, if_neg fun z => z1 z.2, if_neg fun z => z1 z.2]
            refine ⟨_, _, rfl, DPut.t (k := spK j b) e ek (by omega), ⟨_, _, _, rfl⟩, same_mut (s3.trans sX) hsp0, kt _ _ (sX _ _ hq3), ?_, ?_⟩
            · rw [← eF]
              exact sp_put e k2 (fun i hi a ha => let ⟨v, p, q⟩ := k3 i hi a ha; .inr ⟨v, p, q.k fun b xs h => sX _ _ h⟩) ev
            · exact SL3.k (fun b xs h => kt _ _ (sX _ _ h)) fun kvs h => um (new_kind (sX _ _ h) e (by simp [HO.kd])) (sX _ _ h)
          · obtain ⟨⟨x6, x7, x8, rfl⟩, s3, hq3, SP3, SL3⟩ := e
            iterate 6 first | refine iteF ?_ | refine ⟨_, rfl, ?_⟩ | refine ⟨_, _, rfl, rfl, ?_⟩ | refine ⟨rfl, ?_⟩
            simp only [run, step] at er
            refine ⟨{ s with F := fun i a => if i < w ∧ a = b then .take s.t else s.F i a, t := s.t + 1 }, sl2, ⟨_, _, _, _, _, rfl⟩, s3, hsl2, SP3.le (by omega), SL3.le (by omega), er⟩
      · obtain ⟨s, sl2, ⟨x6, x7, x8, x9, x10, rfl⟩, s2, hsl2, SP, SL, er⟩ := e
        have topZ := (hc.same s2).top
        have ceZ := (hc.same s2).ce
        rw [hc.cs.1, List.drop_length] at er
        iterate 5 first | refine ⟨_, rfl, ?_⟩ | refine ⟨_, _, rfl, .inr (SqT.of (by repeat (first | assumption | exact upd_same .. | refine u1 (by assumption) ?_ | refine um (by assumption) ?_ | refine sa (by assumption) ?_))), ?_⟩ | refine ⟨_, _, _, _, rfl, rfl, SqT.of (by repeat (first | assumption | exact upd_same .. | refine u1 (by assumption) ?_ | refine um (by assumption) ?_ | refine sa (by assumption) ?_)), atI_nat (j := 2) rfl, ?_⟩ | refine ⟨le_line (of_decide_eq_true rfl), fun t ht => ?_⟩
        rename_i t1 ht1
        refine k _ _ (s2.trans ((same_upd ht1).trans (same_upd ht))) ?_
        rw [← er, ← hc.cs.1]
        exact ⟨t, .ref t1, rfl, upd_same, t1, rfl, u1 ht upd_same⟩
end Hw
namespace Hw
open PySem PySem.Spec PyProof.Rows L2
variable {P : Program} {w : World} {K : PySem.W.Frag} {mg : Str → Option Value} {base : Heap}
theorem takes_app : ∀ cs ds : List Cell, takes (cs ++ ds) = takes cs + takes ds
  | [], ds => by simp [takes]
  | c :: cs, ds => by
    have ih := takes_app cs ds
    cases c <;> simp only [List.cons_append, takes, ih] <;> omega
theorem takes_le : ∀ cs : List Cell, takes cs ≤ cs.length
  | [] => Nat.le_refl _
  | c :: cs => by
    have ih := takes_le cs
    cases c <;> simp only [takes, List.length_cons] <;> omega
def isTake : Cell → Bool
  | .take _ _ => true
  | _ => false
theorem takes_one (c : Cell) : takes [c] = if isTake c = true then 1 else 0 := by cases c <;> rfl
theorem cell_word (c : Cell) : ∃ x xs, cellV c = x :: xs ∧ scal x (.str "take") = true ∧ decide (x = .str "take") = isTake c := by
  cases c with
  | take b w => exact ⟨_, _, rfl, rfl, decide_eq_true rfl⟩
  | sho => exact ⟨_, _, rfl, rfl, decide_eq_false (by decide)⟩
  | mark => exact ⟨_, _, rfl, rfl, decide_eq_false (by decide)⟩
  | stop => exact ⟨_, _, rfl, rfl, decide_eq_false (by decide)⟩
  | set => exact ⟨_, _, rfl, rfl, decide_eq_false fun e => by cases e⟩
  | get => exact ⟨_, _, rfl, rfl, decide_eq_false fun e => by cases e⟩
  | put => exact ⟨_, _, rfl, rfl, decide_eq_false fun e => by cases e⟩
  | offer => exact ⟨_, _, rfl, rfl, decide_eq_false fun e => by cases e⟩
def partIn (n size : Nat) : Option (Th × Th) → List Nat
  | none => List.replicate n 0
  | some (.num _, .num _) => List.replicate n 0
  | some (.num m, .take k) => (List.replicate n 0).set k ((m + 1) % size)
  | some (.take k, .num m) => (List.replicate n 0).set k ((m + 1) % size)
  | some (.take k, .take _) => (List.replicate n 0).set k 1
abbrev s__law_parting_inputs : Stmt := top 98
abbrev N__law_parting_inputs : List Str := ["_law_code", "_law_unlike", "_law_takes", "_law_inputs_here", "_law_one", "_law_other", "_law_cell"]
theorem sc__law_parting_inputs : FnScope N__law_parting_inputs ["_law_code", "_law_unlike"] (defScope s__law_parting_inputs) := ⟨rfl, rfl, rfl, by decide +kernel, rfl, by decide +kernel, by decide +kernel⟩
def sp__law_parting_inputs : Sp := fun vs H Q _ => ∃ (a : Addr) (y : V) (C : Code) (u : Option (Th × Th)), vs = [.ref a, y] ∧ IsCode H a C ∧ C.Ok ∧ IsDue H y u ∧ (∀ p q, u = some (p, q) → ThOk C.size (takes C.cells) p ∧ ThOk C.size (takes C.cells) q) ∧
  ∀ (l : Addr) H', Same H H' → H' l = some (.lst ((partIn (takes C.cells) C.size u).map nV)) → Q (.ref l) H'
theorem C__law_parting_inputs (T : Txt K mg) : C8.Cal P w K mg base 1 "_law_parting_inputs" sp__law_parting_inputs [] := by
  refine cal (N := N__law_parting_inputs) (ps := ["_law_code", "_law_unlike"]) T.d__law_parting_inputs (fun _ _ _ _ _ _ us hl => match us, hl with | [_, _], _ => rfl) sc__law_parting_inputs (fun vs H Q E h => ?_) (fun f cdv A outer s H vs Q E hr h => ?_)
  · obtain ⟨a, y, C, u, rfl, _⟩ := h
    rfl
  · obtain ⟨a, y, C, u, rfl, ⟨va, ca, ba, vs, hc⟩, ok, due, th, k⟩ := h
    have hu := hu_of hr
    have bl := big_line
    have c2 := ok.c2
    have s2 := ok.s2
    have s4 := ok.s4
    have tl := takes_le C.cells
    have e1 := hc.top
    have e2 := hc.ce
    obtain ⟨py, rfl, hy⟩ := due
    refine ⟨_, (pss_cons (ps_setLc (i := 2) (own := [("_law_cell", 6)]) rfl sc__law_parting_inputs.nd rfl rfl (sw_true rfl rfl rfl (by decide +kernel)) (pi_tup (pe_ix (ix_tupK (K := K) rfl) (pv 0) pe_int (fun _ _ => rfl))) (blkOk_by (own := [("_law_cell", 6)]) (N := N__law_parting_inputs) (sc := defScope s__law_parting_inputs) (by decide +kernel)) (fun _ _ _ _ _ => (pg_name (i := 6) sc__law_parting_inputs.nd rfl (by first | exact .inl rfl | exact .inr rfl))) (fun _ _ _ _ _ => (pts_one (pt_cmpR op_eq (pe_ix (ix_tupK (K := K) rfl) (pv 6) pe_int (fun _ _ => rfl)) pe_str (nomark _)))) (fun _ _ _ _ _ => (pv 6)))
    (pss_cons (ps_par3 (i := 3) (j := 4) (l := 5) (by rfl) sc__law_parting_inputs.nd rfl rfl rfl (by decide) (by decide) (by decide) rfl rfl rfl (pa_cons (pe_lc (own := [("_law_cell", 6)]) rfl sc__law_parting_inputs.nd (pi_list (pv 2)) (blkOk_by (own := [("_law_cell", 6)]) (N := N__law_parting_inputs) (sc := defScope s__law_parting_inputs) (by decide +kernel)) (fun _ _ _ _ _ => (pg_name (i := 6) sc__law_parting_inputs.nd rfl (by first | exact .inl rfl | exact .inr rfl))) (fun _ _ _ _ _ => pts_nil) (fun _ _ _ _ _ => pe_int)) (pa_cons (pe_ix (ix_tupK (K := K) rfl) (pv 1) pe_int (fun _ _ => rfl)) (pa_cons (pe_ix (ix_tupK (K := K) rfl) (pv 1) pe_int (fun _ _ => rfl)) pa_nil))) (by rfl))
    (pss_cons (ps_if (PW.pt (pw_or (pt_cmpR op_isN (pv 4) pe_non (nomark _)) (pw_or1 (PW.pt (pw_and (pt_cmpR op_eq (pe_ix (ix_tupK (K := K) rfl) (pv 4) pe_int (fun _ _ => rfl)) pe_str (nomark _)) (pw_and1 (pt_cmpR op_eq (pe_ix (ix_tupK (K := K) rfl) (pv 5) pe_int (fun _ _ => rfl)) pe_str (nomark _)))))))) (pss_one (ps_ret (pv 3))) pss_nil)
    (pss_cons (ps_if (pt_cmpR op_eq (pe_ix (ix_tupK (K := K) rfl) (pv 4) pe_int (fun _ _ => rfl)) pe_str (nomark _)) (pss_one (ps_par (i := 4) (j := 5) (by rfl) sc__law_parting_inputs.nd rfl rfl (by decide) rfl rfl (pa_cons (pv 5) (pa_cons (pv 4) pa_nil)) (by rfl))) pss_nil)
    (pss_cons (ps_asg (pe_ifExp (pt_cmpR op_eq (pe_ix (ix_tupK (K := K) rfl) (pv 5) pe_int (fun _ _ => rfl)) pe_str (nomark _)) (pe_op op_mod (pe_callTy call_int1 (by rfl) T.b_int (by decide +kernel) (pa_cons (pe_op op_add (pe_ix (ix_tupK (K := K) rfl) (pv 5) pe_int (fun _ _ => rfl)) pe_int) pa_nil)) (pe_ix (ix_tupK (K := K) rfl) (pv 0) pe_int (fun _ _ => rfl))) pe_int) (pg_sub (pv 3) (pe_ix (ix_tupK (K := K) rfl) (pv 4) pe_int (fun _ _ => rfl)) set_list))
    (pss_one (ps_ret (pv 3)))))))), ?_⟩
    iterate 3 first | refine ⟨_, rfl, ?_⟩ | refine ⟨_, _, _, _, rfl, rfl, SqT.of (by repeat (first | assumption | exact upd_same .. | refine u1 (by assumption) ?_ | refine um (by assumption) ?_ | refine sa (by assumption) ?_)), atI_nat (j := 2) rfl, ?_⟩
    refine ⟨⟨_, SqT.of e2⟩, fun D hD => ?_⟩
    refine lc_tup (xs := vs) (fun i G => Same H G ∧ ∃ ws : List V, G D = some (.lst ws) ∧ ws.length = takes (C.cells.take i)) ⟨same_upd hD, [], upd_same, rfl⟩ (fun i G _ e => SqT.of (e.1 _ _ e2)) (fun i x G hi e => ?_) (fun G e => ?_)
    · obtain ⟨s1, ws, g1, g2⟩ := e
      have hl := (List.getElem?_eq_some_iff.mp hi).1
      rw [hc.cs.1] at hl
      obtain ⟨q, rfl, hq⟩ := hc.cs.2 i x _ hi (List.getElem?_eq_getElem hl)
      obtain ⟨x0, xs0, ex, sx, dx⟩ := cell_word C.cells[i]
      rw [ex] at hq
      have hqG := s1 _ _ hq
      have tk : takes (C.cells.take (i + 1)) = takes (C.cells.take i) + takes [C.cells[i]] := by
        rw [List.take_succ, List.getElem?_eq_getElem hl, takes_app]; rfl
      rw [takes_one] at tk
      have := takes_le (C.cells.take i)
      rw [List.length_take] at this
      iterate 3 first | refine ⟨_, rfl, ?_⟩ | refine ⟨rfl, ?_⟩ | refine ⟨_, _, _, _, rfl, rfl, SqT.of (by repeat (first | assumption | exact upd_same .. | refine u1 (by assumption) ?_ | refine um (by assumption) ?_ | refine sa (by assumption) ?_)), atI_nat (j := 0) rfl, ?_⟩
      refine ⟨sx, _, rfl, ?_⟩
      rw [dx]
      cases eb : isTake C.cells[i] with
      | false =>
        rw [eb] at tk
        refine iteF ⟨s1, ws, g1, by rw [tk, g2]; rfl⟩
      | true =>
        rw [eb] at tk
        refine iteT ?_
        refine ⟨_, rfl, ws, g1, by omega, same_mut s1 hD, ws ++ [.ref q], upd_same, by rw [tk, List.length_append, g2]; rfl⟩
    · obtain ⟨s1, ws, g1, g2⟩ := e
      rw [show C.cells.take vs.length = C.cells from List.take_of_length_le (by rw [hc.cs.1]; exact Nat.le_refl _)] at g2
      refine ⟨_, rfl, ?_⟩
      refine ⟨_, rfl, ?_⟩
      refine ⟨⟨_, SqL.of g1⟩, fun Z hZ => ?_⟩
      have nD : D ≠ Z := ne_of_none g1 hZ
      refine lc_list (xs := ws) (fun i X => Same G X ∧ X Z = some (.lst ((List.replicate i 0).map nV))) ⟨same_upd hZ, upd_same⟩ (fun i X _ e => SqL.of (e.1 _ _ g1)) (fun i x X hi e => ?_) (fun X e => ?_)
      · obtain ⟨sX, x1⟩ := e
        have hl := (List.getElem?_eq_some_iff.mp hi).1
        refine ⟨rfl, ?_⟩
        refine ⟨_, x1, by simp; omega, same_mut sX hZ, ?_⟩
        rw [upd_same, List.replicate_succ', List.map_append]
        rfl
      · obtain ⟨sX, x1⟩ := e
        rw [g2] at x1
        have s3 := s1.trans sX
        have hZ0 : H Z = none := same_none s1 hZ
        have hk : takes C.cells ≤ 200 := by omega
        cases u with
        | none =>
          have hyX := s3 _ _ hy
          iterate 11 first | refine iteT ?_ | refine ⟨_, rfl, ?_⟩ | refine ⟨rfl, ?_⟩ | refine ⟨_, _, _, _, rfl, rfl, SqT.of (by repeat (first | assumption | exact upd_same .. | refine u1 (by assumption) ?_ | refine um (by assumption) ?_ | refine sa (by assumption) ?_)), atI_nat (j := 0) rfl, ?_⟩ | refine ⟨_, _, _, _, rfl, rfl, SqT.of (by repeat (first | assumption | exact upd_same .. | refine u1 (by assumption) ?_ | refine um (by assumption) ?_ | refine sa (by assumption) ?_)), atI_nat (j := 1) rfl, ?_⟩ | refine ⟨_, _, _, rfl, ?_⟩
          exact k Z X s3 x1
        | some pq =>
          obtain ⟨p, q⟩ := pq
          obtain ⟨t1, t2⟩ := th p q rfl
          obtain ⟨vp, vq, hy2, ⟨ap, rfl, hp⟩, ⟨aq, rfl, hq⟩⟩ := hy
          have hyX := s3 _ _ hy2
          have hpX := s3 _ _ hp
          have hqX := s3 _ _ hq
          have topX := s3 _ _ e1
          have fin : ∀ (m z : Nat), ((List.replicate (takes C.cells) 0).map nV).set m (nV z) = ((List.replicate (takes C.cells) 0).set m z).map nV := fun m z => (List.map_set ..).symm
          cases p with
          | num m =>
            cases q with
            | num n =>
              simp only [thV] at hpX hqX
              iterate 20 first | refine iteT ?_ | refine iteF ?_ | refine ⟨_, rfl, ?_⟩ | refine ⟨rfl, ?_⟩ | refine ⟨_, _, _, _, rfl, rfl, SqT.of (by repeat (first | assumption | exact upd_same .. | refine u1 (by assumption) ?_ | refine um (by assumption) ?_ | refine sa (by assumption) ?_)), atI_nat (j := 0) rfl, ?_⟩ | refine ⟨_, _, _, _, rfl, rfl, SqT.of (by repeat (first | assumption | exact upd_same .. | refine u1 (by assumption) ?_ | refine um (by assumption) ?_ | refine sa (by assumption) ?_)), atI_nat (j := 1) rfl, ?_⟩ | refine ⟨_, _, _, rfl, ?_⟩
              exact k Z X s3 x1
            | take n =>
              have hn : n < takes C.cells := t2
              simp only [thV] at hpX hqX
              iterate 35 first | refine iteT ?_ | refine iteF ?_ | refine ⟨_, rfl, ?_⟩ | refine ⟨_, _, rfl, rfl, ?_⟩ | refine ⟨rfl, ?_⟩ | refine ⟨_, _, _, _, rfl, rfl, SqT.of (by repeat (first | assumption | exact upd_same .. | refine u1 (by assumption) ?_ | refine um (by assumption) ?_ | refine sa (by assumption) ?_)), atI_nat (j := 0) rfl, ?_⟩ | refine ⟨_, _, _, _, rfl, rfl, SqT.of (by repeat (first | assumption | exact upd_same .. | refine u1 (by assumption) ?_ | refine um (by assumption) ?_ | refine sa (by assumption) ?_)), atI_nat (j := 1) rfl, ?_⟩ | refine ⟨_, _, rfl, ?_⟩ | refine ⟨_, _, _, rfl, ?_⟩
              refine .inl ⟨_, rfl, ?_⟩
              iterate 9 first | refine ⟨_, rfl, ?_⟩ | refine ⟨_, _, rfl, rfl, ?_⟩ | refine ⟨_, _, _, _, rfl, rfl, SqT.of (by repeat (first | assumption | exact upd_same .. | refine u1 (by assumption) ?_ | refine um (by assumption) ?_ | refine sa (by assumption) ?_)), atI_nat (j := 1) rfl, ?_⟩ | refine ⟨(show (0 : Int) < _ by first | decide | omega), ?_⟩ | refine ⟨_, _, _, _, rfl, rfl, (by repeat (first | assumption | exact upd_same .. | refine u1 (by assumption) ?_ | refine um (by assumption) ?_ | refine sa (by assumption) ?_)), ixNn (by first | assumption | omega | (simp; omega)), ?_⟩
              refine k Z _ (same_mut s3 hZ0) ?_
              rw [upd_same]
              exact congrArg (fun l => some (HO.lst l)) (fin n ((m + 1) % C.size))
          | take m =>
            have hm : m < takes C.cells := t1
            cases q with
            | num n =>
              simp only [thV] at hpX hqX
              iterate 28 first | refine iteT ?_ | refine iteF ?_ | refine ⟨_, rfl, ?_⟩ | refine ⟨_, _, rfl, rfl, ?_⟩ | refine ⟨rfl, ?_⟩ | refine ⟨_, _, _, _, rfl, rfl, SqT.of (by repeat (first | assumption | exact upd_same .. | refine u1 (by assumption) ?_ | refine um (by assumption) ?_ | refine sa (by assumption) ?_)), atI_nat (j := 0) rfl, ?_⟩ | refine ⟨_, _, _, _, rfl, rfl, SqT.of (by repeat (first | assumption | exact upd_same .. | refine u1 (by assumption) ?_ | refine um (by assumption) ?_ | refine sa (by assumption) ?_)), atI_nat (j := 1) rfl, ?_⟩ | refine ⟨_, _, _, rfl, ?_⟩
              refine .inl ⟨_, rfl, ?_⟩
              iterate 9 first | refine ⟨_, rfl, ?_⟩ | refine ⟨_, _, rfl, rfl, ?_⟩ | refine ⟨_, _, _, _, rfl, rfl, SqT.of (by repeat (first | assumption | exact upd_same .. | refine u1 (by assumption) ?_ | refine um (by assumption) ?_ | refine sa (by assumption) ?_)), atI_nat (j := 1) rfl, ?_⟩ | refine ⟨(show (0 : Int) < _ by first | decide | omega), ?_⟩ | refine ⟨_, _, _, _, rfl, rfl, (by repeat (first | assumption | exact upd_same .. | refine u1 (by assumption) ?_ | refine um (by assumption) ?_ | refine sa (by assumption) ?_)), ixNn (by first | assumption | omega | (simp; omega)), ?_⟩
              refine k Z _ (same_mut s3 hZ0) ?_
              rw [upd_same]
              exact congrArg (fun l => some (HO.lst l)) (fin m ((n + 1) % C.size))
            | take n =>
              simp only [thV] at hpX hqX
              iterate 30 first | refine iteF ?_ | refine ⟨_, rfl, ?_⟩ | refine ⟨rfl, ?_⟩ | refine ⟨_, _, _, _, rfl, rfl, SqT.of (by repeat (first | assumption | exact upd_same .. | refine u1 (by assumption) ?_ | refine um (by assumption) ?_ | refine sa (by assumption) ?_)), atI_nat (j := 0) rfl, ?_⟩ | refine ⟨_, _, _, _, rfl, rfl, SqT.of (by repeat (first | assumption | exact upd_same .. | refine u1 (by assumption) ?_ | refine um (by assumption) ?_ | refine sa (by assumption) ?_)), atI_nat (j := 1) rfl, ?_⟩ | refine ⟨_, _, _, rfl, ?_⟩ | refine ⟨_, _, _, _, rfl, rfl, (by repeat (first | assumption | exact upd_same .. | refine u1 (by assumption) ?_ | refine um (by assumption) ?_ | refine sa (by assumption) ?_)), ixNn (by first | assumption | omega | (simp; omega)), ?_⟩
              refine k Z _ (same_mut s3 hZ0) ?_
              rw [upd_same, show V.int 1 = nV 1 from rfl, fin]
              rfl
end Hw
namespace Hw
open PySem PySem.Spec PyProof.Rows L2 LamX
theorem kvOf_map {t : Addr} {z : List Spot} : ∀ {G : List Grp} {ls : List Addr} {i : Nat} {g0 : Grp}, (G.map (·.1)).Nodup → G[i]? = some g0 → ls.length = G.length →
    (kvOf G ls).map (fun kv => if kv.1 = Sum.inl (g0.1 : Int) then (kv.1, V.ref t) else kv) = kvOf (G.set i (g0.1, z)) (ls.set i t)
  | [], _, i, g0, _, h, _ => by simp at h
  | g :: gs, [], i, g0, _, _, h => by simp at h
  | g :: gs, l :: ls, 0, g0, nd, h, hl => by
    simp at h
    subst h
    have hn := (List.nodup_cons.mp nd).1
    simp only [kvOf, List.map_cons, List.set_cons_zero, if_true]
    congr 1
    have : ∀ (G : List Grp) (ls : List Addr), (∀ g' ∈ G, g'.1 ≠ g.1) → (kvOf G ls).map (fun kv => if kv.1 = Sum.inl (g.1 : Int) then (kv.1, V.ref t) else kv) = kvOf G ls := by
      intro G
      induction G with
      | nil => intro ls _; rfl
      | cons g1 G ih =>
        intro ls hh
        cases ls with
        | nil => rfl
        | cons l1 ls =>
          simp only [kvOf, List.map_cons]
          rw [ih ls fun g' m => hh g' (List.mem_cons_of_mem _ m)]
          have ne : ¬ (Sum.inl (g1.1 : Int) : Key) = Sum.inl (g.1 : Int) := fun e => hh g1 (List.mem_cons_self ..) (by have := Sum.inl.inj e; omega)
          rw [if_neg ne]
    exact this gs ls fun g' m e => hn (List.mem_map.mpr ⟨g', m, e⟩)
  | g :: gs, l :: ls, i + 1, g0, nd, h, hl => by
    have h' : gs[i]? = some g0 := by simpa using h
    have hn := (List.nodup_cons.mp nd).1
    have ne : ¬ (Sum.inl (g.1 : Int) : Key) = Sum.inl (g0.1 : Int) := fun e => hn (by
      have e2 : g.1 = g0.1 := by have := Sum.inl.inj e; omega
      exact List.mem_map.mpr ⟨g0, List.mem_of_getElem? h', e2.symm⟩)
    simp only [kvOf, List.map_cons, List.set_cons_succ]
    rw [if_neg ne, kvOf_map (List.nodup_cons.mp nd).2 h' (by simpa using hl)]
theorem kvOf_put {t l : Addr} {z : List Spot} {G : List Grp} {ls : List Addr} {i : Nat} {g0 : Grp} (nd : (G.map (·.1)).Nodup) (h : G[i]? = some g0) (hl : ls.length = G.length) (hi : ls[i]? = some l) :
    putK (kvOf G ls) (Sum.inl (g0.1 : Int)) (V.ref t) = kvOf (G.set i (g0.1, z)) (ls.set i t) := by
  unfold putK
  rw [valV_any, kvOf_at h rfl hi (grp_first nd i h)]
  rw [show (some (V.ref l)).isSome = true from rfl, if_pos rfl, kvOf_map nd h hl]
theorem GrpsAt.putOld {H H' : Hp} {gd l t : Addr} {G : List Grp} {ls : List Addr} {n i : Nat} {v : V} {x : Spot} {g0 : Grp} {vs : List V} (g : GrpsAt H gd G ls) (nd : (G.map (·.1)).Nodup) (h1 : G[i]? = some g0) (h2 : g0.1 = n) (hl : ls[i]? = some l)
    (hvs : H l = some (.lst vs)) (keep : ∀ b y, H b = some y → HO.kd y ≠ 2 → H' b = some y) (hd : H' gd = some (.dK (putK (kvOf G ls) (Sum.inl (n : Int)) (.ref t)))) (ht : H' t = some (.lst (vs ++ [v]))) (hv : IsSpot H' v x) (htn : t ∉ ls) : GrpsAt H' gd (grpAdd G n x) (ls.set i t) := by
  subst h2
  rw [grp_at h1 rfl (grp_first nd i h1)]
  have kt : ∀ b xs, H b = some (.tup xs) → H' b = some (.tup xs) := fun b xs h => keep _ _ h (by simp [HO.kd])
  refine ⟨by rw [hd, kvOf_put nd h1 g.len hl], by rw [List.length_set, List.length_set]; exact g.len, nodup_set g.nd htn i, fun j g' l' a b => ?_⟩
  by_cases e : j = i
  · subst e
    rw [List.getElem?_set_self (List.getElem?_eq_some_iff.mp hl).1] at b
    rw [List.getElem?_set_self (List.getElem?_eq_some_iff.mp h1).1] at a
    cases a
    cases b
    obtain ⟨vs', c, d⟩ := g.at_ j g0 l h1 hl
    rw [hvs] at c
    cases c
    exact ⟨_, ht, (d.mono fun _ _ => IsSpot.k kt).snoc hv⟩
  · rw [List.getElem?_set_ne (fun z => e z.symm)] at a b
    obtain ⟨vs', c, d⟩ := g.at_ j g' l' a b
    exact ⟨vs', keep _ _ c (by simp [HO.kd]), d.mono fun _ _ => IsSpot.k kt⟩
def IsNamed (bank : List Nat) (H : Hp) (v : V) (x : Spot) : Prop := ∃ p y, v = .ref p ∧ H p = some (.tup [nV (ini bank x.2), y]) ∧ IsSpot H y x
variable {P : Program} {w : World} {K : PySem.W.Frag} {mg : Str → Option Value} {base : Heap}
abbrev s__law_pp_grouped : Stmt := top 88
abbrev N__law_pp_grouped : List Str := ["_law_named", "_law_found", "_law_name", "_law_thing"]
theorem sc__law_pp_grouped : FnScope N__law_pp_grouped ["_law_named"] (defScope s__law_pp_grouped) := ⟨rfl, rfl, rfl, by decide +kernel, rfl, by decide +kernel, by decide +kernel⟩
def sp__law_pp_grouped : Sp := fun vs H Q _ => ∃ (a : Addr) (xs : List V) (bank : List Nat) (ss : List Spot), vs = [.ref a] ∧ H a = some (.lst xs) ∧ AllAt (IsNamed bank H) xs ss ∧ ss.Pairwise slt ∧ ss.length ≤ 100 ∧
  ∀ (gd : Addr) (ls : List Addr) H', Same H H' → GrpsAt H' gd (groupsOf bank ss) ls → Q (.ref gd) H'
theorem C__law_pp_grouped (T : Txt K mg) : C8.Cal P w K mg base 1 "_law_pp_grouped" sp__law_pp_grouped [] := by
  refine cal (N := N__law_pp_grouped) (ps := ["_law_named"]) T.d__law_pp_grouped (fun _ _ _ _ _ _ us hl => match us, hl with | [_], _ => rfl) sc__law_pp_grouped (fun vs H Q E h => ?_) (fun f cdv A outer s H vs Q E hr h => ?_)
  · obtain ⟨a, xs, bank, ss, rfl, _⟩ := h
    rfl
  · obtain ⟨a, xs, bank, ss, rfl, ha, al, pw, len, k⟩ := h
    have hu := hu_of hr
    have bl := big_line
    refine ⟨_, (pss_cons (ps_set (i := 1) sc__law_pp_grouped.nd rfl (by first | exact .inl rfl | exact .inr rfl) pe_dnewK)
    (pss_cons (ps_for PassesOwn.never rfl (pi_list (pv 0)) (pg_tup rfl (pgs_cons (pg_name (i := 2) sc__law_pp_grouped.nd rfl (by first | exact .inl rfl | exact .inr rfl)) (pgs_cons (pg_name (i := 3) sc__law_pp_grouped.nd rfl (by first | exact .inl rfl | exact .inr rfl)) pgs_nil))) (pss_one (ps_dput hu (pv 1) (pv 2) (pe_op op_cat (pe_dget2 hu (pv 1) (pv 2) (pe_lst pa_nil) ⟨by rfl, by rfl, by rfl, by rfl⟩) (pe_lst (pa_cons (pv 3) pa_nil))) rfl)))
    (pss_one (ps_ret (pv 1))))), ?_⟩
    intro gd hgd
    refine ⟨_, rfl, ?_⟩
    refine ⟨_, rfl, ?_⟩
    refine ⟨⟨_, SqL.of (u1 hgd ha)⟩, ?_⟩
    refine for_list (xs := xs) (fun i σ Z => (∃ l2 l3, σ = [some (.ref a), some (.ref gd), l2, l3]) ∧ Same H Z ∧ ∃ ls, GrpsAt Z gd (groupsOf bank (ss.take i)) ls) ⟨⟨_, _, rfl⟩, same_upd hgd, [], upd_same, rfl, List.nodup_nil, fun i g l h => by simp [groupsOf] at h⟩ (fun i σ Z _ e => SqL.of (e.2.1 _ _ ha)) (fun i x σ Z hi e => ?_) (fun σ Z e => ?_)
    · obtain ⟨⟨l2, l3, rfl⟩, s1, ls, g⟩ := e
      obtain ⟨sx, hsx, p, y, rfl, hp, hy⟩ := al.get hi
      have hpZ := s1 _ _ hp
      have hyZ := IsSpot.same s1 hy
      have gd1 := g.d
      have kd := groups_keys bank (ss.take i)
      have kl : (kvOf (groupsOf bank (ss.take i)) ls).length ≤ 100 := by
        rw [kvOf_len g.len]
        have h1 := (groups_ok bank (ss.take i) (pw.sublist (List.take_sublist _ _))).len
        have h2 : (ss.take i).length ≤ ss.length := by rw [List.length_take]; omega
        omega
      have snoc : groupsOf bank (ss.take (i + 1)) = grpAdd (groupsOf bank (ss.take i)) (ini bank sx.2) sx := by
        rw [List.take_succ, hsx]
        exact groups_snoc ..
      have lsn : ∀ q, Z q = none → q ∉ ls := fun q hq m => by
        obtain ⟨m', hm'⟩ := List.mem_iff_getElem?.mp m
        obtain ⟨vs', z, _⟩ := g.at_ m' _ _ (List.getElem?_eq_getElem (by rw [← g.len]; exact (List.getElem?_eq_some_iff.mp hm').1)) hm'
        rw [hq] at z
        cases z
      have fin : ∀ (X : Hp) (q : Addr) (us : List V), Same Z X → X q = none → us.length ≤ 1000 → ((∀ g ∈ groupsOf bank (ss.take i), g.1 ≠ ini bank sx.2) ∧ us = [] ∨ ∃ (m : Nat) (g0 : Grp) (l : Addr), (groupsOf bank (ss.take i))[m]? = some g0 ∧ g0.1 = ini bank sx.2 ∧ ls[m]? = some l ∧ Z l = some (.lst us)) →
          Same H (upd (upd X q (.lst (us ++ [y]))) gd (.dK (putK (kvOf (groupsOf bank (ss.take i)) ls) (Sum.inl (ini bank sx.2 : Int)) (.ref q)))) ∧
          ∃ ls2, GrpsAt (upd (upd X q (.lst (us ++ [y]))) gd (.dK (putK (kvOf (groupsOf bank (ss.take i)) ls) (Sum.inl (ini bank sx.2 : Int)) (.ref q)))) gd (groupsOf bank (ss.take (i + 1))) ls2 := fun X q us sX hq ul cs => by
        have sY : Same Z (upd X q (.lst (us ++ [y]))) := sX.trans (same_upd hq)
        have e := sY _ _ gd1
        have hq0 : Z q = none := same_none sX hq
        have nq : q ≠ gd := Ne.symm (ne_of_none gd1 hq0)
        have keep : ∀ b y', Z b = some y' → HO.kd y' ≠ 2 → upd (upd X q (.lst (us ++ [y]))) gd (.dK (putK (kvOf (groupsOf bank (ss.take i)) ls) (Sum.inl (ini bank sx.2 : Int)) (.ref q))) b = some y' := fun b y' hb n => um (fun z => by
          rw [z, gd1] at hb
          cases hb
          exact n rfl) (sY _ _ hb)
        refine ⟨same_mut (s1.trans sY) hgd, ?_⟩
        have hv := hyZ.k (H' := upd (upd X q (.lst (us ++ [y]))) gd (.dK (putK (kvOf (groupsOf bank (ss.take i)) ls) (Sum.inl (ini bank sx.2 : Int)) (.ref q)))) fun b xs h => keep _ _ h (by simp [HO.kd])
        rcases cs with ⟨hnew, rfl⟩ | ⟨m, g0, l, m1, m2, m3, m4⟩
        · refine ⟨ls ++ [q], ?_⟩
          rw [snoc]
          refine g.addNew hnew keep ?_ (um nq upd_same) hv (lsn q hq0)
          rw [upd_same, putK_new _ (kvOf_none hnew)]
        · refine ⟨ls.set m q, ?_⟩
          rw [snoc]
          exact g.putOld kd m1 m2 m3 m4 keep upd_same (um nq upd_same) hv (lsn q hq0)
      iterate 3 first | refine ⟨_, rfl, ?_⟩ | refine ⟨_, _, rfl, SqT.of (by repeat (first | assumption | exact upd_same .. | refine u1 (by assumption) ?_ | refine um (by assumption) ?_ | refine sa (by assumption) ?_)), rfl, _, _, rfl, _, _, rfl, rfl, ?_⟩
      refine ⟨.inl ⟨_, .inl gd1⟩, ?_⟩
      iterate 2 first | refine ⟨_, rfl, ?_⟩ | refine ⟨le_line (of_decide_eq_true rfl), fun t ht => ?_⟩
      have gd2 := u1 (o := .lst []) ht gd1
      refine ⟨_, DGet.k (k := Sum.inl (ini bank sx.2 : Int)) gd2, ?_⟩
      rcases grp_cases (ini bank sx.2) (groupsOf bank (ss.take i)) with hnew | ⟨m, g0, m1, m2, m3⟩
      · rw [kvOf_none hnew]
        iterate 2 first | refine ⟨_, rfl, ?_⟩ | refine ⟨le_line (of_decide_eq_true rfl), fun t ht => ?_⟩
        rename_i t0 ht0
        have sX := (same_upd (o := .lst []) ht0).trans (same_upd (o := .lst [y]) ht)
        refine ⟨t0, t, _, _, rfl, rfl, u1 ht upd_same, upd_same, by simp; omega, fun q hq => ?_⟩
        refine ⟨_, rfl, ?_⟩
        refine ⟨_, rfl, ?_⟩
        refine ⟨_, _, rfl, DPut.k (k := Sum.inl (ini bank sx.2 : Int)) (u1 hq (sX _ _ gd1)) (by omega), ?_⟩
        obtain ⟨z1, z2⟩ := fin _ q [] sX hq (by simp) (.inl ⟨hnew, rfl⟩)
        exact ⟨⟨_, _, rfl⟩, z1, z2⟩
      · have hml : m < ls.length := by rw [g.len]; exact (List.getElem?_eq_some_iff.mp m1).1
        have hlm : ls[m]? = some ls[m] := List.getElem?_eq_getElem hml
        rw [kvOf_at m1 m2 hlm m3]
        obtain ⟨us, v1, v2⟩ := g.at_ m g0 _ m1 hlm
        have ul : us.length ≤ 100 := by
          rw [v2.1]
          have h1 := (groups_ok bank (ss.take i) (pw.sublist (List.take_sublist _ _))).cnt g0 (List.mem_of_getElem? m1)
          have h2 : (ss.take i).length ≤ ss.length := by rw [List.length_take]; omega
          omega
        have v3 := u1 (o := .lst []) ht v1
        iterate 2 first | refine ⟨_, rfl, ?_⟩ | refine ⟨le_line (of_decide_eq_true rfl), fun t ht => ?_⟩
        rename_i t0 ht0
        have sX := (same_upd (o := .lst []) ht0).trans (same_upd (o := .lst [y]) ht)
        refine ⟨ls[m], t, _, _, rfl, rfl, u1 ht v3, upd_same, by simp; omega, fun q hq => ?_⟩
        refine ⟨_, rfl, ?_⟩
        refine ⟨_, rfl, ?_⟩
        refine ⟨_, _, rfl, DPut.k (k := Sum.inl (ini bank sx.2 : Int)) (u1 hq (sX _ _ gd1)) (by omega), ?_⟩
        obtain ⟨z1, z2⟩ := fin _ q us sX hq (by omega) (.inr ⟨m, g0, _, m1, m2, hlm, v1⟩)
        exact ⟨⟨_, _, rfl⟩, z1, z2⟩
    · obtain ⟨⟨l2, l3, rfl⟩, s1, ls, g⟩ := e
      rw [show ss.take xs.length = ss from List.take_of_length_le (by rw [al.1]; exact Nat.le_refl _)] at g
      refine ⟨_, rfl, ?_⟩
      exact k gd ls Z s1 g
end Hw
namespace Hw
open PySem PySem.Spec PyProof.Rows L2 LamX
def IsGrpL (H : Hp) (v : V) (g : Grp) : Prop := ∃ p l us, v = .ref p ∧ H p = some (.tup [nV g.1, .ref l]) ∧ H l = some (.lst us) ∧ AllAt (IsSpot H) us g.2
theorem IsGrpL.same {H H' : Hp} (s : Same H H') {v : V} {g : Grp} (h : IsGrpL H v g) : IsGrpL H' v g := let ⟨p, l, us, a, b, c, d⟩ := h; ⟨p, l, us, a, s _ _ b, s _ _ c, d.mono fun _ _ => IsSpot.same s⟩
noncomputable def keyOf (H : Hp) (v : V) : Int × Int := match v with
  | .ref t => match H t with
    | some (.tup [.int i, .int j]) => (i, j)
    | _ => (0, 0)
  | _ => (0, 0)
theorem keyOf_at {H : Hp} {t : Addr} {i j : Int} (h : H t = some (.tup [.int i, .int j])) : keyOf H (.ref t) = (i, j) := by
  unfold keyOf
  simp only [h]
theorem spots_srtd {H : Hp} {us : List V} {ss : List Spot} (al : AllAt (IsSpot H) us ss) (pw : ss.Pairwise slt) : SrtO.Srtd (ltP (keyOf H)) us := by
  refine List.pairwise_iff_getElem.mpr fun i j hi hj lt => ?_
  have hi2 : i < ss.length := by rw [← al.1]; exact hi
  have hj2 : j < ss.length := by rw [← al.1]; exact hj
  obtain ⟨q, e1, e2⟩ := al.2 i us[i] ss[i] (List.getElem?_eq_getElem hi) (List.getElem?_eq_getElem hi2)
  obtain ⟨r, e3, e4⟩ := al.2 j us[j] ss[j] (List.getElem?_eq_getElem hj) (List.getElem?_eq_getElem hj2)
  have z := List.pairwise_iff_getElem.mp pw i j hi2 hj2 lt
  show SrtO.lexB (keyOf H us[j]) (keyOf H us[i]) = false
  rw [e1, e3, keyOf_at e2, keyOf_at e4]
  refine SrtO.lexB_no.mpr ?_
  rcases z with z | z <;> simp only <;> omega
structure GOrd (G : List Grp) : Prop where
  ne : ∀ g ∈ G, g.2 ≠ []
  pg : ∀ g ∈ G, g.2.Pairwise slt
  pw : (G.map hd).Pairwise slt
  len : G.length ≤ 100
variable {P : Program} {w : World} {K : PySem.W.Frag} {mg : Str → Option Value} {base : Heap}
abbrev s__law_pp_tidy : Stmt := top 87
abbrev N__law_pp_tidy : List Str := ["_law_groups", "_law_found", "_law_number_here", "_law_spots"]
theorem sc__law_pp_tidy : FnScope N__law_pp_tidy ["_law_groups"] (defScope s__law_pp_tidy) := ⟨rfl, rfl, rfl, by decide +kernel, rfl, by decide +kernel, by decide +kernel⟩
def sp__law_pp_tidy (K : PySem.W.Frag) : Sp := fun vs H Q _ => ∃ (a : Addr) (xs : List V) (G : List Grp), vs = [.ref a] ∧ H a = some (.lst xs) ∧ AllAt (IsGrpL H) xs G ∧ GOrd G ∧ Tabs (TT K) H ∧
  ∀ p H', ExtN H H' → Tabs (TT K) H' → IsTab H' p G → Q (.ref p) H'
theorem C__law_pp_tidy (T : Txt K mg) (L : Lams K mg base) : C8.Cal P w K mg base 2 "_law_pp_tidy" (sp__law_pp_tidy K) [] := by
  refine calC (N := N__law_pp_tidy) (ps := ["_law_groups"]) L.d2 (fun _ _ _ _ _ _ us hl => match us, hl with | [_], _ => rfl) sc__law_pp_tidy (fun vs H Q E h => ?_) (fun f A outer s H vs Q E hr h => ?_)
  · obtain ⟨a, xs, G, rfl, _⟩ := h
    rfl
  · obtain ⟨a, xs, G, rfl, ha, al, go, hT, k⟩ := h
    have hu := hu_of hr
    have bl := big_line
    refine ⟨_, (pss_cons (ps_set (i := 1) sc__law_pp_tidy.nd rfl (by first | exact .inl rfl | exact .inr rfl) (pe_lst pa_nil))
    (pss_cons (ps_for PassesOwn.never rfl (pi_list (pv 0)) (pg_tup rfl (pgs_cons (pg_name (i := 2) sc__law_pp_tidy.nd rfl (by first | exact .inl rfl | exact .inr rfl)) (pgs_cons (pg_name (i := 3) sc__law_pp_tidy.nd rfl (by first | exact .inl rfl | exact .inr rfl)) pgs_nil))) (pss_one (ps_if (PW.pt (pw_or (pt_cmpR op_gt (pe_callB (call_lenK (K := K) rfl) (by rfl) T.b_len PySem.boot_len (pa_cons (pv 3) pa_nil)) pe_int (nomark _)) (pw_or1 (PW.pt (pw_and (pt_cmpR op_notN (pv 2) pe_non (nomark _)) (pw_and1 (pt_cmpR (op_neE hr.units0) (pv 3) (pe_lst pa_nil) (nomark _)))))))) (pss_one (ps_expr (pe_bm PySem.F.plainAttrs_list PySem.F.slot_list_append PySem.F.type_list_append mt_append (pv 1) (pa_cons (pe_tup (pa_cons (pv 2) (pa_cons (pe_callTy (call_tupleK (K := K) rfl) (by rfl) T.b_tuple (by decide +kernel) (pa_cons (pe_callB cr_sortedPO (by rfl) T.b_sorted (by decide +kernel) (pa_cons (pv 3) pa_nil)) pa_nil)) pa_nil))) pa_nil)))) pss_nil)))
    (pss_one (ps_ret (pe_sortL (T := TT K) (by rfl) T.b_sorted (by decide +kernel) (pa_cons (pv 1) pa_nil) L.tb2 rfl (L.mem2) (L.hu2) hr (by rfl) rfl rfl rfl (by decide) (by decide) rfl rfl (fun _ _ _ _ _ => rfl)))))), ?_⟩
    iterate 3 first | refine ⟨_, rfl, ?_⟩ | refine ⟨le_line (of_decide_eq_true rfl), fun t ht => ?_⟩
    have s0 := same_upd (o := .lst []) ht
    have hf0 : upd H t (.lst []) t = some (.lst []) := upd_same
    refine ⟨⟨_, SqL.of (s0 _ _ ha)⟩, ?_⟩
    obtain ⟨tf, htf, etf⟩ : ∃ tf, H tf = none ∧ tf = t := ⟨t, ht, rfl⟩
    rw [← etf] at s0 hf0 ⊢
    clear etf ht
    refine for_list (xs := xs) (fun i σ Z => (∃ l2 l3, σ = [some (V.ref a), some (.ref tf), l2, l3]) ∧ Same H Z ∧ ∃ ws, Z tf = some (.lst ws) ∧ AllAt (IsGrp Z) ws (G.take i)) ⟨⟨_, _, rfl⟩, s0, [], hf0, AllAt.nil⟩ (fun i σ Z _ e => SqL.of (e.2.1 _ _ ha)) (fun i x σ Z hi e => ?_) (fun σ Z e => ?_)
    · obtain ⟨⟨l2, l3, rfl⟩, s1, ws, hft, wal⟩ := e
      obtain ⟨g, hg, hgl⟩ := al.get hi
      obtain ⟨p, l, us, rfl, hp, hl, alg⟩ := hgl
      have hpZ := s1 _ _ hp
      have hlZ := s1 _ _ hl
      have alZ := alg.mono fun (v : V) (x : Spot) (h : IsSpot H v x) => IsSpot.same s1 h
      have ne := go.ne g (List.mem_of_getElem? hg)
      have pg := go.pg g (List.mem_of_getElem? hg)
      have tk : G.take (i + 1) = G.take i ++ [g] := by rw [List.take_succ, hg]; rfl
      have wl : ws.length ≤ 100 := by
        rw [wal.1, List.length_take]
        have := go.len
        omega
      by_cases h1 : 1 < us.length
      · skip
        iterate 8 first | refine iteT ?_ | refine ⟨_, rfl, ?_⟩ | refine ⟨_, _, rfl, rfl, ?_⟩ | refine ⟨_, _, rfl, .inl (SqL.of (by repeat (first | assumption | exact upd_same .. | refine u1 (by assumption) ?_ | refine um (by assumption) ?_ | refine sa (by assumption) ?_))), ?_⟩ | refine ⟨_, _, rfl, SqT.of (by repeat (first | assumption | exact upd_same .. | refine u1 (by assumption) ?_ | refine um (by assumption) ?_ | refine sa (by assumption) ?_)), rfl, _, _, rfl, _, _, rfl, rfl, ?_⟩ | refine itT (by omega) ?_
        refine ⟨.inl ⟨rfl, _, SqL.of hft⟩, ?_⟩
        refine ⟨_, rfl, ?_⟩
        refine ⟨_, rfl, ?_⟩
        refine ⟨l, us, keyOf Z, rfl, SqL.of hlZ, fun x hx => ?_, fun ys p2 srt stb hp2 => ?_⟩
        · obtain ⟨j, hj⟩ := List.mem_iff_getElem?.mp hx
          obtain ⟨y, _, q, rfl, e2⟩ := alZ.get hj
          exact ⟨q, rfl, by rw [keyOf_at e2]; exact e2⟩
        have eys : ys = us := SrtO.stb_uniq (ltP_swo _) srt (spots_srtd alZ pg) stb
        subst eys
        clear srt stb
        refine ⟨_, _, rfl, .inl ⟨SqL.of upd_same, fun q hq => ?_⟩⟩
        have sQ : Same Z (upd (upd Z p2 (.lst ys)) q (.tup ys)) := (same_upd hp2).trans (same_upd hq)
        have hqq : upd (upd Z p2 (.lst ys)) q (.tup ys) q = some (.tup ys) := upd_same
        generalize upd (upd Z p2 (.lst ys)) q (.tup ys) = Y at sQ hqq ⊢
        have hftY := sQ _ _ hft
        refine ⟨le_line (of_decide_eq_true rfl), fun t ht => ?_⟩
        refine ⟨_, _, _, rfl, rfl, u1 ht hftY, by omega, ⟨_, _, rfl⟩, same_mut ((s1.trans sQ).trans (same_upd ht)) htf, ws ++ [.ref t], upd_same, ?_⟩
        have kt : ∀ b xs, upd Y t (.tup [nV g.1, .ref q]) b = some (.tup xs) → upd (upd Y t (.tup [nV g.1, .ref q])) tf (.lst (ws ++ [.ref t])) b = some (.tup xs) := fun b xs h => um (new_kind h (u1 ht hftY) (by simp [HO.kd])) h
        have sR := sQ.trans (same_upd (o := .tup [nV g.1, .ref q]) ht)
        rw [tk]
        exact (wal.mono fun _ _ h => h.k fun b xs h => kt _ _ (sR _ _ h)).snoc ⟨t, q, ys, rfl, kt _ _ upd_same, kt _ _ (u1 ht hqq), alZ.mono fun _ _ h => h.k fun b xs h => kt _ _ (sR _ _ h)⟩
      · skip
        iterate 12 first | refine iteT ?_ | refine ⟨_, rfl, ?_⟩ | refine ⟨_, _, rfl, rfl, ?_⟩ | refine ⟨rfl, ?_⟩ | refine ⟨_, _, rfl, .inl (SqL.of (by repeat (first | assumption | exact upd_same .. | refine u1 (by assumption) ?_ | refine um (by assumption) ?_ | refine sa (by assumption) ?_))), ?_⟩ | refine ⟨_, _, rfl, SqT.of (by repeat (first | assumption | exact upd_same .. | refine u1 (by assumption) ?_ | refine um (by assumption) ?_ | refine sa (by assumption) ?_)), rfl, _, _, rfl, _, _, rfl, rfl, ?_⟩ | refine ⟨le_line (of_decide_eq_true rfl), fun t ht => ?_⟩ | refine itF (by omega) ?_
        have sE := same_upd (o := .lst []) ht
        refine ⟨_, _, us, rfl, rfl, SqL.of (sE _ _ hlZ), SqL.of upd_same, _, rfl, ?_⟩
        refine itBT (by
          cases us with
          | nil => exact absurd (List.length_eq_zero_iff.mp alZ.1.symm) ne
          | cons => rfl) ?_
        replace s1 := s1.trans sE
        replace hft := sE _ _ hft
        replace hpZ := sE _ _ hpZ
        replace hlZ := sE _ _ hlZ
        replace alZ := alZ.mono fun (v : V) (x : Spot) (h : IsSpot Z v x) => IsSpot.same sE h
        replace wal := wal.mono fun (v : V) (x : Grp) (h : IsGrp Z v x) => IsGrp.same sE h
        generalize upd Z t (.lst []) = Z at s1 hft hpZ hlZ alZ wal ⊢
        refine ⟨_, rfl, ?_⟩
        refine ⟨.inl ⟨rfl, _, SqL.of hft⟩, ?_⟩
        refine ⟨_, rfl, ?_⟩
        refine ⟨_, rfl, ?_⟩
        refine ⟨l, us, keyOf Z, rfl, SqL.of hlZ, fun x hx => ?_, fun ys p2 srt stb hp2 => ?_⟩
        · obtain ⟨j, hj⟩ := List.mem_iff_getElem?.mp hx
          obtain ⟨y, _, q, rfl, e2⟩ := alZ.get hj
          exact ⟨q, rfl, by rw [keyOf_at e2]; exact e2⟩
        have eys : ys = us := SrtO.stb_uniq (ltP_swo _) srt (spots_srtd alZ pg) stb
        subst eys
        clear srt stb
        refine ⟨_, _, rfl, .inl ⟨SqL.of upd_same, fun q hq => ?_⟩⟩
        have sQ : Same Z (upd (upd Z p2 (.lst ys)) q (.tup ys)) := (same_upd hp2).trans (same_upd hq)
        have hqq : upd (upd Z p2 (.lst ys)) q (.tup ys) q = some (.tup ys) := upd_same
        generalize upd (upd Z p2 (.lst ys)) q (.tup ys) = Y at sQ hqq ⊢
        have hftY := sQ _ _ hft
        refine ⟨le_line (of_decide_eq_true rfl), fun t ht => ?_⟩
        refine ⟨_, _, _, rfl, rfl, u1 ht hftY, by omega, ⟨_, _, rfl⟩, same_mut ((s1.trans sQ).trans (same_upd ht)) htf, ws ++ [.ref t], upd_same, ?_⟩
        have kt : ∀ b xs, upd Y t (.tup [nV g.1, .ref q]) b = some (.tup xs) → upd (upd Y t (.tup [nV g.1, .ref q])) tf (.lst (ws ++ [.ref t])) b = some (.tup xs) := fun b xs h => um (new_kind h (u1 ht hftY) (by simp [HO.kd])) h
        have sR := sQ.trans (same_upd (o := .tup [nV g.1, .ref q]) ht)
        rw [tk]
        exact (wal.mono fun _ _ h => h.k fun b xs h => kt _ _ (sR _ _ h)).snoc ⟨t, q, ys, rfl, kt _ _ upd_same, kt _ _ (u1 ht hqq), alZ.mono fun _ _ h => h.k fun b xs h => kt _ _ (sR _ _ h)⟩
    · obtain ⟨⟨l2, l3, rfl⟩, s1, ws, hft, wal⟩ := e
      rw [show G.take xs.length = G from List.take_of_length_le (by rw [al.1]; exact Nat.le_refl _)] at wal
      refine ⟨_, rfl, hT.ext s1, tf, ws, G.map fun g => (((hd g).1 : Int), ((hd g).2 : Int)), rfl, hft, ?_, ?_, by rw [List.length_map]; have := go.len; omega, fun p H9 eN T9 hp => ?_⟩
      · refine ⟨by rw [List.length_map]; exact wal.1, fun i v x a b => ?_⟩
        rw [List.getElem?_map] at b
        obtain ⟨g, hg, rfl⟩ := Option.map_eq_some_iff.mp b
        obtain ⟨p, sp, us, e0, e1, e2, e3⟩ := wal.2 i v g a hg
        have hne := go.ne g (List.mem_of_getElem? hg)
        cases hus : us with
        | nil =>
          have := e3.1
          rw [hus] at this
          exact absurd (List.length_eq_zero_iff.mp this.symm) hne
        | cons y ys =>
          obtain ⟨x0, hx0, q0, r1, r2⟩ := e3.get (i := 0) (v := y) (by rw [hus]; rfl)
          have ehd : hd g = x0 := by
            unfold hd
            cases hgl : g.2 with
            | nil => exact absurd hgl hne
            | cons c l => rw [hgl] at hx0; simp at hx0; rw [hx0]; rfl
          refine ⟨p, nV g.1, sp, q0, ys, e0, e1, by rw [e2, hus, r1], ?_⟩
          rw [ehd]; exact r2
      · refine List.pairwise_map.mpr ((List.pairwise_map.mp go.pw).imp fun {a b} h => ?_)
        rcases h with z | z
        · exact .inl (by show ((hd a).1 : Int) < (hd b).1; omega)
        · exact .inr ⟨by show ((hd a).1 : Int) = (hd b).1; omega, by show ((hd a).2 : Int) < (hd b).2; omega⟩
      · have hnT : ∀ b o, H b = some o → (∀ ps, o ≠ .tbl ps) → H9 b = some o := fun b o h n => eN b o (s1 _ _ h) n
        refine k p _ (fun b o h n => ?_) (T9.ext (same_upd hp)) ⟨ws, upd_same, wal.mono fun v g h => h.k fun b xs h => u1 hp (eN _ _ h fun _ z => by cases z)⟩
        exact u1 hp (hnT b o h n)
end Hw
namespace Hw
open PySem PySem.Spec PyProof.Rows L2 LamX
theorem pg_tupK {X : Cx} {K : PySem.W.Frag} {es : List Expr} {k n : Nat} {pos : Pos} {t : TGs} (hK : X.K = K) (hc : X.calm = true) (h : PGs X es t) (hn : (assignEach es X.env).length = n := by rfl)
    (hst : (assignEach es X.env).findIdx? (·.1) = none := by rfl) : PG X (.Tuple es k pos) (gTup K n t) := by
  subst hK
  subst hn
  exact pg_tup hc h rfl hst
theorem IsNamed.same {bank : List Nat} {H H' : Hp} (s : Same H H') {v : V} {x : Spot} (h : IsNamed bank H v x) : IsNamed bank H' v x := let ⟨p, y, a, b, c⟩ := h; ⟨p, y, a, s _ _ b, IsSpot.same s c⟩
theorem IsNamed.k {bank : List Nat} {H H' : Hp} (s : ∀ b xs, H b = some (.tup xs) → H' b = some (.tup xs)) {v : V} {x : Spot} (h : IsNamed bank H v x) : IsNamed bank H' v x := let ⟨p, y, a, b, c⟩ := h; ⟨p, y, a, s _ _ b, IsSpot.k s c⟩
theorem AllAt.app {α : Type} {R : V → α → Prop} : ∀ {ws : List V} {ds : List α} {vs : List V} {cs : List α}, AllAt R vs cs → AllAt R ws ds → AllAt R (vs ++ ws) (cs ++ ds)
  | [], [], vs, cs, h, _ => by simpa using h
  | [], d :: ds, vs, cs, _, h => by have := h.1; simp at this
  | w :: ws, [], vs, cs, _, h => by have := h.1; simp at this
  | w :: ws, d :: ds, vs, cs, h, h2 => by
    have := AllAt.app (h.snoc (h2.2 0 w d rfl rfl)) (ws := ws) (ds := ds) ⟨by have := h2.1; simpa using this, fun i v x a b => h2.2 (i + 1) v x (by simpa using a) (by simpa using b)⟩
    simpa using this
variable {P : Program} {w : World} {K : PySem.W.Frag} {mg : Str → Option Value} {base : Heap}
abbrev s__law_pp_start : Stmt := top 89
abbrev N__law_pp_start : List Str := ["_law_code", "_law_named", "_law_hue", "_law_groups", "_law_at", "_law_number_here"]
theorem sc__law_pp_start : FnScope N__law_pp_start ["_law_code"] (defScope s__law_pp_start) := ⟨rfl, rfl, rfl, by decide +kernel, rfl, by decide +kernel, by decide +kernel⟩
def sp__law_pp_start (K : PySem.W.Frag) : Sp := fun vs H Q _ => ∃ (a : Addr) (C : Code), vs = [.ref a] ∧ IsCode H a C ∧ C.Ok ∧ Tabs (TT K) H ∧ ∀ p H', ExtN H H' → Tabs (TT K) H' → IsTab H' p (tableOf C) → Q (.ref p) H'
theorem C__law_pp_start (T : Txt K mg) (L : Lams K mg base) : C8.Cal P w K mg base 3 "_law_pp_start" (sp__law_pp_start K) [] := by
  have C__law_pp_grouped := C__law_pp_grouped (P := P) (w := w) (base := base) T
  have C__law_pp_tidy := C__law_pp_tidy (P := P) (w := w) (base := base) T L
  refine cal (N := N__law_pp_start) (ps := ["_law_code"]) T.d__law_pp_start (fun _ _ _ _ _ _ us hl => match us, hl with | [_], _ => rfl) sc__law_pp_start (fun vs H Q E h => ?_) (fun f cdv A outer s H vs Q E hr h => ?_)
  · obtain ⟨a, C, rfl, _⟩ := h
    rfl
  · obtain ⟨a, C, rfl, ⟨va, ca, ba, vs, hc⟩, ok, hT, k⟩ := h
    have hu := hu_of hr
    have bl := big_line
    have p62 : (2 : Int) ^ 62 = 4611686018427387904 := by decide
    have h1 : 1 ≤ C.votes.length := ok.h1
    have h5 : C.votes.length ≤ 5 := ok.h5
    have z3 : C.bank.length ≤ 3 := ok.b3
    have e1 := hc.top
    have e2 := hc.vo
    refine ⟨_, (pss_cons (ps_set (i := 1) sc__law_pp_start.nd rfl (by first | exact .inl rfl | exact .inr rfl) (pe_lst pa_nil))
    (pss_cons (ps_for PassesOwn.never rfl (pi_range1 (by rfl) T.b_range (pa_cons (pe_callB (call_lenK (K := K) rfl) (by rfl) T.b_len PySem.boot_len (pa_cons (pe_ix (ix_tupK (K := K) rfl) (pv 0) pe_int (fun _ _ => rfl)) pa_nil)) pa_nil)) (pg_name (i := 2) sc__law_pp_start.nd rfl (by first | exact .inl rfl | exact .inr rfl)) (pss_cons (ps_set (i := 1) sc__law_pp_start.nd rfl (by first | exact .inl rfl | exact .inr rfl) (pe_op op_cat (pv 1) (pe_lc (own := [("_law_at", 4)]) rfl sc__law_pp_start.nd (pi_range1 (by rfl) T.b_range (pa_cons pe_int pa_nil)) (blkOk_by (own := [("_law_at", 4)]) (N := N__law_pp_start) (sc := defScope s__law_pp_start) (by decide +kernel)) (fun _ _ _ _ _ => (pg_name (i := 4) sc__law_pp_start.nd rfl (by first | exact .inl rfl | exact .inr rfl))) (fun _ _ _ _ _ => pts_nil) (fun _ _ _ _ _ => (pe_tup (pa_cons pe_int (pa_cons (pe_tup (pa_cons (pv 2) (pa_cons (pv 4) pa_nil))) pa_nil)))))))
    (pss_one (ps_set (i := 1) sc__law_pp_start.nd rfl (by first | exact .inl rfl | exact .inr rfl) (pe_op op_cat (pv 1) (pe_lc (own := [("_law_at", 4), ("_law_number_here", 5)]) rfl sc__law_pp_start.nd (pi_enumT (by rfl) T.b_enumerate (pa_cons (pe_ix (ix_tupK (K := K) rfl) (pv 0) pe_int (fun _ _ => rfl)) pa_nil)) (blkOk_by (own := [("_law_at", 4), ("_law_number_here", 5)]) (N := N__law_pp_start) (sc := defScope s__law_pp_start) (by decide +kernel)) (fun _ _ _ _ _ => (pg_tupK (K := K) (n := 2) rfl rfl (pgs_cons (pg_name (i := 4) sc__law_pp_start.nd rfl (by first | exact .inl rfl | exact .inr rfl)) (pgs_cons (pg_name (i := 5) sc__law_pp_start.nd rfl (by first | exact .inl rfl | exact .inr rfl)) pgs_nil)))) (fun _ _ _ _ _ => pts_nil) (fun _ _ _ _ _ => (pe_tup (pa_cons (pv 5) (pa_cons (pe_tup (pa_cons (pv 2) (pa_cons (pe_op op_add pe_int (pv 4)) pa_nil))) pa_nil))))))))))
    (pss_cons (ps_set (i := 3) sc__law_pp_start.nd rfl (by first | exact .inl rfl | exact .inr rfl) (C8.pe_c C__law_pp_grouped hr (by decide) rfl (pa_cons (pv 1) pa_nil)))
    (pss_one (ps_ret (C8.pe_c C__law_pp_tidy hr (by decide) rfl (pa_cons (pe_lock (pe_lc (own := [("_law_number_here", 5)]) rfl sc__law_pp_start.nd (pi_keys (pv 3)) (blkOk_by (own := [("_law_number_here", 5)]) (N := N__law_pp_start) (sc := defScope s__law_pp_start) (by decide +kernel)) (fun _ _ _ _ _ => (pg_name (i := 5) sc__law_pp_start.nd rfl (by first | exact .inl rfl | exact .inr rfl))) (fun _ _ _ _ _ => pts_nil) (fun _ _ _ _ _ => (pe_tup (pa_cons (pv 5) (pa_cons (pe_dget hu (pv 3) (pv 5) (fun _ _ => rfl)) pa_nil)))))) pa_nil))))))), ?_⟩
    iterate 5 first | refine ⟨_, rfl, ?_⟩ | refine ⟨_, _, rfl, .inr (SqT.of (by repeat (first | assumption | exact upd_same .. | refine u1 (by assumption) ?_ | refine um (by assumption) ?_ | refine sa (by assumption) ?_))), ?_⟩ | refine ⟨_, _, _, _, rfl, rfl, SqT.of (by repeat (first | assumption | exact upd_same .. | refine u1 (by assumption) ?_ | refine um (by assumption) ?_ | refine sa (by assumption) ?_)), atI_nat (j := 0) rfl, ?_⟩ | refine ⟨le_line (of_decide_eq_true rfl), fun t ht => ?_⟩
    have s0 := same_upd (o := .lst []) ht
    have hf0 : upd H t (.lst []) t = some (.lst []) := upd_same
    have e1' := s0 _ _ e1
    have e2' := s0 _ _ e2
    generalize upd H t (.lst []) = Y at s0 hf0 e1' e2' ⊢
    refine ⟨by rw [p62]; omega, by rw [p62, List.length_map]; omega, ?_⟩
    rw [Int.toNat_natCast, List.length_map]
    refine for_range (lo := 0) (n := C.votes.length) (fun i σ Z => (∃ l x2 x3 x4 x5, σ = [some (V.ref a), some (.ref l), x2, x3, x4, x5] ∧ ∃ ws, Z l = some (.lst ws) ∧ AllAt (IsNamed C.bank Z) ws (spots i (8 + C.bank.length))) ∧ Same H Z) ⟨⟨_, _, _, _, _, rfl, [], hf0, AllAt.nil⟩, s0⟩ (fun i σ Z hi e => ?_) (fun σ Z e => ?_)
    · obtain ⟨⟨l, x2, x3, x4, x5, rfl, ws, hl, wal⟩, s1⟩ := e
      have topZ := s1 _ _ e1
      have baZ := s1 _ _ hc.ba
      have wl : ws.length ≤ 55 := by
        rw [wal.1, spots_len]
        exact Nat.mul_le_mul (show i ≤ 5 by omega) (show 8 + C.bank.length ≤ 11 by omega)
      refine ⟨_, rfl, ?_⟩
      refine ⟨_, rfl, ?_⟩
      refine ⟨by decide, by decide, fun D hD => ?_⟩
      refine lc_range (lo := 0) (n := 8) (fun j G => Same Z G ∧ ∃ us, G D = some (.lst us) ∧ AllAt (IsNamed C.bank G) us (rowOf i j)) ⟨same_upd hD, [], upd_same, AllAt.nil⟩ (fun j G hj e => ?_) (fun G e => ?_)
      · obtain ⟨sG, us, hDu, ual⟩ := e
        have ul : us.length = j := by rw [ual.1]; simp [rowOf]
        iterate 5 first | refine ⟨_, rfl, ?_⟩ | refine ⟨rfl, ?_⟩ | refine ⟨le_line (of_decide_eq_true rfl), fun t ht => ?_⟩
        rename_i t1 ht1
        have sX := (same_upd (o := .tup [.int (0 + (i : Int)), .int (0 + (j : Int))]) ht1).trans (same_upd (o := .tup [.int 0, .ref t1]) ht)
        have x1 : upd (upd G t1 (.tup [.int (0 + (i : Int)), .int (0 + (j : Int))])) t (.tup [.int 0, .ref t1]) t1 = some (.tup [nV i, nV j]) := by
          rw [u1 ht upd_same, Int.zero_add, Int.zero_add]
        have x2' : upd (upd G t1 (.tup [.int (0 + (i : Int)), .int (0 + (j : Int))])) t (.tup [.int 0, .ref t1]) t = some (.tup [nV (ini C.bank j), .ref t1]) := by
          rw [upd_same, show ini C.bank j = 0 from if_pos hj]; rfl
        generalize upd (upd G t1 (.tup [.int (0 + (i : Int)), .int (0 + (j : Int))])) t (.tup [.int 0, .ref t1]) = X at sX x1 x2' ⊢
        have hDX := sX _ _ hDu
        refine ⟨us, hDX, by omega, same_mut (sG.trans sX) hD, us ++ [.ref t], upd_same, ?_⟩
        have kt : ∀ b xs, X b = some (.tup xs) → upd X D (.lst (us ++ [.ref t])) b = some (.tup xs) := fun b xs h => um (new_kind h hDX (by simp [HO.kd])) h
        rw [rowOf_succ]
        exact ((ual.mono fun _ _ h => h.same sX).mono fun _ _ h => h.k kt).snoc ⟨t, .ref t1, rfl, kt _ _ x2', t1, rfl, kt _ _ x1⟩
      · obtain ⟨sG, us, hDu, ual⟩ := e
        have ul : us.length = 8 := by rw [ual.1]; simp [rowOf]
        refine ⟨_, _, _, _, rfl, rfl, sG _ _ hl, hDu, by omega, fun q hq => ?_⟩
        have sQ := sG.trans (same_upd (o := .lst (ws ++ us)) hq)
        have eQ : upd G q (.lst (ws ++ us)) q = some (.lst (ws ++ us)) := upd_same
        have aQ := ((wal.mono fun _ _ h => h.same sQ)).app (ual.mono fun _ _ h => h.same (same_upd (o := .lst (ws ++ us)) hq))
        have baQ := sQ _ _ baZ
        have topQ := sQ _ _ topZ
        generalize upd G q (.lst (ws ++ us)) = Z2 at sQ eQ aQ baQ topQ ⊢
        have s2 := s1.trans sQ
        iterate 3 first | refine ⟨_, rfl, ?_⟩ | refine ⟨_, _, _, _, rfl, rfl, SqT.of (by repeat (first | assumption | exact upd_same .. | refine u1 (by assumption) ?_ | refine um (by assumption) ?_ | refine sa (by assumption) ?_)), atI_nat (j := 3) rfl, ?_⟩
        refine ⟨_, _, rfl, SqT.of baQ, fun D2 hD2 => ?_⟩
        refine lc_it walk_enumT (fun j G => Same Z2 G ∧ ∃ vs, G D2 = some (.lst vs) ∧ AllAt (IsNamed C.bank G) vs ((List.range j).map fun z => ((i, 8 + z) : Spot))) ⟨same_upd hD2, [], upd_same, AllAt.nil⟩ (fun j G _ p => SqT.of (p.1 _ _ baQ)) (fun j x G G' hj e y => ?_) (fun G e => ?_)
        · obtain ⟨sG2, vs, hDv, val⟩ := e
          obtain ⟨tp, y1, y2, rfl, htp, rfl, ey1, ey2⟩ := y
          cases ey1
          obtain ⟨n, hn, rfl⟩ := mapAt ey2
          have vl : vs.length = j := by rw [val.1]; simp
          have hjl := (List.getElem?_eq_some_iff.mp hn).1
          have hini : ini C.bank (8 + j) = n := by
            unfold ini
            rw [if_neg (by omega), show 8 + j - 8 = j by omega, List.getD_eq_getElem?_getD, hn]; rfl
          iterate 8 first | refine ⟨_, rfl, ?_⟩ | refine ⟨_, _, rfl, rfl, ?_⟩ | refine ⟨rfl, ?_⟩ | refine ⟨_, _, rfl, SqT.of (by repeat (first | assumption | exact upd_same .. | refine u1 (by assumption) ?_ | refine um (by assumption) ?_ | refine sa (by assumption) ?_)), rfl, _, _, rfl, _, _, rfl, rfl, ?_⟩ | refine ⟨le_line (of_decide_eq_true rfl), fun t ht => ?_⟩
          rename_i t1 ht1
          have sX := ((same_upd (o := .tup [.int (0 + ((j : Nat) : Int)), nV n]) htp).trans (same_upd (o := .tup [.int (0 + (i : Int)), .int (8 + (0 + ((j : Nat) : Int)))]) ht1)).trans (same_upd (o := .tup [nV n, .ref t1]) ht)
          have x1 : upd (upd (upd G tp (.tup [.int (0 + ((j : Nat) : Int)), nV n])) t1 (.tup [.int (0 + (i : Int)), .int (8 + (0 + ((j : Nat) : Int)))])) t (.tup [nV n, .ref t1]) t1 = some (.tup [nV i, nV (8 + j)]) := by
            rw [u1 ht upd_same, Int.zero_add, Int.zero_add]; rfl
          have x2' : upd (upd (upd G tp (.tup [.int (0 + ((j : Nat) : Int)), nV n])) t1 (.tup [.int (0 + (i : Int)), .int (8 + (0 + ((j : Nat) : Int)))])) t (.tup [nV n, .ref t1]) t = some (.tup [nV (ini C.bank (8 + j)), .ref t1]) := by
            rw [upd_same, hini]
          show ∃ acc, upd (upd (upd G tp (.tup [.int (0 + ((j : Nat) : Int)), nV n])) t1 (.tup [.int (0 + (i : Int)), .int (8 + (0 + ((j : Nat) : Int)))])) t (.tup [nV n, .ref t1]) D2 = some (HO.lst acc) ∧ _
          generalize upd (upd (upd G tp (.tup [.int (0 + ((j : Nat) : Int)), nV n])) t1 (.tup [.int (0 + (i : Int)), .int (8 + (0 + ((j : Nat) : Int)))])) t (.tup [nV n, .ref t1]) = X at sX x1 x2' ⊢
          have hDX := sX _ _ hDv
          refine ⟨vs, hDX, by omega, same_mut (sG2.trans sX) hD2, vs ++ [.ref t], upd_same, ?_⟩
          have kt : ∀ b xs, X b = some (.tup xs) → upd X D2 (.lst (vs ++ [.ref t])) b = some (.tup xs) := fun b xs h => um (new_kind h hDX (by simp [HO.kd])) h
          rw [List.range_succ, List.map_append]
          exact ((val.mono fun _ _ h => h.same sX).mono fun _ _ h => h.k kt).snoc (x := (i, 8 + j)) ⟨t, .ref t1, rfl, kt _ _ x2', t1, rfl, kt _ _ x1⟩
        · obtain ⟨sG2, vs, hDv, val⟩ := e
          rw [List.length_map] at val
          have vl : vs.length = C.bank.length := by rw [val.1]; simp
          refine ⟨_, _, _, _, rfl, rfl, sG2 _ _ eQ, hDv, by rw [List.length_append]; omega, fun q2 hq2 => ?_⟩
          have sR := sG2.trans (same_upd (o := .lst ((ws ++ us) ++ vs)) hq2)
          refine ⟨⟨q2, _, _, _, _, rfl, _, upd_same, ?_⟩, s2.trans sR⟩
          have ap := ((aQ.mono fun _ _ h => h.same sR)).app (val.mono fun _ _ h => h.same (same_upd (o := .lst ((ws ++ us) ++ vs)) hq2))
          have es : spots (i + 1) (8 + C.bank.length) = (spots i (8 + C.bank.length) ++ rowOf i 8) ++ (List.range C.bank.length).map fun z => ((i, 8 + z) : Spot) := by
            rw [spots, List.append_assoc]
            congr 1
            unfold rowOf
            rw [List.range_add, List.map_append, List.map_map]
            rfl
          rw [es]
          exact ap
    · obtain ⟨⟨l, x2, x3, x4, x5, rfl, ws, hl, wal⟩, s1⟩ := e
      have wl : ws.length ≤ 55 := by
        rw [wal.1, spots_len]
        exact Nat.mul_le_mul h5 (show 8 + C.bank.length ≤ 11 by omega)
      have gok := table_gok C
      have sl : (spots C.votes.length (8 + C.bank.length)).length ≤ 55 := by rw [← wal.1]; exact wl
      refine ⟨_, rfl, ?_⟩
      refine ⟨l, ws, C.bank, _, rfl, hl, wal, spots_pw _ _, by omega, fun gd ls Z2 s2 gr => ?_⟩
      obtain ⟨G, hG⟩ : ∃ G, G = tableOf C := ⟨_, rfl⟩
      have hGe : groupsOf C.bank (spots C.votes.length (8 + C.bank.length)) = G := by rw [hG]; rfl
      rw [hGe] at gr
      have gok2 : GOk C.bank (spots C.votes.length (8 + C.bank.length)) G := by rw [hG]; exact gok
      have hGl : G.length ≤ 55 := Nat.le_trans gok2.len sl
      have s3 := s1.trans s2
      have gdd := gr.d
      have hgnd : (G.map (·.1)).Nodup := by rw [hG]; exact table_keys C
      have gat : ∀ (i : Nat) (g : Grp) (l : Addr), G[i]? = some g → ls[i]? = some l → ∃ vs, Z2 l = some (.lst vs) ∧ AllAt (IsSpot Z2) vs g.2 := gr.at_
      rw [← hG] at k
      clear hG hGe gok
      refine ⟨gd, _, gdd, trivial, fun od => ?_⟩
      have hgdn : ∀ {o : HO}, (∀ xs, o ≠ .lst xs) → True := fun _ => trivial
      have sL : ∀ b y, Z2 b = some y → HO.kd y ≠ 2 → upd Z2 gd (.frz od (.dK (kvOf G ls))) b = some y := fun b y h n => um (fun z => by rw [z, gdd] at h; cases h; exact n rfl) h
      have fL : upd Z2 gd (.frz od (.dK (kvOf G ls))) gd = some (.frz od (.dK (kvOf G ls))) := upd_same
      have gat2 : ∀ (i : Nat) (g : Grp) (l : Addr), G[i]? = some g → ls[i]? = some l → ∃ vs, upd Z2 gd (.frz od (.dK (kvOf G ls))) l = some (.lst vs) ∧ AllAt (IsSpot (upd Z2 gd (.frz od (.dK (kvOf G ls))))) vs g.2 := fun i g l h1 h2 => by
        obtain ⟨vs, a, b⟩ := gat i g l h1 h2
        exact ⟨vs, sL _ _ a (by simp [HO.kd]), b.mono fun _ _ => IsSpot.k fun b xs h => sL _ _ h (by simp [HO.kd])⟩
      generalize hXL : upd Z2 gd (.frz od (.dK (kvOf G ls))) = XL at sL fL gat2 ⊢
      refine ⟨_, rfl, gd, od, rfl, .inl ⟨_, fL, fun D hD => ?_⟩⟩
      have hkl := kvOf_len gr.len
      refine lc_it walk_keys (fun i H2 => Same XL H2 ∧ ∃ vs, H2 D = some (.lst vs) ∧ AllAt (fun v g => ∃ p l us, v = .ref p ∧ H2 p = some (.tup [nV g.1, .ref l]) ∧ XL l = some (.lst us) ∧ AllAt (IsSpot XL) us g.2) vs (G.take i)) ⟨same_upd hD, [], upd_same, by simpa using AllAt.nil⟩ (fun i H2 _ p => p.1 _ _ fL) (fun i x H2 H3 hi p y => ?_) (fun H2 p => ?_)
      · obtain ⟨sX, vs, hDv, hav⟩ := p
        obtain ⟨rfl, kk, vv, hkv, rfl⟩ := y
        have hiG : i < G.length := by omega
        have hg : G[i]? = some G[i] := List.getElem?_eq_getElem hiG
        have hil : i < ls.length := by rw [gr.len]; exact hiG
        have hli : ls[i]? = some ls[i] := List.getElem?_eq_getElem hil
        have hkk : (kvOf G ls)[i]? = some (Sum.inl (G[i].1 : Int), V.ref ls[i]) := kvOf_get hg hli
        rw [hkk] at hkv
        cases hkv
        obtain ⟨us, w1, w2⟩ := gat2 i _ _ hg hli
        have hval : valV (kvOf G ls) (Sum.inl (G[i].1 : Int)) = some (.ref ls[i]) := kvOf_at hg rfl hli (grp_first hgnd i hg)
        have hvl : vs.length = i := by rw [hav.1, List.length_take]; omega
        refine ⟨rfl, ?_⟩
        refine ⟨_, rfl, _, rfl, _, rfl, gd, .ref ls[i], rfl, ?_, ?_⟩
        · rw [← hval]
          exact .inl ⟨_, _, .inr ⟨od, sX _ _ fL⟩, rfl, rfl⟩
        refine ⟨le_line (of_decide_eq_true rfl), fun p hp => ?_⟩
        have sm : Same H3 (upd H3 p (.tup [nV G[i].1, .ref ls[i]])) := same_upd hp
        have hD3 := sm _ _ hDv
        refine ⟨vs, hD3, by omega, same_mut (sX.trans sm) hD, _, upd_same, ?_⟩
        have tk : G.take (i + 1) = G.take i ++ [G[i]] := by rw [List.take_add_one, hg]; rfl
        rw [tk]
        have kt : ∀ b xs, upd H3 p (.tup [nV G[i].1, .ref ls[i]]) b = some (.tup xs) → upd (upd H3 p (.tup [nV G[i].1, .ref ls[i]])) D (.lst (vs ++ [.ref p])) b = some (.tup xs) := fun b xs h => um (new_kind h hD3 (by simp [HO.kd])) h
        exact (hav.mono fun v g h => by
          obtain ⟨p', l', us', q1, q2, q3, q4⟩ := h
          exact ⟨p', l', us', q1, kt _ _ (sm _ _ q2), q3, q4⟩).snoc ⟨p, ls[i], us, rfl, kt _ _ upd_same, w1, w2⟩
      · obtain ⟨sX, vs, hDv, hav⟩ := p
        rw [hkl, List.take_length] at hav
        refine ⟨sX _ _ fL, ?_⟩
        have gdn : ∀ b y, H2 b = some y → (∀ o u, y ≠ .frz o u) → upd H2 gd (.dK (kvOf G ls)) b = some y := fun b y h n => um (fun z => by
          rw [z, sX _ _ fL] at h
          cases h
          exact n _ _ rfl) h
        have sF : Same Z2 (upd H2 gd (.dK (kvOf G ls))) := fun b y h => by
          by_cases z : b = gd
          · rw [z] at h ⊢
            rw [gdd] at h
            cases h
            exact upd_same
          · exact um z (sX _ _ (by rw [← hXL]; exact um z h))
        have fD : upd H2 gd (.dK (kvOf G ls)) D = some (.lst vs) := gdn _ _ hDv fun _ _ z => by cases z
        have hav3 : AllAt (IsGrpL (upd H2 gd (.dK (kvOf G ls)))) vs G := hav.mono fun v g h => by
          obtain ⟨p', l', us', q1, q2, q3, q4⟩ := h
          exact ⟨p', l', us', q1, gdn _ _ q2 (fun _ _ z => by cases z), gdn _ _ (sX _ _ q3) (fun _ _ z => by cases z), q4.mono fun _ _ h => IsSpot.k (fun b xs h => gdn _ _ (sX _ _ h) fun _ _ z => by cases z) h⟩
        have sAll := s3.trans sF
        refine ⟨D, vs, G, rfl, fD, hav3, ⟨gok2.ne, gok2.pg, gok2.pw, by omega⟩, hT.ext sAll, fun p H9 eN T9 tab => ?_⟩
        exact k p H9 (fun b o h n => eN b o (sAll _ _ h) n) T9 tab
end Hw
namespace Hw
def val (inp : Nat → Nat) : Th → Nat
  | .num n => n
  | .take k => inp k
theorem rel0 (C : Code) (f : Th → Nat) (hn : ∀ n, f (.num n) = n) : Rel f (s0 C) (m0 C) :=
  ⟨fun i a => (hn _).symm, fun i => rfl, rfl⟩
theorem ssok0 (C : Code) (ok : C.Ok) : SSOk C.size (s0 C) C.h (8 + C.bank.length) := by
  refine ⟨fun i hi a ha => ?_, fun i x h => by cases h⟩
  show ini C.bank a < C.size
  have s2 := ok.s2
  unfold ini
  split
  · omega
  · rename_i h8
    have hz : a - 8 < C.bank.length := by omega
    rw [List.getD_eq_getElem?_getD, List.getElem?_eq_getElem hz]
    exact ok.ba _ (List.getElem_mem hz)
theorem plain_none {C : Code} (inp : Nat → Nat) (h : runT C = none) : run id inp C.h (8 + C.bank.length) C.cells (m0 C) 0 = none := by
  have := run_sim (f := val inp) (inp := inp) (h := C.h) (many := 8 + C.bank.length) (fun n => rfl) (fun k => rfl) C.cells (s0 C) (m0 C) 0 (rel0 C _ fun n => rfl)
  have e : run .num .take C.h (8 + C.bank.length) C.cells (s0 C) 0 = none := h
  rw [e] at this
  exact this
theorem plain_some {C : Code} {d : Nat} {u : Option (Th × Th)} (inp : Nat → Nat) (h : runT C = some (d, u)) :
    (∀ e' u', run id inp C.h (8 + C.bank.length) C.cells (m0 C) 0 = some (e', u') → d ≤ e') ∧ (Apart (val inp) u → ∃ u', run id inp C.h (8 + C.bank.length) C.cells (m0 C) 0 = some (d, u')) := by
  have := run_sim (f := val inp) (inp := inp) (h := C.h) (many := 8 + C.bank.length) (fun n => rfl) (fun k => rfl) C.cells (s0 C) (m0 C) 0 (rel0 C _ fun n => rfl)
  have e : run .num .take C.h (8 + C.bank.length) C.cells (s0 C) 0 = some (d, u) := h
  rw [e] at this
  exact this
theorem th_ok {C : Code} (ok : C.Ok) {d : Nat} {x y : Th} (h : runT C = some (d, some (x, y))) : x ≠ y ∧ ThOk C.size (takes C.cells) x ∧ ThOk C.size (takes C.cells) y := by
  have := run_ok (h := C.h) (many := 8 + C.bank.length) (size := C.size) (bank := C.bank.length) rfl C.cells (s0 C) 0 d x y ok.ce (ssok0 C ok) h
  rw [show (s0 C).t = 0 from rfl, Nat.zero_add] at this
  exact this
theorem part_len {n size : Nat} (u : Option (Th × Th)) : (partIn n size u).length = n := by
  match u with
  | none => simp [partIn]
  | some (.num _, .num _) => simp [partIn]
  | some (.num _, .take _) => simp [partIn]
  | some (.take _, .num _) => simp [partIn]
  | some (.take _, .take _) => simp [partIn]
theorem mem_set_le {l : List Nat} {k z b : Nat} (h : ∀ n ∈ l, n ≤ b) (hz : z ≤ b) : ∀ n ∈ l.set k z, n ≤ b := fun n hn => by
  rcases List.mem_or_eq_of_mem_set hn with q | q
  · exact h n q
  · rw [q]; exact hz
theorem part_le {n size : Nat} (h2 : 2 ≤ size) (h4 : size ≤ 10000) (u : Option (Th × Th)) : ∀ z ∈ partIn n size u, z ≤ 9999 := by
  have h0 : ∀ z ∈ List.replicate n 0, z ≤ 9999 := fun z hz => by rw [(List.mem_replicate.mp hz).2]; omega
  have hm : ∀ m, m % size ≤ 9999 := fun m => by have := Nat.mod_lt m (show 0 < size by omega); omega
  match u with
  | none => exact h0
  | some (.num _, .num _) => exact h0
  | some (.num m, .take k) => exact mem_set_le h0 (hm _)
  | some (.take k, .num m) => exact mem_set_le h0 (hm _)
  | some (.take _, .take _) => exact mem_set_le h0 (by omega)
theorem tk_at {n k z size : Nat} (hk : k < n) : tkI ((List.replicate n 0).set k z) size k = z % size := by
  unfold tkI
  rw [List.getD_eq_getElem?_getD, List.getElem?_set_self (by simpa using hk)]
  rfl
theorem tk_ne {n k l z size : Nat} (hk : l ≠ k) : tkI ((List.replicate n 0).set k z) size l = 0 := by
  unfold tkI
  rw [List.getD_eq_getElem?_getD, List.getElem?_set_ne (Ne.symm hk), List.getElem?_replicate]
  split <;> simp
theorem succ_mod {m size : Nat} (h2 : 2 ≤ size) (hm : m < size) : (m + 1) % size % size ≠ m := by
  rw [Nat.mod_mod]
  by_cases e : m + 1 = size
  · rw [e, Nat.mod_self]; omega
  · rw [Nat.mod_eq_of_lt (by omega)]; omega
theorem plain_part {C : Code} (ok : C.Ok) {d : Nat} {u : Option (Th × Th)} (h : runT C = some (d, u)) :
    ∃ u', run id (tkI (partIn (takes C.cells) C.size u) C.size) C.h (8 + C.bank.length) C.cells (m0 C) 0 = some (d, u') := by
  refine (plain_some _ h).2 fun x y e => ?_
  subst e
  obtain ⟨ne, ox, oy⟩ := th_ok ok h
  have s2 := ok.s2
  cases x with
  | num m =>
    cases y with
    | num n => exact fun e => ne (by rw [show m = n from e])
    | take k =>
      show m ≠ tkI ((List.replicate (takes C.cells) 0).set k ((m + 1) % C.size)) C.size k
      rw [tk_at oy]
      exact Ne.symm (succ_mod s2 ox)
  | take k =>
    cases y with
    | num m =>
      show tkI ((List.replicate (takes C.cells) 0).set k ((m + 1) % C.size)) C.size k ≠ m
      rw [tk_at ox]
      exact succ_mod s2 oy
    | take l =>
      show tkI ((List.replicate (takes C.cells) 0).set k 1) C.size k ≠ tkI ((List.replicate (takes C.cells) 0).set k 1) C.size l
      have nkl : l ≠ k := fun e => ne (by rw [e])
      rw [tk_at ox, tk_ne nkl, Nat.mod_eq_of_lt (by omega)]
      decide
end Hw
namespace Hw
open PySem PySem.Spec PyProof.Rows L2 LamX
theorem room66 {k : Nat} {A : Around} (r : Room k A) : A.units + 66 < cLine := by have := r.un; omega
theorem tabs_fr {TB : List (Addr × Str)} {S : List Addr} {H H' : Hp} (t : Tabs TB H) (f : Fr S [0, 2] H H') : Tabs TB H' := fun p hp => by
  obtain ⟨ps, h1, h2, h3⟩ := t p hp
  refine ⟨ps, f.k h1 (by simp [HO.kd]), h2, fun pos cv hc => ?_⟩
  obtain ⟨c, e1, e2⟩ := h3 pos cv hc
  exact ⟨c, e1, f.k e2 (by simp [CodeO, HO.kd])⟩
theorem IsSt.extN {H H' : Hp} {st g c : Addr} {m : Nat} (h : IsSt H st g c m) (e : ExtN H H') : IsSt H' st g c m := by
  obtain ⟨gr, cs, r, t, S, q⟩ := h
  exact ⟨gr, cs, r, t, ⟨e _ _ S.ob (fun _ z => by cases z), e _ _ S.gr (fun _ z => by cases z), e _ _ S.cs (fun _ z => by cases z), S.ne⟩, q⟩
theorem extN_tups {H H' : Hp} (e : ExtN H H') : ∀ b xs, H b = some (.tup xs) → H' b = some (.tup xs) := fun b xs h => e b _ h fun _ z => by cases z
theorem IsWalk.k {H H' : Hp} (f : ∀ b xs, H b = some (.tup xs) → H' b = some (.tup xs)) {v : V} {r : Option (Nat × Option (Th × Th))} (h : IsWalk H v r) : IsWalk H' v r := by
  cases r with
  | none => exact h
  | some du =>
    obtain ⟨d, u⟩ := du
    obtain ⟨p, y, a, b, c⟩ := h
    exact ⟨p, y, a, f _ _ b, c.k f⟩
def spotD (x : Spot) : PyData := .tuple [.int x.1, .int x.2]
def grpD (g : Grp) : PyData := .tuple [.int g.1, .tuple (g.2.map spotD)]
def tabD (G : List Grp) : PyData := .list (G.map grpD)
theorem spot_dp {K : PySem.W.Frag} {H : Hp} {v : V} {x : Spot} (h : IsSpot H v x) : Dp K H v (spotD x) := by
  obtain ⟨q, rfl, hq⟩ := h
  exact .tup (SqT.of hq) (.cons (.int _) (.cons (.int _) .nil))
theorem grp_dp {K : PySem.W.Frag} {H : Hp} {v : V} {g : Grp} (h : IsGrp H v g) : Dp K H v (grpD g) := by
  obtain ⟨p, sp, vs, rfl, h1, h2, h3⟩ := h
  exact .tup (SqT.of h1) (.cons (.int _) (.cons (.tup (SqT.of h2) (dp_all (g := spotD) (fun _ _ h => spot_dp h) h3)) .nil))
theorem tab_dp {K : PySem.W.Frag} {H : Hp} {a : Addr} {G : List Grp} (h : IsTab H a G) : Dp K H (.ref a) (tabD G) := by
  obtain ⟨vs, h1, h2⟩ := h
  exact .lst (SqL.of h1) (dp_all (g := grpD) (fun _ _ h => grp_dp h) h2)
theorem spots_lay : ∀ l : List Spot, PyData.canLayAll0 (l.map spotD) = true
  | [] => by simp [PyData.canLayAll0]
  | x :: l => by simp [PyData.canLayAll0, spotD, PyData.canLay0, spots_lay l]
theorem grps_lay : ∀ G : List Grp, PyData.canLayAll0 (G.map grpD) = true
  | [] => by simp [PyData.canLayAll0]
  | g :: G => by
    have := spots_lay g.2
    simp [PyData.canLayAll0, grpD, PyData.canLay0, grps_lay G, this]
theorem spots_depth : ∀ l : List Spot, PyData.depthAll (l.map spotD) ≤ 2
  | [] => by simp [PyData.depthAll]
  | x :: l => by
    have := spots_depth l
    have h : (spotD x).depth ≤ 1 := by simp [spotD, PyData.depth, PyData.depthAll]
    simp only [List.map_cons, PyData.depthAll]; omega
theorem grps_depth : ∀ G : List Grp, PyData.depthAll (G.map grpD) ≤ 6
  | [] => by simp [PyData.depthAll]
  | g :: G => by
    have h1 := spots_depth g.2
    have h2 := grps_depth G
    have h : (grpD g).depth ≤ 5 := by
      simp only [grpD, PyData.depth, PyData.depthAll]; omega
    simp only [List.map_cons, PyData.depthAll]; omega
theorem tab_lay (G : List Grp) : (tabD G).canLay0 = true := by
  simp only [tabD, PyData.canLay0]; exact grps_lay G
theorem tab_shaped (G : List Grp) : SeqAt.shaped (tabD G) = true := by
  have h1 := grps_depth G
  show ((tabD G).canLay0 && decide ((tabD G).depth ≤ 64)) = true
  rw [Bool.and_eq_true]
  refine ⟨tab_lay G, decide_eq_true ?_⟩
  simp only [tabD, PyData.depth]; omega
theorem tab_eqv (G : List Grp) : PyData.eqv (tabD G) (tabD G) = true := SeqAt.eqv_refl _ (tab_lay G)
theorem tab_ne {H : Hp} {st g c t : Addr} {m : Nat} {C : Code} (ok : C.Ok) (I : IsSt H st g c m) (h : IsTab H t (tableOf C)) : t ≠ st ∧ t ≠ g := by
  obtain ⟨gr, cs, r, tu, S, _⟩ := I
  obtain ⟨vs, h1, h2⟩ := h
  refine ⟨fun e => (by rw [e, S.ob] at h1; cases h1), fun e => ?_⟩
  rw [e, S.gr] at h1
  have e1 : vs = gr.map V.int := by cases h1; rfl
  obtain ⟨G, hG, _⟩ := (table_gok C).all (0, 0) (spots_mem.mpr ⟨ok.h1, by omega⟩)
  obtain ⟨i, hi⟩ := List.mem_iff_getElem?.mp hG
  have hl : i < vs.length := by rw [h2.1]; exact (List.getElem?_eq_some_iff.mp hi).1
  obtain ⟨p, sp, us, ev, _⟩ := h2.2 i vs[i] G (List.getElem?_eq_getElem hl) hi
  have e2 : vs[i]? = some (.ref p) := by rw [List.getElem?_eq_getElem hl, ev]
  rw [e1, List.getElem?_map] at e2
  obtain ⟨z, _, hz⟩ := Option.map_eq_some_iff.mp e2
  cases hz
theorem IsTab.fr {S : List Addr} {H H' : Hp} {t : Addr} {G : List Grp} (h : IsTab H t G) (f : Fr S [0, 2] H H') (n : t ∉ S) : IsTab H' t G := by
  obtain ⟨vs, h1, h2⟩ := h
  exact ⟨vs, f.n h1 n, h2.mono fun _ _ h => h.k f.tups⟩
theorem IsTab.extN {H H' : Hp} {t : Addr} {G : List Grp} (h : IsTab H t G) (e : ExtN H H') : IsTab H' t G := by
  obtain ⟨vs, h1, h2⟩ := h
  exact ⟨vs, e _ _ h1 (fun _ z => by cases z), h2.mono fun _ _ h => h.k (extN_tups e)⟩
theorem scal_on (o : Option (Nat × Option (Nat × Nat))) (d : Nat) : scal (oN o) (nV d) = true := by
  cases o <;> rfl
variable {P : Program} {w : World} {K : PySem.W.Frag} {mg : Str → Option Value} {base : Heap}
abbrev s_law : Stmt := top 99
abbrev N_law : List Str := ["_law_script", "_law_state", "_law_turn", "_law_code", "_law_due", "_law_told", "_law_inputs_here", "_law_steps", "_law_early"]
theorem sc_law : FnScope N_law ["_law_script"] (defScope s_law) := ⟨rfl, rfl, rfl, by decide +kernel, rfl, by decide +kernel, by decide +kernel⟩
def sp_law (K : PySem.W.Frag) : Sp := fun vs H Q _ => ∃ (a : Addr) (ns : List Int), vs = [.ref a] ∧ SqL K H a (ns.map V.int) ∧ ns.length ≤ 63 ∧ Tabs (TT K) H ∧ ∀ H', Q (.bl true) H'
theorem law_ok (T : Txt K mg) (L : Lams K mg base) (N : NPF P K mg) (Z : NPX K) {e : Addr} (ME : MkM K mg e) {fa : Addr} {fd : FuncData} (F : FunD K "law" "law" (defArgs s_law) (defBody s_law) (defScope s_law) [] [] fa fd) : FnOk P w K mg base C8.CX0 13 fa fd ["_law_script"] (sp_law K) := by
  obtain ⟨fm, fdm, mm, km, Fm, bm⟩ := C_made_paper (P := P) (w := w) (base := base) T L N
  have C__law_begun := C__law_begun (P := P) (w := w) (base := base) T
  have C__law_copying_code := C__law_copying_code (P := P) (w := w) (base := base) T
  have C__law_copy_walk := C__law_copy_walk (P := P) (w := w) (base := base) T
  have C__law_pp_told := C__law_pp_told (P := P) (w := w) (base := base) T L N Z
  have C__law_inputs := C__law_inputs (P := P) (w := w) (base := base) T
  have C__law_pp_start := C__law_pp_start (P := P) (w := w) (base := base) T L
  have C_first_parting := C_first_parting (P := P) (w := w) (base := base) T ME
  have C__law_parting_inputs := C__law_parting_inputs (P := P) (w := w) (base := base) T
  refine fnOk (N := N_law) F sc_law (fun vs H Q E h => ?_) (fun f cdv A outer s H vs Q E hr h => ?_)
  · obtain ⟨a, ns, rfl, _⟩ := h
    rfl
  · obtain ⟨a, ns, rfl, ha, hn, hT, k⟩ := h
    have hu := hu_of hr
    have bl := big_line
    refine ⟨_, (pss_cons (ps_set (i := 1) sc_law.nd rfl (by first | exact .inl rfl | exact .inr rfl) (C8.pe_c C__law_begun hr (by decide) rfl (pa_cons (pv 0) pa_nil)))
    (pss_cons (ps_for PassesOwn.never rfl (pi_range1 (by rfl) T.b_range (pa_cons pe_int pa_nil)) (pg_name (i := 2) sc_law.nd rfl (by first | exact .inl rfl | exact .inr rfl)) (pss_cons (ps_set (i := 3) sc_law.nd rfl (by first | exact .inl rfl | exact .inr rfl) (C8.pe_c C__law_copying_code hr (by decide) rfl (pa_cons (pv 1) pa_nil)))
    (pss_cons (ps_par (i := 4) (j := 5) (by rfl) sc_law.nd rfl rfl (by decide) rfl rfl (pa_cons (C8.pe_c C__law_copy_walk hr (by decide) rfl (pa_cons (pv 3) pa_nil)) (pa_cons (C8.pe_c C__law_pp_told hr (by decide) rfl (pa_cons (pv 3) (pa_cons (C8.pe_gc (v := .ref fm) rfl ⟨_, mm, rfl⟩) pa_nil))) pa_nil)) (by rfl))
    (pss_cons (ps_par (i := 6) (j := 7) (by rfl) sc_law.nd rfl rfl (by decide) rfl rfl (pa_cons (C8.pe_c C__law_inputs hr (by decide) rfl (pa_cons (pv 1) pa_nil)) (pa_cons (pe_op op_add (pe_callB (call_lenK (K := K) rfl) (by rfl) T.b_len PySem.boot_len (pa_cons (pe_ix (ix_tupK (K := K) rfl) (pv 3) pe_int (fun _ _ => rfl)) pa_nil)) pe_int) pa_nil)) (by rfl))
    (pss_one (ps_if (pt_cmpR op_isN (pv 4) pe_non (nomark _)) (pss_one (ps_if (PW.pt (pw_or (pt_cmpR (op_neDV (room66 hr)) (pv 5) (pe_disp (pps_cons pe_int (C8.pe_c C__law_pp_start hr (by decide) rfl (pa_cons (pv 3) pa_nil)) pps_nil) (by rfl) (by rfl) (fun z => by cases z) (by decide)) (nomark _)) (pw_or1 (pt_cmpR op_notN (C8.pe_c C_first_parting hr (by decide) rfl (pa_cons (pv 3) (pa_cons (pv 6) (pa_cons (pv 7) pa_nil)))) pe_non (nomark _))))) (pss_one (ps_ret pe_bl)) pss_nil)) (pss_cons (ps_if (PW.pt (pw_or (pt_val (pe_callB call_isi (by rfl) T.b_isinstance (by decide +kernel) (pa_cons (pv 5) (pa_cons (pe_bltn (v := .ty "dict") (u := .type "dict") (by rfl) T.b_dict (by decide +kernel) rfl) pa_nil)))) (pw_or1 (pt_cmpR op_ne (pv 5) (pe_ix (ix_tupK (K := K) rfl) (pv 4) pe_int (fun _ _ => rfl)) (nomark _))))) (pss_one (ps_ret pe_bl)) pss_nil)
    (pss_cons (ps_set (i := 8) sc_law.nd rfl (by first | exact .inl rfl | exact .inr rfl) (C8.pe_c C_first_parting hr (by decide) rfl (pa_cons (pv 3) (pa_cons (pv 6) (pa_cons (pv 7) pa_nil)))))
    (pss_cons (ps_if (PW.pt (pw_and (pt_cmpR op_notN (pv 8) pe_non (nomark _)) (pw_and1 (pt_cmpR op_lt (pv 8) (pe_ix (ix_tupK (K := K) rfl) (pv 4) pe_int (fun _ _ => rfl)) (nomark _))))) (pss_one (ps_ret pe_bl)) pss_nil)
    (pss_one (ps_if (pt_cmpR op_ne (C8.pe_c C_first_parting hr (by decide) rfl (pa_cons (pv 3) (pa_cons (C8.pe_c C__law_parting_inputs hr (by decide) rfl (pa_cons (pv 3) (pa_cons (pe_ix (ix_tupK (K := K) rfl) (pv 4) pe_int (fun _ _ => rfl)) pa_nil))) (pa_cons (pv 7) pa_nil)))) (pe_ix (ix_tupK (K := K) rfl) (pv 4) pe_int (fun _ _ => rfl)) (nomark _)) (pss_one (ps_ret pe_bl)) pss_nil)))))))))))
    (pss_one (ps_ret pe_bl)))), ?_⟩
    refine ⟨_, rfl, ?_⟩
    refine ⟨a, ns, rfl, ha, hn, fun st g c H1 s1 hst hg I1 => ?_⟩
    refine ⟨_, rfl, ?_⟩
    refine ⟨by decide, by decide, ?_⟩
    refine for_range (lo := 0) (n := 5) (fun i σ X => (∃ x2 x3 x4 x5 x6 x7 x8, σ = [some (V.ref a), some (.ref st), x2, x3, x4, x5, x6, x7, x8]) ∧ IsSt X st g c (200 * (5 - i)) ∧ Tabs (TT K) X) ⟨⟨_, _, _, _, _, _, _, rfl⟩, I1.le (by decide), hT.ext s1⟩ (fun i σ X hi q => ?_) (fun σ X q => ?_)
    · obtain ⟨⟨x2, x3, x4, x5, x6, x7, x8, rfl⟩, I, hT⟩ := q
      refine ⟨_, rfl, ?_⟩
      refine ⟨st, g, c, 200 * (5 - (i + 1)) + 20, rfl, I.le (by omega), fun co C X1 hco ok I1 f1 => ?_⟩
      have T1 := tabs_fr hT f1
      refine ⟨_, rfl, ?_⟩
      refine ⟨co, C, rfl, hco, ok, fun due X2 s2 hd2 => ?_⟩
      have hco2 := hco.same s2
      have I2 := I1.same s2
      have T2 := T1.ext s2
      refine ⟨_, rfl, ?_⟩
      refine ⟨co, fm, C, rfl, mm, hco2, ok, T2, ?_⟩
      cases er : runT C with
      | none =>
        rw [er] at hd2
        obtain rfl : due = .non := hd2
        intro p t X3 e3 T3 hp3 ht3
        have I3 := I2.extN e3
        have hco3 := hco2.extN e3
        obtain ⟨n1, n2⟩ := tab_ne ok I3 ht3
        have np : p ≠ st ∧ p ≠ g := by
          obtain ⟨gr, cs, r, tu, S, _⟩ := I3
          exact ⟨fun z => (by rw [z, S.ob] at hp3; cases hp3), fun z => (by rw [z, S.gr] at hp3; cases hp3)⟩
        iterate 2 first | refine ⟨_, rfl, ?_⟩ | refine ⟨_, _, rfl, ?_⟩
        refine ⟨st, g, c, 200 * (5 - (i + 1)), rfl, I3.le (by omega), fun li is X4 hli0 hli lis lim I4 f4 => ?_⟩
        have hp4 := f4.n hp3 (by simp [np.1, np.2])
        have ht4 := ht3.fr f4 (by simp [n1, n2])
        have hco4 := hco3.k f4.tups
        have T4 := tabs_fr T3 f4
        obtain ⟨va, ca, ba, vs, hc4⟩ := hco4
        have top4 := hc4.top
        have ce4 := hc4.ce
        iterate 10 first | refine iteT ?_ | refine ⟨_, rfl, ?_⟩ | refine ⟨_, _, rfl, rfl, ?_⟩ | refine ⟨rfl, ?_⟩ | refine ⟨_, _, rfl, .inr (SqT.of (by repeat (first | assumption | exact upd_same .. | refine u1 (by assumption) ?_ | refine um (by assumption) ?_ | refine sa (by assumption) ?_))), ?_⟩ | refine ⟨_, _, _, _, rfl, rfl, SqT.of (by repeat (first | assumption | exact upd_same .. | refine u1 (by assumption) ?_ | refine um (by assumption) ?_ | refine sa (by assumption) ?_)), atI_nat (j := 2) rfl, ?_⟩ | refine ⟨_, _, rfl, ?_⟩
        intro dd hdd
        refine ⟨_, rfl, ?_⟩
        have s5 := same_upd (o := .dK []) hdd
        refine ⟨co, C, rfl, ⟨va, ca, ba, vs, hc4.same s5⟩, ok, T4.ext s5, fun q X6 e6 T6 tab6 => ?_⟩
        have e46 : ExtN X4 X6 := fun b o h n => e6 b o (s5 _ _ h) n
        have hdd6 : X6 dd = some (.dK []) := e6 _ _ upd_same fun _ z => by cases z
        refine ⟨hdd6, [(Sum.inl 0, .ref q)], rfl, by simp, ?_⟩
        rw [show mergeK [] [((Sum.inl 0 : Key), V.ref q)] = [(Sum.inl 0, .ref q)] from rfl]
        have e47 : ExtN X4 (upd X6 dd (.dK [(Sum.inl 0, .ref q)])) := extN_mut e46 hdd
        have hp7 : upd X6 dd (.dK [(Sum.inl 0, .ref q)]) p = _ := e47 _ _ hp4 fun _ z => by cases z
        have ht7 := ht4.extN e47
        have tab7 : IsTab (upd X6 dd (.dK [(Sum.inl 0, .ref q)])) q (tableOf C) := by
          obtain ⟨us, u1', u2'⟩ := tab6
          exact ⟨us, um (new_kind u1' hdd6 (by simp [HO.kd])) u1', u2'.mono fun _ _ h => h.k fun b xs h => um (new_kind h hdd6 (by simp [HO.kd])) h⟩
        have T7 : Tabs (TT K) (upd X6 dd (.dK [(Sum.inl 0, .ref q)])) := T6.mut hdd6 (by simp [HO.kd]) trivial
        have I7 := I4.extN e47
        have hc7 : IsCode (upd X6 dd (.dK [(Sum.inl 0, .ref q)])) co C := IsCode.extN e47 ⟨va, ca, ba, vs, hc4⟩
        have hli7 : upd X6 dd (.dK [(Sum.inl 0, .ref q)]) li = _ := e47 _ _ hli fun _ z => by cases z
        have hdd7 : upd X6 dd (.dK [(Sum.inl 0, .ref q)]) dd = some (.dK [(Sum.inl 0, .ref q)]) := upd_same
        generalize upd X6 dd (.dK [(Sum.inl 0, .ref q)]) = X7 at hp7 ht7 tab7 T7 I7 hc7 hli7 hdd7 ⊢
        refine ⟨p, dd, Sum.inl 0, .ref t, .ref q, tabD (tableOf C), tabD (tableOf C), rfl, rfl, hp7, hdd7, tab_dp ht7, tab_dp tab7, tab_shaped _, tab_shaped _, ?_⟩
        rw [tab_eqv]
        iterate 5 first | refine iteF ?_ | refine ⟨_, rfl, ?_⟩
        have cl := ok.c2
        refine ⟨co, li, C, is, C.cells.length + 2, by rw [hc4.cs.1]; rfl, hc7, ok, hli7, by omega, lim, by omega, by omega, fun X8 s8 => ?_⟩
        rw [plain_none _ er]
        iterate 3 first | refine iteF ?_ | refine ⟨_, rfl, ?_⟩ | refine ⟨rfl, ?_⟩
        exact ⟨⟨_, _, _, _, _, _, _, rfl⟩, I7.same s8, T7.ext s8⟩
      | some du =>
        obtain ⟨d, u⟩ := du
        rw [er] at hd2
        intro X3 e3 T3
        have I3 := I2.extN e3
        have hco3 := hco2.extN e3
        have hd3 := IsWalk.k (extN_tups e3) hd2
        obtain ⟨pd, y, rfl, hpd, hdue⟩ := hd3
        iterate 2 first | refine ⟨_, rfl, ?_⟩ | refine ⟨_, _, rfl, ?_⟩
        refine ⟨st, g, c, 200 * (5 - (i + 1)), rfl, I3.le (by omega), fun li is X4 hli0 hli lis lim I4 f4 => ?_⟩
        have hco4 := hco3.k f4.tups
        have T4 := tabs_fr T3 f4
        have hpd4 := f4.tups _ _ hpd
        have hdue4 := hdue.k f4.tups
        have hco4' := hco4
        obtain ⟨va, ca, ba, vs, hc4⟩ := hco4'
        have top4 := hc4.top
        have ce4 := hc4.ce
        have cl := ok.c2
        iterate 10 first | refine iteF ?_ | refine ⟨_, rfl, ?_⟩ | refine ⟨_, _, rfl, rfl, ?_⟩ | refine ⟨rfl, ?_⟩ | refine ⟨_, _, rfl, .inr (SqT.of (by repeat (first | assumption | exact upd_same .. | refine u1 (by assumption) ?_ | refine um (by assumption) ?_ | refine sa (by assumption) ?_))), ?_⟩ | refine ⟨_, _, _, _, rfl, rfl, SqT.of (by repeat (first | assumption | exact upd_same .. | refine u1 (by assumption) ?_ | refine um (by assumption) ?_ | refine sa (by assumption) ?_)), atI_nat (j := 2) rfl, ?_⟩ | refine ⟨_, _, rfl, ?_⟩
        refine ⟨_, _, _, _, false, rfl, .ty _, .base (.int _), kit_ty (by decide +kernel), ?_⟩
        iterate 11 first | refine iteF ?_ | refine ⟨_, rfl, ?_⟩ | refine ⟨rfl, ?_⟩ | refine ⟨_, _, _, _, rfl, rfl, SqT.of (by repeat (first | assumption | exact upd_same .. | refine u1 (by assumption) ?_ | refine um (by assumption) ?_ | refine sa (by assumption) ?_)), atI_nat (j := 0) rfl, ?_⟩ | refine itNF (congrArg V.int (by first | (simp; done) | (simp; omega))) ?_
        refine ⟨co, li, C, is, C.cells.length + 2, by rw [hc4.cs.1]; rfl, hco4, ok, hli, by omega, lim, by omega, by omega, fun X5 s5 => ?_⟩
        have pl := (plain_some (tkI is C.size) er).1
        have hpd5 := s5 _ _ hpd4
        have hdue5 := hdue4.k fun b xs h => s5 _ _ h
        have hco5 := hco4.same s5
        have I5 := I4.same s5
        have T5 := T4.ext s5
        cases eo : run id (tkI is C.size) C.h (8 + C.bank.length) C.cells (m0 C) 0 with
        | none =>
          iterate 9 first | refine iteF ?_ | refine ⟨_, rfl, ?_⟩ | refine ⟨rfl, ?_⟩ | refine ⟨_, _, _, _, rfl, rfl, SqT.of (by repeat (first | assumption | exact upd_same .. | refine u1 (by assumption) ?_ | refine um (by assumption) ?_ | refine sa (by assumption) ?_)), atI_nat (j := 1) rfl, ?_⟩
          refine ⟨co, y, C, u, rfl, hco5, ok, hdue5, fun p q e => ?_, fun l X6 s6 hl6 => ?_⟩
          · rw [e] at er
            exact (th_ok ok er).2
          have hpd6 := s6 _ _ hpd5
          have tl := takes_le C.cells
          refine ⟨_, rfl, ?_⟩
          refine ⟨co, l, C, _, C.cells.length + 2, by rw [hc4.cs.1]; rfl, hco5.same s6, ok, hl6, by rw [part_len]; omega, part_le ok.s2 ok.s4 u, by omega, by omega, fun X7 s7 => ?_⟩
          have hpd7 := s7 _ _ hpd6
          obtain ⟨u2, pp⟩ := plain_part ok er
          rw [pp]
          iterate 5 first | refine ⟨_, rfl, ?_⟩ | refine ⟨rfl, ?_⟩ | refine ⟨_, _, _, _, rfl, rfl, SqT.of (by repeat (first | assumption | exact upd_same .. | refine u1 (by assumption) ?_ | refine um (by assumption) ?_ | refine sa (by assumption) ?_)), atI_nat (j := 0) rfl, ?_⟩ | refine itNF (congrArg V.int (by first | (simp; done) | (simp; omega))) ?_
          exact ⟨⟨_, _, _, _, _, _, _, rfl⟩, I5.same (s6.trans s7), T5.ext (s6.trans s7)⟩
        | some eu =>
          obtain ⟨e', u'⟩ := eu
          have le := pl e' u' eo
          iterate 14 first | refine iteT ?_ | refine ⟨_, rfl, ?_⟩ | refine ⟨_, _, rfl, rfl, ?_⟩ | refine ⟨rfl, ?_⟩ | refine ⟨_, _, _, _, rfl, rfl, SqT.of (by repeat (first | assumption | exact upd_same .. | refine u1 (by assumption) ?_ | refine um (by assumption) ?_ | refine sa (by assumption) ?_)), atI_nat (j := 0) rfl, ?_⟩ | refine ⟨_, _, _, _, rfl, rfl, SqT.of (by repeat (first | assumption | exact upd_same .. | refine u1 (by assumption) ?_ | refine um (by assumption) ?_ | refine sa (by assumption) ?_)), atI_nat (j := 1) rfl, ?_⟩ | refine itF (by omega) ?_
          refine ⟨co, y, C, u, rfl, hco5, ok, hdue5, fun p q e => ?_, fun l X6 s6 hl6 => ?_⟩
          · rw [e] at er
            exact (th_ok ok er).2
          have hpd6 := s6 _ _ hpd5
          have tl := takes_le C.cells
          refine ⟨_, rfl, ?_⟩
          refine ⟨co, l, C, _, C.cells.length + 2, by rw [hc4.cs.1]; rfl, hco5.same s6, ok, hl6, by rw [part_len]; omega, part_le ok.s2 ok.s4 u, by omega, by omega, fun X7 s7 => ?_⟩
          have hpd7 := s7 _ _ hpd6
          obtain ⟨u2, pp⟩ := plain_part ok er
          rw [pp]
          iterate 5 first | refine ⟨_, rfl, ?_⟩ | refine ⟨rfl, ?_⟩ | refine ⟨_, _, _, _, rfl, rfl, SqT.of (by repeat (first | assumption | exact upd_same .. | refine u1 (by assumption) ?_ | refine um (by assumption) ?_ | refine sa (by assumption) ?_)), atI_nat (j := 0) rfl, ?_⟩ | refine itNF (congrArg V.int (by first | (simp; done) | (simp; omega))) ?_
          exact ⟨⟨_, _, _, _, _, _, _, rfl⟩, I5.same (s6.trans s7), T5.ext (s6.trans s7)⟩
    · obtain ⟨⟨x2, x3, x4, x5, x6, x7, x8, rfl⟩, I, hT⟩ := q
      exact k _
end Hw
namespace Hw
open PySem PySem.Spec PyProof.Rows L2 LamX
section
variable {K : PySem.W.Frag} {h : Heap} {mg : Str → Option Value}
theorem int_of {x : Str} {i : Int} (e : ∃ t, mg x = some (.int i t)) : ∃ u, mg x = some u ∧ RelV (.int i) u := let ⟨t, e⟩ := e; ⟨_, e, t, rfl⟩
theorem isDef_of {x : Str} {st : Stmt} (X : K.In h) (G : h.Ns mainGlobals mg) (c : He.SaysD hFa hFn K) (i j : Nat) (hd : hFn[i]? = some ⟨(x, none), x, x, defArgs st, defBody st, defScope st, [], []⟩) (hf : hFa[j]? = some (.glo x)) : IsDef K mg x st := by
  obtain ⟨fd, F⟩ := c.def_ i hd
  exact ⟨_, fd, F, He.glo_ok X G (c.fact j hf)⟩
theorem isMet_of {C m q : Str} {st : Stmt} (c : He.SaysD hFa hFn K) (i j : Nat) (hd : hFn[i]? = some ⟨(C, some m), m, q, defArgs st, defBody st, defScope st, [], []⟩) (hf : hFa[j]? = some (.meth C m)) : IsMet K (He.ga K C) m q st := by
  obtain ⟨fd, F⟩ := c.def_ i hd
  exact ⟨_, fd, F, He.meth_ok (c.fact j hf)⟩
theorem isInit_of {C q : Str} {st : Stmt} (c : He.SaysD hFa hFn K) (i j : Nat) (hd : hFn[i]? = some ⟨(C, some "__init__"), "__init__", q, defArgs st, defBody st, defScope st, [], []⟩) (hf : hFa[j]? = some (.mkr C)) : IsInit K (He.ga K C) q st := by
  obtain ⟨fd, F⟩ := c.def_ i hd
  exact ⟨_, fd, F, He.mkr_ok (c.fact j hf)⟩
theorem txt_of (X : K.In h) (G : h.Ns mainGlobals mg) (c : He.SaysD hFa hFn K) : Txt K mg where
  b_len := He.free_ok X G (c.fact 0 rfl)
  b_isinstance := He.free_ok X G (c.fact 1 rfl)
  b_int := He.free_ok X G (c.fact 2 rfl)
  b_bool := He.free_ok X G (c.fact 3 rfl)
  b_str := He.free_ok X G (c.fact 4 rfl)
  b_list := He.free_ok X G (c.fact 5 rfl)
  b_tuple := He.free_ok X G (c.fact 6 rfl)
  b_dict := He.free_ok X G (c.fact 7 rfl)
  b_range := He.free_ok X G (c.fact 8 rfl)
  b_enumerate := He.free_ok X G (c.fact 9 rfl)
  b_sorted := He.free_ok X G (c.fact 10 rfl)
  b_min := He.free_ok X G (c.fact 11 rfl)
  b_abs := He.free_ok X G (c.fact 12 rfl)
  b_super := He.free_ok X G (c.fact 13 rfl)
  b_ValueError := He.free_ok X G (c.fact 14 rfl)
  g_LEAST_SIZE := int_of (He.int_ok X G (c.fact 15 rfl))
  g_MOST_SIZE := int_of (He.int_ok X G (c.fact 16 rfl))
  g_MOST_PORT := int_of (He.int_ok X G (c.fact 17 rfl))
  g_MOST_INPUTS := int_of (He.int_ok X G (c.fact 18 rfl))
  g_MOST_INPUT := int_of (He.int_ok X G (c.fact 19 rfl))
  g_MOST_HUES := int_of (He.int_ok X G (c.fact 20 rfl))
  g_MOST_BANK := int_of (He.int_ok X G (c.fact 21 rfl))
  g_MOST_CELLS := int_of (He.int_ok X G (c.fact 22 rfl))
  g_MANY_REGISTERS := int_of (He.int_ok X G (c.fact 23 rfl))
  g_MOST_STRIKES := int_of (He.int_ok X G (c.fact 24 rfl))
  g_MOST_STEPS := int_of (He.int_ok X G (c.fact 25 rfl))
  g_MOST_POINTER := int_of (He.int_ok X G (c.fact 26 rfl))
  g_REGISTERS := int_of (He.int_ok X G (c.fact 27 rfl))
  g_MOST_TRIES := int_of (He.int_ok X G (c.fact 28 rfl))
  d_is_whole := isDef_of X G c 0 29 rfl rfl
  d_is_from := isDef_of X G c 1 30 rfl rfl
  d_are_inputs := isDef_of X G c 2 31 rfl rfl
  d_is_votes := isDef_of X G c 3 32 rfl rfl
  d_are_registers := isDef_of X G c 4 33 rfl rfl
  d_instruction_fits := isDef_of X G c 5 34 rfl rfl
  d_settle_fits := isDef_of X G c 6 35 rfl rfl
  d_is_settle := isDef_of X G c 7 36 rfl rfl
  d_cell_fits := isDef_of X G c 8 37 rfl rfl
  d_is_code := isDef_of X G c 9 38 rfl rfl
  d_need_code := isDef_of X G c 10 39 rfl rfl
  d_first_misfit := isDef_of X G c 11 40 rfl rfl
  d_is_strike_list := isDef_of X G c 12 41 rfl rfl
  d_need_strikes := isDef_of X G c 13 42 rfl rfl
  d_settled := isDef_of X G c 14 43 rfl rfl
  d_walked := isDef_of X G c 15 44 rfl rfl
  d_start_table := isDef_of X G c 16 45 rfl rfl
  d_joints := isDef_of X G c 17 46 rfl rfl
  d_made_paper := isDef_of X G c 18 47 rfl rfl
  d_need_inputs := isDef_of X G c 19 48 rfl rfl
  d_need_steps := isDef_of X G c 20 49 rfl rfl
  d_most_agreed := isDef_of X G c 21 50 rfl rfl
  d_machine_address := isDef_of X G c 22 51 rfl rfl
  d_machine_step := isDef_of X G c 23 52 rfl rfl
  d_point_all := isDef_of X G c 24 53 rfl rfl
  d_empty_slots := isDef_of X G c 25 54 rfl rfl
  d_settle_done := isDef_of X G c 26 55 rfl rfl
  d_mark_done := isDef_of X G c 27 56 rfl rfl
  d_is_unanimous := isDef_of X G c 28 57 rfl rfl
  d_first_parting := isDef_of X G c 29 58 rfl rfl
  d__law_begun := isDef_of X G c 30 59 rfl rfl
  d__law_mixed := isDef_of X G c 31 60 rfl rfl
  d__law_draw := isDef_of X G c 32 61 rfl rfl
  d__law_pick := isDef_of X G c 33 62 rfl rfl
  d__law_caught := isDef_of X G c 34 63 rfl rfl
  d__law_number := isDef_of X G c 35 64 rfl rfl
  d__law_size := isDef_of X G c 36 65 rfl rfl
  d__law_inputs := isDef_of X G c 37 66 rfl rfl
  d__law_votes := isDef_of X G c 38 67 rfl rfl
  d__law_pp_tidy := isDef_of X G c 39 68 rfl rfl
  d__law_pp_grouped := isDef_of X G c 40 69 rfl rfl
  d__law_pp_start := isDef_of X G c 41 70 rfl rfl
  d__law_pp_told := isDef_of X G c 42 71 rfl rfl
  d__law_copy_step := isDef_of X G c 43 72 rfl rfl
  d__law_copy_block := isDef_of X G c 44 73 rfl rfl
  d__law_copying_code := isDef_of X G c 45 74 rfl rfl
  d__law_copy_unlike := isDef_of X G c 46 75 rfl rfl
  d__law_copy_cell := isDef_of X G c 47 76 rfl rfl
  d__law_copy_marked := isDef_of X G c 48 77 rfl rfl
  d__law_copy_walk := isDef_of X G c 49 78 rfl rfl
  d__law_parting_inputs := isDef_of X G c 50 79 rfl rfl
  cl_Symbols := He.cls_ok (c.fact 80 rfl)
  mg_Symbols := He.glo_ok X G (c.fact 81 rfl)
  no_Symbols_size := He.noat_ok (c.fact 82 rfl)
  no_Symbols_found := He.noat_ok (c.fact 83 rfl)
  no_Symbols_numbers := He.noat_ok (c.fact 84 rfl)
  m_Symbols_made := isMet_of c 51 85 rfl rfl
  m_Symbols_plain := isMet_of c 52 86 rfl rfl
  m_Symbols_letter := isMet_of c 53 87 rfl rfl
  i_Symbols := isInit_of c 54 88 rfl rfl
  cl_Walk := He.cls_ok (c.fact 89 rfl)
  mg_Walk := He.glo_ok X G (c.fact 90 rfl)
  no_Walk_hues := He.noat_ok (c.fact 91 rfl)
  no_Walk_symbols := He.noat_ok (c.fact 92 rfl)
  no_Walk_spots := He.noat_ok (c.fact 93 rfl)
  no_Walk_offered := He.noat_ok (c.fact 94 rfl)
  m_Walk_instruct := isMet_of c 55 95 rfl rfl
  m_Walk_known := isMet_of c 56 96 rfl rfl
  m_Walk_read := isMet_of c 57 97 rfl rfl
  m_Walk_write := isMet_of c 58 98 rfl rfl
  m_Walk_agreed := isMet_of c 59 99 rfl rfl
  m_Walk_are_alike := isMet_of c 60 100 rfl rfl
  m_Walk_take := isMet_of c 61 101 rfl rfl
  i_Walk := isInit_of c 62 102 rfl rfl
  cl_Ended := He.cls_ok (c.fact 103 rfl)
  mg_Ended := He.glo_ok X G (c.fact 104 rfl)
  no_Ended_word := He.noat_ok (c.fact 105 rfl)
  no_Ended_address := He.noat_ok (c.fact 106 rfl)
  no_Ended_goals := He.noat_ok (c.fact 107 rfl)
  no_Ended_walk := He.noat_ok (c.fact 108 rfl)
  i_Ended := isInit_of c 63 109 rfl rfl
  cl_HueState := He.cls_ok (c.fact 110 rfl)
  mg_HueState := He.glo_ok X G (c.fact 111 rfl)
  no_HueState_m_registers := He.noat_ok (c.fact 112 rfl)
  no_HueState_m_bank := He.noat_ok (c.fact 113 rfl)
  no_HueState_m_pointer := He.noat_ok (c.fact 114 rfl)
  no_HueState_m_slot := He.noat_ok (c.fact 115 rfl)
  no_HueState_m_changed := He.noat_ok (c.fact 116 rfl)
  m_HueState_instructed := isMet_of c 64 117 rfl rfl
  i_HueState := isInit_of c 65 118 rfl rfl
  cl_Machine := He.cls_ok (c.fact 119 rfl)
  mg_Machine := He.glo_ok X G (c.fact 120 rfl)
  no_Machine_m_code := He.noat_ok (c.fact 121 rfl)
  no_Machine_m_hues := He.noat_ok (c.fact 122 rfl)
  no_Machine_m_left := He.noat_ok (c.fact 123 rfl)
  no_Machine_m_strikes := He.noat_ok (c.fact 124 rfl)
  no_Machine_m_row := He.noat_ok (c.fact 125 rfl)
  no_Machine_m_steps := He.noat_ok (c.fact 126 rfl)
  no_Machine_m_state := He.noat_ok (c.fact 127 rfl)
  no_Machine_address := He.noat_ok (c.fact 128 rfl)
theorem isDefC_of {x : Str} {st : Stmt} (X : K.In h) (G : h.Ns mainGlobals mg) (c : He.SaysD hFa hFn K) (i j : Nat) (hd : hFn[i]? = some ⟨(x, none), x, x, defArgs st, defBody st, defScope st, [], []⟩) (hf : hFa[j]? = some (.glo x)) : IsDefC K mg x st (He.cT K (x, none)).1 := by
  obtain ⟨fd, F⟩ := c.def_ i hd
  refine ⟨_, fd, F, He.glo_ok X G (c.fact j hf), ?_⟩
  obtain ⟨oc, od, dV, kV, doc, pm, an, cdv, ct, osl, rfl, lk, hcd, _, _⟩ := F.ex
  obtain ⟨c0, e0⟩ := He.codeIn_ref hcd
  have e1 : He.codeOf K (x, none) = c0 := He.codeOf_eq lk e0
  show cdv = .ref (He.codeOf K (x, none))
  rw [e0, e1]
theorem oex_of {C : Addr} (e : oexB K C = true) : OexC K C := by
  obtain ⟨e, e2⟩ := He.ba e
  obtain ⟨a1, e2⟩ := He.ba e2
  obtain ⟨a2, e2⟩ := He.ba e2
  obtain ⟨a3, a4⟩ := He.ba e2
  refine ⟨?_, He.eqO_ok a1, of_decide_eq_true a2, of_decide_eq_true a3, a4⟩
  split at e
  · rename_i t dd cd sl lk
    split at e
    · rename_i D bm k0 k1 k2 k3 n k5 em es
      obtain ⟨b1, e⟩ := He.ba e
      obtain ⟨b2, e⟩ := He.ba e
      obtain ⟨b3, e⟩ := He.ba e
      obtain ⟨b4, e⟩ := He.ba e
      obtain ⟨b5, b6⟩ := He.ba e
      have c1 := of_decide_eq_true b1
      have c2 := of_decide_eq_true b2
      have c3 := of_decide_eq_true b3
      obtain ⟨nm, bs, mro, ns, q, hd, sn, sub, ab, col, del⟩ := cd
      dsimp only at em b4 b5
      subst c1 c2 c3 em b5
      have b4' : del = false := by simpa using b4
      subst b4'
      refine ⟨nm, q, ns, bs, bm, sn, sub, ab, col, dd, k0, k1, k2, k3, k5, ?_, b6⟩
      rw [lk]
      have : sl = #[k0, k1, k2, k3, some (.builtin "ValueError.__new__"), k5] := by
        have := congrArg List.toArray es
        simpa using this
      rw [this]
    · cases e
  · cases e
theorem np_of {file : Str} (e : npB file K = true) (o : npObs K = npVal) : ∃ (cda cc : Addr) (oc : Value) (od : Option Addr) (doc pm ctv : Value) (osl : Array (Option Value)), K.lookup (fI K) = some ⟨oc, od, .func ((NFn cda cc).fd doc pm ctv), osl⟩ ∧ PySem.W.codeIn K (.ref cda) "NoPaper.__init__" = true ∧
    (∃ (a : Value) (b : Option Addr) (vs : Array Value) (c : Array (Option Value)) (f : Str) (tf : Tok), K.lookup cda = some ⟨a, b, .fields vs, c⟩ ∧ vs[2]? = some (.str f tf) ∧ (file == f) = true) ∧
    ∃ (a : Value) (b : Option Addr) (c : Array (Option Value)), K.lookup cc = some ⟨a, b, .cell (some (.ref (CN K))), c⟩ := by
  unfold npB at e
  unfold npObs at o
  split at e
  · rename_i oc od fd osl lk
    rw [lk] at o
    obtain ⟨n1, n2, n3, n4, n5, n6, n7, n8, n9, n10, n11, n12, n13, n14, n15⟩ := fd
    dsimp only at e o
    split at e
    · rename_i x cc cd
      have o' : (n1, n2, n3, n4, n5, n6, [x], n8, n9, n12, n15) = (("__init__" : Str), ("NoPaper.__init__" : Str), defArgs sNP, FuncBody.stmts (defBody sNP), defScope sNP, mainGlobals, [("__class__" : Str)], Value.none, Value.none, (none : Option Addr), builtinsNs) := Option.some.inj o
      simp only [Prod.mk.injEq, List.cons.injEq, and_true] at o'
      obtain ⟨q1, q2, q3, q4, q5, q6, q7, q8, q9, q10, q11⟩ := o'
      subst q1 q2 q3 q4 q5 q6 q7 q8 q9 q10 q11
      obtain ⟨a1, e⟩ := He.ba e
      obtain ⟨a2, a3⟩ := He.ba e
      refine ⟨cd, cc, oc, od, n10, n11, n14, osl, lk, a1, ?_, ?_⟩
      · split at a2
        · rename_i a b vs c l2
          split at a2
          · rename_i f tf l3
            exact ⟨a, b, vs, c, f, tf, l2, l3, a2⟩
          · cases a2
        · cases a2
      · split at a3
        · rename_i a b ad c l2
          rw [← of_decide_eq_true a3]
          exact ⟨a, b, c, l2⟩
        · cases a3
    · cases e
  · cases e
theorem tup_of {a : Addr} (e : tupE K a = true) : ∃ (o : Obj) (n : Nat), K.lookup a = some o ∧ o.cls = .type "tuple" ∧ o.data = .seq #[] n := by
  unfold tupE at e
  split at e
  · rename_i t d its n sl lk
    obtain ⟨a1, a2⟩ := He.ba e
    rw [of_decide_eq_true a1, Array.isEmpty_iff.mp a2] at lk
    exact ⟨_, n, lk, rfl, rfl⟩
  · cases e
end
abbrev hP : Program := hR.prog
theorem facts {w : World} {h : Heap} {mg : Str → Option Value} {fa : Addr} {K : PySem.W.Frag} (X : K.In h) (S : SaysN hEx1 w h K) (G : h.Ns mainGlobals mg) (hfa : mg ("law" : Str) = some (.ref fa)) :
    LawAtS PySem.Challenge.rw_hueward_k35_whole_copying_codes_exactly w K C8.CX0 13 63 "_law_script" mg fa h := by
  have c := S.x.t.d
  have T := txt_of X G c
  have ex := S.x.more
  obtain ⟨x1, ex⟩ := He.ba ex
  obtain ⟨x2, ex⟩ := He.ba ex
  obtain ⟨x3, ex⟩ := He.ba ex
  obtain ⟨x4, ex⟩ := He.ba ex
  obtain ⟨x5, ex⟩ := He.ba ex
  obtain ⟨x6, ex⟩ := He.ba ex
  obtain ⟨x7, ex⟩ := He.ba ex
  obtain ⟨x8, ex⟩ := He.ba ex
  obtain ⟨x9, ex⟩ := He.ba ex
  obtain ⟨x10, ex⟩ := He.ba ex
  obtain ⟨x11, ex⟩ := He.ba ex
  obtain ⟨x12, ex⟩ := He.ba ex
  obtain ⟨x13, ex⟩ := He.ba ex
  obtain ⟨x14, ex⟩ := He.ba ex
  obtain ⟨x15, x16⟩ := He.ba ex
  have oex := oex_of x1
  have N : NPF hP K mg := ⟨np_of x2 S.np, oex, He.eqO_ok x6, of_decide_eq_true x7, He.eqO_ok x8, He.eqO_ok x9, of_decide_eq_true x10, He.eqO_ok x11, He.glo_ok X G (c.fact 131 rfl), He.free_ok X G (c.fact 13 rfl), He.glo_ok X G (c.fact 132 rfl), of_decide_eq_true x12, by kernel_rfl⟩
  have xf := xfB_ok x4
  obtain ⟨y1, x5⟩ := He.ba x5
  obtain ⟨y2, x5⟩ := He.ba x5
  obtain ⟨y3, y4⟩ := He.ba x5
  have Z : NPX K := ⟨xf, ⟨xf.ga, xf.gg, xf.exC, xf.hdC, He.eqO_ok y1, He.eqO_ok y2, of_decide_eq_true y3, of_decide_eq_true y4⟩, He.exm_ok (c.fact 133 rfl), of_decide_eq_true x13⟩
  obtain ⟨fdm, Fm⟩ := c.def_ 66 rfl
  have ME : MkM K mg (He.dflAt ("Machine", some "__init__") 0 K) := ⟨⟨_, fdm, Fm, He.mkr_ok (c.fact 129 rfl)⟩, tup_of x3⟩
  obtain ⟨fd, F⟩ := c.def_ 67 rfl
  have e := hfa.symm.trans (He.glo_ok X G (c.fact 130 rfl))
  cases e
  have t1 : (("start_table", none) : He.Defn) ∈ hTf := List.mem_cons_self ..
  have t2 : (("_law_pp_tidy", none) : He.Defn) ∈ hTf := List.mem_cons_of_mem _ (List.mem_cons_self ..)
  have t3 : (("_law_pp_told", none) : He.Defn) ∈ hTf := List.mem_cons_of_mem _ (List.mem_cons_of_mem _ (List.mem_cons_self ..))
  have b := FunD.bindsA (ps := ["_law_script"]) F fun _ _ _ _ _ _ us hl => match us, hl with | [_], _ => rfl
  refine ⟨fd, [He.cT K ("start_table", none), He.cT K ("_law_pp_tidy", none), He.cT K ("_law_pp_told", none)], sp_law K, ?_, ?_, ?_, fun s u => b s [u] rfl, fun H a ns hl _ hH hS => ⟨a, ns, rfl, hS, hl, fun p hp => ?_, fun _ => rfl⟩, fun base KB nb tb => ?_⟩
  · intro p hp
    rcases List.mem_cons.mp hp with rfl | hp
    · exact S.x.empty _ t1
    rcases List.mem_cons.mp hp with rfl | hp
    · exact S.x.empty _ t2
    rw [List.mem_singleton.mp hp]
    exact S.x.empty _ t3
  · intro p hp
    rcases List.mem_cons.mp hp with rfl | hp
    · exact S.x.out _ t1
    rcases List.mem_cons.mp hp with rfl | hp
    · exact S.x.out _ t2
    rw [List.mem_singleton.mp hp]
    exact S.x.out _ t3
  · intro p hp
    rcases List.mem_cons.mp hp with rfl | hp
    · exact PySem.W.codeHd_of_K X (S.x.hd _ t1)
    rcases List.mem_cons.mp hp with rfl | hp
    · exact PySem.W.codeHd_of_K X (S.x.hd _ t2)
    rw [List.mem_singleton.mp hp]
    exact PySem.W.codeHd_of_K X (S.x.hd _ t3)
  · rcases tt_cases hp with rfl | rfl | rfl
    · exact TabS.nil (hH _ (List.mem_cons_self ..))
    · exact TabS.nil (hH _ (List.mem_cons_of_mem _ (List.mem_cons_self ..)))
    · exact TabS.nil (hH _ (List.mem_cons_of_mem _ (List.mem_cons_of_mem _ (List.mem_cons_self ..))))
  · have La : Lams K mg base := ⟨tb _ (List.mem_cons_self ..), tb _ (List.mem_cons_of_mem _ (List.mem_cons_self ..)), tb _ (List.mem_cons_of_mem _ (List.mem_cons_of_mem _ (List.mem_cons_self ..))), of_decide_eq_true x14, of_decide_eq_true x15, of_decide_eq_true x16,
      isDefC_of X G c 16 45 rfl rfl, isDefC_of X G c 39 68 rfl rfl, isDefC_of X G c 42 71 rfl rfl⟩
    exact law_ok T La N Z ME F
end Hw
open PySem PySem.W PySem.Calls PyProof.Rows
theorem PySem.Challenge.cw_hueward_k35_whole_copying_codes_exactly_holds : PySem.Challenge.rw_hueward_k35_whole_copying_codes_exactly.Holds := by
  w_on; o_law
  refine HandSHeadRun.head_any (r := Hw.hR) (q := view Hw.hR.prog [99]) (H := Hw.hkN Hw.hEx1) (ob := Hw.hOb) (M := 20000) (loose := Hw.hN1 ++ Hw.hN2 ++ Hw.hN3) (d := HandSHeadRun.topDef Hw.hR.prog 99) (kwd := []) Hw.hOb_eq
    (by kernel_rfl) (fun s => by kernel_rfl) Hw.head_run (by kernel_rfl) (by kernel_rfl) (by kernel_rfl) (by rfl) (by first | assumption | decide +kernel) (by decide +kernel) ⟨rfl, rfl, rfl, rfl, rfl, by decide +kernel⟩ ?hw ?hc
  case hw => w_witness2
  case hc =>
    refine LamX.walk_ofTsE (l := PySem.Challenge.rw_hueward_k35_whole_copying_codes_exactly) (n := 63) (k := 13) (x := "_law_script") (CX := fun _ => C8.CX0) rfl (by decide) (by kernel_rfl) ⟨rfl, by decide, by decide⟩ ?F (fun _ _ _ _ _ z => z)
    intro w mg fa h Y G hmg0
    obtain ⟨K, KX, S⟩ := Y
    have hmg : mg ("law" : PySem.Str) = some (.ref fa) := by
      have e : (HandSHeadRun.topDef Hw.hR.prog 99).name = ("law" : PySem.Str) := by kernel_rfl
      rw [← e]
      exact hmg0
    exact ⟨K, KX, Hw.facts KX S G hmg⟩
