import PyProof.Rows.All
import Wide.All
import OpenK.AllK
import Wide.FinOn
import PyProof.EqAt
import PyProof.EqKinds
import PyProof.TupleCall
import Open.SpecLaws
import KE.OsGo
import HandS.ForSpec
import HandS.Comp
import HandS.Dict
import HandS.Iter
import HandS.Walk
import HandS.Deep
import HandS.Style
import HandS.TupMul
import HandS.SetFor
import HandS.CallLocal
import HandS.ExcInit
import HandS.ExcField
import HandS.Codes
import KE.GoesMore
import KE.GoesEnum
import PySem.Challenge.RW_sharedspins_s01_answers
set_option Elab.async false
set_option linter.all false
set_option maxRecDepth 100000
set_option maxHeartbeats 4000000
namespace Ss
open PySem PySem.Spec PyProof.Rows L2
/-! ### a def of the text under its name; a method of a class; an __init__ -/
structure GDef (K : PySem.W.Frag) (mg : Str → Option Value) (nm : Str) (ps : List Str) (st : Stmt) : Prop where
  ex : ∃ (f : Addr) (fd : FuncData), mg nm = some (.ref f) ∧ PySem.W.keepIn K (.ref f) = true ∧ L2.Fun K nm nm st f fd ∧ Binds K fd ps []
structure MDef (K : PySem.W.Frag) (C : Addr) (nm qual : Str) (ps : List Str) (st : Stmt) : Prop where
  ex : ∃ (f : Addr) (fd : FuncData), Meth K C nm f ∧ L2.Fun K nm qual st f fd ∧ Binds K fd ps []
structure IDef (K : PySem.W.Frag) (C : Addr) (qual : Str) (ps : List Str) (st : Stmt) : Prop where
  ex : ∃ (f : Addr) (fd : FuncData), Mk K C f ∧ L2.Fun K "__init__" qual st f fd ∧ Binds K fd ps []
structure RDef (K : PySem.W.Frag) (C : Addr) (qual : Str) (ps : List Str) (st : Stmt) : Prop where
  ex : ∃ (f : Addr) (fd : FuncData), PySem.W.findIn K (.ref C) "__init__" = some (some (.ref f)) ∧ PySem.W.typeIn K (.ref f) = some (.type "function") ∧ L2.Fun K "__init__" qual st f fd ∧ Binds K fd ps []
/-- a name of the module, by its value -/
def GK (mg : Str → Option Value) (nm : Str) (v : V) : Prop := ∃ u, mg nm = some u ∧ RelV v u
/-- a tuple of the written part -/
def KTup (K : PySem.W.Frag) (a : Addr) (xs : List V) : Prop :=
  ∃ (o : Obj) (its : Array Value) (n : Nat), K.lookup a = some o ∧ o.cls = .type "tuple" ∧ o.data = .seq its n ∧ its.size ≤ sizeLine ∧ Vals xs its.toList
theorem KTup.sq {K : PySem.W.Frag} {H : Hp} {a : Addr} {xs : List V} (h : KTup K a xs) : SqT K H a xs := .inr h
theorem ktup_mk {K : PySem.W.Frag} {a : Addr} {od : Option Addr} {its : Array Value} {n : Nat} {sl : Array (Option Value)} {xs : List V} (l : K.lookup a = some ⟨.type "tuple", od, .seq its n, sl⟩) (hz : its.size ≤ 100) (h : Vals xs its.toList) : KTup K a xs :=
  ⟨_, its, n, l, rfl, rfl, Nat.le_trans hz (by decide), h⟩
section
variable {K : PySem.W.Frag} {h : Heap} {mg : Str → Option Value} {f C : Addr} {nm qual : Str} {ps : List Str} {st : Stmt} {oc : Value} {od an : Option Addr} {osl : Array (Option Value)} {kV doc pm cdv ct : Value}
theorem gdef_mk (X : K.In h) (G : h.Ns mainGlobals mg) (a : PySem.W.nsIn K mainGlobals nm = some (some (.ref f)))
    (l : K.lookup f = some ⟨oc, od, .func (PySem.W.fnOf nm nm (defArgs st) (defBody st) (defScope st) .none kV doc pm an cdv ct), osl⟩) (c : PySem.W.codeIn K cdv nm = true) (k : PySem.W.keepIn K (.ref f) = true)
    (hb : ∀ (kV doc pm : Value) (an : Option Addr) (cdv ct : Value) (us : List Value), us.length = ps.length → bindArgs (PySem.W.fnOf nm nm (defArgs st) (defBody st) (defScope st) .none kV doc pm an cdv ct) ⟨us, []⟩ = pure (ps.zip us)) : GDef K mg nm ps st :=
  ⟨f, _, PySem.W.mg_of X G a, k, fun_mk l c k, (fun_mk l c k).binds hb⟩
theorem mdef_mk (a : PySem.W.findIn K (.ref C) nm = some (some (.ref f))) (i : PySem.W.isFn K (.ref f) = true)
    (l : K.lookup f = some ⟨oc, od, .func (PySem.W.fnOf nm qual (defArgs st) (defBody st) (defScope st) .none kV doc pm an cdv ct), osl⟩) (c : PySem.W.codeIn K cdv qual = true) (k : PySem.W.keepIn K (.ref f) = true)
    (hb : ∀ (kV doc pm : Value) (an : Option Addr) (cdv ct : Value) (us : List Value), us.length = ps.length → bindArgs (PySem.W.fnOf nm qual (defArgs st) (defBody st) (defScope st) .none kV doc pm an cdv ct) ⟨us, []⟩ = pure (ps.zip us)) : MDef K C nm qual ps st :=
  ⟨f, _, ⟨a, i, k⟩, fun_mk l c k, (fun_mk l c k).binds hb⟩
theorem idef_mk (m : PySem.W.makesIn K C = true) (a : PySem.W.findIn K (.ref C) "__init__" = some (some (.ref f))) (i : PySem.W.isFn K (.ref f) = true) (kc : PySem.W.keepIn K (.ref C) = true)
    (l : K.lookup f = some ⟨oc, od, .func (PySem.W.fnOf "__init__" qual (defArgs st) (defBody st) (defScope st) .none kV doc pm an cdv ct), osl⟩) (c : PySem.W.codeIn K cdv qual = true) (k : PySem.W.keepIn K (.ref f) = true)
    (hb : ∀ (kV doc pm : Value) (an : Option Addr) (cdv ct : Value) (us : List Value), us.length = ps.length → bindArgs (PySem.W.fnOf "__init__" qual (defArgs st) (defBody st) (defScope st) .none kV doc pm an cdv ct) ⟨us, []⟩ = pure (ps.zip us)) : IDef K C qual ps st :=
  ⟨f, _, ⟨m, a, i, kc⟩, fun_mk l c k, (fun_mk l c k).binds hb⟩
theorem rdef_mk (a : PySem.W.findIn K (.ref C) "__init__" = some (some (.ref f))) (i : PySem.W.typeIn K (.ref f) = some (.type "function"))
    (l : K.lookup f = some ⟨oc, od, .func (PySem.W.fnOf "__init__" qual (defArgs st) (defBody st) (defScope st) .none kV doc pm an cdv ct), osl⟩) (c : PySem.W.codeIn K cdv qual = true) (k : PySem.W.keepIn K (.ref f) = true)
    (hb : ∀ (kV doc pm : Value) (an : Option Addr) (cdv ct : Value) (us : List Value), us.length = ps.length → bindArgs (PySem.W.fnOf "__init__" qual (defArgs st) (defBody st) (defScope st) .none kV doc pm an cdv ct) ⟨us, []⟩ = pure (ps.zip us)) : RDef K C qual ps st :=
  ⟨f, _, a, i, fun_mk l c k, (fun_mk l c k).binds hb⟩
theorem gk_int {i : Int} {t : Tok} (X : K.In h) (G : h.Ns mainGlobals mg) (a : PySem.W.nsIn K mainGlobals nm = some (some (.int i t))) : GK mg nm (.int i) := ⟨_, PySem.W.mg_of X G a, ⟨t, rfl⟩⟩
theorem gk_ref {c : Addr} (X : K.In h) (G : h.Ns mainGlobals mg) (a : PySem.W.nsIn K mainGlobals nm = some (some (.ref c))) : GK mg nm (.ref c) := ⟨_, PySem.W.mg_of X G a, rfl⟩
end
section
variable {K : PySem.W.Frag} {mg : Str → Option Value} {C : Addr}
theorem exm_self {S : Addr} (h1 : PySem.W.subIn K (.ref S) (.type "BaseException") = some true) (h2 : PySem.W.isClsIn K S = true) (h3 : PySem.W.typeIn K (.ref S) = some (.type "type")) (h4 : PySem.W.subIn K (.ref S) (.ref S) = some true) :
    PySem.W.exmOne K (.ref S) (.ref S) = some true := by
  have e1 : (PySem.W.subIn K (.ref S) (.type "BaseException") == some true) = true := by rw [h1] <;> rfl
  have e2 : ((PySem.W.clsIn K S).isSome && PySem.W.typeIn K (.ref S) == some (.type "type")) = true := by
    have h2' : (PySem.W.clsIn K S).isSome = true := h2
    rw [h2', h3] <;> rfl
  show (if (PySem.W.subIn K (.ref S) (.type "BaseException") == some true) = true then (if ((PySem.W.clsIn K S).isSome && PySem.W.typeIn K (.ref S) == some (.type "type")) = true then PySem.W.subIn K (.ref S) (.ref S) else none) else none) = some true
  rw [if_pos e1, if_pos e2]
  exact h4
theorem oex_mk {nm q : Str} {N : Addr} {bs : List Value} {sn : List Str} {sub : List Value} {ab : Bool} {col : Option Bool} {dd : Option Addr} {m0 m1 m2 m3 m5 : Option Value}
    (x : K.lookup C = some (excClassObj nm q C N bs [.type "ValueError", .type "Exception", .type "BaseException", .type "object"] true sn sub ab col dd m0 m1 m2 m3 m5 "ValueError.__new__"))
    (s : PySem.W.findIn K (.ref C) "__setattr__" = some (some (.builtin "object.__setattr__"))) (e : PySem.W.subIn K (.ref C) (.type "BaseException") = some true) (t : PySem.W.typeIn K (.ref C) = some (.type "type")) (k : PySem.W.keepIn K (.ref C) = true) : OexC K C :=
  ⟨⟨nm, q, N, bs, _, sn, sub, ab, col, dd, m0, m1, m2, m3, m5, x, by decide +kernel⟩, s, e, t, k⟩
end
/-! ### the text by places -/
def top (i : Nat) : Stmt := PySem.Challenge.pw_sharedspins_s01_answers.main.body.getD i (.Pass ⟨0, 0, 0, 0⟩)
abbrev s_are_letters : Stmt := top 6
abbrev N_are_letters : List Str := ["row", "many", "one"]
theorem sc_are_letters : FnScope N_are_letters ["row", "many"] (defScope s_are_letters) := C8.fnScope_by (by decide +kernel)
abbrev s_letter_made : Stmt := top 7
abbrev N_letter_made : List Str := ["one", "other"]
theorem sc_letter_made : FnScope N_letter_made ["one", "other"] (defScope s_letter_made) := C8.fnScope_by (by decide +kernel)
abbrev s_turns_made : Stmt := top 8
abbrev N_turns_made : List Str := ["one", "other"]
theorem sc_turns_made : FnScope N_turns_made ["one", "other"] (defScope s_turns_made) := C8.fnScope_by (by decide +kernel)
abbrev s_are_unlike : Stmt := top 9
abbrev N_are_unlike : List Str := ["one", "other"]
theorem sc_are_unlike : FnScope N_are_unlike ["one", "other"] (defScope s_are_unlike) := C8.fnScope_by (by decide +kernel)
abbrev s_go_together : Stmt := top 10
abbrev N_go_together : List Str := ["one", "other", "unlike", "at"]
theorem sc_go_together : FnScope N_go_together ["one", "other"] (defScope s_go_together) := C8.fnScope_by (by decide +kernel)
abbrev s_bare : Stmt := top 11
abbrev N_bare : List Str := ["many"]
theorem sc_bare : FnScope N_bare ["many"] (defScope s_bare) := C8.fnScope_by (by decide +kernel)
abbrev s_product : Stmt := top 12
abbrev N_product : List Str := ["some", "many", "sign", "turns", "letters", "one", "at"]
theorem sc_product : FnScope N_product ["some", "many"] (defScope s_product) := C8.fnScope_by (by decide +kernel)
abbrev s_are_bits : Stmt := top 14
abbrev N_are_bits : List Str := ["row", "one"]
theorem sc_are_bits : FnScope N_are_bits ["row"] (defScope s_are_bits) := C8.fnScope_by (by decide +kernel)
abbrev s_bit_at : Stmt := top 15
abbrev N_bit_at : List Str := ["number", "place"]
theorem sc_bit_at : FnScope N_bit_at ["number", "place"] (defScope s_bit_at) := C8.fnScope_by (by decide +kernel)
abbrev s_number_of_bits : Stmt := top 16
abbrev N_number_of_bits : List Str := ["row", "found", "place", "one"]
theorem sc_number_of_bits : FnScope N_number_of_bits ["row"] (defScope s_number_of_bits) := C8.fnScope_by (by decide +kernel)
abbrev s_bits_of_number : Stmt := top 17
abbrev N_bits_of_number : List Str := ["number", "many", "place"]
theorem sc_bits_of_number : FnScope N_bits_of_number ["number", "many"] (defScope s_bits_of_number) := C8.fnScope_by (by decide +kernel)
abbrev s_odd_of : Stmt := top 18
abbrev N_odd_of : List Str := ["number", "many"]
theorem sc_odd_of : FnScope N_odd_of ["number", "many"] (defScope s_odd_of) := C8.fnScope_by (by decide +kernel)
abbrev s_row_count : Stmt := top 19
abbrev N_row_count : List Str := ["persons", "questions", "found", "person"]
theorem sc_row_count : FnScope N_row_count ["persons", "questions"] (defScope s_row_count) := C8.fnScope_by (by decide +kernel)
abbrev s_is_asked : Stmt := top 20
abbrev N_is_asked : List Str := ["row", "persons", "questions", "one"]
theorem sc_is_asked : FnScope N_is_asked ["row", "persons", "questions"] (defScope s_is_asked) := C8.fnScope_by (by decide +kernel)
abbrev s_place_of : Stmt := top 21
abbrev N_place_of : List Str := ["row", "questions", "found", "one"]
theorem sc_place_of : FnScope N_place_of ["row", "questions"] (defScope s_place_of) := C8.fnScope_by (by decide +kernel)
abbrev s_row_of : Stmt := top 22
abbrev N_row_of : List Str := ["place", "persons", "questions", "found", "rest", "person"]
theorem sc_row_of : FnScope N_row_of ["place", "persons", "questions"] (defScope s_row_of) := C8.fnScope_by (by decide +kernel)
abbrev s_all_rows : Stmt := top 23
abbrev N_all_rows : List Str := ["persons", "questions", "place"]
theorem sc_all_rows : FnScope N_all_rows ["persons", "questions"] (defScope s_all_rows) := C8.fnScope_by (by decide +kernel)
abbrev s_measured_by : Stmt := top 25
abbrev N_measured_by : List Str := ["game", "own", "row", "person"]
theorem sc_measured_by : FnScope N_measured_by ["game", "own", "row"] (defScope s_measured_by) := C8.fnScope_by (by decide +kernel)
abbrev s_sum_known : Stmt := top 26
abbrev N_sum_known : List Str := ["known", "measured", "some", "many", "chosen", "sign", "letters", "sure_sign", "person", "one"]
theorem sc_sum_known : FnScope N_sum_known ["known", "measured", "some", "many"] (defScope s_sum_known) := C8.fnScope_by (by decide +kernel)
abbrev s_sums_known : Stmt := top 27
abbrev N_sums_known : List Str := ["known", "measured", "many", "some"]
theorem sc_sums_known : FnScope N_sums_known ["known", "measured", "many"] (defScope s_sums_known) := C8.fnScope_by (by decide +kernel)
abbrev s_share : Stmt := top 28
abbrev N_share : List Str := ["sure_sum", "some", "answers", "persons"]
theorem sc_share : FnScope N_share ["sure_sum", "some", "answers", "persons"] (defScope s_share) := C8.fnScope_by (by decide +kernel)
abbrev s_chance_of : Stmt := top 29
abbrev N_chance_of : List Str := ["sums", "answers", "persons", "some", "sure_sum"]
theorem sc_chance_of : FnScope N_chance_of ["sums", "answers", "persons"] (defScope s_chance_of) := C8.fnScope_by (by decide +kernel)
abbrev s_won_at : Stmt := top 30
abbrev N_won_at : List Str := ["game", "sums", "place", "found", "answers"]
theorem sc_won_at : FnScope N_won_at ["game", "sums", "place"] (defScope s_won_at) := C8.fnScope_by (by decide +kernel)
abbrev s_won_by_spins : Stmt := top 31
abbrev N_won_by_spins : List Str := ["game", "spins", "own", "known", "found", "place", "row", "sums"]
theorem sc_won_by_spins : FnScope N_won_by_spins ["game", "spins", "own"] (defScope s_won_by_spins) := C8.fnScope_by (by decide +kernel)
abbrev s_Refused_init : Stmt := inClass (top 38) 0
abbrev N_Refused_init : List Str := ["self", "code"]
theorem sc_Refused_init : FnScope N_Refused_init ["self", "code"] (defScope s_Refused_init) := C8.fnScope_by (by decide +kernel)
abbrev s_need : Stmt := top 39
abbrev N_need : List Str := ["holds", "code"]
theorem sc_need : FnScope N_need ["holds", "code"] (defScope s_need) := C8.fnScope_by (by decide +kernel)
abbrev s_Game_init : Stmt := inClass (top 41) 0
abbrev N_Game_init : List Str := ["self", "persons", "questions"]
theorem sc_Game_init : FnScope N_Game_init ["self", "persons", "questions"] (defScope s_Game_init) := C8.fnScope_by (by decide +kernel)
abbrev s_Game_place_asked : Stmt := inClass (top 41) 1
abbrev N_Game_place_asked : List Str := ["self", "row"]
theorem sc_Game_place_asked : FnScope N_Game_place_asked ["self", "row"] (defScope s_Game_place_asked) := C8.fnScope_by (by decide +kernel)
abbrev s_Game_answer_rows : Stmt := inClass (top 41) 2
abbrev N_Game_answer_rows : List Str := ["self"]
theorem sc_Game_answer_rows : FnScope N_Game_answer_rows ["self"] (defScope s_Game_answer_rows) := C8.fnScope_by (by decide +kernel)
abbrev s_Game_set_winning : Stmt := inClass (top 41) 3
abbrev N_Game_set_winning : List Str := ["self", "place", "which"]
theorem sc_Game_set_winning : FnScope N_Game_set_winning ["self", "place", "which"] (defScope s_Game_set_winning) := C8.fnScope_by (by decide +kernel)
abbrev s_Game_set_much : Stmt := inClass (top 41) 4
abbrev N_Game_set_much : List Str := ["self", "place", "much"]
theorem sc_Game_set_much : FnScope N_Game_set_much ["self", "place", "much"] (defScope s_Game_set_much) := C8.fnScope_by (by decide +kernel)
abbrev s_Game_all_much : Stmt := inClass (top 41) 5
abbrev N_Game_all_much : List Str := ["self"]
theorem sc_Game_all_much : FnScope N_Game_all_much ["self"] (defScope s_Game_all_much) := C8.fnScope_by (by decide +kernel)
abbrev s_Game_wins_at : Stmt := inClass (top 41) 6
abbrev N_Game_wins_at : List Str := ["self", "place", "number"]
theorem sc_Game_wins_at : FnScope N_Game_wins_at ["self", "place", "number"] (defScope s_Game_wins_at) := C8.fnScope_by (by decide +kernel)
abbrev s_Game_which_with : Stmt := inClass (top 41) 7
abbrev N_Game_which_with : List Str := ["self", "odd", "found", "number"]
theorem sc_Game_which_with : FnScope N_Game_which_with ["self", "odd"] (defScope s_Game_which_with) := C8.fnScope_by (by decide +kernel)
abbrev s_plan_size : Stmt := top 42
abbrev N_plan_size : List Str := ["game"]
theorem sc_plan_size : FnScope N_plan_size ["game"] (defScope s_plan_size) := C8.fnScope_by (by decide +kernel)
abbrev s_plan_count : Stmt := top 43
abbrev N_plan_count : List Str := ["game"]
theorem sc_plan_count : FnScope N_plan_count ["game"] (defScope s_plan_count) := C8.fnScope_by (by decide +kernel)
abbrev s_is_plan : Stmt := top 44
abbrev N_is_plan : List Str := ["game", "row"]
theorem sc_is_plan : FnScope N_is_plan ["game", "row"] (defScope s_is_plan) := C8.fnScope_by (by decide +kernel)
abbrev s_plan_at : Stmt := top 45
abbrev N_plan_at : List Str := ["number", "size", "place"]
theorem sc_plan_at : FnScope N_plan_at ["number", "size"] (defScope s_plan_at) := C8.fnScope_by (by decide +kernel)
abbrev s_answers_by : Stmt := top 46
abbrev N_answers_by : List Str := ["game", "plan", "row", "found", "person"]
theorem sc_answers_by : FnScope N_answers_by ["game", "plan", "row"] (defScope s_answers_by) := C8.fnScope_by (by decide +kernel)
abbrev s_won_by : Stmt := top 47
abbrev N_won_by : List Str := ["game", "plan", "found", "place", "row"]
theorem sc_won_by : FnScope N_won_by ["game", "plan"] (defScope s_won_by) := C8.fnScope_by (by decide +kernel)
abbrev s_all_won : Stmt := top 48
abbrev N_all_won : List Str := ["game", "size", "number"]
theorem sc_all_won : FnScope N_all_won ["game"] (defScope s_all_won) := C8.fnScope_by (by decide +kernel)
abbrev s_most_won : Stmt := top 49
abbrev N_most_won : List Str := ["game"]
theorem sc_most_won : FnScope N_most_won ["game"] (defScope s_most_won) := C8.fnScope_by (by decide +kernel)
abbrev s_best_plan : Stmt := top 50
abbrev N_best_plan : List Str := ["game", "won", "most"]
theorem sc_best_plan : FnScope N_best_plan ["game"] (defScope s_best_plan) := C8.fnScope_by (by decide +kernel)
abbrev s_plans_that_win : Stmt := top 51
abbrev N_plans_that_win : List Str := ["game", "much"]
theorem sc_plans_that_win : FnScope N_plans_that_win ["game", "much"] (defScope s_plans_that_win) := C8.fnScope_by (by decide +kernel)
abbrev s_begin : Stmt := top 58
abbrev N_begin : List Str := ["desk", "numbers", "row", "persons", "questions"]
theorem sc_begin : FnScope N_begin ["desk", "numbers", "row"] (defScope s_begin) := C8.fnScope_by (by decide +kernel)
abbrev s_wins : Stmt := top 59
abbrev N_wins : List Str := ["desk", "numbers", "row", "place", "elder"]
theorem sc_wins : FnScope N_wins ["desk", "numbers", "row"] (defScope s_wins) := C8.fnScope_by (by decide +kernel)
abbrev s_odd : Stmt := top 60
abbrev N_odd : List Str := ["desk", "numbers", "row", "place", "which"]
theorem sc_odd : FnScope N_odd ["desk", "numbers", "row"] (defScope s_odd) := C8.fnScope_by (by decide +kernel)
abbrev s_counts : Stmt := top 61
abbrev N_counts : List Str := ["desk", "numbers", "row", "place", "elder"]
theorem sc_counts : FnScope N_counts ["desk", "numbers", "row"] (defScope s_counts) := C8.fnScope_by (by decide +kernel)
abbrev s_plan : Stmt := top 62
abbrev N_plan : List Str := ["desk", "numbers", "row"]
theorem sc_plan : FnScope N_plan ["desk", "numbers", "row"] (defScope s_plan) := C8.fnScope_by (by decide +kernel)
abbrev s_best : Stmt := top 63
abbrev N_best : List Str := ["desk", "numbers", "row", "most", "first"]
theorem sc_best : FnScope N_best ["desk", "numbers", "row"] (defScope s_best) := C8.fnScope_by (by decide +kernel)
abbrev s_plans : Stmt := top 64
abbrev N_plans : List Str := ["desk", "numbers", "row"]
theorem sc_plans : FnScope N_plans ["desk", "numbers", "row"] (defScope s_plans) := C8.fnScope_by (by decide +kernel)
abbrev s_spins : Stmt := top 65
abbrev N_spins : List Str := ["desk", "numbers", "row", "one"]
theorem sc_spins : FnScope N_spins ["desk", "numbers", "row"] (defScope s_spins) := C8.fnScope_by (by decide +kernel)
abbrev s_link : Stmt := top 66
abbrev N_link : List Str := ["desk", "numbers", "row", "one", "other"]
theorem sc_link : FnScope N_link ["desk", "numbers", "row"] (defScope s_link) := C8.fnScope_by (by decide +kernel)
abbrev s_fresh : Stmt := top 67
abbrev N_fresh : List Str := ["desk", "numbers", "row"]
theorem sc_fresh : FnScope N_fresh ["desk", "numbers", "row"] (defScope s_fresh) := C8.fnScope_by (by decide +kernel)
abbrev s_sure : Stmt := top 68
abbrev N_sure : List Str := ["desk", "numbers", "row", "sign"]
theorem sc_sure : FnScope N_sure ["desk", "numbers", "row"] (defScope s_sure) := C8.fnScope_by (by decide +kernel)
abbrev s_measure : Stmt := top 69
abbrev N_measure : List Str := ["desk", "numbers", "row", "outcome", "letters", "sign"]
theorem sc_measure : FnScope N_measure ["desk", "numbers", "row"] (defScope s_measure) := C8.fnScope_by (by decide +kernel)
abbrev s_is_on_own : Stmt := top 70
abbrev N_is_on_own : List Str := ["desk", "person", "row", "others", "at", "whose"]
theorem sc_is_on_own : FnScope N_is_on_own ["desk", "person", "row"] (defScope s_is_on_own) := C8.fnScope_by (by decide +kernel)
abbrev s_mine : Stmt := top 71
abbrev N_mine : List Str := ["desk", "numbers", "row", "person", "question", "sign"]
theorem sc_mine : FnScope N_mine ["desk", "numbers", "row"] (defScope s_mine) := C8.fnScope_by (by decide +kernel)
abbrev s_parted : Stmt := top 72
abbrev N_parted : List Str := ["desk", "row", "persons", "asked", "rest"]
theorem sc_parted : FnScope N_parted ["desk", "row"] (defScope s_parted) := C8.fnScope_by (by decide +kernel)
abbrev s_chance : Stmt := top 73
abbrev N_chance : List Str := ["desk", "numbers", "row", "game", "asked", "answers", "number", "sums", "won"]
theorem sc_chance : FnScope N_chance ["desk", "numbers", "row"] (defScope s_chance) := C8.fnScope_by (by decide +kernel)
abbrev s_parity : Stmt := top 74
abbrev N_parity : List Str := ["desk", "numbers", "row", "asked", "some", "measured", "known", "sure_sum"]
theorem sc_parity : FnScope N_parity ["desk", "numbers", "row"] (defScope s_parity) := C8.fnScope_by (by decide +kernel)
abbrev s_value : Stmt := top 75
abbrev N_value : List Str := ["desk", "numbers", "row", "game", "won"]
theorem sc_value : FnScope N_value ["desk", "numbers", "row"] (defScope s_value) := C8.fnScope_by (by decide +kernel)
abbrev s_row_told : Stmt := top 76
abbrev N_row_told : List Str := ["desk", "numbers", "row", "place"]
theorem sc_row_told : FnScope N_row_told ["desk", "numbers", "row"] (defScope s_row_told) := C8.fnScope_by (by decide +kernel)
abbrev s_state : Stmt := top 77
abbrev N_state : List Str := ["desk", "numbers", "row", "shared", "head"]
theorem sc_state : FnScope N_state ["desk", "numbers", "row"] (defScope s_state) := C8.fnScope_by (by decide +kernel)
abbrev s_Spins_init : Stmt := inClass (top 80) 0
abbrev N_Spins_init : List Str := ["self", "owners"]
theorem sc_Spins_init : FnScope N_Spins_init ["self", "owners"] (defScope s_Spins_init) := C8.fnScope_by (by decide +kernel)
abbrev s_Spins_many : Stmt := inClass (top 80) 1
abbrev N_Spins_many : List Str := ["self"]
theorem sc_Spins_many : FnScope N_Spins_many ["self"] (defScope s_Spins_many) := C8.fnScope_by (by decide +kernel)
abbrev s_Spins_are_linked : Stmt := inClass (top 80) 2
abbrev N_Spins_are_linked : List Str := ["self", "one", "other"]
theorem sc_Spins_are_linked : FnScope N_Spins_are_linked ["self", "one", "other"] (defScope s_Spins_are_linked) := C8.fnScope_by (by decide +kernel)
abbrev s_Spins_letter_at_first : Stmt := inClass (top 80) 3
abbrev N_Spins_letter_at_first : List Str := ["self", "spin", "other"]
theorem sc_Spins_letter_at_first : FnScope N_Spins_letter_at_first ["self", "spin", "other"] (defScope s_Spins_letter_at_first) := C8.fnScope_by (by decide +kernel)
abbrev s_Spins_sure_at_first : Stmt := inClass (top 80) 4
abbrev N_Spins_sure_at_first : List Str := ["self", "spin", "other"]
theorem sc_Spins_sure_at_first : FnScope N_Spins_sure_at_first ["self", "spin"] (defScope s_Spins_sure_at_first) := C8.fnScope_by (by decide +kernel)
abbrev s_Spins_refresh : Stmt := inClass (top 80) 5
abbrev N_Spins_refresh : List Str := ["self", "spin"]
theorem sc_Spins_refresh : FnScope N_Spins_refresh ["self"] (defScope s_Spins_refresh) := C8.fnScope_by (by decide +kernel)
abbrev s_Spins_turn_link : Stmt := inClass (top 80) 6
abbrev N_Spins_turn_link : List Str := ["self", "one", "other", "pair", "link"]
theorem sc_Spins_turn_link : FnScope N_Spins_turn_link ["self", "one", "other"] (defScope s_Spins_turn_link) := C8.fnScope_by (by decide +kernel)
abbrev s_Spins_known_signs : Stmt := inClass (top 80) 7
abbrev N_Spins_known_signs : List Str := ["self", "known", "one", "found", "sign", "letters", "each"]
theorem sc_Spins_known_signs : FnScope N_Spins_known_signs ["self"] (defScope s_Spins_known_signs) := C8.fnScope_by (by decide +kernel)
abbrev s_Spins_sign_of : Stmt := inClass (top 80) 8
abbrev N_Spins_sign_of : List Str := ["self", "letters"]
theorem sc_Spins_sign_of : FnScope N_Spins_sign_of ["self", "letters"] (defScope s_Spins_sign_of) := C8.fnScope_by (by decide +kernel)
abbrev s_Spins_note_measured : Stmt := inClass (top 80) 9
abbrev N_Spins_note_measured : List Str := ["self"]
theorem sc_Spins_note_measured : FnScope N_Spins_note_measured ["self"] (defScope s_Spins_note_measured) := C8.fnScope_by (by decide +kernel)
abbrev s_Spins_become_sure : Stmt := inClass (top 80) 10
abbrev N_Spins_become_sure : List Str := ["self", "outcome", "letters", "apart", "first", "gone", "changed", "at"]
theorem sc_Spins_become_sure : FnScope N_Spins_become_sure ["self", "outcome", "letters"] (defScope s_Spins_become_sure) := C8.fnScope_by (by decide +kernel)
abbrev s_Desk_init : Stmt := inClass (top 82) 0
abbrev N_Desk_init : List Str := ["self"]
theorem sc_Desk_init : FnScope N_Desk_init ["self"] (defScope s_Desk_init) := C8.fnScope_by (by decide +kernel)
abbrev s_Desk_is_begun : Stmt := inClass (top 82) 1
abbrev N_Desk_is_begun : List Str := ["self"]
theorem sc_Desk_is_begun : FnScope N_Desk_is_begun ["self"] (defScope s_Desk_is_begun) := C8.fnScope_by (by decide +kernel)
abbrev s_Desk_begin : Stmt := inClass (top 82) 2
abbrev N_Desk_begin : List Str := ["self", "persons", "questions"]
theorem sc_Desk_begin : FnScope N_Desk_begin ["self", "persons", "questions"] (defScope s_Desk_begin) := C8.fnScope_by (by decide +kernel)
abbrev s_Desk_take_spins : Stmt := inClass (top 82) 3
abbrev N_Desk_take_spins : List Str := ["self", "owners"]
theorem sc_Desk_take_spins : FnScope N_Desk_take_spins ["self", "owners"] (defScope s_Desk_take_spins) := C8.fnScope_by (by decide +kernel)
abbrev s_Desk_place_own : Stmt := inClass (top 82) 4
abbrev N_Desk_place_own : List Str := ["self", "person", "question"]
theorem sc_Desk_place_own : FnScope N_Desk_place_own ["self", "person", "question"] (defScope s_Desk_place_own) := C8.fnScope_by (by decide +kernel)
abbrev s_Desk_set_own : Stmt := inClass (top 82) 5
abbrev N_Desk_set_own : List Str := ["self", "person", "question", "measurement"]
theorem sc_Desk_set_own : FnScope N_Desk_set_own ["self", "person", "question", "measurement"] (defScope s_Desk_set_own) := C8.fnScope_by (by decide +kernel)
abbrev s_row_at : Stmt := top 86
abbrev N_row_at : List Str := ["calls", "place", "many"]
theorem sc_row_at : FnScope N_row_at ["calls", "place"] (defScope s_row_at) := C8.fnScope_by (by decide +kernel)
abbrev s_call_at : Stmt := top 87
abbrev N_call_at : List Str := ["calls", "place", "word", "many", "has_row", "behind", "numbers", "row"]
theorem sc_call_at : FnScope N_call_at ["calls", "place"] (defScope s_call_at) := C8.fnScope_by (by decide +kernel)
abbrev s_done : Stmt := top 88
abbrev N_done : List Str := ["desk", "word", "numbers", "row", "deed"]
theorem sc_done : FnScope N_done ["desk", "word", "numbers", "row"] (defScope s_done) := C8.fnScope_by (by decide +kernel)
abbrev s_answered : Stmt := top 89
abbrev N_answered : List Str := ["desk", "word", "numbers", "row", "e"]
theorem sc_answered : FnScope N_answered ["desk", "word", "numbers", "row"] (defScope s_answered) := C8.fnScope_by (by decide +kernel)
abbrev s_answers : Stmt := top 90
abbrev N_answers : List Str := ["calls", "desk", "found", "place", "word", "numbers", "row", "told"]
theorem sc_answers : FnScope N_answers ["calls"] (defScope s_answers) := C8.fnScope_by (by decide +kernel)

/-! ### what the top has written -/
section
variable {K : PySem.W.Frag} {h : Heap} {mg : Str → Option Value} {aON aSH aDE : Addr} {od od0 od1 od2 od3 od4 od5 od6 od7 od8 od9 od10 od11 od12 od13 od14 od15 od16 od17 : Option Addr} {n n0 n1 n2 n3 n4 n5 n6 n7 n8 n9 n10 n11 n12 n13 n14 n15 n16 n17 : Nat} {sl sl0 sl1 sl2 sl3 sl4 sl5 sl6 sl7 sl8 sl9 sl10 sl11 sl12 sl13 sl14 sl15 sl16 sl17 : Array (Option Value)}
theorem onw_mk {b1 b2 b3 : Addr} {t1 t2 t3 t4 t5 t6 : Tok} (l : K.lookup aON = some ⟨.type "tuple", od, .seq #[.ref b1, .ref b2, .ref b3] n, sl⟩) (l1 : K.lookup b1 = some ⟨.type "tuple", od1, .seq #[.int 1 t1, .int 2 t2] n1, sl1⟩) (l2 : K.lookup b2 = some ⟨.type "tuple", od2, .seq #[.int 2 t3, .int 3 t4] n2, sl2⟩) (l3 : K.lookup b3 = some ⟨.type "tuple", od3, .seq #[.int 3 t5, .int 1 t6] n3, sl3⟩) : 
    ∃ b1 b2 b3 : Addr, KTup K aON [.ref b1, .ref b2, .ref b3] ∧ KTup K b1 [.int 1, .int 2] ∧ KTup K b2 [.int 2, .int 3] ∧ KTup K b3 [.int 3, .int 1] :=
  ⟨b1, b2, b3, ktup_mk l (Nat.le_of_ble_eq_true rfl) (.cons rfl (.cons rfl (.cons rfl (.nil)))), ktup_mk l1 (Nat.le_of_ble_eq_true rfl) (.cons ⟨_, rfl⟩ (.cons ⟨_, rfl⟩ (.nil))), ktup_mk l2 (Nat.le_of_ble_eq_true rfl) (.cons ⟨_, rfl⟩ (.cons ⟨_, rfl⟩ (.nil))), ktup_mk l3 (Nat.le_of_ble_eq_true rfl) (.cons ⟨_, rfl⟩ (.cons ⟨_, rfl⟩ (.nil)))⟩
theorem shp_mk {b0 b1 b2 b3 b4 b5 b6 b7 b8 b9 b10 b11 b12 b13 b14 b15 b16 b17 : Addr} {t0 t1 t2 t3 t4 t5 t6 t7 t8 t9 t10 t11 t12 t13 t14 t15 t16 t17 : Tok} (l : K.lookup aSH = some ⟨.type "tuple", od, .seq #[.ref b0, .ref b1, .ref b2, .ref b3, .ref b4, .ref b5, .ref b6, .ref b7, .ref b8, .ref b9, .ref b10, .ref b11, .ref b12, .ref b13, .ref b14, .ref b15, .ref b16, .ref b17] n, sl⟩) (l0 : K.lookup b0 = some ⟨.type "tuple", od0, .seq #[.int 2 t0, .bool false] n0, sl0⟩) (l1 : K.lookup b1 = some ⟨.type "tuple", od1, .seq #[.int 1 t1, .bool true] n1, sl1⟩) (l2 : K.lookup b2 = some ⟨.type "tuple", od2, .seq #[.int 1 t2, .bool true] n2, sl2⟩) (l3 : K.lookup b3 = some ⟨.type "tuple", od3, .seq #[.int 1 t3, .bool true] n3, sl3⟩) (l4 : K.lookup b4 = some ⟨.type "tuple", od4, .seq #[.int 0 t4, .bool true] n4, sl4⟩) (l5 : K.lookup b5 = some ⟨.type "tuple", od5, .seq #[.int 0 t5, .bool false] n5, sl5⟩) (l6 : K.lookup b6 = some ⟨.type "tuple", od6, .seq #[.int 1 t6, .bool false] n6, sl6⟩) (l7 : K.lookup b7 = some ⟨.type "tuple", od7, .seq #[.int 0 t7, .bool true] n7, sl7⟩) (l8 : K.lookup b8 = some ⟨.type "tuple", od8, .seq #[.int 2 t8, .bool false] n8, sl8⟩) (l9 : K.lookup b9 = some ⟨.type "tuple", od9, .seq #[.int 0 t9, .bool false] n9, sl9⟩) (l10 : K.lookup b10 = some ⟨.type "tuple", od10, .seq #[.int 0 t10, .bool true] n10, sl10⟩) (l11 : K.lookup b11 = some ⟨.type "tuple", od11, .seq #[.int 1 t11, .bool true] n11, sl11⟩) (l12 : K.lookup b12 = some ⟨.type "tuple", od12, .seq #[.int 3 t12, .bool true] n12, sl12⟩) (l13 : K.lookup b13 = some ⟨.type "tuple", od13, .seq #[.int 0 t13, .bool true] n13, sl13⟩) (l14 : K.lookup b14 = some ⟨.type "tuple", od14, .seq #[.int 0 t14, .bool true] n14, sl14⟩) (l15 : K.lookup b15 = some ⟨.type "tuple", od15, .seq #[.int 0 t15, .bool false] n15, sl15⟩) (l16 : K.lookup b16 = some ⟨.type "tuple", od16, .seq #[.int 0 t16, .bool true] n16, sl16⟩) (l17 : K.lookup b17 = some ⟨.type "tuple", od17, .seq #[.int 0 t17, .bool false] n17, sl17⟩) :
    ∃ b0 b1 b2 b3 b4 b5 b6 b7 b8 b9 b10 b11 b12 b13 b14 b15 b16 b17 : Addr, KTup K aSH [.ref b0, .ref b1, .ref b2, .ref b3, .ref b4, .ref b5, .ref b6, .ref b7, .ref b8, .ref b9, .ref b10, .ref b11, .ref b12, .ref b13, .ref b14, .ref b15, .ref b16, .ref b17] ∧ KTup K b0 [.int 2, .bl false] ∧ KTup K b1 [.int 1, .bl true] ∧ KTup K b2 [.int 1, .bl true] ∧ KTup K b3 [.int 1, .bl true] ∧ KTup K b4 [.int 0, .bl true] ∧ KTup K b5 [.int 0, .bl false] ∧ KTup K b6 [.int 1, .bl false] ∧ KTup K b7 [.int 0, .bl true] ∧ KTup K b8 [.int 2, .bl false] ∧ KTup K b9 [.int 0, .bl false] ∧ KTup K b10 [.int 0, .bl true] ∧ KTup K b11 [.int 1, .bl true] ∧ KTup K b12 [.int 3, .bl true] ∧ KTup K b13 [.int 0, .bl true] ∧ KTup K b14 [.int 0, .bl true] ∧ KTup K b15 [.int 0, .bl false] ∧ KTup K b16 [.int 0, .bl true] ∧ KTup K b17 [.int 0, .bl false] :=
  ⟨b0, b1, b2, b3, b4, b5, b6, b7, b8, b9, b10, b11, b12, b13, b14, b15, b16, b17, ktup_mk l (Nat.le_of_ble_eq_true rfl) (.cons rfl (.cons rfl (.cons rfl (.cons rfl (.cons rfl (.cons rfl (.cons rfl (.cons rfl (.cons rfl (.cons rfl (.cons rfl (.cons rfl (.cons rfl (.cons rfl (.cons rfl (.cons rfl (.cons rfl (.cons rfl (.nil))))))))))))))))))), ktup_mk l0 (Nat.le_of_ble_eq_true rfl) (.cons ⟨_, rfl⟩ (.cons rfl (.nil))), ktup_mk l1 (Nat.le_of_ble_eq_true rfl) (.cons ⟨_, rfl⟩ (.cons rfl (.nil))), ktup_mk l2 (Nat.le_of_ble_eq_true rfl) (.cons ⟨_, rfl⟩ (.cons rfl (.nil))), ktup_mk l3 (Nat.le_of_ble_eq_true rfl) (.cons ⟨_, rfl⟩ (.cons rfl (.nil))), ktup_mk l4 (Nat.le_of_ble_eq_true rfl) (.cons ⟨_, rfl⟩ (.cons rfl (.nil))), ktup_mk l5 (Nat.le_of_ble_eq_true rfl) (.cons ⟨_, rfl⟩ (.cons rfl (.nil))), ktup_mk l6 (Nat.le_of_ble_eq_true rfl) (.cons ⟨_, rfl⟩ (.cons rfl (.nil))), ktup_mk l7 (Nat.le_of_ble_eq_true rfl) (.cons ⟨_, rfl⟩ (.cons rfl (.nil))), ktup_mk l8 (Nat.le_of_ble_eq_true rfl) (.cons ⟨_, rfl⟩ (.cons rfl (.nil))), ktup_mk l9 (Nat.le_of_ble_eq_true rfl) (.cons ⟨_, rfl⟩ (.cons rfl (.nil))), ktup_mk l10 (Nat.le_of_ble_eq_true rfl) (.cons ⟨_, rfl⟩ (.cons rfl (.nil))), ktup_mk l11 (Nat.le_of_ble_eq_true rfl) (.cons ⟨_, rfl⟩ (.cons rfl (.nil))), ktup_mk l12 (Nat.le_of_ble_eq_true rfl) (.cons ⟨_, rfl⟩ (.cons rfl (.nil))), ktup_mk l13 (Nat.le_of_ble_eq_true rfl) (.cons ⟨_, rfl⟩ (.cons rfl (.nil))), ktup_mk l14 (Nat.le_of_ble_eq_true rfl) (.cons ⟨_, rfl⟩ (.cons rfl (.nil))), ktup_mk l15 (Nat.le_of_ble_eq_true rfl) (.cons ⟨_, rfl⟩ (.cons rfl (.nil))), ktup_mk l16 (Nat.le_of_ble_eq_true rfl) (.cons ⟨_, rfl⟩ (.cons rfl (.nil))), ktup_mk l17 (Nat.le_of_ble_eq_true rfl) (.cons ⟨_, rfl⟩ (.cons rfl (.nil)))⟩
theorem dee_mk {f0 f1 f2 f3 f4 f5 f6 f7 f8 f9 f10 f11 f12 f13 f14 f15 f16 f17 : Addr} (X : K.In h) (G : h.Ns mainGlobals mg) (l : K.lookup aDE = some ⟨.type "tuple", od, .seq #[.ref f0, .ref f1, .ref f2, .ref f3, .ref f4, .ref f5, .ref f6, .ref f7, .ref f8, .ref f9, .ref f10, .ref f11, .ref f12, .ref f13, .ref f14, .ref f15, .ref f16, .ref f17] n, sl⟩) (l0 : PySem.W.nsIn K mainGlobals "begin" = some (some (.ref f0))) (l1 : PySem.W.nsIn K mainGlobals "wins" = some (some (.ref f1))) (l2 : PySem.W.nsIn K mainGlobals "odd" = some (some (.ref f2))) (l3 : PySem.W.nsIn K mainGlobals "counts" = some (some (.ref f3))) (l4 : PySem.W.nsIn K mainGlobals "plan" = some (some (.ref f4))) (l5 : PySem.W.nsIn K mainGlobals "best" = some (some (.ref f5))) (l6 : PySem.W.nsIn K mainGlobals "plans" = some (some (.ref f6))) (l7 : PySem.W.nsIn K mainGlobals "spins" = some (some (.ref f7))) (l8 : PySem.W.nsIn K mainGlobals "link" = some (some (.ref f8))) (l9 : PySem.W.nsIn K mainGlobals "fresh" = some (some (.ref f9))) (l10 : PySem.W.nsIn K mainGlobals "sure" = some (some (.ref f10))) (l11 : PySem.W.nsIn K mainGlobals "measure" = some (some (.ref f11))) (l12 : PySem.W.nsIn K mainGlobals "mine" = some (some (.ref f12))) (l13 : PySem.W.nsIn K mainGlobals "chance" = some (some (.ref f13))) (l14 : PySem.W.nsIn K mainGlobals "parity" = some (some (.ref f14))) (l15 : PySem.W.nsIn K mainGlobals "value" = some (some (.ref f15))) (l16 : PySem.W.nsIn K mainGlobals "row_told" = some (some (.ref f16))) (l17 : PySem.W.nsIn K mainGlobals "state" = some (some (.ref f17))) :
    ∃ f0 f1 f2 f3 f4 f5 f6 f7 f8 f9 f10 f11 f12 f13 f14 f15 f16 f17 : Addr, KTup K aDE [.ref f0, .ref f1, .ref f2, .ref f3, .ref f4, .ref f5, .ref f6, .ref f7, .ref f8, .ref f9, .ref f10, .ref f11, .ref f12, .ref f13, .ref f14, .ref f15, .ref f16, .ref f17] ∧ mg "begin" = some (.ref f0) ∧ mg "wins" = some (.ref f1) ∧ mg "odd" = some (.ref f2) ∧ mg "counts" = some (.ref f3) ∧ mg "plan" = some (.ref f4) ∧ mg "best" = some (.ref f5) ∧ mg "plans" = some (.ref f6) ∧ mg "spins" = some (.ref f7) ∧ mg "link" = some (.ref f8) ∧ mg "fresh" = some (.ref f9) ∧ mg "sure" = some (.ref f10) ∧ mg "measure" = some (.ref f11) ∧ mg "mine" = some (.ref f12) ∧ mg "chance" = some (.ref f13) ∧ mg "parity" = some (.ref f14) ∧ mg "value" = some (.ref f15) ∧ mg "row_told" = some (.ref f16) ∧ mg "state" = some (.ref f17) :=
  ⟨f0, f1, f2, f3, f4, f5, f6, f7, f8, f9, f10, f11, f12, f13, f14, f15, f16, f17, ktup_mk l (Nat.le_of_ble_eq_true rfl) (.cons rfl (.cons rfl (.cons rfl (.cons rfl (.cons rfl (.cons rfl (.cons rfl (.cons rfl (.cons rfl (.cons rfl (.cons rfl (.cons rfl (.cons rfl (.cons rfl (.cons rfl (.cons rfl (.cons rfl (.cons rfl (.nil))))))))))))))))))), PySem.W.mg_of X G l0, PySem.W.mg_of X G l1, PySem.W.mg_of X G l2, PySem.W.mg_of X G l3, PySem.W.mg_of X G l4, PySem.W.mg_of X G l5, PySem.W.mg_of X G l6, PySem.W.mg_of X G l7, PySem.W.mg_of X G l8, PySem.W.mg_of X G l9, PySem.W.mg_of X G l10, PySem.W.mg_of X G l11, PySem.W.mg_of X G l12, PySem.W.mg_of X G l13, PySem.W.mg_of X G l14, PySem.W.mg_of X G l15, PySem.W.mg_of X G l16, PySem.W.mg_of X G l17⟩
end
structure Top (K : PySem.W.Frag) (mg : Str → Option Value) (CR CG CS CD aON aSH aDE : Addr) : Prop where
  d_are_letters : GDef K mg "are_letters" ["row", "many"] s_are_letters
  d_letter_made : GDef K mg "letter_made" ["one", "other"] s_letter_made
  d_turns_made : GDef K mg "turns_made" ["one", "other"] s_turns_made
  d_are_unlike : GDef K mg "are_unlike" ["one", "other"] s_are_unlike
  d_go_together : GDef K mg "go_together" ["one", "other"] s_go_together
  d_bare : GDef K mg "bare" ["many"] s_bare
  d_product : GDef K mg "product" ["some", "many"] s_product
  d_are_bits : GDef K mg "are_bits" ["row"] s_are_bits
  d_bit_at : GDef K mg "bit_at" ["number", "place"] s_bit_at
  d_number_of_bits : GDef K mg "number_of_bits" ["row"] s_number_of_bits
  d_bits_of_number : GDef K mg "bits_of_number" ["number", "many"] s_bits_of_number
  d_odd_of : GDef K mg "odd_of" ["number", "many"] s_odd_of
  d_row_count : GDef K mg "row_count" ["persons", "questions"] s_row_count
  d_is_asked : GDef K mg "is_asked" ["row", "persons", "questions"] s_is_asked
  d_place_of : GDef K mg "place_of" ["row", "questions"] s_place_of
  d_row_of : GDef K mg "row_of" ["place", "persons", "questions"] s_row_of
  d_all_rows : GDef K mg "all_rows" ["persons", "questions"] s_all_rows
  d_measured_by : GDef K mg "measured_by" ["game", "own", "row"] s_measured_by
  d_sum_known : GDef K mg "sum_known" ["known", "measured", "some", "many"] s_sum_known
  d_sums_known : GDef K mg "sums_known" ["known", "measured", "many"] s_sums_known
  d_share : GDef K mg "share" ["sure_sum", "some", "answers", "persons"] s_share
  d_chance_of : GDef K mg "chance_of" ["sums", "answers", "persons"] s_chance_of
  d_won_at : GDef K mg "won_at" ["game", "sums", "place"] s_won_at
  d_won_by_spins : GDef K mg "won_by_spins" ["game", "spins", "own"] s_won_by_spins
  i_Refused : RDef K CR "Refused.__init__" ["self", "code"] s_Refused_init
  d_need : GDef K mg "need" ["holds", "code"] s_need
  i_Game : IDef K CG "Game.__init__" ["self", "persons", "questions"] s_Game_init
  m_Game_place_asked : MDef K CG "place_asked" "Game.place_asked" ["self", "row"] s_Game_place_asked
  m_Game_answer_rows : MDef K CG "answer_rows" "Game.answer_rows" ["self"] s_Game_answer_rows
  m_Game_set_winning : MDef K CG "set_winning" "Game.set_winning" ["self", "place", "which"] s_Game_set_winning
  m_Game_set_much : MDef K CG "set_much" "Game.set_much" ["self", "place", "much"] s_Game_set_much
  m_Game_all_much : MDef K CG "all_much" "Game.all_much" ["self"] s_Game_all_much
  m_Game_wins_at : MDef K CG "wins_at" "Game.wins_at" ["self", "place", "number"] s_Game_wins_at
  m_Game_which_with : MDef K CG "which_with" "Game.which_with" ["self", "odd"] s_Game_which_with
  d_plan_size : GDef K mg "plan_size" ["game"] s_plan_size
  d_plan_count : GDef K mg "plan_count" ["game"] s_plan_count
  d_is_plan : GDef K mg "is_plan" ["game", "row"] s_is_plan
  d_plan_at : GDef K mg "plan_at" ["number", "size"] s_plan_at
  d_answers_by : GDef K mg "answers_by" ["game", "plan", "row"] s_answers_by
  d_won_by : GDef K mg "won_by" ["game", "plan"] s_won_by
  d_all_won : GDef K mg "all_won" ["game"] s_all_won
  d_most_won : GDef K mg "most_won" ["game"] s_most_won
  d_best_plan : GDef K mg "best_plan" ["game"] s_best_plan
  d_plans_that_win : GDef K mg "plans_that_win" ["game", "much"] s_plans_that_win
  d_begin : GDef K mg "begin" ["desk", "numbers", "row"] s_begin
  d_wins : GDef K mg "wins" ["desk", "numbers", "row"] s_wins
  d_odd : GDef K mg "odd" ["desk", "numbers", "row"] s_odd
  d_counts : GDef K mg "counts" ["desk", "numbers", "row"] s_counts
  d_plan : GDef K mg "plan" ["desk", "numbers", "row"] s_plan
  d_best : GDef K mg "best" ["desk", "numbers", "row"] s_best
  d_plans : GDef K mg "plans" ["desk", "numbers", "row"] s_plans
  d_spins : GDef K mg "spins" ["desk", "numbers", "row"] s_spins
  d_link : GDef K mg "link" ["desk", "numbers", "row"] s_link
  d_fresh : GDef K mg "fresh" ["desk", "numbers", "row"] s_fresh
  d_sure : GDef K mg "sure" ["desk", "numbers", "row"] s_sure
  d_measure : GDef K mg "measure" ["desk", "numbers", "row"] s_measure
  d_is_on_own : GDef K mg "is_on_own" ["desk", "person", "row"] s_is_on_own
  d_mine : GDef K mg "mine" ["desk", "numbers", "row"] s_mine
  d_parted : GDef K mg "parted" ["desk", "row"] s_parted
  d_chance : GDef K mg "chance" ["desk", "numbers", "row"] s_chance
  d_parity : GDef K mg "parity" ["desk", "numbers", "row"] s_parity
  d_value : GDef K mg "value" ["desk", "numbers", "row"] s_value
  d_row_told : GDef K mg "row_told" ["desk", "numbers", "row"] s_row_told
  d_state : GDef K mg "state" ["desk", "numbers", "row"] s_state
  i_Spins : IDef K CS "Spins.__init__" ["self", "owners"] s_Spins_init
  m_Spins_many : MDef K CS "many" "Spins.many" ["self"] s_Spins_many
  m_Spins_are_linked : MDef K CS "are_linked" "Spins.are_linked" ["self", "one", "other"] s_Spins_are_linked
  m_Spins_letter_at_first : MDef K CS "letter_at_first" "Spins.letter_at_first" ["self", "spin", "other"] s_Spins_letter_at_first
  m_Spins_sure_at_first : MDef K CS "sure_at_first" "Spins.sure_at_first" ["self", "spin"] s_Spins_sure_at_first
  m_Spins_refresh : MDef K CS "refresh" "Spins.refresh" ["self"] s_Spins_refresh
  m_Spins_turn_link : MDef K CS "turn_link" "Spins.turn_link" ["self", "one", "other"] s_Spins_turn_link
  m_Spins_known_signs : MDef K CS "known_signs" "Spins.known_signs" ["self"] s_Spins_known_signs
  m_Spins_sign_of : MDef K CS "sign_of" "Spins.sign_of" ["self", "letters"] s_Spins_sign_of
  m_Spins_note_measured : MDef K CS "note_measured" "Spins.note_measured" ["self"] s_Spins_note_measured
  m_Spins_become_sure : MDef K CS "become_sure" "Spins.become_sure" ["self", "outcome", "letters"] s_Spins_become_sure
  i_Desk : IDef K CD "Desk.__init__" ["self"] s_Desk_init
  m_Desk_is_begun : MDef K CD "is_begun" "Desk.is_begun" ["self"] s_Desk_is_begun
  m_Desk_begin : MDef K CD "begin" "Desk.begin" ["self", "persons", "questions"] s_Desk_begin
  m_Desk_take_spins : MDef K CD "take_spins" "Desk.take_spins" ["self", "owners"] s_Desk_take_spins
  m_Desk_place_own : MDef K CD "place_own" "Desk.place_own" ["self", "person", "question"] s_Desk_place_own
  m_Desk_set_own : MDef K CD "set_own" "Desk.set_own" ["self", "person", "question", "measurement"] s_Desk_set_own
  d_row_at : GDef K mg "row_at" ["calls", "place"] s_row_at
  d_call_at : GDef K mg "call_at" ["calls", "place"] s_call_at
  d_done : GDef K mg "done" ["desk", "word", "numbers", "row"] s_done
  d_answered : GDef K mg "answered" ["desk", "word", "numbers", "row"] s_answered
  d_answers : GDef K mg "answers" ["calls"] s_answers
  cl_Game : Cls K CG
  n_Game_persons : NoAttr K CG "persons"
  n_Game_questions : NoAttr K CG "questions"
  n_Game_rows : NoAttr K CG "rows"
  n_Game_much : NoAttr K CG "much"
  n_Game_winning : NoAttr K CG "winning"
  cl_Spins : Cls K CS
  n_Spins_owners : NoAttr K CS "owners"
  n_Spins_links : NoAttr K CS "links"
  n_Spins_sures : NoAttr K CS "sures"
  n_Spins_was_measured : NoAttr K CS "was_measured"
  cl_Desk : Cls K CD
  n_Desk_game : NoAttr K CD "game"
  n_Desk_shared : NoAttr K CD "shared"
  n_Desk_own : NoAttr K CD "own"
  g_Game : mg "Game" = some (.ref CG)
  g_Spins : mg "Spins" = some (.ref CS)
  g_Desk : mg "Desk" = some (.ref CD)
  g_Refused : mg "Refused" = some (.ref CR)
  oex : OexC K CR
  xf : XfC K CR
  noCode : PySem.W.findIn K (.ref CR) "code" = some none
  te : PySem.W.exmOne K (.ref CR) (.ref CR) = some true
  k_NONE : GK mg "NONE" (.int (0))
  k_X : GK mg "X" (.int (1))
  k_Y : GK mg "Y" (.int (2))
  k_Z : GK mg "Z" (.int (3))
  k_NONE_SUCH : GK mg "NONE_SUCH" (.int (-2))
  k_NOT_BEGUN : GK mg "NOT_BEGUN" (.int (-11))
  k_WAS_MEASURED : GK mg "WAS_MEASURED" (.int (-16))
  k_NOT_AS_TOLD : GK mg "NOT_AS_TOLD" (.int (-22))
  k_NOT_SURE_SO : GK mg "NOT_SURE_SO" (.int (-33))
  k_MOST_PERSONS : GK mg "MOST_PERSONS" (.int (4))
  k_MOST_QUESTIONS : GK mg "MOST_QUESTIONS" (.int (3))
  k_MOST_IN_ALL : GK mg "MOST_IN_ALL" (.int (8))
  k_MOST_MUCH : GK mg "MOST_MUCH" (.int (99))
  k_MOST_SPINS : GK mg "MOST_SPINS" (.int (6))
  k_BEGIN : GK mg "BEGIN" (.int (0))
  k_ONWARD : GK mg "ONWARD" (.ref aON)
  k_SHAPES : GK mg "SHAPES" (.ref aSH)
  k_DEEDS : GK mg "DEEDS" (.ref aDE)
  onw : ∃ b1 b2 b3 : Addr, KTup K aON [.ref b1, .ref b2, .ref b3] ∧ KTup K b1 [.int 1, .int 2] ∧ KTup K b2 [.int 2, .int 3] ∧ KTup K b3 [.int 3, .int 1]
  shp : ∃ b0 b1 b2 b3 b4 b5 b6 b7 b8 b9 b10 b11 b12 b13 b14 b15 b16 b17 : Addr, KTup K aSH [.ref b0, .ref b1, .ref b2, .ref b3, .ref b4, .ref b5, .ref b6, .ref b7, .ref b8, .ref b9, .ref b10, .ref b11, .ref b12, .ref b13, .ref b14, .ref b15, .ref b16, .ref b17] ∧ KTup K b0 [.int 2, .bl false] ∧ KTup K b1 [.int 1, .bl true] ∧ KTup K b2 [.int 1, .bl true] ∧ KTup K b3 [.int 1, .bl true] ∧ KTup K b4 [.int 0, .bl true] ∧ KTup K b5 [.int 0, .bl false] ∧ KTup K b6 [.int 1, .bl false] ∧ KTup K b7 [.int 0, .bl true] ∧ KTup K b8 [.int 2, .bl false] ∧ KTup K b9 [.int 0, .bl false] ∧ KTup K b10 [.int 0, .bl true] ∧ KTup K b11 [.int 1, .bl true] ∧ KTup K b12 [.int 3, .bl true] ∧ KTup K b13 [.int 0, .bl true] ∧ KTup K b14 [.int 0, .bl true] ∧ KTup K b15 [.int 0, .bl false] ∧ KTup K b16 [.int 0, .bl true] ∧ KTup K b17 [.int 0, .bl false]
  dee : ∃ f0 f1 f2 f3 f4 f5 f6 f7 f8 f9 f10 f11 f12 f13 f14 f15 f16 f17 : Addr, KTup K aDE [.ref f0, .ref f1, .ref f2, .ref f3, .ref f4, .ref f5, .ref f6, .ref f7, .ref f8, .ref f9, .ref f10, .ref f11, .ref f12, .ref f13, .ref f14, .ref f15, .ref f16, .ref f17] ∧ mg "begin" = some (.ref f0) ∧ mg "wins" = some (.ref f1) ∧ mg "odd" = some (.ref f2) ∧ mg "counts" = some (.ref f3) ∧ mg "plan" = some (.ref f4) ∧ mg "best" = some (.ref f5) ∧ mg "plans" = some (.ref f6) ∧ mg "spins" = some (.ref f7) ∧ mg "link" = some (.ref f8) ∧ mg "fresh" = some (.ref f9) ∧ mg "sure" = some (.ref f10) ∧ mg "measure" = some (.ref f11) ∧ mg "mine" = some (.ref f12) ∧ mg "chance" = some (.ref f13) ∧ mg "parity" = some (.ref f14) ∧ mg "value" = some (.ref f15) ∧ mg "row_told" = some (.ref f16) ∧ mg "state" = some (.ref f17)
  b_len : mg "len" = none
  b_all : mg "all" = none
  b_sum : mg "sum" = none
  b_max : mg "max" = none
  b_min : mg "min" = none
  b_range : mg "range" = none
  b_tuple : mg "tuple" = none
  b_list : mg "list" = none
  b_int : mg "int" = none
  b_enumerate : mg "enumerate" = none
  b_ValueError : mg "ValueError" = none
end Ss
namespace PySem
/-! ### enumerate(t), t a tuple -/
set_option maxHeartbeats 1000000 in
theorem ss_enumNew {v : Value} {o : Obj} {H : Heap → Prop} (B : Begins v o H) :
    Meets (Builtin.«enumerate.__new__» ⟨[.type "enumerate", v], []⟩) (fun _ R s => H s.heap ∧
      R (.ok (.ret (.ref (s.heap.push o).objs.size))) { s with heap := (s.heap.push o).push { cls := .type "enumerate", data := .fields #[.none, .bool false, .ref s.heap.objs.size, rawInt 0, .none, .none] } }) :=
  .of_wp fun prog w A R s h => by
    obtain ⟨hp, g, d, tk, os⟩ := s
    obtain ⟨h1, h⟩ := h
    have hsub := sub_enumerate
    have q1 : ∀ {A' : Around} {E : Value → Shared → Prop} {Q : Value → Shared → Prop}, Q (.ref hp.objs.size) ⟨hp.push o, g, d, tk, os⟩ → wpAny (model prog w) A' (pyIter v) Q E ⟨hp, g, d, tk, os⟩ :=
      fun q => B.iter prog w _ _ ⟨hp, g, d, tk, os⟩ _ h1 q
    wp_walk using q1
    refine wpAny_stack_any fun st => wpAny_pure ?_
    split
    · rename_i c _ _ _ _ _
      cases (c == Value.type "enumerate")
      · wp_walk using q1
        exact ⟨_, rfl, h⟩
      · wp_walk using q1
        exact ⟨_, rfl, h⟩
    · wp_walk using q1
      exact ⟨_, rfl, h⟩
theorem ss_enumCall {prog : Program} {w : World} {A : Around} {E : Value → Shared → Prop} {s : Shared} {v : Value} {o : Obj} {H : Heap → Prop} {Q : Value → Shared → Prop} (B : Begins v o H) (h1 : H s.heap)
    (h : ∀ h', IsEnum h' (s.heap.objs.size + 1) s.heap.objs.size 0 .none → h'.get? s.heap.objs.size = some o → (∀ b o, s.heap.get? b = some o → h'.get? b = some o) → Q (.ref (s.heap.objs.size + 1)) { s with heap := h' }) :
    wpAny (model prog w) A (call (.type "enumerate") [v]) Q E s := by
  refine callType_new F.called_enumerate (by decide) (F.typeCall_enumerate_1 _) (F.newCall_enumerate_1 _) (fun obj => F.args_object_init_2 obj _) F.entry_enumerate_new (ss_enumNew B) ⟨h1, ?_⟩
  have hz : (s.heap.push o).objs.size = s.heap.objs.size + 1 := Heap.size_push ..
  show _ ∧ _
  rw [hz]
  have he : IsEnum ((s.heap.push o).push { cls := .type "enumerate", data := .fields #[.none, .bool false, .ref s.heap.objs.size, rawInt 0, .none, .none] }) (s.heap.objs.size + 1) s.heap.objs.size 0 .none := by
    have := Heap.get?_push_size (s.heap.push o) (o := { cls := .type "enumerate", data := .fields #[.none, .bool false, .ref s.heap.objs.size, rawInt 0, .none, .none] }) rfl
    rw [hz] at this
    exact this
  exact ⟨⟨_, he, rfl⟩, h _ he (Heap.get?_push_of_some _ (Heap.get?_push_size _ B.free)) fun b o x => Heap.get?_push_of_some _ (Heap.get?_push_of_some _ x)⟩
end PySem
namespace Ss
open PySem PySem.Spec PyProof.Rows L2
/-- the tuple at a, its items in new pairs with their places -/
def IteT (K : PySem.W.Frag) (a : Addr) : It :=
  ⟨fun i H => ∃ (xs : List V) (x : V), SqT K H a xs ∧ xs[i]? = some x, fun i H v H' => ∃ T x, v = .ref T ∧ H T = none ∧ H' = upd H T (.tup [.int (i : Nat), x]) ∧ ∀ xs, SqT K H a xs → xs[i]? = some x, fun i H => ∃ xs : List V, SqT K H a xs ∧ xs.length = i⟩
theorem tup_ne_iter {h : Heap} {t it a : Addr} {i : Nat} {its : Array Value} (p : h.IsTuple t its) (q : h.IsTupleIter it a i) : t ≠ it := fun e => by
  subst e
  obtain ⟨o, ho, hc, _⟩ := p
  obtain ⟨o', ho', hc', _⟩ := q
  rw [ho] at ho'
  cases ho'
  rw [hc] at hc'
  exact absurd hc' (by decide)
theorem tup_ne_enum {h : Heap} {t e it : Addr} {i : Int} {old : Value} {its : Array Value} (p : h.IsTuple t its) (q : IsEnum h e it i old) : e ≠ t := fun z => by
  subst z
  obtain ⟨o, ho, hc, _⟩ := p
  have q' : h.get? e = _ := q
  rw [ho] at q'
  have := Option.some.inj q'
  rw [this] at hc
  have hc' : Value.type "enumerate" = Value.type "tuple" := hc
  exact absurd (Value.type.inj hc') (by decide)
theorem turn_enumT {P : Program} {w : World} {K : PySem.W.Frag} {elts : List Expr} {kk : Nat} {tpos : Pos} (a e it : Addr) :
    Turn P w K (.Tuple elts kk tpos) (IteT K a) [e, it] e (fun i h => (∃ old, IsEnum h e it ((i : Nat) : Int) old) ∧ h.IsTupleIter it a i ∧ e ≠ it) where
  mem := by simp
  obj := fun i h st b hb => by
    obtain ⟨⟨old, he⟩, ⟨o, ho, hc, hd⟩, _⟩ := st
    have e' : b = e ∨ b = it := by simpa using hb
    rcases e' with z | z
    · rw [z]; exact ⟨_, he, fun v q => nomatch q⟩
    · rw [z]; exact ⟨o, ho, fun v q => by rw [hd] at q; cases q⟩
  keep := fun i h h' st k => let ⟨⟨old, he⟩, hi, hne⟩ := st; ⟨⟨old, k e (by simp) _ he⟩, hi.at fun o q => k it (by simp) o q, hne⟩
  item := by
    intro X hP hw hK hc i pins s σ H E I hf st hg
    subst hP hw hK
    obtain ⟨⟨old, he⟩, hit, hne⟩ := st
    obtain ⟨xs, x, hq, hx⟩ := hg
    obtain ⟨its, rv, p, hz⟩ := I.tuple hq
    obtain ⟨u, hu, ru⟩ := rv.get hx
    have hel : e < s.heap.objs.size := Heap.lt_size he
    have hil : it < s.heap.objs.size := by obtain ⟨_, q, _⟩ := hit; exact Heap.lt_size q
    have hlt : i < its.toArray.size := by
      rw [List.size_toArray]
      exact (List.getElem?_eq_some_iff.mp hu).1
    have hea : e ∉ [it, a] := by
      simp only [List.mem_cons, List.not_mem_nil, or_false, not_or]
      exact ⟨hne, tup_ne_enum p he⟩
    refine wpAny_pyNext_enum_itemD (Draws.tuple (show X.A.in1.handled = none from I.ok.hd hc) it a (tup_ne_iter p hit) its.toArray) he ⟨hit, p⟩ hlt hne hea fun x' h' tk hP ho st' hT hsz hk => ?_
    have hxu : x' = u := by
      have h1 : its.toArray[i]? = some u := by simpa using hu
      rw [h1] at hP
      exact (Option.some.inj hP).symm
    subst hxu
    refine ⟨_, rfl, wpAny_letOwnedTupleGo_enum (s := { s with heap := h', toks := tk + 1 }) ho fun h'' he' sb => ?_⟩
    have hT2 : h''.get? s.heap.objs.size = some { cls := .type "tuple", data := .seq #[.int i tk, x'] } := (sb.2 _ (Nat.ne_of_gt hel)).trans hT
    have new : ObjOk X.prog X.w (upd H s.heap.objs.size (.tup [.int (i : Nat), x])) h'' s.heap.objs.size (.tup [.int (i : Nat), x]) :=
      ⟨by show 2 ≤ sizeLine; decide, [.int i tk, x'], .cons ⟨_, rfl⟩ (.cons ru .nil), ⟨_, hT2, rfl, _, rfl⟩⟩
    have I1 : Inv X pins σ (upd H s.heap.objs.size (.tup [.int (i : Nat), x])) { s with heap := h'', toks := tk + 1 } :=
      I.turnedNew (ch := [e, it]) (fun b ob hb q => (sb.2 b (fun z => hb (by simp [z]))).trans (hk b ob (fun z => hb (by simp [z])) (fun z => hb (by simp [z])) q)) hf (Nat.le_refl _) new
    refine ⟨.ref s.heap.objs.size, _, I1, rfl, ⟨_, x, rfl, I.hok.fresh (Nat.le_refl _), rfl, fun ys hy => by rw [I.tuple_inj hy hq]; exact hx⟩, ⟨⟨x', ?_⟩, st'.1.at fun o q => (sb.2 it (Ne.symm hne)).trans q, hne⟩, fun b hb => ?_⟩
    · have e1 : ((i + 1 : Nat) : Int) = (i : Int) + 1 := by omega
      rw [e1]; exact he'
    · have hb' : b < s.heap.objs.size := by
        have e' : b = e ∨ b = it := by simpa using hb
        rcases e' with z | z
        · rw [z]; exact hel
        · rw [z]; exact hil
      rw [upd_ne (Nat.ne_of_lt hb')]
      exact (hf b hb).1
  done := by
    intro X hP hw hK hc i pins s σ H E I hf st hg
    subst hP hw hK
    obtain ⟨⟨old, he⟩, hit, hne⟩ := st
    obtain ⟨xs, hq, hx⟩ := hg
    obtain ⟨its, rv, p, hz⟩ := I.tuple hq
    obtain ⟨f0, f1, f2, f3, f4, f5⟩ := hf it (by simp)
    have hl := rv.length
    have hi : its.toArray.size = i := by
      rw [List.size_toArray]
      omega
    subst hi
    exact wpAny_pyNext_enum_endD (Draws.tuple (show X.A.in1.handled = none from I.ok.hd hc) it a (tup_ne_iter p hit) its.toArray) he ⟨hit, p⟩ fun h' eb => ⟨rfl, I.turned (t' := s.toks) (fun b o hb q => eb b o hb q) f0 f1 f3 f4 f5⟩
  self := fun A i s Q E st h => let ⟨⟨_, he⟩, _⟩ := st; wpAny_pyIter_enum he h
def iEnumT (K : PySem.W.Frag) (ta : TA) : TI := fun σ H R => ta σ H fun vs H1 => ∃ a xs, vs = [.ref a] ∧ SqT K H1 a xs ∧ R (IteT K a) H1
theorem pi_enumT {X : Cx} {e : Expr} {ta : TA} {p pos tpos : Pos} {elts : List Expr} {kk : Nat} (hg : Gl X "enumerate") (hm : X.mg "enumerate" = none) (ha : PA X [e] ta) (hs : starEach [e] X.env = [(false, eval e X.env)] := by rfl) :
    PI X (.Tuple elts kk tpos) (.Call (.Name "enumerate" p) [e] [] pos) (iEnumT X.K ta) := by
  refine ⟨fun pins s σ H R I h => ?_⟩
  refine Call_ (ld_blt I hg hm boot_enumerate (PyProof.Rows.callWith_type1 (thn (ha.run pos pins s σ H _ I h) fun us s1 ⟨vs, H1, I1, r1, q1⟩ => ?_) hs rfl))
  obtain ⟨a, xs, ex, hq, q⟩ := q1
  subst ex
  cases r1 with
  | cons r rr =>
    cases rr
    cases r
    obtain ⟨its, rv, p', hz⟩ := I1.tuple hq
    refine ss_enumCall (begins_tuple a its.toArray) p' fun h' he hit hk => wpAny_pyIter_enum he ?_
    have I2 : Inv X pins σ H1 { s1 with heap := h' } := I1.kept (t' := s1.toks) hk
    refine ⟨s1.heap.objs.size + 1, [s1.heap.objs.size + 1, s1.heap.objs.size], _, _, H1, rfl, I2, turn_enumT a (s1.heap.objs.size + 1) s1.heap.objs.size, ⟨⟨.none, he⟩, ⟨_, hit, rfl, rfl⟩, Nat.succ_ne_self _⟩, fun b hb => ?_, q⟩
    have e' : b = s1.heap.objs.size + 1 ∨ b = s1.heap.objs.size := by simpa using hb
    have hle : s1.heap.objs.size ≤ b := by
      rcases e' with z | z
      · rw [z]; exact Nat.le_add_right _ _
      · rw [z]; exact Nat.le_refl _
    exact I1.fpOk hle (I1.hok.fresh hle)
theorem walk_enumT {K : PySem.W.Frag} {a : Addr} {xs : List V} : Walk (IteT K a) xs.length (fun H => SqT K H a xs) (YPair (fun i => some (.int (i : Nat))) (fun i => xs[i]?)) := by
  refine ⟨fun i _ hi q => ⟨xs, xs[i], q, by simp [hi]⟩, fun _ q => ⟨xs, q, rfl⟩, fun i H v H' _ q y => ?_⟩
  obtain ⟨T, x, h1, h2, h3, h4⟩ := y
  exact ⟨T, .int (i : Nat), x, h1, h2, h3, rfl, h4 xs q⟩
/-! ### in, over a tuple of data -/
section
variable {X : Cx}
theorem hu65 {k : Nat} {A : Around} (hr : Room k A) : A.units + 65 < cLine := by have := hr.un; omega
def rInT (K : PySem.W.Frag) : R2 := fun x y H Q => ∃ d ds, Dp K H x d ∧ Dp K H y (.tuple ds) ∧ SeqAt.shaped d = true ∧ SeqAt.shaped (.tuple ds) = true ∧ Q (.bl (ds.any fun z => PyData.eqv z d)) H
theorem op_inT (hu : X.A.units + 65 < cLine) : OpR X (compareOp .In) (rInT X.K) := by
  intro pins s σ H x y v u Q I rx ry h
  obtain ⟨d, ds, hd, he, sd, se, q⟩ := h
  obtain ⟨as, r1⟩ := Dp.reads I d x v hd rx
  obtain ⟨bs, r2⟩ := Dp.reads I (.tuple ds) y u he ry
  exact SeqAt.in_tuple_reads r2 r1 (SeqAt.canLay_of_shaped se) (SeqAt.canLay_of_shaped sd) (room_in_shaped sd hu) ⟨.bl _, H, I, rfl, q⟩
end
end Ss
namespace Ss
open PySem PySem.Spec PyProof.Rows L2
/-! ### a tuple so many times -/
theorem ss_mul1 (l : Addr) (items : Array Value) (n : Nat) (dd : Option Addr) (sl : Array (Option Value)) (u : Tok) :
    Meets (Builtin.«tuple.__mul__» ⟨[.ref l, .int 1 u], []⟩) (fun _ R s => s.heap.get? l = some { cls := .type "tuple", dict := dd, data := .seq items n, slots := sl } ∧ R (.ok (.ret (.ref l))) s) :=
  .of_wp fun prog w A R s h => by
    obtain ⟨hp, g, d, tk, os⟩ := s
    obtain ⟨hl, h⟩ := h
    have f1 := AutoSeq1.idx_int
    wp_walk using wpAny_loadPart' hl
    exact ⟨_, rfl, h⟩
theorem ss_mul0 (l : Addr) (items : Array Value) (n : Nat) (dd : Option Addr) (sl : Array (Option Value)) (u : Tok) (c1 : items.isEmpty = false) :
    Meets (Builtin.«tuple.__mul__» ⟨[.ref l, .int 0 u], []⟩) (fun _ R s => s.heap.get? l = some { cls := .type "tuple", dict := dd, data := .seq items n, slots := sl } ∧
      R (.ok (.ret (Value.ref s.heap.objs.size))) { s with heap := s.heap.push { cls := Value.type "tuple", data := Data.seq #[] }, toks := s.toks }) :=
  .of_wp fun prog w A R s h => by
    obtain ⟨hp, g, d, tk, os⟩ := s
    obtain ⟨hl, h⟩ := h
    have f1 := AutoSeq1.idx_int
    wp_walk using wpAny_loadPart' hl
    exact ⟨_, rfl, h⟩
def rTrep (K : PySem.W.Frag) : R2 := fun x y H Q => ∃ (l : Addr) (k : Nat) (xs : List V), x = .ref l ∧ y = .int k ∧ SqT K H l xs ∧ xs ≠ [] ∧ k ≤ 1000 ∧ xs.length ≤ 1000 ∧
  (k = 1 → Q (.ref l) H) ∧ (k ≠ 1 → ∀ p, H p = none → Q (.ref p) (upd H p (.tup (List.replicate k xs).flatten)))
section
variable {X : Cx}
theorem op_trep : OpR X (binaryOp .Mult) (rTrep X.K) := by
  intro pins s σ H x y v u Q I rx ry h
  obtain ⟨l, k, xs, rfl, rfl, hT, hne, h2, hz, q1, q2⟩ := h
  by_cases hk : 2 ≤ k
  · refine op_repT pins s σ H _ _ v u Q I rx ry ⟨l, k, xs, rfl, rfl, hT, hne, by omega, by omega, hz, fun p hp => ?_⟩
    exact q2 (by omega) p hp
  · cases rx
    obtain ⟨t, rfl⟩ := ry
    obtain ⟨its, r, ⟨⟨cls, dd, data, sl⟩, ho, hc, n, hd⟩, hs⟩ := I.tuple hT
    simp only at hc hd
    subst hc hd
    have hn : its ≠ [] := fun e => by
      subst e
      cases r
      exact hne rfl
    have hi : its.toArray.isEmpty = false := by
      cases its with
      | nil => exact absurd rfl hn
      | cons a b => rfl
    rcases (by omega : k = 0 ∨ k = 1) with rfl | rfl
    · refine wpAny_binaryOp_repeat_ref (T := "tuple") (U := "int") (by decide) ⟨_, ho, rfl⟩ (fun s' => typeIs_int s' _ t) noFill_tuple_mul F.fills_int_mul F.slot_int_rmul repeat_tuple F.slot_int_index.lookup
        (call_meets F.slot_int_rmul (typeIs_int s _ t) F.entry_int_rmul (F.args_int_rmul_2 _ _) (int_rmul_tuple _ t l its.toArray n dd sl)
          ⟨ho, rfl, ⟨_, ho, rfl⟩, call_meets F.slot_tuple_mul ⟨_, ho, rfl⟩ F.entry_tuple_mul (F.args_tuple_mul_2 _ _) (ss_mul0 l its.toArray n dd sl t hi) ⟨ho, ?_⟩⟩)
      refine ⟨.ref s.heap.objs.size, _, I.laid (t' := s.toks) (o := .tup []) (fun b ob q => Heap.get?_push_of_some _ q) (Nat.le_refl _) ?_, rfl, q2 (by decide) _ (I.hok.fresh (Nat.le_refl _))⟩
      exact ⟨Nat.zero_le _, [], .nil, IsTup.new _ _⟩
    · exact wpAny_binaryOp_repeat_ref (T := "tuple") (U := "int") (by decide) ⟨_, ho, rfl⟩ (fun s' => typeIs_int s' _ t) noFill_tuple_mul F.fills_int_mul F.slot_int_rmul repeat_tuple F.slot_int_index.lookup
        (call_meets F.slot_int_rmul (typeIs_int s _ t) F.entry_int_rmul (F.args_int_rmul_2 _ _) (int_rmul_tuple _ t l its.toArray n dd sl)
          ⟨ho, rfl, ⟨_, ho, rfl⟩, call_meets F.slot_tuple_mul ⟨_, ho, rfl⟩ F.entry_tuple_mul (F.args_tuple_mul_2 _ _) (ss_mul1 l its.toArray n dd sl t) ⟨ho, ⟨.ref l, H, I, rfl, q1 rfl⟩⟩⟩)
end
/-! ### within a comprehension the written part is named -/
section
variable {X : Cx} {K : PySem.W.Frag}
theorem ix_tupK (h : X.K = K) : IxR X (rIxT K) := h ▸ ix_tup
theorem ix_listK (h : X.K = K) : IxR X (rIxL K) := h ▸ ix_list
theorem op_neDK (h : X.K = K) (hu : X.A.units + 64 < cLine) : OpR X (compareOp .NotEq) (rNeD K) := h ▸ op_neD hu
theorem pe_fldK {e : Expr} {f : Str} {pos : Pos} {ta : TE} (h : X.K = K) (ha : PE X e ta) (hb : attributeBase e f X.env (eval e X.env) = eval e X.env := by rfl) : PE X (.Attribute e f pos) (tFld K ta f) := h ▸ pe_fld ha hb
end
/-! ### built-ins by their names -/
theorem boot_flen : bootBuiltins "len" = some (.builtin "len") := by decide +kernel
theorem boot_fall : bootBuiltins "all" = some (.builtin "all") := by decide +kernel
theorem boot_fsum : bootBuiltins "sum" = some (.builtin "sum") := by decide +kernel
theorem boot_fmax : bootBuiltins "max" = some (.builtin "max") := by decide +kernel
theorem boot_fmin : bootBuiltins "min" = some (.builtin "min") := by decide +kernel
theorem boot_ftuple : bootBuiltins "tuple" = some (.type "tuple") := by decide +kernel
theorem boot_flist : bootBuiltins "list" = some (.type "list") := by decide +kernel
theorem boot_fint : bootBuiltins "int" = some (.type "int") := by decide +kernel
/-! ### calls of the program's own -/
section
variable (CX : CXT) (P : Program) (w : World) (K : PySem.W.Frag) (mg : Str → Option Value) (base : Heap)
structure CalG (k : Nat) (x : Str) (sp : Sp) : Prop where
  ex : ∃ (f : Addr) (fd : FuncData) (ps : List Str), FnOk P w K mg base CX k f fd ps sp ∧ mg x = some (.ref f) ∧ PySem.W.keepIn K (.ref f) = true ∧ Binds K fd ps []
structure MetG (k : Nat) (C : Addr) (m : Str) (sp : Sp) : Prop where
  ex : ∃ (f : Addr) (fd : FuncData) (ps : List Str), Cls K C ∧ Meth K C m f ∧ FnOk P w K mg base CX k f fd ps sp ∧ Binds K fd ps []
structure MakG (k : Nat) (x : Str) (C : Addr) (sp : Sp) : Prop where
  ex : ∃ (f : Addr) (fd : FuncData) (ps : List Str), Mk K C f ∧ FnOk P w K mg base CX k f fd ps sp ∧ mg x = some (.ref C) ∧ Binds K fd ps []
structure RefG (k : Nat) (C : Addr) (sp : Sp) : Prop where
  ex : ∃ (f : Addr) (fd : FuncData) (ps : List Str), PySem.W.findIn K (.ref C) "__init__" = some (some (.ref f)) ∧ PySem.W.typeIn K (.ref f) = some (.type "function") ∧ FnOk P w K mg base CX k f fd ps sp ∧ Binds K fd ps []
structure HeldG (k : Nat) (f : Addr) (sp : Sp) : Prop where
  ex : ∃ (fd : FuncData) (ps : List Str), FnOk P w K mg base CX k f fd ps sp ∧ PySem.W.keepIn K (.ref f) = true ∧ Binds K fd ps []
end
section
variable {X : Cx} {CX : CXT} {k j i : Nat} {C : Addr} {x m : Str} {sp : Sp} {E : XK} {p pos apos : Pos} {e o : Expr} {es : List Expr} {ta : TE} {t : TA}
theorem pe_gk {v : V} (hg : Gl X x) (h : GK X.mg x v) (hd : (x == ("__debug__" : Str)) = false := by decide) : PE X (.Name x pos) (tC v) := by
  obtain ⟨u, hm, r⟩ := h
  exact pe_glob hg hm r hd
theorem pe_cg (c : CalG CX X.prog X.w X.K X.mg X.base k x sp) (hr : Room j X.A) (hk : k ≤ j) (hg : Gl X x) (hx : Passes CX X E) (ha : PA X (e :: es) t)
    (hdb : (x == ("__debug__" : Str)) = false := by decide) (he : starEach (e :: es) X.env = (false, eval e X.env) :: starEach es X.env := by rfl) (hpl : (backTo pos (starEach es X.env)).any (·.1) = false := by rfl) :
    PE X (.Call (.Name x p) (e :: es) [] pos) (tCall sp [] E t) := by
  obtain ⟨f, fd, ps, F, hm, kp, b⟩ := c.ex
  exact pe_call F (hr.mono hk) hg hm kp b .nil hx ha hdb he hpl
theorem pe_cgS (c : CalG CX X.prog X.w X.K X.mg X.base k x sp) (hr : Room j X.A) (hk : k ≤ j) (hg : Gl X x) {E : L2.St → XK} (hx : ∀ σ, PassesAt CX X σ (E σ)) (ha : PA X (e :: es) t)
    (hdb : (x == ("__debug__" : Str)) = false := by decide) (he : starEach (e :: es) X.env = (false, eval e X.env) :: starEach es X.env := by rfl) (hpl : (backTo pos (starEach es X.env)).any (·.1) = false := by rfl) :
    PE X (.Call (.Name x p) (e :: es) [] pos) (tCallS sp E t) := by
  obtain ⟨f, fd, ps, F, hm, kp, b⟩ := c.ex
  exact pe_callS F (hr.mono hk) hg hm kp b hx ha hdb he hpl
theorem pe_mg {pl : Sem Bool} (c : MetG CX X.prog X.w X.K X.mg X.base k C m sp) (hr : Room j X.A) (hk : k ≤ j) (hx : Passes CX X E) (he : PE X o ta) (ha : PA X (e :: es) t)
    (hst : starEach (e :: es) X.env = (false, eval e X.env) :: starEach es X.env := by rfl) (hpl : (backTo pos (starEach es X.env)).any (·.1) = false := by rfl)
    (ht : eval (.Call (.Attribute o m apos) (e :: es) [] pos) X.env = (do
      let ov ← eval o X.env
      standAt apos.atName
      let (f, first) ← holding [ov] (getMethod ov m pl)
      callWith pos f first (backTo pos (starEach (e :: es) X.env)) (backToKw pos (keywordEach [] X.env))) := by rfl) :
    PE X (.Call (.Attribute o m apos) (e :: es) [] pos) (tMeth C m sp [] E ta t) := by
  obtain ⟨f, fd, ps, hc, hm, F, b⟩ := c.ex
  exact pe_meth (pl := pl) he hc hm F (hr.mono hk) b .nil hx ha hst hpl ht
theorem pe_mg0 {pl : Sem Bool} (c : MetG CX X.prog X.w X.K X.mg X.base k C m sp) (hr : Room j X.A) (hk : k ≤ j) (hx : Passes CX X E) (he : PE X o ta)
    (ht : eval (.Call (.Attribute o m apos) [] [] pos) X.env = (do
      let ov ← eval o X.env
      standAt apos.atName
      let (f, first) ← holding [ov] (getMethod ov m pl)
      callWith pos f first (backTo pos (starEach [] X.env)) (backToKw pos (keywordEach [] X.env))) := by rfl) :
    PE X (.Call (.Attribute o m apos) [] [] pos) (tMeth C m sp [] E ta tNil) := by
  obtain ⟨f, fd, ps, hc, hm, F, b⟩ := c.ex
  exact pe_meth0 (pl := pl) he hc hm F (hr.mono hk) b .nil hx ht
theorem pe_mak (c : MakG CX0 X.prog X.w X.K X.mg X.base k x C sp) (hr : Room j X.A) (hk : k + 1 ≤ j) (hg : Gl X x) (ha : PA X (e :: es) t)
    (hdb : (x == ("__debug__" : Str)) = false := by decide) (he : starEach (e :: es) X.env = (false, eval e X.env) :: starEach es X.env := by rfl) (hpl : (backTo pos (starEach es X.env)).any (·.1) = false := by rfl) :
    PE X (.Call (.Name x p) (e :: es) [] pos) (tMake C sp [] E0 t) := by
  obtain ⟨f, fd, ps, M, F, hm, b⟩ := c.ex
  exact pe_make M F (hr.mono hk) hg hm b .nil pass0 ha hdb he hpl
theorem pe_mak0 (c : MakG CX0 X.prog X.w X.K X.mg X.base k x C sp) (hr : Room j X.A) (hk : k + 1 ≤ j) (hg : Gl X x) (hdb : (x == ("__debug__" : Str)) = false := by decide) :
    PE X (.Call (.Name x p) [] [] pos) (tMake C sp [] E0 tNil) := by
  obtain ⟨f, fd, ps, M, F, hm, b⟩ := c.ex
  exact pe_make0 M F (hr.mono hk) hg hm b .nil pass0 hdb
theorem pmk_ref (T : OexC X.K C) (hm : X.mg x = some (.ref C)) (c : RefG CX0 X.prog X.w X.K X.mg X.base k C sp) (hr : Room j X.A) (hk : k + 1 ≤ j) (hg : Gl X x) (ha : PA X (e :: es) t)
    (hdb : (x == ("__debug__" : Str)) = false := by decide) (he : starEach (e :: es) X.env = (false, eval e X.env) :: starEach es X.env := by rfl) (hpl : (backTo pos (starEach es X.env)).any (·.1) = false := by rfl) :
    PMk X (.Call (.Name x p) (e :: es) [] pos) (tMkO C sp [] t) := by
  obtain ⟨f, fd, ps, h1, h2, F, b⟩ := c.ex
  exact pmk_oex T h1 h2 F (hr.mono hk) b .nil pass0 hg hm ha hdb he hpl
/-- a local name that holds one of several defs, any of which may raise -/
def tHeld (i : Nat) (S : Addr → Sp → Prop) (E : XK) (t : TA) : TE := fun σ H Q => ∃ f sp, σ[i]? = some (some (.ref f)) ∧ S f sp ∧ t σ H fun vs H1 => sp vs H1 Q E
theorem pe_held {S : Addr → Sp → Prop} (A : ∀ f sp, S f sp → HeldG CX X.prog X.w X.K X.mg X.base k f sp) (hr : Room j X.A) (hk : k ≤ j) (hx : Passes CX X E) (hN : X.N[i]? = some x) (hv : Vis X.env.scope x) (ha : PA X (e :: es) t)
    (hdb : (x == ("__debug__" : Str)) = false := by decide) (hcd : (x == ("__classdict__" : Str)) = false := by decide)
    (he : starEach (e :: es) X.env = (false, eval e X.env) :: starEach es X.env := by rfl) (hpl : (backTo pos (starEach es X.env)).any (·.1) = false := by rfl) : PE X (.Call (.Name x p) (e :: es) [] pos) (tHeld i S E t) := by
  refine ⟨fun pins s σ H Q I h => ?_⟩
  obtain ⟨f, sp, hs, hS, ht⟩ := h
  obtain ⟨fd, ps, F, kp, b⟩ := (A f sp hS).ex
  refine (pe_callL (i := i) (f := f) (sp := sp) (dvs := []) (E := E) F (hr.mono hk) hN hv kp b .nil hx ha hdb hcd he hpl).run pins s σ H Q I ⟨hs, ?_⟩
  have e0 : (fun (vs : List V) (H1 : Hp) => sp (vs ++ []) H1 Q E) = fun vs H1 => sp vs H1 Q E := by
    funext vs H1
    rw [List.append_nil]
  show t σ H (fun vs H1 => sp (vs ++ []) H1 Q E)
  rw [e0]
  exact ht
end
/-- what nothing raises, raises nothing in any context -/
theorem fn_any {P : Program} {w : World} {K : PySem.W.Frag} {mg : Str → Option Value} {base : Heap} {CX : CXT} {k : Nat} {f : Addr} {fd : FuncData} {ps : List Str} {sp : Sp} (F : FnOk P w K mg base CX0 k f fd ps sp) : FnOk P w K mg base CX k f fd ps sp :=
  ⟨F.len, fun A outer s H args us vs Q E hr e0 hb r h => codeAny_mono (F.run A outer s H args us vs Q E hr e0 hb r h) fun r s' q => by
    cases r with
    | error e => exact q.elim
    | ok fl =>
      cases fl with
      | ret u => exact q
      | next => exact q
      | brk => exact q
      | cont => exact q⟩
end Ss
namespace Mx
open Su173 (Spin times2 mul signOf together)
/-! ### letters on one spin -/
def lm (a b : Nat) : Nat := (times2 a b).1
def tm (a b : Nat) : Nat := (times2 a b).2
def am (a b : Nat) : Nat := if a ≠ 0 ∧ b ≠ 0 ∧ a ≠ b then 1 else 0
theorem lt4 {a : Nat} (h : a ≤ 3) : a = 0 ∨ a = 1 ∨ a = 2 ∨ a = 3 := by omega
theorem lm_le {a b : Nat} (ha : a ≤ 3) (hb : b ≤ 3) : lm a b ≤ 3 := by
  rcases lt4 ha with rfl | rfl | rfl | rfl <;> rcases lt4 hb with rfl | rfl | rfl | rfl <;> decide
theorem tm_lt (a b : Nat) : tm a b < 4 := by
  unfold tm times2
  repeat' split
  all_goals simp
theorem lm_0l (a : Nat) : lm 0 a = a := by unfold lm times2; simp
theorem lm_0r (a : Nat) : lm a 0 = a := by
  unfold lm times2
  by_cases h : a = 0 <;> simp [h]
theorem tm_0l (a : Nat) : tm 0 a = 0 := by unfold tm times2; simp
theorem tm_0r (a : Nat) : tm a 0 = 0 := by
  unfold tm times2
  by_cases h : a = 0 <;> simp [h]
theorem lm_self (a : Nat) : lm a a = 0 := by
  unfold lm times2
  by_cases h : a = 0 <;> simp [h]
theorem tm_self (a : Nat) : tm a a = 0 := by
  unfold tm times2
  by_cases h : a = 0 <;> simp [h]
theorem lm_comm {a b : Nat} (ha : a ≤ 3) (hb : b ≤ 3) : lm a b = lm b a := by
  rcases lt4 ha with rfl | rfl | rfl | rfl <;> rcases lt4 hb with rfl | rfl | rfl | rfl <;> decide
theorem lm_assoc {a b c : Nat} (ha : a ≤ 3) (hb : b ≤ 3) (hc : c ≤ 3) : lm (lm a b) c = lm a (lm b c) := by
  rcases lt4 ha with rfl | rfl | rfl | rfl <;> rcases lt4 hb with rfl | rfl | rfl | rfl <;> rcases lt4 hc with rfl | rfl | rfl | rfl <;> decide
theorem tm_assoc {a b c : Nat} (ha : a ≤ 3) (hb : b ≤ 3) (hc : c ≤ 3) : (tm a b + tm (lm a b) c) % 4 = (tm b c + tm a (lm b c)) % 4 := by
  rcases lt4 ha with rfl | rfl | rfl | rfl <;> rcases lt4 hb with rfl | rfl | rfl | rfl <;> rcases lt4 hc with rfl | rfl | rfl | rfl <;> decide
theorem tm_comm {a b : Nat} (ha : a ≤ 3) (hb : b ≤ 3) : tm a b % 4 = (tm b a + 2 * am a b) % 4 := by
  rcases lt4 ha with rfl | rfl | rfl | rfl <;> rcases lt4 hb with rfl | rfl | rfl | rfl <;> decide
theorem tm_am {a b : Nat} (ha : a ≤ 3) (hb : b ≤ 3) : tm a b % 2 = am a b % 2 := by
  rcases lt4 ha with rfl | rfl | rfl | rfl <;> rcases lt4 hb with rfl | rfl | rfl | rfl <;> decide
theorem am_lm {a b c : Nat} (ha : a ≤ 3) (hb : b ≤ 3) (hc : c ≤ 3) : am (lm a b) c % 2 = (am a c + am b c) % 2 := by
  rcases lt4 ha with rfl | rfl | rfl | rfl <;> rcases lt4 hb with rfl | rfl | rfl | rfl <;> rcases lt4 hc with rfl | rfl | rfl | rfl <;> decide
theorem am_comm (a b : Nat) : am a b = am b a := by
  unfold am
  by_cases h : a ≠ 0 ∧ b ≠ 0 ∧ a ≠ b
  · rw [if_pos h, if_pos ⟨h.2.1, h.1, Ne.symm h.2.2⟩]
  · rw [if_neg h, if_neg fun z => h ⟨z.2.1, z.1, Ne.symm z.2.2⟩]
theorem am_self (a : Nat) : am a a = 0 := by unfold am; simp
theorem am_0l (a : Nat) : am 0 a = 0 := by unfold am; simp
theorem am_0r (a : Nat) : am a 0 = 0 := by unfold am; simp
/-! ### rows of letters -/
/-- so many letters, each at most 3 -/
def Lt (m : Nat) (x : List Nat) : Prop := x.length = m ∧ ∀ a ∈ x, a ≤ 3
def L : List Nat → List Nat → List Nat
  | a :: x, b :: y => lm a b :: L x y
  | _, _ => []
def T : List Nat → List Nat → Nat
  | a :: x, b :: y => tm a b + T x y
  | _, _ => 0
def A : List Nat → List Nat → Nat
  | a :: x, b :: y => am a b + A x y
  | _, _ => 0
def Z (m : Nat) : List Nat := List.replicate m 0
theorem Lt.cons {m : Nat} {a : Nat} {x : List Nat} (h : Lt (m + 1) (a :: x)) : a ≤ 3 ∧ Lt m x := ⟨h.2 a (by simp), by simpa using h.1, fun b hb => h.2 b (by simp [hb])⟩
theorem Lt.nil {x : List Nat} (h : Lt 0 x) : x = [] := List.eq_nil_of_length_eq_zero h.1
theorem Lt.ex {m : Nat} {x : List Nat} (h : Lt (m + 1) x) : ∃ a y, x = a :: y ∧ a ≤ 3 ∧ Lt m y := by
  cases x with
  | nil => exact absurd h.1 (by simp)
  | cons a y => exact ⟨a, y, rfl, h.cons⟩
theorem Lt.mk {m : Nat} {a : Nat} {x : List Nat} (ha : a ≤ 3) (h : Lt m x) : Lt (m + 1) (a :: x) := ⟨by simp [h.1], fun b hb => by
  rcases List.mem_cons.mp hb with rfl | hb
  · exact ha
  · exact h.2 b hb⟩
theorem Lt.z (m : Nat) : Lt m (Z m) := ⟨by simp [Z], fun a ha => by have := List.eq_of_mem_replicate ha; omega⟩
theorem L_lt : ∀ {m : Nat} {x y : List Nat}, Lt m x → Lt m y → Lt m (L x y)
  | 0, x, y, hx, hy => by rw [hx.nil]; exact ⟨rfl, by simp [L]⟩
  | m + 1, x, y, hx, hy => by
    obtain ⟨a, x, rfl, ha, hx⟩ := hx.ex
    obtain ⟨b, y, rfl, hb, hy⟩ := hy.ex
    exact Lt.mk (lm_le ha hb) (L_lt hx hy)
theorem L_comm : ∀ {m : Nat} {x y : List Nat}, Lt m x → Lt m y → L x y = L y x
  | 0, x, y, hx, hy => by rw [hx.nil, hy.nil]
  | m + 1, x, y, hx, hy => by
    obtain ⟨a, x, rfl, ha, hx⟩ := hx.ex
    obtain ⟨b, y, rfl, hb, hy⟩ := hy.ex
    simp only [L]
    rw [lm_comm ha hb, L_comm hx hy]
theorem L_assoc : ∀ {m : Nat} {x y z : List Nat}, Lt m x → Lt m y → Lt m z → L (L x y) z = L x (L y z)
  | 0, x, y, z, hx, hy, hz => by rw [hx.nil, hy.nil, hz.nil]; rfl
  | m + 1, x, y, z, hx, hy, hz => by
    obtain ⟨a, x, rfl, ha, hx⟩ := hx.ex
    obtain ⟨b, y, rfl, hb, hy⟩ := hy.ex
    obtain ⟨c, z, rfl, hc, hz⟩ := hz.ex
    simp only [L]
    rw [lm_assoc ha hb hc, L_assoc hx hy hz]
theorem T_assoc : ∀ {m : Nat} {x y z : List Nat}, Lt m x → Lt m y → Lt m z → (T x y + T (L x y) z) % 4 = (T y z + T x (L y z)) % 4
  | 0, x, y, z, hx, hy, hz => by rw [hx.nil, hy.nil, hz.nil]; rfl
  | m + 1, x, y, z, hx, hy, hz => by
    obtain ⟨a, x, rfl, ha, hx⟩ := hx.ex
    obtain ⟨b, y, rfl, hb, hy⟩ := hy.ex
    obtain ⟨c, z, rfl, hc, hz⟩ := hz.ex
    simp only [L, T]
    have h1 := tm_assoc ha hb hc
    have h2 := T_assoc hx hy hz
    omega
theorem T_comm : ∀ {m : Nat} {x y : List Nat}, Lt m x → Lt m y → T x y % 4 = (T y x + 2 * A x y) % 4
  | 0, x, y, hx, hy => by rw [hx.nil, hy.nil]; rfl
  | m + 1, x, y, hx, hy => by
    obtain ⟨a, x, rfl, ha, hx⟩ := hx.ex
    obtain ⟨b, y, rfl, hb, hy⟩ := hy.ex
    simp only [T, A]
    have h1 := tm_comm ha hb
    have h2 := T_comm hx hy
    omega
theorem T_A : ∀ {m : Nat} {x y : List Nat}, Lt m x → Lt m y → T x y % 2 = A x y % 2
  | 0, x, y, hx, hy => by rw [hx.nil, hy.nil]; rfl
  | m + 1, x, y, hx, hy => by
    obtain ⟨a, x, rfl, ha, hx⟩ := hx.ex
    obtain ⟨b, y, rfl, hb, hy⟩ := hy.ex
    simp only [T, A]
    have h1 := tm_am ha hb
    have h2 := T_A hx hy
    omega
theorem A_L : ∀ {m : Nat} {x y z : List Nat}, Lt m x → Lt m y → Lt m z → A (L x y) z % 2 = (A x z + A y z) % 2
  | 0, x, y, z, hx, hy, hz => by rw [hx.nil, hy.nil, hz.nil]; rfl
  | m + 1, x, y, z, hx, hy, hz => by
    obtain ⟨a, x, rfl, ha, hx⟩ := hx.ex
    obtain ⟨b, y, rfl, hb, hy⟩ := hy.ex
    obtain ⟨c, z, rfl, hc, hz⟩ := hz.ex
    simp only [L, A]
    have h1 := am_lm ha hb hc
    have h2 := A_L hx hy hz
    omega
theorem A_comm : ∀ x y : List Nat, A x y = A y x
  | [], [] => rfl
  | [], _ :: _ => rfl
  | _ :: _, [] => rfl
  | a :: x, b :: y => by simp only [A]; rw [am_comm, A_comm x y]
theorem A_self : ∀ x : List Nat, A x x = 0
  | [] => rfl
  | a :: x => by simp only [A]; rw [am_self, A_self x]
theorem T_self : ∀ x : List Nat, T x x = 0
  | [] => rfl
  | a :: x => by simp only [T]; rw [tm_self, T_self x]
theorem L_self : ∀ {m : Nat} {x : List Nat}, Lt m x → L x x = Z m
  | 0, x, hx => by rw [hx.nil]; rfl
  | m + 1, x, hx => by
    obtain ⟨a, x, rfl, ha, hx⟩ := hx.ex
    simp only [L]
    rw [lm_self, L_self hx]
    rfl
theorem L_z : ∀ {m : Nat} {x : List Nat}, Lt m x → L (Z m) x = x
  | 0, x, hx => by rw [hx.nil]; rfl
  | m + 1, x, hx => by
    obtain ⟨a, x, rfl, ha, hx⟩ := hx.ex
    show lm 0 a :: L (Z m) x = _
    rw [lm_0l, L_z hx]
theorem L_zr {m : Nat} {x : List Nat} (hx : Lt m x) : L x (Z m) = x := by rw [L_comm hx (Lt.z m), L_z hx]
theorem T_z : ∀ {m : Nat} {x : List Nat}, Lt m x → T (Z m) x = 0
  | 0, x, hx => by rw [hx.nil]; rfl
  | m + 1, x, hx => by
    obtain ⟨a, x, rfl, ha, hx⟩ := hx.ex
    show tm 0 a + T (Z m) x = _
    rw [tm_0l, T_z hx]
theorem A_z : ∀ {m : Nat} {x : List Nat}, Lt m x → A (Z m) x = 0
  | 0, x, hx => by rw [hx.nil]; rfl
  | m + 1, x, hx => by
    obtain ⟨a, x, rfl, ha, hx⟩ := hx.ex
    show am 0 a + A (Z m) x = _
    rw [am_0l, A_z hx]
theorem A_zr {m : Nat} {x : List Nat} (hx : Lt m x) : A x (Z m) = 0 := by rw [A_comm, A_z hx]
/-! ### the specification's words for them -/
theorem prod_L : ∀ x y : List Nat, (Su173.product x y).1 = L x y
  | [], [] => rfl
  | [], _ :: _ => rfl
  | _ :: _, [] => rfl
  | a :: x, b :: y => by
    have h := prod_L x y
    simp only [Su173.product, List.zip_cons_cons, List.map_cons] at h ⊢
    simp only [L]
    rw [← h]
    rfl
theorem zip_T : ∀ x y : List Nat, (((x.zip y).map fun p => times2 p.1 p.2).map Prod.snd).sum = T x y
  | [], [] => rfl
  | [], _ :: _ => rfl
  | _ :: _, [] => rfl
  | a :: x, b :: y => by
    have h := zip_T x y
    simp only [List.zip_cons_cons, List.map_cons, List.sum_cons] at h ⊢
    rw [h]
    rfl
theorem prod_T (x y : List Nat) : (Su173.product x y).2 = T x y % 4 := by
  simp only [Su173.product]
  rw [zip_T]
theorem together_A : ∀ x y : List Nat, ((x.zip y).filter fun p => p.1 != 0 && (p.2 != 0 && p.1 != p.2)).length = A x y
  | [], [] => rfl
  | [], _ :: _ => rfl
  | _ :: _, [] => rfl
  | a :: x, b :: y => by
    have h := together_A x y
    simp only [List.zip_cons_cons, List.filter_cons, A]
    rw [← h]
    unfold am
    by_cases c : a ≠ 0 ∧ b ≠ 0 ∧ a ≠ b
    · rw [if_pos c, if_pos (by simpa using c)]
      simp; omega
    · rw [if_neg c, if_neg (by simpa using c)]
      simp
theorem tog_iff {x y : Spin} : together x y = true ↔ A x.l y.l % 2 = 0 := by
  unfold together
  rw [together_A]
  simp
theorem tog_false {x y : Spin} : together x y = false ↔ A x.l y.l % 2 = 1 := by
  have h := tog_iff (x := x) (y := y)
  cases e : together x y
  · simp [e] at h
    simp; omega
  · have := h.mp e
    simp; omega
theorem mul_s (x y : Spin × Nat) : (mul x y).1.s = (x.1.s + y.1.s) % 2 := rfl
theorem mul_l (x y : Spin × Nat) : (mul x y).1.l = L x.1.l y.1.l := by
  show (Su173.product x.1.l y.1.l).1 = _
  rw [prod_L]
theorem mul_t (x y : Spin × Nat) : (mul x y).2 = (x.2 + y.2 + T x.1.l y.1.l) % 4 := by
  show (x.2 + y.2 + (Su173.product x.1.l y.1.l).2) % 4 = _
  rw [prod_T]
  omega
end Mx
namespace Mx
open Su173 (Spin times2 mul signOf together)
/-! ### measurements as a group: a phase (quarter turns, modulo 4) and a row of letters -/
structure E where
  p : Nat
  l : List Nat
def E.mul (x y : E) : E := ⟨(x.p + y.p + T x.l y.l) % 4, L x.l y.l⟩
def one (m : Nat) : E := ⟨0, Z m⟩
/-- a measurement's: twice its sign -/
def el (x : Spin) : E := ⟨2 * x.s % 4, x.l⟩
structure Ev (m : Nat) (x : E) : Prop where
  l : Lt m x.l
  p : x.p < 4
/-- a measurement on m spins -/
structure Sp (m : Nat) (x : Spin) : Prop where
  l : Lt m x.l
  s : x.s ≤ 1
theorem ext {x y : E} (h1 : x.p = y.p) (h2 : x.l = y.l) : x = y := by cases x; cases y; cases h1; cases h2; rfl
theorem Ev.one (m : Nat) : Ev m (one m) := ⟨Lt.z m, by show 0 < 4; decide⟩
theorem Ev.mul {m : Nat} {x y : E} (hx : Ev m x) (hy : Ev m y) : Ev m (x.mul y) := ⟨L_lt hx.l hy.l, Nat.mod_lt _ (by decide)⟩
theorem Ev.el {m : Nat} {x : Spin} (h : Sp m x) : Ev m (el x) := ⟨h.l, Nat.mod_lt _ (by decide)⟩
theorem E.assoc {m : Nat} {x y z : E} (hx : Ev m x) (hy : Ev m y) (hz : Ev m z) : (x.mul y).mul z = x.mul (y.mul z) := by
  refine ext ?_ (L_assoc hx.l hy.l hz.l)
  have h := T_assoc hx.l hy.l hz.l
  show ((x.p + y.p + T x.l y.l) % 4 + z.p + T (L x.l y.l) z.l) % 4 = (x.p + (y.p + z.p + T y.l z.l) % 4 + T x.l (L y.l z.l)) % 4
  omega
theorem E.one_mul {m : Nat} {x : E} (hx : Ev m x) : (one m).mul x = x := by
  refine ext ?_ (L_z hx.l)
  show (0 + x.p + T (Z m) x.l) % 4 = x.p
  rw [T_z hx.l]
  have := hx.p
  omega
theorem E.mul_one {m : Nat} {x : E} (hx : Ev m x) : x.mul (one m) = x := by
  refine ext ?_ (L_zr hx.l)
  show (x.p + 0 + T x.l (Z m)) % 4 = x.p
  have h := T_comm hx.l (Lt.z m)
  rw [T_z hx.l, A_zr hx.l] at h
  have := hx.p
  omega
theorem E.comm {m : Nat} {x y : E} (hx : Ev m x) (hy : Ev m y) (h : A x.l y.l % 2 = 0) : x.mul y = y.mul x := by
  refine ext ?_ (L_comm hx.l hy.l)
  have h2 := T_comm hx.l hy.l
  show (x.p + y.p + T x.l y.l) % 4 = (y.p + x.p + T y.l x.l) % 4
  omega
theorem E.self {m : Nat} {x : Spin} (h : Sp m x) : (el x).mul (el x) = one m := by
  refine ext ?_ (L_self h.l)
  show (2 * x.s % 4 + 2 * x.s % 4 + T x.l x.l) % 4 = 0
  rw [T_self]
  have := h.s
  omega
/-! ### products of some -/
/-- the product of those whose coefficient is 1 -/
def com (m : Nat) : List Spin → List Nat → E
  | g :: S, c :: cs => if c = 1 then (el g).mul (com m S cs) else com m S cs
  | _, _ => one m
/-- coefficients modulo 2, added -/
def xr (c d : List Nat) : List Nat := List.zipWith (fun a b => (a + b) % 2) c d
def Cf (n : Nat) (c : List Nat) : Prop := c.length = n ∧ ∀ a ∈ c, a ≤ 1
theorem Cf.nil {c : List Nat} (h : Cf 0 c) : c = [] := List.eq_nil_of_length_eq_zero h.1
theorem Cf.ex {n : Nat} {c : List Nat} (h : Cf (n + 1) c) : ∃ a d, c = a :: d ∧ (a = 0 ∨ a = 1) ∧ Cf n d := by
  cases c with
  | nil => exact absurd h.1 (by simp)
  | cons a d =>
    have ha := h.2 a (by simp)
    exact ⟨a, d, rfl, by omega, by simpa using h.1, fun b hb => h.2 b (by simp [hb])⟩
theorem Cf.mk {n : Nat} {a : Nat} {c : List Nat} (ha : a ≤ 1) (h : Cf n c) : Cf (n + 1) (a :: c) := ⟨by simp [h.1], fun b hb => by
  rcases List.mem_cons.mp hb with rfl | hb
  · exact ha
  · exact h.2 b hb⟩
theorem xr_cf : ∀ {n : Nat} {c d : List Nat}, Cf n c → Cf n d → Cf n (xr c d)
  | 0, c, d, hc, hd => by rw [hc.nil]; exact ⟨rfl, by simp [xr]⟩
  | n + 1, c, d, hc, hd => by
    obtain ⟨a, c, rfl, ha, hc⟩ := hc.ex
    obtain ⟨b, d, rfl, hb, hd⟩ := hd.ex
    exact Cf.mk (show (a + b) % 2 ≤ 1 by omega) (xr_cf hc hd)
/-- all of a list are measurements on m spins, all can be measured together -/
structure Com (m : Nat) (S : List Spin) : Prop where
  sp : ∀ x ∈ S, Sp m x
  co : ∀ x ∈ S, ∀ y ∈ S, A x.l y.l % 2 = 0
theorem Com.tail {m : Nat} {g : Spin} {S : List Spin} (h : Com m (g :: S)) : Com m S := ⟨fun x hx => h.sp x (by simp [hx]), fun x hx y hy => h.co x (by simp [hx]) y (by simp [hy])⟩
theorem com_ev {m : Nat} : ∀ {S : List Spin} {c : List Nat}, (∀ x ∈ S, Sp m x) → Ev m (com m S c)
  | [], _, _ => Ev.one m
  | g :: S, [], _ => Ev.one m
  | g :: S, c :: cs, h => by
    have ih := com_ev (S := S) (c := cs) fun x hx => h x (by simp [hx])
    simp only [com]
    split
    · exact (Ev.el (h g (by simp))).mul ih
    · exact ih
/-- against another row of letters: the sum of what each gives -/
theorem com_A0 {m : Nat} {y : List Nat} (hy : Lt m y) : ∀ {S : List Spin} {c : List Nat}, (∀ x ∈ S, Sp m x) → (∀ x ∈ S, A x.l y % 2 = 0) → A (com m S c).l y % 2 = 0
  | [], _, _, _ => by show A (Z m) y % 2 = 0; rw [A_z hy]
  | g :: S, [], _, _ => by show A (Z m) y % 2 = 0; rw [A_z hy]
  | g :: S, c :: cs, h, ha => by
    have ih := com_A0 hy (S := S) (c := cs) (fun x hx => h x (by simp [hx])) fun x hx => ha x (by simp [hx])
    have ev : Ev m (com m S cs) := com_ev fun x hx => h x (by simp [hx])
    simp only [com]
    split
    · show A (L g.l (com m S cs).l) y % 2 = 0
      have h1 := A_L (h g (by simp)).l ev.l hy
      have h2 := ha g (by simp)
      omega
    · exact ih
theorem com_co {m : Nat} {S : List Spin} (h : Com m S) {c : List Nat} {x : Spin} (hx : x ∈ S) : A (com m S c).l x.l % 2 = 0 :=
  com_A0 (h.sp x hx).l h.sp fun y hy => h.co y hy x hx
theorem com_co2 {m : Nat} {S : List Spin} (h : Com m S) {c d : List Nat} : A (com m S c).l (com m S d).l % 2 = 0 :=
  com_A0 (com_ev h.sp).l h.sp fun x hx => by rw [A_comm]; exact com_co h hx
/-- the product of two products -/
theorem com_mul {m : Nat} : ∀ {S : List Spin} {c d : List Nat}, Com m S → Cf S.length c → Cf S.length d → (com m S c).mul (com m S d) = com m S (xr c d)
  | [], c, d, _, hc, hd => by
    show (one m).mul (one m) = one m
    exact E.one_mul (Ev.one m)
  | g :: S, c, d, h, hc, hd => by
    obtain ⟨a, c, rfl, ha, hc⟩ := hc.ex
    obtain ⟨b, d, rfl, hb, hd⟩ := hd.ex
    have ih := com_mul (c := c) (d := d) h.tail hc hd
    have eg : Ev m (el g) := Ev.el (h.sp g (by simp))
    have ec : Ev m (com m S c) := com_ev h.tail.sp
    have ed : Ev m (com m S d) := com_ev h.tail.sp
    have cg : (com m S c).mul (el g) = (el g).mul (com m S c) := E.comm ec eg (com_A0 (h.sp g (by simp)).l h.tail.sp fun x hx => h.co x (by simp [hx]) g (by simp))
    show (com m (g :: S) (a :: c)).mul (com m (g :: S) (b :: d)) = com m (g :: S) ((a + b) % 2 :: xr c d)
    simp only [com]
    rcases ha with rfl | rfl <;> rcases hb with rfl | rfl
    · simpa using ih
    · simp only [Nat.zero_add, Nat.reduceMod, if_true, if_false, Nat.zero_ne_one]
      rw [← E.assoc ec eg ed, cg, E.assoc eg ec ed, ih]
    · simp only [Nat.add_zero, Nat.reduceMod, if_true, if_false, Nat.zero_ne_one]
      rw [E.assoc eg ec ed, ih]
    · simp only [Nat.reduceAdd, Nat.reduceMod, if_true, if_false, Nat.zero_ne_one]
      rw [E.assoc eg ec (eg.mul ed), ← E.assoc ec eg ed, cg, E.assoc eg ec ed, ← E.assoc eg eg (ec.mul ed), E.self (h.sp g (by simp)), E.one_mul (ec.mul ed), ih]
theorem even_mul {m : Nat} {x y : E} (hx : Ev m x) (hy : Ev m y) (h : A x.l y.l % 2 = 0) (px : x.p % 2 = 0) (py : y.p % 2 = 0) : (x.mul y).p % 2 = 0 := by
  have := T_A hx.l hy.l
  show (x.p + y.p + T x.l y.l) % 4 % 2 = 0
  omega
/-- quarter turns come in twos -/
theorem com_even {m : Nat} : ∀ {S : List Spin} {c : List Nat}, Com m S → (com m S c).p % 2 = 0
  | [], _, _ => rfl
  | g :: S, [], _ => rfl
  | g :: S, c :: cs, h => by
    have ih := com_even (c := cs) h.tail
    have eg : Ev m (el g) := Ev.el (h.sp g (by simp))
    have ec : Ev m (com m S cs) := com_ev h.tail.sp
    simp only [com]
    split
    · refine even_mul eg ec ?_ ?_ ih
      · rw [A_comm]
        exact com_A0 (h.sp g (by simp)).l h.tail.sp fun x hx => h.co x (by simp [hx]) g (by simp)
      · show 2 * g.s % 4 % 2 = 0
        omega
    · exact ih
/-! ### the specification's product of a list -/
/-- the group's element of a product that is under way -/
def ep (z : Spin × Nat) : E := ⟨(2 * z.1.s + z.2) % 4, z.1.l⟩
theorem ep_mul (z : Spin × Nat) (x : Spin) : ep (mul z (x, 0)) = (ep z).mul (el x) := by
  refine ext ?_ (mul_l _ _)
  show (2 * (mul z (x, 0)).1.s + (mul z (x, 0)).2) % 4 = ((2 * z.1.s + z.2) % 4 + 2 * x.s % 4 + T z.1.l x.l) % 4
  rw [mul_s, mul_t]
  show (2 * ((z.1.s + x.s) % 2) + (z.2 + 0 + T z.1.l x.l) % 4) % 4 = _
  omega
/-- the product of a whole list -/
def pl (m : Nat) : List Spin → E
  | [] => one m
  | g :: S => (el g).mul (pl m S)
theorem pl_ev {m : Nat} : ∀ {S : List Spin}, (∀ x ∈ S, Sp m x) → Ev m (pl m S)
  | [], _ => Ev.one m
  | g :: S, h => (Ev.el (h g (by simp))).mul (pl_ev fun x hx => h x (by simp [hx]))
theorem fold_ep {m : Nat} : ∀ {S : List Spin} {z : Spin × Nat}, (∀ x ∈ S, Sp m x) → Ev m (ep z) → ep (S.foldl (fun s x => mul s (x, 0)) z) = (ep z).mul (pl m S)
  | [], z, _, hz => (E.mul_one hz).symm
  | g :: S, z, h, hz => by
    have eg : Ev m (el g) := Ev.el (h g (by simp))
    have es : Ev m (pl m S) := pl_ev fun x hx => h x (by simp [hx])
    show ep (S.foldl (fun s x => mul s (x, 0)) (mul z (g, 0))) = (ep z).mul ((el g).mul (pl m S))
    rw [fold_ep (fun x hx => h x (by simp [hx])) (by rw [ep_mul]; exact hz.mul eg), ep_mul, E.assoc hz eg es]
theorem prodOf_ep {m : Nat} {S : List Spin} (h : ∀ x ∈ S, Sp m x) : ep (Su175.prodOf m S) = pl m S := by
  have e : ep (Su175.blank m, 0) = one m := rfl
  unfold Su175.prodOf
  rw [fold_ep h (by rw [e]; exact Ev.one m), e]
  exact E.one_mul (pl_ev h)
theorem fold_t : ∀ {S : List Spin} {z : Spin × Nat}, z.2 < 4 → z.1.s ≤ 1 → (S.foldl (fun s x => mul s (x, 0)) z).2 < 4 ∧ (S.foldl (fun s x => mul s (x, 0)) z).1.s ≤ 1
  | [], z, h, h' => ⟨h, h'⟩
  | g :: S, z, _, _ => fold_t (S := S) (by rw [mul_t]; exact Nat.mod_lt _ (by decide)) (by rw [mul_s]; omega)
theorem prodOf_t (m : Nat) (S : List Spin) : (Su175.prodOf m S).2 < 4 ∧ (Su175.prodOf m S).1.s ≤ 1 := fold_t (by show 0 < 4; decide) (by show 0 ≤ 1; decide)
/-- the sign of a product whose quarter turns come in twos -/
theorem sign_ep {z : Spin × Nat} (h : (ep z).p % 2 = 0) (hz : z.2 < 4) : signOf z = (ep z).p / 2 := by
  unfold signOf ep at *
  dsimp only at *
  omega
theorem signOf_le (z : Spin × Nat) : signOf z ≤ 1 := by unfold signOf; omega
end Mx
namespace Mx
open Su173 (Spin times2 mul signOf together)
/-! ### letters alone: the rows that some rows make -/
def xx (x y : List Nat) : List Nat := List.zipWith (· ^^^ ·) x y
theorem xx_comm : ∀ x y : List Nat, xx x y = xx y x
  | [], [] => rfl
  | [], _ :: _ => rfl
  | _ :: _, [] => rfl
  | a :: x, b :: y => by
    show (a ^^^ b) :: xx x y = (b ^^^ a) :: xx y x
    rw [Nat.xor_comm, xx_comm x y]
theorem xx_assoc : ∀ x y z : List Nat, xx (xx x y) z = xx x (xx y z)
  | [], _, _ => rfl
  | _ :: _, [], _ => rfl
  | _ :: _, _ :: _, [] => rfl
  | a :: x, b :: y, c :: z => by
    show (a ^^^ b ^^^ c) :: xx (xx x y) z = (a ^^^ (b ^^^ c)) :: xx x (xx y z)
    rw [Nat.xor_assoc, xx_assoc x y z]
instance : Std.Commutative xx := ⟨xx_comm⟩
instance : Std.Associative xx := ⟨xx_assoc⟩
theorem lm_xor {a b : Nat} (ha : a ≤ 3) (hb : b ≤ 3) : lm a b = a ^^^ b := by
  rcases lt4 ha with rfl | rfl | rfl | rfl <;> rcases lt4 hb with rfl | rfl | rfl | rfl <;> decide
theorem L_xx : ∀ {m : Nat} {x y : List Nat}, Lt m x → Lt m y → L x y = xx x y
  | 0, x, y, hx, hy => by rw [hx.nil, hy.nil]; rfl
  | m + 1, x, y, hx, hy => by
    obtain ⟨a, x, rfl, ha, hx⟩ := hx.ex
    obtain ⟨b, y, rfl, hb, hy⟩ := hy.ex
    show lm a b :: L x y = (a ^^^ b) :: xx x y
    rw [lm_xor ha hb, L_xx hx hy]
theorem xx_lt {m : Nat} {x y : List Nat} (hx : Lt m x) (hy : Lt m y) : Lt m (xx x y) := by rw [← L_xx hx hy]; exact L_lt hx hy
theorem xx_self {m : Nat} {x : List Nat} (hx : Lt m x) : xx x x = Z m := by rw [← L_xx hx hx]; exact L_self hx
theorem xx_z {m : Nat} {x : List Nat} (hx : Lt m x) : xx x (Z m) = x := by rw [← L_xx hx (Lt.z m)]; exact L_zr hx
theorem xx_zl {m : Nat} {x : List Nat} (hx : Lt m x) : xx (Z m) x = x := by rw [← L_xx (Lt.z m) hx]; exact L_z hx
theorem A_xx {m : Nat} {x y z : List Nat} (hx : Lt m x) (hy : Lt m y) (hz : Lt m z) : A (xx x y) z % 2 = (A x z + A y z) % 2 := by rw [← L_xx hx hy]; exact A_L hx hy hz
/-- those whose coefficient is 1 -/
def cb (m : Nat) : List (List Nat) → List Nat → List Nat
  | g :: S, c :: cs => if c = 1 then xx g (cb m S cs) else cb m S cs
  | _, _ => Z m
def Lts (m : Nat) (S : List (List Nat)) : Prop := ∀ x ∈ S, Lt m x
theorem Lts.tail {m : Nat} {g : List Nat} {S : List (List Nat)} (h : Lts m (g :: S)) : Lts m S := fun x hx => h x (by simp [hx])
theorem cb_lt {m : Nat} : ∀ {S : List (List Nat)} {c : List Nat}, Lts m S → Lt m (cb m S c)
  | [], _, _ => Lt.z m
  | g :: S, [], _ => Lt.z m
  | g :: S, c :: cs, h => by
    simp only [cb]
    split
    · exact xx_lt (h g (by simp)) (cb_lt h.tail)
    · exact cb_lt h.tail
theorem com_cb {m : Nat} : ∀ {S : List Spin} {c : List Nat}, (∀ x ∈ S, Sp m x) → (com m S c).l = cb m (S.map (·.l)) c
  | [], _, _ => rfl
  | g :: S, [], _ => rfl
  | g :: S, c :: cs, h => by
    have hs : ∀ x ∈ S, Sp m x := fun x hx => h x (by simp [hx])
    have ih := com_cb (c := cs) hs
    simp only [com, cb, List.map_cons]
    split
    · show L g.l (com m S cs).l = xx g.l _
      rw [L_xx (h g (by simp)).l (com_ev hs).l, ih]
    · exact ih
theorem cb_app {m : Nat} : ∀ {X Y : List (List Nat)} {c d : List Nat}, Lts m X → Lts m Y → c.length = X.length → cb m (X ++ Y) (c ++ d) = xx (cb m X c) (cb m Y d)
  | [], Y, c, d, _, hY, hc => by
    rw [List.eq_nil_of_length_eq_zero hc]
    exact (xx_zl (cb_lt hY)).symm
  | g :: X, Y, [], d, _, _, hc => absurd hc (by simp)
  | g :: X, Y, c :: cs, d, hX, hY, hc => by
    have ih := cb_app (d := d) hX.tail hY (c := cs) (by simpa using hc)
    simp only [List.cons_append, cb]
    rw [ih]
    split
    · rw [xx_assoc]
    · rfl
theorem cb_zero {m : Nat} : ∀ {S : List (List Nat)} {c : List Nat}, (∀ a ∈ c, a = 0) → cb m S c = Z m
  | [], _, _ => rfl
  | g :: S, [], _ => rfl
  | g :: S, c :: cs, h => by
    have : c = 0 := h c (by simp)
    subst this
    show cb m S cs = Z m
    exact cb_zero fun a ha => h a (by simp [ha])
/-- sums of what stands beside y -/
theorem cb_A0 {m : Nat} {y : List Nat} (hy : Lt m y) : ∀ {S : List (List Nat)} {c : List Nat}, Lts m S → (∀ x ∈ S, A x y % 2 = 0) → A (cb m S c) y % 2 = 0
  | [], _, _, _ => by show A (Z m) y % 2 = 0; rw [A_z hy]
  | g :: S, [], _, _ => by show A (Z m) y % 2 = 0; rw [A_z hy]
  | g :: S, c :: cs, h, ha => by
    have ih := cb_A0 hy (c := cs) h.tail fun x hx => ha x (by simp [hx])
    simp only [cb]
    split
    · rw [A_xx (h g (by simp)) (cb_lt h.tail) hy]
      have := ha g (by simp)
      omega
    · exact ih
/-- those that stand against x are taken with p -/
def fx (x p s : List Nat) : List Nat := if A s x % 2 = 0 then s else xx s p
def on (m b : Nat) (p : List Nat) : List Nat := if b = 1 then p else Z m
theorem on_lt {m b : Nat} {p : List Nat} (hp : Lt m p) : Lt m (on m b p) := by
  unfold on
  split
  · exact hp
  · exact Lt.z m
theorem on_add {m b d : Nat} {p : List Nat} (hp : Lt m p) : xx (on m (b % 2) p) (on m (d % 2) p) = on m ((b + d) % 2) p := by
  unfold on
  rcases Nat.mod_two_eq_zero_or_one b with h | h <;> rcases Nat.mod_two_eq_zero_or_one d with h' | h' <;> rw [Nat.add_mod, h, h']
  · simp [xx_z (Lt.z m)]
  · simp [xx_zl hp]
  · simp [xx_z hp]
  · simp [xx_self hp]
theorem fx_lt {m : Nat} {x p s : List Nat} (hp : Lt m p) (hs : Lt m s) : Lt m (fx x p s) := by
  unfold fx
  split
  · exact hs
  · exact xx_lt hs hp
theorem fx_on {m : Nat} {x p s : List Nat} (hp : Lt m p) (hs : Lt m s) : fx x p s = xx s (on m (A s x % 2) p) := by
  unfold fx on
  rcases Nat.mod_two_eq_zero_or_one (A s x) with h | h <;> rw [h]
  · simp [xx_z hs]
  · simp
theorem cb_fx {m : Nat} {x p : List Nat} (hx : Lt m x) (hp : Lt m p) : ∀ {B : List (List Nat)} {c : List Nat}, Lts m B → cb m (B.map (fx x p)) c = xx (cb m B c) (on m (A (cb m B c) x % 2) p)
  | [], c, _ => by
    show Z m = xx (Z m) (on m (A (Z m) x % 2) p)
    rw [A_z hx]
    exact (xx_z (Lt.z m)).symm
  | g :: B, [], _ => by
    show Z m = xx (Z m) (on m (A (Z m) x % 2) p)
    rw [A_z hx]
    exact (xx_z (Lt.z m)).symm
  | g :: B, c :: cs, h => by
    have hg := h g (by simp)
    have ih := cb_fx hx hp (c := cs) h.tail
    have hb : Lt m (cb m B cs) := cb_lt h.tail
    simp only [List.map_cons, cb]
    split
    · rw [ih, fx_on hp hg, A_xx hg hb hx, ← on_add hp]
      ac_rfl
    · exact ih
theorem split_cf {n k : Nat} {c : List Nat} (h : Cf (n + (k + 1)) c) : ∃ d a e, c = d ++ a :: e ∧ Cf n d ∧ (a = 0 ∨ a = 1) ∧ Cf k e := by
  obtain ⟨hl, hb⟩ := h
  refine ⟨c.take n, c[n]'(by omega), c.drop (n + 1), ?_, ⟨by simp; omega, fun a ha => hb a (List.mem_of_mem_take ha)⟩, ?_, ⟨by simp; omega, fun a ha => hb a (List.mem_of_mem_drop ha)⟩⟩
  · rw [← List.drop_eq_getElem_cons (by omega), List.take_append_drop]
  · have := hb c[n] (List.getElem_mem _)
    omega
theorem join_cf {n k a : Nat} {d e : List Nat} (hd : Cf n d) (ha : a ≤ 1) (he : Cf k e) : Cf (n + (k + 1)) (d ++ a :: e) :=
  ⟨by simp [hd.1, he.1], fun b hb => by
    rcases List.mem_append.mp hb with hb | hb
    · exact hd.2 b hb
    · rcases List.mem_cons.mp hb with rfl | hb
      · exact ha
      · exact he.2 b hb⟩
/-! ### what's sure: all can be measured together, none is made by others, and as many as can be -/
structure Mxl (m : Nat) (S : List (List Nat)) : Prop where
  lt : Lts m S
  co : ∀ x ∈ S, ∀ y ∈ S, A x y % 2 = 0
  ind : ∀ c, Cf S.length c → cb m S c = Z m → ∀ a ∈ c, a = 0
  mx : ∀ y, Lt m y → (∀ x ∈ S, A x y % 2 = 0) → ∃ c, Cf S.length c ∧ cb m S c = y
section
variable {m : Nat} {X Y : List (List Nat)} {p x : List Nat}
theorem cb_mid {c e : List Nat} {a : Nat} (hX : Lts m X) (hY : Lts m Y) (hp : Lt m p) (hc : c.length = X.length) : cb m (X ++ p :: Y) (c ++ a :: e) = xx (cb m X c) (xx (on m a p) (cb m Y e)) := by
  have hpY : Lts m (p :: Y) := fun z hz => by
    rcases List.mem_cons.mp hz with rfl | hz
    · exact hp
    · exact hY z hz
  rw [cb_app hX hpY hc]
  congr 1
  simp only [cb, on]
  split
  · rfl
  · rw [xx_zl (cb_lt hY)]
/-- a measurement: p, the first that can't be measured with x, goes -/
theorem Mxl.step (h : Mxl m (X ++ p :: Y)) (hx : Lt m x) (hX : ∀ s ∈ X, A s x % 2 = 0) (hp : A p x % 2 = 1) : Mxl m (X ++ x :: Y.map (fx x p)) := by
  have lX : Lts m X := fun z hz => h.lt z (by simp [hz])
  have lY : Lts m Y := fun z hz => h.lt z (by simp [hz])
  have lp : Lt m p := h.lt p (by simp)
  have lF : Lts m (Y.map (fx x p)) := fun z hz => by
    obtain ⟨s, hs, rfl⟩ := List.mem_map.mp hz
    exact fx_lt lp (lY s hs)
  have cXp : ∀ s ∈ X, A s p % 2 = 0 := fun s hs => h.co s (by simp [hs]) p (by simp)
  have cYp : ∀ s ∈ Y, A s p % 2 = 0 := fun s hs => h.co s (by simp [hs]) p (by simp)
  have fxA : ∀ s ∈ Y, ∀ z, Lt m z → A (fx x p s) z % 2 = (A s z + A s x % 2 * A p z) % 2 := fun s hs z hz => by
    unfold fx
    rcases Nat.mod_two_eq_zero_or_one (A s x) with e | e <;> rw [e]
    · simp
    · simp only [Nat.one_ne_zero, if_false, Nat.one_mul]
      exact A_xx (lY s hs) lp hz
  have fxx : ∀ s ∈ Y, A (fx x p s) x % 2 = 0 := fun s hs => by
    rw [fxA s hs x hx]
    have e := Nat.mod_two_eq_zero_or_one (A s x)
    rcases e with e | e <;> rw [e] <;> omega
  have fxp : ∀ s ∈ Y, A (fx x p s) p % 2 = 0 := fun s hs => by
    rw [fxA s hs p lp, A_self]
    have := cYp s hs
    omega
  have lt' : Lts m (X ++ x :: Y.map (fx x p)) := fun z hz => by
    rcases List.mem_append.mp hz with hz | hz
    · exact lX z hz
    · rcases List.mem_cons.mp hz with rfl | hz
      · exact hx
      · exact lF z hz
  have cXF : ∀ s ∈ X, ∀ t ∈ Y, A (fx x p t) s % 2 = 0 := fun s hs t ht => by
    rw [fxA t ht s (lX s hs)]
    have h1 := h.co t (by simp [ht]) s (by simp [hs])
    have h2 := h.co p (by simp) s (by simp [hs])
    have e := Nat.mod_two_eq_zero_or_one (A t x)
    rcases e with e | e <;> rw [e] <;> omega
  have cFF : ∀ s ∈ Y, ∀ t ∈ Y, A (fx x p s) (fx x p t) % 2 = 0 := fun s hs t ht => by
    rw [fxA s hs _ (fx_lt lp (lY t ht)), A_comm s, A_comm p]
    have h1 : A (fx x p t) s % 2 = 0 := by
      rw [fxA t ht s (lY s hs)]
      have h1 := h.co t (by simp [ht]) s (by simp [hs])
      have h2 := h.co p (by simp) s (by simp [hs])
      have e := Nat.mod_two_eq_zero_or_one (A t x)
      rcases e with e | e <;> rw [e] <;> omega
    have h2 := fxp t ht
    have e := Nat.mod_two_eq_zero_or_one (A s x)
    rcases e with e | e <;> rw [e] <;> omega
  have co' : ∀ s ∈ X ++ x :: Y.map (fx x p), ∀ t ∈ X ++ x :: Y.map (fx x p), A s t % 2 = 0 := fun s hs t ht => by
    rcases List.mem_append.mp hs with h1 | h1 <;> rcases List.mem_append.mp ht with h2 | h2
    · exact h.co s (by simp [h1]) t (by simp [h2])
    · rcases List.mem_cons.mp h2 with h3 | h3
      · rw [h3]
        exact hX s h1
      · obtain ⟨u, hu, rfl⟩ := List.mem_map.mp h3
        rw [A_comm]
        exact cXF s h1 u hu
    · rcases List.mem_cons.mp h1 with h3 | h3
      · rw [h3, A_comm]
        exact hX t h2
      · obtain ⟨u, hu, rfl⟩ := List.mem_map.mp h3
        exact cXF t h2 u hu
    · rcases List.mem_cons.mp h1 with h3 | h3 <;> rcases List.mem_cons.mp h2 with h4 | h4
      · rw [h3, h4, A_self]
      · obtain ⟨u, hu, rfl⟩ := List.mem_map.mp h4
        rw [h3, A_comm]
        exact fxx u hu
      · obtain ⟨u, hu, rfl⟩ := List.mem_map.mp h3
        rw [h4]
        exact fxx u hu
      · obtain ⟨u, hu, rfl⟩ := List.mem_map.mp h3
        obtain ⟨v, hv, rfl⟩ := List.mem_map.mp h4
        exact cFF u hu v hv
  have hn : (X ++ x :: Y.map (fx x p)).length = X.length + (Y.length + 1) := by simp
  have hn0 : (X ++ p :: Y).length = X.length + (Y.length + 1) := by simp
  -- what some of the new ones make, said by the elder ones
  have back : ∀ (c e : List Nat) (a : Nat), c.length = X.length → xx (cb m X c) (cb m (Y.map (fx x p)) e) = cb m (X ++ p :: Y) (c ++ (A (cb m Y e) x % 2) :: e) := fun c e a hc => by
    rw [cb_mid lX lY lp hc, cb_fx hx lp lY]
    ac_rfl
  refine ⟨lt', co', fun c hc hz => ?_, fun y hy hcy => ?_⟩
  · rw [hn] at hc
    obtain ⟨d, a, e, rfl, hd, ha, he⟩ := split_cf hc
    have lcX : Lt m (cb m X d) := cb_lt lX
    have lcF : Lt m (cb m (Y.map (fx x p)) e) := cb_lt lF
    have hz' := hz
    rw [cb_mid lX lF hx hd.1] at hz
    have hA : A (xx (cb m X d) (xx (on m a x) (cb m (Y.map (fx x p)) e))) p % 2 = 0 := by rw [hz, A_z lp]
    rw [A_xx lcX (xx_lt (on_lt hx) lcF) lp, Nat.add_mod, A_xx (on_lt hx) lcF lp] at hA
    have h1 : A (cb m X d) p % 2 = 0 := cb_A0 lp lX cXp
    have h2 : A (cb m (Y.map (fx x p)) e) p % 2 = 0 := cb_A0 lp lF fun z hz => by
      obtain ⟨s, hs, rfl⟩ := List.mem_map.mp hz
      exact fxp s hs
    have ha0 : a = 0 := by
      rcases ha with ha | ha
      · exact ha
      · subst ha
        have : A (on m 1 x) p % 2 = 1 := by
          show A x p % 2 = 1
          rw [A_comm]
          exact hp
        omega
    subst ha0
    have e0 : xx (on m 0 x) (cb m (Y.map (fx x p)) e) = cb m (Y.map (fx x p)) e := xx_zl lcF
    rw [e0, back d e 0 hd.1] at hz
    have := h.ind _ (by rw [hn0]; exact join_cf hd (by omega) he) hz
    intro b hb
    rcases List.mem_append.mp hb with hb | hb
    · exact this b (by simp [hb])
    · rcases List.mem_cons.mp hb with rfl | hb
      · rfl
      · exact this b (by simp [hb])
  · -- first: one that p can be measured with
    have key : ∀ z, Lt m z → (∀ s ∈ X ++ x :: Y.map (fx x p), A s z % 2 = 0) → A p z % 2 = 0 → ∃ d e, Cf X.length d ∧ Cf Y.length e ∧ xx (cb m X d) (cb m (Y.map (fx x p)) e) = z := fun z hz hcz hpz => by
      obtain ⟨c, hc, hcb⟩ := h.mx z hz fun s hs => by
        rcases List.mem_append.mp hs with hs | hs
        · exact hcz s (by simp [hs])
        · rcases List.mem_cons.mp hs with rfl | hs
          · exact hpz
          · have := hcz (fx x p s) (by simp only [List.mem_append, List.mem_cons, List.mem_map]; exact .inr (.inr ⟨s, hs, rfl⟩))
            rw [fxA s hs z hz] at this
            have e := Nat.mod_two_eq_zero_or_one (A s x)
            rcases e with e | e <;> rw [e] at this <;> omega
      rw [hn0] at hc
      obtain ⟨d, a, e, rfl, hd, ha, he⟩ := split_cf hc
      refine ⟨d, e, hd, he, ?_⟩
      rw [back d e 0 hd.1]
      have hxz : A z x % 2 = 0 := by rw [A_comm]; exact hcz x (by simp)
      have hz2 := hcb
      rw [cb_mid lX lY lp hd.1] at hz2
      have lcX : Lt m (cb m X d) := cb_lt lX
      have lcY : Lt m (cb m Y e) := cb_lt lY
      rw [← hz2, A_xx lcX (xx_lt (on_lt lp) lcY) hx, Nat.add_mod, A_xx (on_lt lp) lcY hx] at hxz
      have h1 : A (cb m X d) x % 2 = 0 := cb_A0 hx lX hX
      have h3 : A (cb m Y e) x % 2 = a := by
        rcases ha with rfl | rfl
        · have : A (on m 0 p) x = 0 := A_z hx
          omega
        · have : A (on m 1 p) x % 2 = 1 := hp
          omega
      rw [h3]
      exact hcb
    rcases Nat.mod_two_eq_zero_or_one (A p y) with hpy | hpy
    · obtain ⟨d, e, hd, he, hz⟩ := key y hy hcy hpy
      refine ⟨d ++ 0 :: e, by rw [hn]; exact join_cf hd (by omega) he, ?_⟩
      rw [cb_mid lX lF hx hd.1]
      have e0 : xx (on m 0 x) (cb m (Y.map (fx x p)) e) = cb m (Y.map (fx x p)) e := xx_zl (cb_lt lF)
      rw [e0]
      exact hz
    · obtain ⟨d, e, hd, he, hz⟩ := key (xx y x) (xx_lt hy hx) (fun s hs => by
          rw [A_comm, A_xx hy hx (lt' s hs), A_comm y, A_comm x]
          have h1 := hcy s hs
          have h2 := co' s hs x (by simp)
          omega) (by
          rw [A_comm, A_xx hy hx lp, A_comm y, A_comm x]
          omega)
      refine ⟨d ++ 1 :: e, by rw [hn]; exact join_cf hd (by omega) he, ?_⟩
      rw [cb_mid lX lF hx hd.1]
      show xx (cb m X d) (xx x (cb m (Y.map (fx x p)) e)) = y
      have : xx (xx (cb m X d) (cb m (Y.map (fx x p)) e)) x = y := by
        rw [hz, xx_assoc, xx_self hx, xx_z hy]
      rw [← this]
      ac_rfl
end
end Mx
namespace Mx
open Su173 (Spin times2 mul signOf together)
structure Stab (m : Nat) (S : List Spin) : Prop where
  len : S.length = m
  sp : ∀ x ∈ S, Sp m x
  mx : Mxl m (S.map (·.l))
section
variable {m : Nat} {S : List Spin}
theorem Stab.com (h : Stab m S) : Com m S := ⟨h.sp, fun x hx y hy => h.mx.co _ (List.mem_map.mpr ⟨x, hx, rfl⟩) _ (List.mem_map.mpr ⟨y, hy, rfl⟩)⟩
theorem xr_zero : ∀ {n : Nat} {c d : List Nat}, Cf n c → Cf n d → (∀ a ∈ xr c d, a = 0) → c = d
  | 0, c, d, hc, hd, _ => by rw [hc.nil, hd.nil]
  | n + 1, c, d, hc, hd, h => by
    obtain ⟨a, c, rfl, ha, hc⟩ := hc.ex
    obtain ⟨b, d, rfl, hb, hd⟩ := hd.ex
    have h1 : (a + b) % 2 = 0 := h _ (by simp [xr])
    have h2 := xr_zero hc hd fun z hz => h z (by simp [xr] at hz ⊢; exact .inr hz)
    rw [h2]
    have : a = b := by omega
    rw [this]
theorem Stab.inj (h : Stab m S) {c d : List Nat} (hc : Cf S.length c) (hd : Cf S.length d) (e : (Mx.com m S c).l = (Mx.com m S d).l) : c = d := by
  refine xr_zero hc hd (h.mx.ind _ (by rw [List.length_map]; exact xr_cf hc hd) ?_)
  rw [← com_cb h.sp, ← com_mul h.com hc hd]
  show L (Mx.com m S c).l (Mx.com m S d).l = Z m
  rw [e]
  exact L_self (com_ev h.sp).l
/-! ### the parts of a list, and the coefficients -/
theorem subs_cf : ∀ {S s : List Spin}, s ∈ Su175.subs S → ∃ c, Cf S.length c ∧ pl m s = Mx.com m S c
  | [], s, hs => by
    have : s = [] := by simpa [Su175.subs] using hs
    subst this
    exact ⟨[], ⟨rfl, by simp⟩, rfl⟩
  | x :: S, s, hs => by
    simp only [Su175.subs, List.mem_append, List.mem_map] at hs
    rcases hs with hs | ⟨t, ht, rfl⟩
    · obtain ⟨c, hc, e⟩ := subs_cf hs
      exact ⟨0 :: c, Cf.mk (by omega) hc, by rw [e]; rfl⟩
    · obtain ⟨c, hc, e⟩ := subs_cf ht
      refine ⟨1 :: c, Cf.mk (by omega) hc, ?_⟩
      show (el x).mul (pl m t) = (el x).mul (Mx.com m S c)
      rw [e]
theorem cf_subs : ∀ {S : List Spin} {c : List Nat}, Cf S.length c → ∃ s ∈ Su175.subs S, pl m s = Mx.com m S c
  | [], c, hc => ⟨[], by simp [Su175.subs], by rw [hc.nil]; rfl⟩
  | x :: S, c, hc => by
    obtain ⟨a, c, rfl, ha, hc⟩ := Cf.ex (n := S.length) hc
    obtain ⟨s, hs, e⟩ := cf_subs hc
    rcases ha with rfl | rfl
    · exact ⟨s, by simp [Su175.subs, hs], by rw [e]; rfl⟩
    · refine ⟨x :: s, by simp [Su175.subs, hs], ?_⟩
      show (el x).mul (pl m s) = (el x).mul (Mx.com m S c)
      rw [e]
theorem subs_mem : ∀ {S s : List Spin}, s ∈ Su175.subs S → ∀ x ∈ s, x ∈ S
  | [], s, hs, x, hx => by
    have : s = [] := by simpa [Su175.subs] using hs
    subst this
    exact absurd hx (by simp)
  | y :: S, s, hs, x, hx => by
    simp only [Su175.subs, List.mem_append, List.mem_map] at hs
    rcases hs with hs | ⟨t, ht, rfl⟩
    · exact List.mem_cons_of_mem _ (subs_mem hs x hx)
    · rcases List.mem_cons.mp hx with rfl | hx
      · simp
      · exact List.mem_cons_of_mem _ (subs_mem ht x hx)
/-! ### the sign with which letters are sure -/
def sgn (m : Nat) (S : List Spin) (l : List Nat) : Option Nat := ((Su175.subs S).find? fun s => (Su175.prodOf m s).1.l == l).map fun s => signOf (Su175.prodOf m s)
theorem sgn_abs (g : Su175.Abs) (l : List Nat) : g.sign l = sgn g.m g.sure l := rfl
theorem prodOf_l {s : List Spin} (hs : ∀ x ∈ s, Sp m x) : (Su175.prodOf m s).1.l = (pl m s).l := by rw [← prodOf_ep hs]; rfl
theorem prodOf_sign {s : List Spin} (hs : ∀ x ∈ s, Sp m x) (h : (pl m s).p % 2 = 0) : signOf (Su175.prodOf m s) = (pl m s).p / 2 := by
  rw [← prodOf_ep hs] at h ⊢
  exact sign_ep h (prodOf_t m s).1
theorem sgn_of (h : Stab m S) {l : List Nat} {c : List Nat} (hc : Cf S.length c) (e : (Mx.com m S c).l = l) : sgn m S l = some ((Mx.com m S c).p / 2) := by
  unfold sgn
  obtain ⟨s, hs, es⟩ := cf_subs (m := m) hc
  have sps : ∀ {t}, t ∈ Su175.subs S → ∀ x ∈ t, Sp m x := fun ht x hx => h.sp x (subs_mem ht x hx)
  cases q : (Su175.subs S).find? fun s => (Su175.prodOf m s).1.l == l with
  | none =>
    have := List.find?_eq_none.mp q s hs
    rw [prodOf_l (sps hs), es, e] at this
    simp at this
  | some t =>
    have h1 := List.find?_some q
    have h2 := List.mem_of_find?_eq_some q
    have h3 : (pl m t).l = l := by
      rw [← prodOf_l (sps h2)]
      simpa using h1
    obtain ⟨d, hd, ed⟩ := subs_cf (m := m) h2
    have : d = c := h.inj hd hc (by rw [← ed, h3, e])
    subst this
    rw [Option.map_some, prodOf_sign (sps h2) (by rw [ed]; exact com_even h.com), ed]
theorem sgn_some {l : List Nat} {s : Nat} (h : Stab m S) (e : sgn m S l = some s) : ∃ c, Cf S.length c ∧ (Mx.com m S c).l = l ∧ (Mx.com m S c).p = 2 * s := by
  unfold sgn at e
  have sps : ∀ {t}, t ∈ Su175.subs S → ∀ x ∈ t, Sp m x := fun ht x hx => h.sp x (subs_mem ht x hx)
  cases q : (Su175.subs S).find? fun s => (Su175.prodOf m s).1.l == l with
  | none => rw [q] at e; cases e
  | some t =>
    rw [q] at e
    have h1 := List.find?_some q
    have h2 := List.mem_of_find?_eq_some q
    obtain ⟨d, hd, ed⟩ := subs_cf (m := m) h2
    have h3 : (pl m t).l = l := by
      rw [← prodOf_l (sps h2)]
      simpa using h1
    have ev := com_even (c := d) h.com
    refine ⟨d, hd, by rw [← ed, h3], ?_⟩
    rw [Option.map_some, prodOf_sign (sps h2) (by rw [ed]; exact ev), ed] at e
    have := Option.some.inj e
    omega
theorem sgn_none {l : List Nat} (h : Stab m S) (e : ∀ c, Cf S.length c → (Mx.com m S c).l ≠ l) : sgn m S l = none := by
  cases q : sgn m S l with
  | none => rfl
  | some s =>
    obtain ⟨c, hc, h1, _⟩ := sgn_some h q
    exact absurd h1 (e c hc)
theorem sgn_le {l : List Nat} {s : Nat} (h : Stab m S) (e : sgn m S l = some s) : s ≤ 1 := by
  obtain ⟨c, _, _, hp⟩ := sgn_some h e
  have := (com_ev (m := m) (c := c) h.sp).p
  omega
/-- sure just if it can be measured with all that's sure -/
theorem sgn_iff {l : List Nat} (h : Stab m S) (hl : Lt m l) : sgn m S l = none ↔ ∃ x ∈ S, A x.l l % 2 = 1 := by
  constructor
  · intro e
    by_cases q : ∃ x ∈ S, A x.l l % 2 = 1
    · exact q
    · obtain ⟨c, hc, ec⟩ := h.mx.mx l hl fun x hx => by
        obtain ⟨y, hy, rfl⟩ := List.mem_map.mp hx
        rcases Nat.mod_two_eq_zero_or_one (A y.l l) with z | z
        · exact z
        · exact absurd ⟨y, hy, z⟩ q
      rw [List.length_map] at hc
      rw [sgn_of h hc (by rw [com_cb h.sp]; exact ec)] at e
      cases e
  · rintro ⟨x, hx, hA⟩
    refine sgn_none h fun c hc e => ?_
    have := com_co h.com (c := c) hx
    rw [e, A_comm] at this
    omega
/-! ### the program's list of all products, as they are made one behind another -/
/-- the product of two, told by a sign and letters -/
def pr2 (m : Nat) (x y : Spin) : Spin := ⟨signOf (Su175.prodOf m [x, y]), (Su175.prodOf m [x, y]).1.l⟩
def kn (m : Nat) (S : List Spin) : List Spin := S.foldl (fun known one => known ++ known.map fun each => pr2 m each one) [Su175.blank m]
theorem pr2_el {x y : Spin} (hx : Sp m x) (hy : Sp m y) (h : A x.l y.l % 2 = 0) : el (pr2 m x y) = (el x).mul (el y) ∧ Sp m (pr2 m x y) := by
  have hs : ∀ z ∈ [x, y], Sp m z := fun z hz => by
    simp at hz
    rcases hz with rfl | rfl
    · exact hx
    · exact hy
  have e0 : pl m [x, y] = (el x).mul (el y) := by
    show (el x).mul ((el y).mul (one m)) = _
    rw [E.mul_one (Ev.el hy)]
  have ev : (pl m [x, y]).p % 2 = 0 := by
    rw [e0]
    exact even_mul (Ev.el hx) (Ev.el hy) h (by show 2 * x.s % 4 % 2 = 0; omega) (by show 2 * y.s % 4 % 2 = 0; omega)
  have evm : Ev m (pl m [x, y]) := pl_ev hs
  refine ⟨ext ?_ ?_, ⟨?_, signOf_le _⟩⟩
  · show 2 * signOf (Su175.prodOf m [x, y]) % 4 = _
    rw [prodOf_sign hs ev, ← e0]
    have := evm.p
    omega
  · show (Su175.prodOf m [x, y]).1.l = _
    rw [prodOf_l hs, e0]
  · show Lt m (Su175.prodOf m [x, y]).1.l
    rw [prodOf_l hs]
    exact evm.l
theorem com_snoc {g : Spin} {a : Nat} : ∀ {S : List Spin} {c : List Nat}, (∀ x ∈ S, Sp m x) → Sp m g → Cf S.length c → (a = 0 ∨ a = 1) → Mx.com m (S ++ [g]) (c ++ [a]) = if a = 1 then (Mx.com m S c).mul (el g) else Mx.com m S c
  | [], c, _, hg, hc, ha => by
    rw [hc.nil]
    show (if a = 1 then (el g).mul (one m) else one m) = if a = 1 then (one m).mul (el g) else one m
    rw [E.mul_one (Ev.el hg), E.one_mul (Ev.el hg)]
  | x :: S, c, h, hg, hc, ha => by
    obtain ⟨b, c, rfl, hb, hc⟩ := Cf.ex (n := S.length) hc
    have hs : ∀ y ∈ S, Sp m y := fun y hy => h y (by simp [hy])
    have ih := com_snoc hs hg hc ha
    show (if b = 1 then (el x).mul (Mx.com m (S ++ [g]) (c ++ [a])) else Mx.com m (S ++ [g]) (c ++ [a])) = if a = 1 then (if b = 1 then (el x).mul (Mx.com m S c) else Mx.com m S c).mul (el g) else if b = 1 then (el x).mul (Mx.com m S c) else Mx.com m S c
    rw [ih]
    rcases ha with rfl | rfl <;> rcases hb with rfl | rfl
    · rfl
    · rfl
    · rfl
    · show (el x).mul ((Mx.com m S c).mul (el g)) = ((el x).mul (Mx.com m S c)).mul (el g)
      rw [E.assoc (Ev.el (h x (by simp))) (com_ev hs) (Ev.el hg)]
theorem cf_snoc {n : Nat} {c : List Nat} (h : Cf (n + 1) c) : ∃ d a, c = d ++ [a] ∧ Cf n d ∧ (a = 0 ∨ a = 1) := by
  obtain ⟨d, a, e, rfl, hd, ha, he⟩ := split_cf (n := n) (k := 0) h
  rw [he.nil]
  exact ⟨d, a, rfl, hd, ha⟩
theorem kn_snoc (S : List Spin) (g : Spin) : kn m (S ++ [g]) = kn m S ++ (kn m S).map fun each => pr2 m each g := by
  unfold kn
  rw [List.foldl_append]
  rfl
theorem kn_mem : ∀ (S : List Spin), Com m S → (∀ e ∈ kn m S, Sp m e ∧ ∃ c, Cf S.length c ∧ el e = Mx.com m S c) ∧ ∀ c, Cf S.length c → ∃ e ∈ kn m S, el e = Mx.com m S c := by
  intro S
  induction h : S.reverse generalizing S with
  | nil =>
    have : S = [] := by simpa using h
    subst this
    intro _
    have hb : Sp m (Su175.blank m) := ⟨Lt.z m, by show 0 ≤ 1; decide⟩
    refine ⟨fun e he => ?_, fun c hc => ⟨Su175.blank m, by simp [kn], by rw [hc.nil]; rfl⟩⟩
    have : e = Su175.blank m := by simpa [kn] using he
    subst this
    exact ⟨hb, [], ⟨rfl, by simp⟩, rfl⟩
  | cons g R ih =>
    have hS : S = R.reverse ++ [g] := by
      have := congrArg List.reverse h
      simpa using this
    subst hS
    intro hc
    have hcR : Com m R.reverse := ⟨fun x hx => hc.sp x (by simp at hx ⊢; exact .inl hx), fun x hx y hy => hc.co x (by simp at hx ⊢; exact .inl hx) y (by simp at hy ⊢; exact .inl hy)⟩
    obtain ⟨i1, i2⟩ := ih R.reverse (by simp) hcR
    have hg : Sp m g := hc.sp g (by simp)
    have cg : ∀ c, A (Mx.com m R.reverse c).l g.l % 2 = 0 := fun c => com_A0 hg.l hcR.sp fun x hx => hc.co x (by simp at hx ⊢; exact .inl hx) g (by simp)
    have step : ∀ e ∈ kn m R.reverse, ∀ c, el e = Mx.com m R.reverse c → el (pr2 m e g) = (Mx.com m R.reverse c).mul (el g) ∧ Sp m (pr2 m e g) := fun e he c ec => by
      have := pr2_el (i1 e he).1 hg (by rw [show e.l = (Mx.com m R.reverse c).l from congrArg E.l ec]; exact cg c)
      rw [ec] at this
      exact this
    have hlen : (R.reverse ++ [g]).length = R.reverse.length + 1 := by simp
    rw [kn_snoc]
    refine ⟨fun e he => ?_, fun c hc' => ?_⟩
    · rcases List.mem_append.mp he with he | he
      · obtain ⟨h1, c, hc1, e1⟩ := i1 e he
        refine ⟨h1, c ++ [0], ?_, ?_⟩
        · rw [hlen]
          exact join_cf (k := 0) hc1 (by omega) ⟨rfl, by simp⟩
        · rw [com_snoc hcR.sp hg hc1 (.inl rfl), e1]
          rfl
      · obtain ⟨f, hf, rfl⟩ := List.mem_map.mp he
        obtain ⟨h1, c, hc1, e1⟩ := i1 f hf
        obtain ⟨h2, h3⟩ := step f hf c e1
        refine ⟨h3, c ++ [1], ?_, ?_⟩
        · rw [hlen]
          exact join_cf (k := 0) hc1 (by omega) ⟨rfl, by simp⟩
        · rw [com_snoc hcR.sp hg hc1 (.inr rfl), h2]
          rfl
    · rw [hlen] at hc'
      obtain ⟨d, a, rfl, hd, ha⟩ := cf_snoc hc'
      obtain ⟨e, he, ee⟩ := i2 d hd
      rw [com_snoc hcR.sp hg hd ha]
      rcases ha with rfl | rfl
      · exact ⟨e, List.mem_append_left _ he, ee⟩
      · exact ⟨pr2 m e g, List.mem_append_right _ (List.mem_map.mpr ⟨e, he, rfl⟩), (step e he d ee).1⟩
/-- what a dict holds that such pairs were put into, one behind another -/
def lastOf (ps : List Spin) (l : List Nat) : Option Nat := ps.foldl (fun r p => if p.l = l then some p.s else r) none
theorem lastOf_snoc (ps : List Spin) (p : Spin) (l : List Nat) : lastOf (ps ++ [p]) l = if p.l = l then some p.s else lastOf ps l := by
  unfold lastOf
  rw [List.foldl_append]
  rfl
theorem lastOf_some : ∀ {ps : List Spin} {l : List Nat} {s : Nat}, lastOf ps l = some s → ∃ e ∈ ps, e.l = l ∧ e.s = s := by
  intro ps
  induction h : ps.reverse generalizing ps with
  | nil =>
    have : ps = [] := by simpa using h
    subst this
    intro l s e
    cases e
  | cons g R ih =>
    have hS : ps = R.reverse ++ [g] := by
      have := congrArg List.reverse h
      simpa using this
    subst hS
    intro l s e
    rw [lastOf_snoc] at e
    split at e
    · exact ⟨g, by simp, by assumption, Option.some.inj e⟩
    · obtain ⟨f, hf, h1⟩ := ih (ps := R.reverse) (by simp) e
      exact ⟨f, List.mem_append_left _ hf, h1⟩
theorem lastOf_has : ∀ {ps : List Spin} {l : List Nat} {e : Spin}, e ∈ ps → e.l = l → lastOf ps l ≠ none := by
  intro ps
  induction h : ps.reverse generalizing ps with
  | nil =>
    have : ps = [] := by simpa using h
    subst this
    intro l e he
    exact absurd he (by simp)
  | cons g R ih =>
    have hS : ps = R.reverse ++ [g] := by
      have := congrArg List.reverse h
      simpa using this
    subst hS
    intro l e he el
    rw [lastOf_snoc]
    split
    · simp
    · rcases List.mem_append.mp he with he | he
      · exact ih (ps := R.reverse) (by simp) he el
      · simp at he
        subst he
        contradiction
theorem kn_sgn (h : Stab m S) (l : List Nat) : lastOf (kn m S) l = sgn m S l := by
  obtain ⟨k1, k2⟩ := kn_mem S h.com
  have dbl : ∀ {e : Spin}, e.s ≤ 1 → (el e).p / 2 = e.s := fun {e} z => by show 2 * e.s % 4 / 2 = e.s; omega
  cases q : lastOf (kn m S) l with
  | none =>
    refine (sgn_none h fun c hc e => ?_).symm
    obtain ⟨f, hf, ef⟩ := k2 c hc
    exact lastOf_has hf (by rw [show f.l = (Mx.com m S c).l from congrArg E.l ef, e]) q
  | some s =>
    obtain ⟨e, he, h1, h2⟩ := lastOf_some q
    obtain ⟨h3, c, hc, ec⟩ := k1 e he
    rw [sgn_of h hc (by rw [← ec]; exact h1), ← ec, dbl h3.s, h2]
end
end Mx
namespace Mx
open Su173 (Spin times2 mul signOf together)
/-! ### what's sure at first -/
def sm : Nat → (Nat → Nat) → Nat
  | 0, _ => 0
  | n + 1, f => f 0 + sm n fun k => f (k + 1)
theorem sm_zero : ∀ {n : Nat} {f : Nat → Nat}, (∀ k, k < n → f k = 0) → sm n f = 0
  | 0, _, _ => rfl
  | n + 1, f, h => by
    have h1 := h 0 (by omega)
    have h2 := sm_zero (n := n) (f := fun k => f (k + 1)) fun k hk => h (k + 1) (by omega)
    show f 0 + sm n _ = 0
    omega
theorem sm_one : ∀ {n : Nat} {f : Nat → Nat} {i : Nat}, i < n → (∀ k, k < n → k ≠ i → f k = 0) → sm n f = f i
  | n + 1, f, 0, _, h => by
    show f 0 + sm n _ = _
    rw [sm_zero fun k hk => h (k + 1) (by omega) (by omega)]
    rfl
  | n + 1, f, i + 1, hi, h => by
    show f 0 + sm n _ = _
    rw [sm_one (i := i) (by omega) fun k hk hne => h (k + 1) (by omega) (by omega), h 0 (by omega) (by omega)]
    omega
theorem sm_add : ∀ {n : Nat} {f g : Nat → Nat}, sm n (fun k => f k + g k) = sm n f + sm n g
  | 0, _, _ => rfl
  | n + 1, f, g => by
    have := sm_add (n := n) (f := fun k => f (k + 1)) (g := fun k => g (k + 1))
    show (f 0 + g 0) + sm n (fun k => f (k + 1) + g (k + 1)) = (f 0 + sm n _) + (g 0 + sm n _)
    rw [this]
    omega
theorem sm_congr {n : Nat} {f g : Nat → Nat} (h : ∀ k, k < n → f k = g k) : sm n f = sm n g := by
  induction n generalizing f g with
  | zero => rfl
  | succ n ih =>
    show f 0 + sm n _ = g 0 + sm n _
    rw [h 0 (by omega), ih fun k hk => h (k + 1) (by omega)]
theorem sm_two {n : Nat} {f : Nat → Nat} {i j : Nat} (hi : i < n) (hj : j < n) (hij : i ≠ j) (h : ∀ k, k < n → k ≠ i → k ≠ j → f k = 0) : sm n f = f i + f j := by
  have e : sm n f = sm n (fun k => (if k = i then f i else 0) + (if k = j then f j else 0)) := sm_congr fun k hk => by
    by_cases h1 : k = i
    · subst h1
      rw [if_pos rfl, if_neg hij]
      omega
    · by_cases h2 : k = j
      · subst h2
        rw [if_neg h1, if_pos rfl]
        omega
      · rw [if_neg h1, if_neg h2]
        exact h k hk h1 h2
  rw [e, sm_add, sm_one hi (f := fun k => if k = i then f i else 0) fun k _ hk => if_neg hk, sm_one hj (f := fun k => if k = j then f j else 0) fun k _ hk => if_neg hk, if_pos rfl, if_pos rfl]
theorem range_cons (n : Nat) : List.range (n + 1) = 0 :: (List.range n).map Nat.succ := List.range_succ_eq_map
theorem A_map : ∀ (n : Nat) (f g : Nat → Nat), A ((List.range n).map f) ((List.range n).map g) = sm n fun k => am (f k) (g k)
  | 0, _, _ => rfl
  | n + 1, f, g => by
    rw [range_cons, List.map_cons, List.map_cons, List.map_map, List.map_map]
    show am (f 0) (g 0) + A _ _ = am (f 0) (g 0) + sm n _
    have := A_map n (f ∘ Nat.succ) (g ∘ Nat.succ)
    rw [this]
    rfl
theorem map_at {x : List Nat} {m : Nat} (h : x.length = m) : (List.range m).map (fun j => x.getD j 0) = x := by
  subst h
  refine List.ext_getElem (by simp) fun i h1 h2 => ?_
  simp [List.getD, h2]
theorem lt_map {m : Nat} {f : Nat → Nat} (h : ∀ k, k < m → f k ≤ 3) : Lt m ((List.range m).map f) := ⟨by simp, fun a ha => by
  obtain ⟨k, hk, rfl⟩ := List.mem_map.mp ha
  exact h k (List.mem_range.mp hk)⟩
theorem lt_at {m : Nat} {x : List Nat} (h : Lt m x) {k : Nat} (hk : k < m) : x.getD k 0 ≤ 3 := by
  have : k < x.length := by rw [h.1]; exact hk
  rw [List.getD_eq_getElem?_getD, List.getElem?_eq_getElem this]
  exact h.2 _ (List.getElem_mem _)
/-- the letter at a spin of what's sure at first -/
def fl (l : List (Nat × Nat)) (i j : Nat) : Nat := if j = i then 1 else if Su175.linked l i j = true then 3 else 0
theorem fl_le (l : List (Nat × Nat)) (i j : Nat) : fl l i j ≤ 3 := by
  unfold fl
  repeat' split
  all_goals omega
theorem linked_comm (l : List (Nat × Nat)) (i j : Nat) : Su175.linked l i j = Su175.linked l j i := Bool.or_comm _ _
def ro (m : Nat) (l : List (Nat × Nat)) (i : Nat) : List Nat := (List.range m).map (fl l i)
theorem first_eq (m : Nat) (l : List (Nat × Nat)) : Su175.first m l = (List.range m).map fun i => ⟨0, ro m l i⟩ := rfl
theorem ro_lt (m : Nat) (l : List (Nat × Nat)) (i : Nat) : Lt m (ro m l i) := lt_map fun k _ => fl_le l i k
theorem am_03 {a b : Nat} (ha : a = 0 ∨ a = 3) (hb : b = 0 ∨ b = 3) : am a b = 0 := by
  rcases ha with rfl | rfl <;> rcases hb with rfl | rfl <;> decide
theorem fl_ne {l : List (Nat × Nat)} {i j : Nat} (h : j ≠ i) : fl l i j = 0 ∨ fl l i j = 3 := by
  unfold fl
  rw [if_neg h]
  split
  · exact .inr rfl
  · exact .inl rfl
theorem ro_co {m : Nat} {l : List (Nat × Nat)} {i j : Nat} (hi : i < m) (hj : j < m) : A (ro m l i) (ro m l j) % 2 = 0 := by
  by_cases hij : i = j
  · subst hij
    rw [A_self]
  · unfold ro
    rw [A_map, sm_two hi hj hij fun k _ h1 h2 => am_03 (fl_ne h1) (fl_ne h2)]
    have e1 : am (fl l i i) (fl l j i) = am (fl l i j) (fl l j j) := by
      have a1 : fl l i i = 1 := if_pos rfl
      have a2 : fl l j j = 1 := if_pos rfl
      have a3 : fl l j i = fl l i j := by
        unfold fl
        rw [if_neg hij, if_neg (Ne.symm hij), linked_comm]
      rw [a1, a2, a3, am_comm]
    rw [e1]
    omega
/-- Z on one spin -/
def ez (m k : Nat) : List Nat := (List.range m).map fun j => if j = k then 3 else 0
theorem ez_lt (m k : Nat) : Lt m (ez m k) := lt_map fun j _ => by split <;> omega
theorem A_ez {m k : Nat} {x : List Nat} (hx : Lt m x) (hk : k < m) : A x (ez m k) = am (x.getD k 0) 3 := by
  have e : A x (ez m k) = A ((List.range m).map fun j => x.getD j 0) (ez m k) := by rw [map_at hx.1]
  rw [e]
  unfold ez
  rw [A_map, sm_one hk fun j _ hj => by rw [if_neg hj]; exact am_0r _]
  rw [if_pos rfl]
theorem ro_at {m i k : Nat} {l : List (Nat × Nat)} (hk : k < m) : (ro m l i).getD k 0 = fl l i k := by
  unfold ro
  rw [List.getD_eq_getElem?_getD, List.getElem?_map, List.getElem?_range hk]
  rfl
theorem ro_ez {m i k : Nat} {l : List (Nat × Nat)} (hk : k < m) : A (ro m l i) (ez m k) = if i = k then 1 else 0 := by
  rw [A_ez (ro_lt m l i) hk, ro_at hk]
  by_cases h : i = k
  · subst h
    rw [if_pos rfl]
    have a1 : fl l i i = 1 := if_pos rfl
    rw [a1]
    rfl
  · rw [if_neg h]
    exact am_03 (fl_ne (Ne.symm h)) (.inr rfl)
/-- what some rows give together against another -/
def dA : List (List Nat) → List Nat → List Nat → Nat
  | g :: S, c :: cs, y => c * A g y + dA S cs y
  | _, _, _ => 0
theorem cb_dA {m : Nat} {y : List Nat} (hy : Lt m y) : ∀ {S : List (List Nat)} {c : List Nat}, Lts m S → Cf S.length c → A (cb m S c) y % 2 = dA S c y % 2
  | [], c, _, _ => by
    show A (Z m) y % 2 = 0
    rw [A_z hy]
  | g :: S, c, h, hc => by
    obtain ⟨a, c, rfl, ha, hc⟩ := Cf.ex (n := S.length) hc
    have ih := cb_dA hy h.tail hc
    rcases ha with rfl | rfl
    · show A (cb m S c) y % 2 = (0 * A g y + dA S c y) % 2
      rw [ih]
      omega
    · show A (xx g (cb m S c)) y % 2 = (1 * A g y + dA S c y) % 2
      rw [A_xx (h g (by simp)) (cb_lt h.tail) hy]
      omega
theorem dA_map {y : List Nat} : ∀ {n : Nat} {f : Nat → List Nat} {c : List Nat}, c.length = n → dA ((List.range n).map f) c y = sm n fun i => c.getD i 0 * A (f i) y
  | 0, f, c, _ => rfl
  | n + 1, f, [], h => absurd h (by simp)
  | n + 1, f, a :: c, h => by
    rw [range_cons, List.map_cons, List.map_map]
    show a * A (f 0) y + dA _ c y = a * A (f 0) y + sm n _
    have := dA_map (n := n) (f := f ∘ Nat.succ) (c := c) (y := y) (by simpa using h)
    rw [this]
    rfl
theorem ro_dA {m k : Nat} {l : List (Nat × Nat)} {c : List Nat} (hc : c.length = m) (hk : k < m) : dA ((List.range m).map (ro m l)) c (ez m k) = c.getD k 0 := by
  rw [dA_map hc, sm_one hk fun i _ hi => by rw [ro_ez hk, if_neg hi]; rfl]
  rw [ro_ez hk, if_pos rfl]
  omega
/-- without X and Y, beside all that's sure at first: without letters -/
theorem all_zero {m : Nat} {l : List (Nat × Nat)} {z : List Nat} (lz : Lt m z) (z03 : ∀ k, k < m → z.getD k 0 = 0 ∨ z.getD k 0 = 3) (h : ∀ i, i < m → A z (ro m l i) % 2 = 0) : z = Z m := by
  have e := map_at lz.1
  rw [← e]
  refine List.ext_getElem (by simp [Z]) fun i h1 h2 => ?_
  have hi : i < m := by simpa using h1
  simp only [List.getElem_map, List.getElem_range, Z, List.getElem_replicate]
  rcases z03 i hi with h3 | h3
  · exact h3
  · exfalso
    have hco := h i hi
    rw [← e] at hco
    unfold ro at hco
    rw [A_map, sm_one hi (f := fun k => am (z.getD k 0) (fl l i k)) fun k hk hne => am_03 (z03 k hk) (fl_ne hne)] at hco
    have a1 : fl l i i = 1 := if_pos rfl
    rw [a1, h3] at hco
    exact absurd hco (by decide)
theorem first_stab (m : Nat) (l : List (Nat × Nat)) : Stab m (Su175.first m l) := by
  have el : (Su175.first m l).map (·.l) = (List.range m).map (ro m l) := by
    rw [first_eq, List.map_map]
    rfl
  have lts : Lts m ((List.range m).map (ro m l)) := fun x hx => by
    obtain ⟨i, _, rfl⟩ := List.mem_map.mp hx
    exact ro_lt m l i
  refine ⟨by simp [Su175.first], fun x hx => ?_, ?_⟩
  · rw [first_eq] at hx
    obtain ⟨i, _, rfl⟩ := List.mem_map.mp hx
    exact ⟨ro_lt m l i, by show 0 ≤ 1; decide⟩
  · rw [el]
    refine ⟨lts, fun x hx y hy => ?_, fun c hc hz => ?_, fun y hy hc => ?_⟩
    · obtain ⟨i, hi, rfl⟩ := List.mem_map.mp hx
      obtain ⟨j, hj, rfl⟩ := List.mem_map.mp hy
      exact ro_co (List.mem_range.mp hi) (List.mem_range.mp hj)
    · have hcl : c.length = m := by simpa using hc.1
      intro a ha
      obtain ⟨k, hk, rfl⟩ := List.mem_iff_getElem.mp ha
      have hkm : k < m := by omega
      have h1 := cb_dA (ez_lt m k) lts hc
      rw [hz, A_z (ez_lt m k), ro_dA hcl hkm, List.getD_eq_getElem?_getD, List.getElem?_eq_getElem hk] at h1
      have h2 := hc.2 c[k] ha
      simp at h1
      omega
    · let c : List Nat := (List.range m).map fun k => am (y.getD k 0) 3
      have ham : ∀ a : Nat, am a 3 ≤ 1 := fun a => by unfold am; split <;> omega
      have hcl : c.length = m := by simp [c]
      have hcf : Cf ((List.range m).map (ro m l)).length c := ⟨by simp [c], fun a ha => by
        obtain ⟨k, _, rfl⟩ := List.mem_map.mp ha
        exact ham _⟩
      have hcat : ∀ k, k < m → c.getD k 0 = am (y.getD k 0) 3 := fun k hk => by
        show ((List.range m).map fun k => am (y.getD k 0) 3).getD k 0 = _
        rw [List.getD_eq_getElem?_getD, List.getElem?_map, List.getElem?_range hk]
        rfl
      refine ⟨c, hcf, ?_⟩
      have lw : Lt m (cb m ((List.range m).map (ro m l)) c) := cb_lt lts
      have lz : Lt m (xx y (cb m ((List.range m).map (ro m l)) c)) := xx_lt hy lw
      have z03 : ∀ k, k < m → (xx y (cb m ((List.range m).map (ro m l)) c)).getD k 0 = 0 ∨ (xx y (cb m ((List.range m).map (ro m l)) c)).getD k 0 = 3 := fun k hk => by
        have h1 := A_xx hy lw (ez_lt m k)
        rw [A_ez lz hk, Nat.add_mod, cb_dA (ez_lt m k) lts hcf, ro_dA hcl hk, hcat k hk, A_ez hy hk] at h1
        have h2 : am ((xx y (cb m ((List.range m).map (ro m l)) c)).getD k 0) 3 % 2 = 0 := by rw [h1]; omega
        have h3 := lt_at lz hk
        rcases lt4 h3 with h4 | h4 | h4 | h4 <;> rw [h4] at h2
        · exact .inl h4
        · exact absurd h2 (by decide)
        · exact absurd h2 (by decide)
        · exact .inr h4
      have zz : xx y (cb m ((List.range m).map (ro m l)) c) = Z m := all_zero lz z03 fun i hi => by
        rw [A_xx hy lw (ro_lt m l i)]
        have a1 : A y (ro m l i) % 2 = 0 := by
          rw [A_comm]
          exact hc _ (List.mem_map.mpr ⟨i, List.mem_range.mpr hi, rfl⟩)
        have a2 : A (cb m ((List.range m).map (ro m l)) c) (ro m l i) % 2 = 0 := cb_A0 (ro_lt m l i) lts fun x hx => by
          obtain ⟨j, hj, rfl⟩ := List.mem_map.mp hx
          exact ro_co (List.mem_range.mp hj) hi
        omega
      have : xx (xx y (cb m ((List.range m).map (ro m l)) c)) (cb m ((List.range m).map (ro m l)) c) = y := by
        rw [xx_assoc, xx_self lw, xx_z hy]
      rw [← this, zz, xx_zl lw]
end Mx
namespace Mx
open Su173 (Spin times2 mul signOf together)
/-! ### measured -/
section
variable {m : Nat} {S : List Spin}
theorem pr2_spec {x y : Spin} (hx : Sp m x) : pr2 m x y = ⟨signOf (mul (x, 0) (y, 0)), (mul (x, 0) (y, 0)).1.l⟩ := by
  have e : mul (Su175.blank m, 0) (x, 0) = (x, 0) := by
    have h1 : (mul (Su175.blank m, 0) (x, 0)).1.s = x.s := by
      rw [mul_s]
      show (0 + x.s) % 2 = x.s
      have := hx.s
      omega
    have h2 : (mul (Su175.blank m, 0) (x, 0)).1.l = x.l := by
      rw [mul_l]
      exact L_z hx.l
    have h3 : (mul (Su175.blank m, 0) (x, 0)).2 = 0 := by
      rw [mul_t]
      show (0 + 0 + T (Z m) x.l) % 4 = 0
      rw [T_z hx.l]
    cases hq : mul (Su175.blank m, 0) (x, 0) with
    | mk a b =>
      rw [hq] at h1 h2 h3
      cases a
      cases x
      simp only at h1 h2 h3
      rw [h1, h2, h3]
  unfold pr2 Su175.prodOf
  simp only [List.foldl_cons, List.foldl_nil]
  rw [e]
/-- what's sure behind a measurement of letters with an even chance -/
def aft (m : Nat) (X : List Spin) (p : Spin) (Y : List Spin) (l : List Nat) (c : Nat) : List Spin :=
  X ++ ⟨c, l⟩ :: Y.map fun s => if A s.l l % 2 = 0 then s else pr2 m s p
theorem aft_split (h : Stab m S) {l : List Nat} (hl : Lt m l) (e : sgn m S l = none) : ∃ X p Y, S = X ++ p :: Y ∧ (∀ s ∈ X, A s.l l % 2 = 0) ∧ A p.l l % 2 = 1 ∧ S.find? (fun s => !(together s ⟨0, l⟩)) = some p := by
  obtain ⟨x, hx, hA⟩ := (sgn_iff h hl).mp e
  cases q : S.find? fun s => !(together s ⟨0, l⟩) with
  | none =>
    have := List.find?_eq_none.mp q x hx
    rw [tog_false.mpr hA] at this
    simp at this
  | some p =>
    obtain ⟨h1, X, Y, rfl, h2⟩ := List.find?_eq_some_iff_append.mp q
    refine ⟨X, p, Y, rfl, fun s hs => ?_, ?_, rfl⟩
    · have := h2 s hs
      exact tog_iff.mp (by simpa using this)
    · exact tog_false.mp (by simpa using h1)
theorem Stab.distinct {X Y : List Spin} {p : Spin} (h : Stab m (X ++ p :: Y)) : ∀ s ∈ Y, s ≠ p := fun s hs e => by
  subst e
  obtain ⟨Y1, Y2, rfl⟩ := List.append_of_mem hs
  -- two alike make nothing
  have lX : Lts m (X.map (·.l)) := fun z hz => h.mx.lt z (by simp at hz ⊢; exact .inl hz)
  have lY1 : Lts m (Y1.map (·.l)) := fun z hz => h.mx.lt z (by simp at hz ⊢; exact .inr (.inr (.inl hz)))
  have lY2 : Lts m (Y2.map (·.l)) := fun z hz => h.mx.lt z (by simp at hz ⊢; exact .inr (.inr (.inr (.inr hz))))
  have lp : Lt m s.l := (h.sp s (by simp)).l
  have z0 : ∀ n : Nat, Cf n (List.replicate n 0) := fun n => ⟨by simp, fun a ha => by rw [List.eq_of_mem_replicate ha]; omega⟩
  have lY : Lts m ((Y1 ++ s :: Y2).map (·.l)) := fun z hz => h.mx.lt z (by simp at hz ⊢; exact .inr (.inr hz))
  have hin := h.mx.ind (List.replicate X.length 0 ++ 1 :: (List.replicate Y1.length 0 ++ 1 :: List.replicate Y2.length 0)) (by
    have e : ((X ++ s :: (Y1 ++ s :: Y2)).map (·.l)).length = X.length + ((Y1.length + (Y2.length + 1)) + 1) := by simp
    rw [e]
    exact join_cf (z0 _) (by omega) (join_cf (z0 _) (by omega) (z0 _))) (by
    rw [List.map_append, List.map_cons, cb_mid lX lY lp (by simp), List.map_append, List.map_cons, cb_mid lY1 lY2 lp (by simp),
      cb_zero fun a ha => List.eq_of_mem_replicate ha, cb_zero fun a ha => List.eq_of_mem_replicate ha, cb_zero fun a ha => List.eq_of_mem_replicate ha]
    show xx (Z m) (xx s.l (xx (Z m) (xx s.l (Z m)))) = Z m
    rw [xx_z lp, xx_zl lp, xx_self lp, xx_z (Lt.z m)])
  exact absurd (hin 1 (by simp)) (by decide)
theorem after_eq {g : Su175.Abs} (h : Stab g.m g.sure) {l : List Nat} {c : Nat} {X Y : List Spin} {p : Spin} (es : g.sure = X ++ p :: Y) (hX : ∀ s ∈ X, A s.l l % 2 = 0) (hp : A p.l l % 2 = 1)
    (hf : g.sure.find? (fun s => !(together s ⟨0, l⟩)) = some p) : g.after l c = { g with touched := true, sure := aft g.m X p Y l c } := by
  unfold Su175.Abs.after
  simp only
  rw [hf]
  simp only
  congr 1
  rw [es, List.map_append, List.map_cons, if_pos rfl]
  unfold aft
  rw [es] at h
  congr 1
  · conv => rhs; rw [← List.map_id X]
    refine List.map_congr_left fun s hs => ?_
    have h1 : s ≠ p := fun e => by
      subst e
      have := hX s hs
      omega
    rw [if_neg h1, if_pos (tog_iff.mpr (hX s hs))]
    rfl
  · congr 1
    refine List.map_congr_left fun s hs => ?_
    rw [if_neg (h.distinct s hs)]
    by_cases q : A s.l l % 2 = 0
    · rw [if_pos (tog_iff.mpr q), if_pos q]
    · rw [if_neg (fun z => q (tog_iff.mp z)), if_neg q, pr2_spec (h.sp s (by simp [hs]))]
theorem aft_stab {X Y : List Spin} {p : Spin} {l : List Nat} {c : Nat} (h : Stab m (X ++ p :: Y)) (hl : Lt m l) (hc : c ≤ 1) (hX : ∀ s ∈ X, A s.l l % 2 = 0) (hp : A p.l l % 2 = 1) : Stab m (aft m X p Y l c) := by
  have spp : Sp m p := h.sp p (by simp)
  have pe : ∀ s ∈ Y, el (pr2 m s p) = (el s).mul (el p) ∧ Sp m (pr2 m s p) := fun s hs => pr2_el (h.sp s (by simp [hs])) spp (h.com.co s (by simp [hs]) p (by simp))
  refine ⟨?_, fun x hx => ?_, ?_⟩
  · have := h.len
    simp [aft] at this ⊢
    exact this
  · unfold aft at hx
    rcases List.mem_append.mp hx with hx | hx
    · exact h.sp x (by simp [hx])
    · rcases List.mem_cons.mp hx with rfl | hx
      · exact ⟨hl, hc⟩
      · obtain ⟨s, hs, rfl⟩ := List.mem_map.mp hx
        split
        · exact h.sp s (by simp [hs])
        · exact (pe s hs).2
  · have mx := h.mx
    rw [List.map_append, List.map_cons] at mx
    have := mx.step hl (fun z hz => by
      obtain ⟨s, hs, rfl⟩ := List.mem_map.mp hz
      exact hX s hs) hp
    have e : (aft m X p Y l c).map (·.l) = X.map (·.l) ++ l :: (Y.map (·.l)).map (fx l p.l) := by
      unfold aft
      rw [List.map_append, List.map_cons, List.map_map, List.map_map]
      congr 2
      refine List.map_congr_left fun s hs => ?_
      show (if A s.l l % 2 = 0 then s else pr2 m s p).l = fx l p.l s.l
      unfold fx
      by_cases q : A s.l l % 2 = 0
      · rw [if_pos q, if_pos q]
      · rw [if_neg q, if_neg q, ← L_xx (h.sp s (by simp [hs])).l spp.l]
        exact congrArg E.l (pe s hs).1
    rw [e]
    exact this
/-- sure and measured so: all stays -/
theorem after_same {g : Su175.Abs} (h : Stab g.m g.sure) {l : List Nat} {s c : Nat} (hl : Lt g.m l) (e : g.sign l = some s) : g.after l c = g := by
  unfold Su175.Abs.after
  simp only
  cases q : g.sure.find? fun s => !(together s ⟨0, l⟩) with
  | none => rfl
  | some p =>
    exfalso
    have h1 := List.find?_some q
    have h2 := List.mem_of_find?_eq_some q
    have : g.sign l = none := (sgn_iff h hl).mpr ⟨p, h2, tog_false.mp (by simpa using h1)⟩
    rw [this] at e
    cases e
end
/-! ### chances -/
/-- what some have: those with a 1 -/
def some1 (M : List Spin) (t : List Nat) : List Spin := (M.zip t).filterMap fun p => if p.2 = 1 then some p.1 else none
theorem some1_pl {m : Nat} : ∀ {M : List Spin} {t : List Nat}, pl m (some1 M t) = com m M t
  | [], t => rfl
  | x :: M, [] => rfl
  | x :: M, a :: t => by
    have ih := some1_pl (m := m) (M := M) (t := t)
    unfold some1 at ih ⊢
    simp only [List.zip_cons_cons, List.filterMap_cons]
    by_cases h : a = 1
    · subst h
      show (el x).mul (pl m _) = (el x).mul (com m M t)
      rw [ih]
    · simp only [h, if_false]
      show _ = if a = 1 then _ else _
      rw [if_neg h]
      exact ih
theorem some1_mem {M : List Spin} {t : List Nat} : ∀ x ∈ some1 M t, x ∈ M := fun x hx => by
  obtain ⟨p, hp, e⟩ := List.mem_filterMap.mp hx
  split at e
  · cases e
    exact (List.of_mem_zip hp).1
  · cases e
/-- 0: nothing is sure of these; 1: even; 2: odd -/
def so (m : Nat) (S M : List Spin) (t : List Nat) : Nat := match sgn m S (com m M t).l with
  | some s => (s + (com m M t).p / 2) % 2 + 1
  | none => 0
theorem sureOf_so {g : Su175.Abs} {x t : List Nat} (h : Com g.m (g.taken x)) : g.sureOf x t = so g.m g.sure (g.taken x) t := by
  have hs : ∀ z ∈ some1 (g.taken x) t, Sp g.m z := fun z hz => h.sp z (some1_mem z hz)
  have e1 : (Su175.prodOf g.m (some1 (g.taken x) t)).1.l = (com g.m (g.taken x) t).l := by rw [prodOf_l hs, some1_pl]
  have e2 : signOf (Su175.prodOf g.m (some1 (g.taken x) t)) = (com g.m (g.taken x) t).p / 2 := by rw [prodOf_sign hs (by rw [some1_pl]; exact com_even h), some1_pl]
  unfold Su175.Abs.sureOf so
  show (match g.sign (Su175.prodOf g.m (some1 (g.taken x) t)).1.l with
    | some s => (s + signOf (Su175.prodOf g.m (some1 (g.taken x) t))) % 2 + 1
    | none => 0) = _
  rw [e1, e2, sgn_abs]
section
variable {m : Nat} {S M : List Spin}
theorem so_le (t : List Nat) : so m S M t ≤ 2 := by
  unfold so
  split <;> omega
theorem so_pos {t : List Nat} (hS : Stab m S) (h : so m S M t ≠ 0) : ∃ c s, Cf S.length c ∧ (com m S c).l = (com m M t).l ∧ (com m S c).p = 2 * s ∧ so m S M t = (s + (com m M t).p / 2) % 2 + 1 := by
  unfold so at h ⊢
  cases q : sgn m S (com m M t).l with
  | none => rw [q] at h; exact absurd rfl h
  | some s =>
    obtain ⟨c, hc, h1, h2⟩ := sgn_some hS q
    exact ⟨c, s, hc, h1, h2, rfl⟩
/-- sure of two: sure of both together -/
theorem so_xr (hS : Stab m S) (hM : Com m M) {t u : List Nat} (ht : Cf M.length t) (hu : Cf M.length u) (h1 : so m S M t ≠ 0) (h2 : so m S M u ≠ 0) :
    so m S M (xr t u) ≠ 0 ∧ (so m S M (xr t u) + 1) % 2 = (so m S M t + so m S M u) % 2 := by
  obtain ⟨c, s, hc, lc, pc, e1⟩ := so_pos hS h1
  obtain ⟨d, r, hd, ld, pd, e2⟩ := so_pos hS h2
  have hm := com_mul (m := m) hM ht hu
  have hs := com_mul (m := m) hS.com hc hd
  have ll : (com m S (xr c d)).l = (com m M (xr t u)).l := by
    rw [← hm, ← hs]
    show L (com m S c).l (com m S d).l = L (com m M t).l (com m M u).l
    rw [lc, ld]
  have q := sgn_of hS (xr_cf hc hd) ll
  have e3 : so m S M (xr t u) = ((com m S (xr c d)).p / 2 + (com m M (xr t u)).p / 2) % 2 + 1 := by
    unfold so
    rw [q]
  have p1 : (com m S (xr c d)).p = ((com m S c).p + (com m S d).p + T (com m M t).l (com m M u).l) % 4 := by
    rw [← hs]
    show ((com m S c).p + (com m S d).p + T (com m S c).l (com m S d).l) % 4 = _
    rw [lc, ld]
  have p2 : (com m M (xr t u)).p = ((com m M t).p + (com m M u).p + T (com m M t).l (com m M u).l) % 4 := by
    rw [← hm]
    rfl
  have v1 := com_even (m := m) (c := t) hM
  have v2 := com_even (m := m) (c := u) hM
  have v3 := com_even (m := m) (c := xr t u) hM
  refine ⟨by rw [e3]; omega, ?_⟩
  rw [e3, e1, e2]
  omega
end
/-! ### sums over rows of 0 and 1 -/
theorem rows_succ (b n : Nat) : Su175.rows b (n + 1) = (List.range b).flatMap fun c => (Su175.rows b n).map fun l => c :: l := rfl
theorem rows2_succ (n : Nat) : Su175.rows 2 (n + 1) = (Su175.rows 2 n).map (fun l => 0 :: l) ++ (Su175.rows 2 n).map (fun l => 1 :: l) := by
  rw [rows_succ]
  simp [List.range_succ]
theorem rows_cf : ∀ {n : Nat} {t : List Nat}, t ∈ Su175.rows 2 n ↔ Cf n t
  | 0, t => by
    constructor
    · intro h
      have : t = [] := by simpa [Su175.rows] using h
      rw [this]
      exact ⟨rfl, by simp⟩
    · intro h
      rw [h.nil]
      simp [Su175.rows]
  | n + 1, t => by
    rw [rows2_succ]
    simp only [List.mem_append, List.mem_map]
    constructor
    · rintro (⟨u, hu, rfl⟩ | ⟨u, hu, rfl⟩)
      · exact Cf.mk (by omega) (rows_cf.mp hu)
      · exact Cf.mk (by omega) (rows_cf.mp hu)
    · intro h
      obtain ⟨a, u, rfl, ha, hu⟩ := h.ex
      rcases ha with rfl | rfl
      · exact .inl ⟨u, rows_cf.mpr hu, rfl⟩
      · exact .inr ⟨u, rows_cf.mpr hu, rfl⟩
def isum {α : Type} (l : List α) (F : α → Int) : Int := (l.map F).sum
theorem isum_app {α : Type} (l r : List α) (F : α → Int) : isum (l ++ r) F = isum l F + isum r F := by simp [isum]
theorem isum_map {α β : Type} (l : List α) (f : α → β) (F : β → Int) : isum (l.map f) F = isum l fun x => F (f x) := by simp [isum, Function.comp_def]
theorem isum_congr {α : Type} {l : List α} {F G : α → Int} (h : ∀ x ∈ l, F x = G x) : isum l F = isum l G := by
  unfold isum
  rw [List.map_congr_left h]
theorem isum_neg {α : Type} : ∀ (l : List α) (F : α → Int), isum l (fun x => - F x) = - isum l F
  | [], _ => rfl
  | x :: l, F => by
    have := isum_neg l F
    simp only [isum, List.map_cons, List.sum_cons] at this ⊢
    omega
theorem isum_nonneg {α : Type} : ∀ {l : List α} {F : α → Int}, (∀ x ∈ l, 0 ≤ F x) → 0 ≤ isum l F
  | [], _, _ => by simp [isum]
  | x :: l, F, h => by
    have h1 := h x (by simp)
    have h2 := isum_nonneg (l := l) (F := F) fun y hy => h y (by simp [hy])
    simp only [isum, List.map_cons, List.sum_cons] at h2 ⊢
    omega
theorem isum_xr : ∀ {n : Nat} {t : List Nat} (F : List Nat → Int), Cf n t → isum (Su175.rows 2 n) (fun u => F (xr u t)) = isum (Su175.rows 2 n) F
  | 0, t, F, h => by
    rw [h.nil]
    simp [isum, Su175.rows, xr]
  | n + 1, t, F, h => by
    obtain ⟨a, t, rfl, ha, ht⟩ := h.ex
    rw [rows2_succ, isum_app, isum_app, isum_map, isum_map, isum_map, isum_map]
    have e : ∀ b u, xr (b :: u) (a :: t) = (b + a) % 2 :: xr u t := fun _ _ => rfl
    simp only [e]
    rcases ha with rfl | rfl
    · have h1 := isum_xr (n := n) (t := t) (fun u => F (0 :: u)) ht
      have h2 := isum_xr (n := n) (t := t) (fun u => F (1 :: u)) ht
      simp only [Nat.add_zero, Nat.reduceMod]
      rw [h1, h2]
    · have h1 := isum_xr (n := n) (t := t) (fun u => F (1 :: u)) ht
      have h2 := isum_xr (n := n) (t := t) (fun u => F (0 :: u)) ht
      simp only [Nat.zero_add, Nat.reduceAdd, Nat.reduceMod]
      rw [h1, h2]
      omega
/-- how many have a 1 in both -/
def both (t a : List Nat) : Nat := ((t.zip a).filter fun p => p.1 == 1 && p.2 == 1).length
theorem both_xr : ∀ {n : Nat} {t u a : List Nat}, Cf n t → Cf n u → Cf n a → both (xr t u) a % 2 = (both t a + both u a) % 2
  | 0, t, u, a, ht, hu, ha => by rw [ht.nil, hu.nil, ha.nil]; rfl
  | n + 1, t, u, a, ht, hu, ha => by
    obtain ⟨x, t, rfl, hx, ht⟩ := ht.ex
    obtain ⟨y, u, rfl, hy, hu⟩ := hu.ex
    obtain ⟨z, a, rfl, hz, ha⟩ := ha.ex
    have ih := both_xr ht hu ha
    have e : xr (x :: t) (y :: u) = (x + y) % 2 :: xr t u := rfl
    rw [e]
    unfold both at ih ⊢
    simp only [List.zip_cons_cons, List.filter_cons]
    rcases hx with rfl | rfl <;> rcases hy with rfl | rfl <;> rcases hz with rfl | rfl <;> simp only [Nat.reduceAdd, Nat.reduceMod, Nat.reduceBEq, Bool.true_and, Bool.false_and, if_true, Bool.false_eq_true, if_false, List.length_cons, Bool.and_true, Bool.and_false, Bool.and_self] <;> omega
/-- what a row of some adds to a chance -/
def sh (v d : Nat) : Int := if v = 0 then 0 else if v = d + 1 then 1 else -1
theorem count_sh (l : List (Nat × Nat)) : ((l.filter fun p => p.1 != 0 && p.1 == p.2 + 1).length : Int) - (l.filter fun p => p.1 != 0 && p.1 != p.2 + 1).length = isum l fun p => sh p.1 p.2 := by
  induction l with
  | nil => rfl
  | cons p l ih =>
    simp only [List.filter_cons, isum, List.map_cons, List.sum_cons] at ih ⊢
    unfold sh at ih ⊢
    by_cases h1 : p.1 = 0
    · simp [h1] at ih ⊢
      omega
    · by_cases h2 : p.1 = p.2 + 1
      · simp [h2] at ih ⊢
        omega
      · simp [h1, h2] at ih ⊢
        omega
theorem chance_sum (g : Su175.Abs) (x a : List Nat) (hM : Com g.m (g.taken x)) (hk : (g.taken x).length = g.k) (hS : Stab g.m g.sure) (ha : Cf g.k a) :
    (g.chance x a : Int) = isum (Su175.rows 2 g.k) fun t => sh (g.sureOf x t) (both t a % 2) := by
  let F : List Nat → Int := fun t => sh (g.sureOf x t) (both t a % 2)
  have hF : ∀ t, F t = sh (so g.m g.sure (g.taken x) t) (both t a % 2) := fun t => by
    show sh (g.sureOf x t) _ = _
    rw [sureOf_so hM]
  have hc := count_sh ((Su175.rows 2 g.k).map fun t => (g.sureOf x t, both t a % 2))
  rw [isum_map] at hc
  have key : 0 ≤ isum (Su175.rows 2 g.k) F := by
    by_cases q : ∀ t ∈ Su175.rows 2 g.k, 0 ≤ F t
    · exact isum_nonneg q
    · have ⟨t, ht, hn⟩ : ∃ t, t ∈ Su175.rows 2 g.k ∧ ¬ 0 ≤ F t := by
        refine Classical.byContradiction fun z => q fun t ht => Classical.byContradiction fun y => z ⟨t, ht, y⟩
      have hct : Cf (g.taken x).length t := by rw [hk]; exact rows_cf.mp ht
      have t1 : so g.m g.sure (g.taken x) t ≠ 0 ∧ so g.m g.sure (g.taken x) t ≠ both t a % 2 + 1 := by
        rw [hF] at hn
        unfold sh at hn
        by_cases z1 : so g.m g.sure (g.taken x) t = 0
        · rw [if_pos z1] at hn; omega
        · by_cases z2 : so g.m g.sure (g.taken x) t = both t a % 2 + 1
          · rw [if_neg z1, if_pos z2] at hn; omega
          · exact ⟨z1, z2⟩
      have flip : ∀ u ∈ Su175.rows 2 g.k, F (xr u t) = - F u := fun u hu => by
        have hcu : Cf (g.taken x).length u := by rw [hk]; exact rows_cf.mp hu
        rw [hF, hF]
        have hb := both_xr (rows_cf.mp hu) (rows_cf.mp ht) ha
        have l1 := so_le (m := g.m) (S := g.sure) (M := g.taken x) u
        have l2 := so_le (m := g.m) (S := g.sure) (M := g.taken x) t
        have l3 := so_le (m := g.m) (S := g.sure) (M := g.taken x) (xr u t)
        have back : xr (xr u t) t = u := by
          have gen : ∀ {n : Nat} {c d : List Nat}, Cf n c → Cf n d → xr (xr c d) d = c := by
            intro n
            induction n with
            | zero => intro c d hc hd; rw [hc.nil, hd.nil]; rfl
            | succ n ih =>
              intro c d hc hd
              obtain ⟨x, c, rfl, hx, hc⟩ := hc.ex
              obtain ⟨y, d, rfl, hy, hd⟩ := hd.ex
              show ((x + y) % 2 + y) % 2 :: xr (xr c d) d = x :: c
              rw [ih hc hd]
              congr 1
              omega
          exact gen hcu hct
        by_cases z1 : so g.m g.sure (g.taken x) u = 0
        · have z2 : so g.m g.sure (g.taken x) (xr u t) = 0 := by
            refine Classical.byContradiction fun z => ?_
            have := (so_xr hS hM (xr_cf hcu hct) hct z t1.1).1
            rw [back] at this
            exact this z1
          rw [z1, z2]
          unfold sh
          simp
        · obtain ⟨n1, n2⟩ := so_xr hS hM hcu hct z1 t1.1
          unfold sh
          rw [if_neg n1, if_neg z1]
          by_cases z2 : so g.m g.sure (g.taken x) u = both u a % 2 + 1
          · rw [if_pos z2, if_neg (by omega)]
          · rw [if_neg z2, if_pos (by omega)]
            omega
      have e1 := isum_xr F (rows_cf.mp ht)
      rw [isum_congr flip, isum_neg] at e1
      omega
  have e : g.chance x a = ((((Su175.rows 2 g.k).map fun t => (g.sureOf x t, both t a % 2)).filter fun p => p.1 != 0 && p.1 == p.2 + 1).length - (((Su175.rows 2 g.k).map fun t => (g.sureOf x t, both t a % 2)).filter fun p => p.1 != 0 && p.1 != p.2 + 1).length : Nat) := rfl
  have key' : 0 ≤ isum (Su175.rows 2 g.k) fun t => sh (g.sureOf x t) (both t a % 2) := key
  rw [e]
  generalize (((Su175.rows 2 g.k).map fun t => (g.sureOf x t, both t a % 2)).filter fun p => p.1 != 0 && p.1 == p.2 + 1).length = u at *
  generalize (((Su175.rows 2 g.k).map fun t => (g.sureOf x t, both t a % 2)).filter fun p => p.1 != 0 && p.1 != p.2 + 1).length = v at *
  have hc' : (u : Int) - v = isum (Su175.rows 2 g.k) fun t => sh (g.sureOf x t) (both t a % 2) := hc
  rw [← hc'] at key' ⊢
  omega
end Mx
namespace Mx
open Su173 (Spin times2 mul signOf together)
/-! ### rows by their places -/
def rowAt (q : Nat) : Nat → Nat → List Nat
  | 0, _ => []
  | k + 1, p => p % q :: rowAt q k (p / q)
theorem rowAt_len (q : Nat) : ∀ k p, (rowAt q k p).length = k
  | 0, _ => rfl
  | k + 1, p => by show (rowAt q k (p / q)).length + 1 = _; rw [rowAt_len q k]
theorem rowAt_lt {q : Nat} (hq : 0 < q) : ∀ k p, ∀ a ∈ rowAt q k p, a < q
  | 0, _, a, h => absurd h (by simp [rowAt])
  | k + 1, p, a, h => by
    rcases List.mem_cons.mp h with rfl | h
    · exact Nat.mod_lt _ hq
    · exact rowAt_lt hq k _ a h
theorem code_rowAt {q : Nat} : ∀ {k p : Nat}, p < q ^ k → Su175.code q (rowAt q k p) = p
  | 0, p, h => by
    have : p = 0 := by simpa using h
    rw [this]
    rfl
  | k + 1, p, h => by
    have h2 : p / q < q ^ k := Nat.div_lt_of_lt_mul (by rw [Nat.pow_succ] at h; rw [Nat.mul_comm]; exact h)
    show p % q + q * Su175.code q (rowAt q k (p / q)) = p
    rw [code_rowAt h2]
    exact Nat.mod_add_div p q
theorem code_cons (q x : Nat) (l : List Nat) : Su175.code q (x :: l) = x + q * Su175.code q l := rfl
theorem rowAt_code {q : Nat} : ∀ {x : List Nat}, (∀ a ∈ x, a < q) → rowAt q x.length (Su175.code q x) = x
  | [], _ => rfl
  | a :: x, h => by
    have ha := h a (by simp)
    have hq : 0 < q := by omega
    show (Su175.code q (a :: x)) % q :: rowAt q x.length (Su175.code q (a :: x) / q) = a :: x
    rw [code_cons, Nat.add_mul_mod_self_left, Nat.mod_eq_of_lt ha, Nat.add_mul_div_left _ _ hq, Nat.div_eq_of_lt ha, Nat.zero_add, rowAt_code fun b hb => h b (by simp [hb])]
theorem code_lt {q : Nat} : ∀ {x : List Nat}, (∀ a ∈ x, a < q) → Su175.code q x < q ^ x.length
  | [], _ => by simp [Su175.code]
  | a :: x, h => by
    have ha := h a (by simp)
    have ih := code_lt (q := q) (x := x) fun b hb => h b (by simp [hb])
    rw [code_cons, List.length_cons, Nat.pow_succ]
    have h1 : q * (Su175.code q x + 1) ≤ q * q ^ x.length := Nat.mul_le_mul_left _ ih
    rw [Nat.mul_add] at h1
    rw [Nat.mul_comm (q ^ x.length)]
    omega
theorem mem_rows {b : Nat} : ∀ {n : Nat} {t : List Nat}, t ∈ Su175.rows b n ↔ t.length = n ∧ ∀ a ∈ t, a < b
  | 0, t => by
    constructor
    · intro h
      have : t = [] := by simpa [Su175.rows] using h
      rw [this]
      exact ⟨rfl, by simp⟩
    · intro h
      rw [List.eq_nil_of_length_eq_zero h.1]
      simp [Su175.rows]
  | n + 1, t => by
    rw [rows_succ]
    simp only [List.mem_flatMap, List.mem_map, List.mem_range]
    constructor
    · rintro ⟨c, hc, u, hu, rfl⟩
      have := mem_rows.mp hu
      exact ⟨by simp [this.1], fun a ha => by
        rcases List.mem_cons.mp ha with rfl | ha
        · exact hc
        · exact this.2 a ha⟩
    · rintro ⟨h1, h2⟩
      cases t with
      | nil => exact absurd h1 (by simp)
      | cons c u => exact ⟨c, h2 c (by simp), u, mem_rows.mpr ⟨by simpa using h1, fun a ha => h2 a (by simp [ha])⟩, rfl⟩
/-! ### sums, re-ordered -/
theorem isum_cons {α : Type} (x : α) (l : List α) (F : α → Int) : isum (x :: l) F = F x + isum l F := by simp [isum]
theorem isum_add {α : Type} : ∀ (l : List α) (F G : α → Int), isum l (fun x => F x + G x) = isum l F + isum l G
  | [], _, _ => rfl
  | x :: l, F, G => by
    rw [isum_cons, isum_cons, isum_cons, isum_add l]
    omega
theorem isum_rsucc (n : Nat) (F : Nat → Int) : isum (List.range (n + 1)) F = isum (List.range n) F + F n := by
  rw [List.range_succ, isum_app]
  simp [isum]
theorem isum_rcons (n : Nat) (F : Nat → Int) : isum (List.range (n + 1)) F = F 0 + isum (List.range n) fun k => F (k + 1) := by
  rw [range_cons, isum_cons, isum_map]
theorem isum_radd (a : Nat) : ∀ (b : Nat) (F : Nat → Int), isum (List.range (a + b)) F = isum (List.range a) F + isum (List.range b) fun k => F (a + k)
  | 0, F => by simp [isum]
  | b + 1, F => by
    rw [← Nat.add_assoc, isum_rsucc, isum_radd a b, isum_rsucc]
    omega
theorem isum_rmul (q : Nat) : ∀ (n : Nat) (F : Nat → Int), isum (List.range (q * n)) F = isum (List.range q) fun c => isum (List.range n) fun j => F (c + q * j)
  | 0, F => by
    have : ∀ l : List Nat, isum l (fun _ => 0) = 0 := fun l => by
      induction l with
      | nil => rfl
      | cons x l ih => rw [isum_cons, ih]; rfl
    show isum (List.range 0) F = isum (List.range q) fun c => 0
    rw [this]
    rfl
  | n + 1, F => by
    rw [Nat.mul_succ, Nat.add_comm (q * n) q, isum_radd, isum_rmul q n, ← isum_add]
    refine isum_congr fun c _ => ?_
    rw [isum_rcons]
    congr 1
    refine isum_congr fun j _ => ?_
    rw [show q + (c + q * j) = c + q * (j + 1) by rw [Nat.mul_succ]; omega]
theorem isum_flat {α β : Type} (f : α → List β) (F : β → Int) : ∀ l : List α, isum (l.flatMap f) F = isum l fun x => isum (f x) F
  | [] => rfl
  | x :: l => by rw [List.flatMap_cons, isum_app, isum_cons, isum_flat f F l]
theorem isum_rows {q : Nat} (hq : 0 < q) : ∀ (k : Nat) (F : List Nat → Int), isum (List.range (q ^ k)) (fun p => F (rowAt q k p)) = isum (Su175.rows q k) F
  | 0, F => by simp [isum, Su175.rows, rowAt]
  | k + 1, F => by
    rw [rows_succ, isum_flat, Nat.pow_succ, Nat.mul_comm, isum_rmul]
    refine isum_congr fun c hc => ?_
    have hc' : c < q := List.mem_range.mp hc
    rw [isum_map, ← isum_rows hq k fun x => F (c :: x)]
    refine isum_congr fun j _ => ?_
    show F ((c + q * j) % q :: rowAt q k ((c + q * j) / q)) = _
    rw [Nat.add_mul_mod_self_left, Nat.mod_eq_of_lt hc', Nat.add_mul_div_left _ _ hq, Nat.div_eq_of_lt hc', Nat.zero_add]
/-- by places, each row with its place -/
theorem isum_places {q : Nat} (hq : 0 < q) (k : Nat) (F : Nat → List Nat → Int) : isum (List.range (q ^ k)) (fun p => F p (rowAt q k p)) = isum (Su175.rows q k) fun x => F (Su175.code q x) x := by
  rw [← isum_rows hq k fun x => F (Su175.code q x) x]
  refine isum_congr fun p hp => ?_
  rw [code_rowAt (List.mem_range.mp hp)]
theorem isum_cast {α : Type} : ∀ (l : List α) (F : α → Nat), ((l.map F).sum : Int) = isum l fun x => (F x : Int)
  | [], _ => rfl
  | x :: l, F => by
    rw [isum_cons, ← isum_cast l F, List.map_cons, List.sum_cons]
    omega
/-! ### plans in their order -/
def planAt (s n : Nat) : List Nat := (List.range s).map fun j => n / 2 ^ (s - 1 - j) % 2
theorem planAt_succ (s n : Nat) : planAt (s + 1) n = n / 2 ^ s % 2 :: planAt s (n % 2 ^ s) := by
  unfold planAt
  rw [range_cons, List.map_cons, List.map_map]
  congr 1
  refine List.map_congr_left fun j hj => ?_
  have hj' : j < s := List.mem_range.mp hj
  show n / 2 ^ (s + 1 - 1 - (j + 1)) % 2 = n % 2 ^ s / 2 ^ (s - 1 - j) % 2
  rw [show s + 1 - 1 - (j + 1) = s - 1 - j by omega]
  have e : (2 : Nat) ^ s = 2 ^ (s - 1 - j) * (2 * 2 ^ j) := by
    rw [show 2 * 2 ^ j = 2 ^ (j + 1) by rw [Nat.pow_succ]; omega, ← Nat.pow_add]
    congr 1
    omega
  rw [e, Nat.mod_mul_right_div_self, Nat.mod_mul_right_mod]
theorem rows_plans : ∀ s : Nat, Su175.rows 2 s = (List.range (2 ^ s)).map (planAt s)
  | 0 => rfl
  | s + 1 => by
    rw [rows2_succ, rows_plans s, Nat.pow_succ, Nat.mul_comm, Nat.two_mul, List.range_add, List.map_append, List.map_map, List.map_map, List.map_map]
    congr 1
    · refine List.map_congr_left fun n hn => ?_
      have hn' : n < 2 ^ s := List.mem_range.mp hn
      show 0 :: planAt s n = planAt (s + 1) n
      rw [planAt_succ, Nat.div_eq_of_lt hn', Nat.mod_eq_of_lt hn']
    · refine List.map_congr_left fun n hn => ?_
      have hn' : n < 2 ^ s := List.mem_range.mp hn
      show 1 :: planAt s n = planAt (s + 1) (2 ^ s + n)
      rw [planAt_succ, Nat.add_div_left _ (by exact Nat.pow_pos (by decide)), Nat.div_eq_of_lt hn', Nat.add_mod_left, Nat.mod_eq_of_lt hn']
theorem rows_length (s : Nat) : (Su175.rows 2 s).length = 2 ^ s := by rw [rows_plans]; simp
theorem planAt_cf (s n : Nat) : Cf s (planAt s n) := ⟨by simp [planAt], fun a ha => by
  obtain ⟨j, _, rfl⟩ := List.mem_map.mp ha
  omega⟩
theorem planAt_zero (s : Nat) : planAt s 0 = List.replicate s 0 := by
  refine List.ext_getElem (by simp [planAt]) fun i h1 h2 => ?_
  simp [planAt]
/-! ### the first of the greatest -/
theorem best_fold {α : Type} (v : α → Nat) : ∀ (l : List α) (b : α), ∃ j : Nat, (b :: l)[j]? = some (l.foldl (fun b f => if v b < v f then f else b) b) ∧
    (∀ x ∈ b :: l, v x ≤ v (l.foldl (fun b f => if v b < v f then f else b) b)) ∧ ∀ (i : Nat) (y : α), i < j → (b :: l)[i]? = some y → v y < v (l.foldl (fun b f => if v b < v f then f else b) b)
  | [], b => ⟨0, rfl, fun x hx => by simp at hx; rw [hx]; exact Nat.le_refl _, fun i y hi => absurd hi (by omega)⟩
  | x :: l, b => by
    rw [List.foldl_cons]
    by_cases h : v b < v x
    · rw [if_pos h]
      obtain ⟨j, h1, h2, h3⟩ := best_fold v l x
      refine ⟨j + 1, h1, fun y hy => ?_, fun i y hi hy => ?_⟩
      · rcases List.mem_cons.mp hy with rfl | hy
        · have := h2 x (by simp)
          omega
        · exact h2 y hy
      · cases i with
        | zero =>
          have : b = y := by simpa using hy
          subst this
          have := h2 x (by simp)
          omega
        | succ i => exact h3 i y (by omega) (by simpa using hy)
    · rw [if_neg h]
      obtain ⟨j, h1, h2, h3⟩ := best_fold v l b
      have hb := h2 b (by simp)
      cases j with
      | zero =>
        refine ⟨0, by simpa using h1, fun y hy => ?_, fun i y hi => absurd hi (by omega)⟩
        rcases List.mem_cons.mp hy with rfl | hy
        · exact hb
        · rcases List.mem_cons.mp hy with rfl | hy
          · omega
          · exact h2 y (by simp [hy])
      | succ j =>
        refine ⟨j + 2, by simpa using h1, fun y hy => ?_, fun i y hi hy => ?_⟩
        · rcases List.mem_cons.mp hy with rfl | hy
          · exact hb
          · rcases List.mem_cons.mp hy with rfl | hy
            · omega
            · exact h2 y (by simp [hy])
        · have hb2 := h3 0 b (by omega) (by simp)
          match i, hi, hy with
          | 0, _, hy =>
            have : b = y := by simpa using hy
            subst this
            exact hb2
          | 1, _, hy =>
            have : x = y := by simpa using hy
            subst this
            omega
          | i + 2, hi, hy => exact h3 (i + 1) y (by omega) (by simpa using hy)
/-- the first place of the greatest -/
theorem best_at {g : Su175.Abs} {m j : Nat} (h1 : ∀ f ∈ g.plans, g.value f ≤ m) (h2 : j < 2 ^ (g.k * g.q)) (h3 : g.value (planAt (g.k * g.q) j) = m) (h4 : ∀ i, i < j → g.value (planAt (g.k * g.q) i) ≠ m) :
    g.best = planAt (g.k * g.q) j ∧ g.value g.best = m := by
  have hp : g.plans = (List.range (2 ^ (g.k * g.q))).map (planAt (g.k * g.q)) := rows_plans _
  have hpos : 0 < 2 ^ (g.k * g.q) := Nat.pow_pos (by decide)
  obtain ⟨N, hN⟩ : ∃ N, 2 ^ (g.k * g.q) = N + 1 := ⟨2 ^ (g.k * g.q) - 1, by omega⟩
  have hb : g.best = ((List.range N).map fun n => planAt (g.k * g.q) (n + 1)).foldl (fun b f => if g.value b < g.value f then f else b) (planAt (g.k * g.q) 0) := by
    unfold Su175.Abs.best
    rw [hp, hN, range_cons, List.map_cons, List.foldl_cons, List.map_map, planAt_zero, if_neg (Nat.lt_irrefl _)]
    rfl
  have hl : planAt (g.k * g.q) 0 :: ((List.range N).map fun n => planAt (g.k * g.q) (n + 1)) = g.plans := by
    rw [hp, hN, range_cons, List.map_cons, List.map_map]
    rfl
  obtain ⟨i, a1, a2, a3⟩ := best_fold g.value ((List.range N).map fun n => planAt (g.k * g.q) (n + 1)) (planAt (g.k * g.q) 0)
  rw [← hb, hl] at a1 a2 a3
  have hmem : ∀ n, n < 2 ^ (g.k * g.q) → planAt (g.k * g.q) n ∈ g.plans := fun n hn => by rw [hp]; exact List.mem_map.mpr ⟨n, List.mem_range.mpr hn, rfl⟩
  have hv : g.value g.best = m := by
    have b1 := a2 _ (hmem j h2)
    have b2 := h1 g.best (List.mem_of_getElem? a1)
    omega
  have hi : i < 2 ^ (g.k * g.q) := by
    have := (List.getElem?_eq_some_iff.mp a1).1
    rw [hp] at this
    simpa using this
  have hpi : g.plans[i]? = some (planAt (g.k * g.q) i) := by rw [hp, List.getElem?_map, List.getElem?_range hi]; rfl
  have hbi : g.best = planAt (g.k * g.q) i := Option.some.inj (a1.symm.trans hpi)
  refine ⟨?_, hv⟩
  have hij : i = j := by
    rcases Nat.lt_trichotomy i j with z | z | z
    · exact absurd (by rw [← hbi]; exact hv) (h4 i z)
    · exact z
    · have hpj : g.plans[j]? = some (planAt (g.k * g.q) j) := by rw [hp, List.getElem?_map, List.getElem?_range h2]; rfl
      have := a3 j _ z hpj
      omega
  rw [hbi, hij]
end Mx
namespace Mx
open Su173 (Spin times2 mul signOf together)
open Su175 (Abs)
/-! ### what holds of a game, at all times -/
structure GOk (g : Abs) : Prop where
  k2 : 2 ≤ g.k
  k4 : g.k ≤ 4
  q1 : 1 ≤ g.q
  q3 : g.q ≤ 3
  kq : g.k * g.q ≤ 8
  cl : g.counts.length = g.q ^ g.k
  cb : ∀ c ∈ g.counts, c ≤ 99
  wl : g.wins.length = g.q ^ g.k
theorem GOk.q0 {g : Abs} (h : GOk g) : 0 < g.q := h.q1
theorem GOk.qk {g : Abs} (h : GOk g) : g.q ^ g.k ≤ 81 := by
  have h1 : g.q ^ g.k ≤ 3 ^ g.k := Nat.pow_le_pow_left h.q3 _
  have h2 : 3 ^ g.k ≤ 3 ^ 4 := Nat.pow_le_pow_right (by decide) h.k4
  have : (3 : Nat) ^ 4 = 81 := by decide
  omega
theorem GOk.k16 {g : Abs} (h : GOk g) : 2 ^ g.k ≤ 16 := by
  have h2 : 2 ^ g.k ≤ 2 ^ 4 := Nat.pow_le_pow_right (by decide) h.k4
  have : (2 : Nat) ^ 4 = 16 := by decide
  omega
theorem GOk.p256 {g : Abs} (h : GOk g) : 2 ^ (g.k * g.q) ≤ 256 := by
  have h2 : 2 ^ (g.k * g.q) ≤ 2 ^ 8 := Nat.pow_le_pow_right (by decide) h.kq
  have : (2 : Nat) ^ 8 = 256 := by decide
  omega
theorem getD_le {l : List Nat} {b : Nat} (h : ∀ c ∈ l, c ≤ b) (i : Nat) : l.getD i 0 ≤ b := by
  rw [List.getD_eq_getElem?_getD]
  cases e : l[i]? with
  | none => simp
  | some c => exact h c (List.mem_of_getElem? e)
theorem code_snoc (b : Nat) : ∀ (l : List Nat) (x : Nat), Su175.code b (l ++ [x]) = Su175.code b l + x * b ^ l.length
  | [], x => by simp [Su175.code]
  | a :: l, x => by
    rw [List.cons_append, code_cons, code_cons, code_snoc b l, List.length_cons, Nat.pow_succ, Nat.mul_add, Nat.add_assoc]
    congr 2
    rw [Nat.mul_left_comm, Nat.mul_comm b]
/-! ### what plans win -/
def ansRow (k q : Nat) (f x : List Nat) : List Nat := (List.range k).map fun i => f.getD (i * q + x.getD i 0) 0
theorem ansRow_eq {k q : Nat} {f x : List Nat} (h : x.length = k) : Su175.answerOf q f x = ansRow k q f x := by
  unfold Su175.answerOf ansRow
  rw [h]
def winAt (g : Abs) (p n : Nat) : Nat := g.wins.getD p 0 / 2 ^ n % 2
theorem won_eq (g : Abs) (x a : List Nat) : (g.won x a = true) ↔ winAt g (Su175.code g.q x) (Su175.code 2 a) = 1 := by
  unfold Su175.Abs.won winAt
  simp
theorem value_law {g : Abs} (h : GOk g) (f : List Nat) : (g.value f : Int) = isum (List.range (g.q ^ g.k)) fun p => if winAt g p (Su175.code 2 (ansRow g.k g.q f (rowAt g.q g.k p))) = 1 then (g.counts.getD p 0 : Int) else 0 := by
  rw [isum_places h.q0 g.k fun p x => if winAt g p (Su175.code 2 (ansRow g.k g.q f x)) = 1 then (g.counts.getD p 0 : Int) else 0]
  unfold Su175.Abs.value Su175.Abs.asks
  rw [isum_cast]
  refine isum_congr fun x hx => ?_
  have hl := (mem_rows.mp hx).1
  rw [ansRow_eq hl]
  by_cases c : g.won x (ansRow g.k g.q f x) = true
  · rw [if_pos c, if_pos ((won_eq g x _).mp c)]
    rfl
  · rw [if_neg c, if_neg fun z => c ((won_eq g x _).mpr z)]
    rfl
/-- the answers of a plan -/
theorem value_le {g : Abs} (h : GOk g) (f : List Nat) : g.value f ≤ 99 * 81 := by
  have h1 := value_law h f
  have : ∀ n, isum (List.range n) (fun p => if winAt g p (Su175.code 2 (ansRow g.k g.q f (rowAt g.q g.k p))) = 1 then (g.counts.getD p 0 : Int) else 0) ≤ 99 * n := fun n => by
    induction n with
    | zero => simp [isum]
    | succ n ih =>
      rw [isum_rsucc]
      have := getD_le h.cb n
      split <;> omega
  have h2 := this (g.q ^ g.k)
  have := h.qk
  omega
/-- which rows of answers win with an even, an odd number -/
theorem sum_mod_rowAt (k n : Nat) : True := trivial
theorem oddMask_law (k s : Nat) : (Su175.oddMask k s : Int) = isum (List.range (2 ^ k)) fun n => if (rowAt 2 k n).sum % 2 = s then ((2 ^ n : Nat) : Int) else 0 := by
  rw [isum_places (by decide) k fun n x => if x.sum % 2 = s then ((2 ^ n : Nat) : Int) else 0]
  unfold Su175.oddMask
  rw [isum_cast]
  refine isum_congr fun x _ => ?_
  split <;> rfl
theorem plans_len (g : Abs) : g.plans.length = 2 ^ (g.k * g.q) := rows_length _
theorem plans_eq (g : Abs) : g.plans = (List.range (2 ^ (g.k * g.q))).map (planAt (g.k * g.q)) := rows_plans _
theorem plans_count (g : Abs) (t : Nat) : (g.plans.filter fun f => g.value f == t).length = ((List.range (2 ^ (g.k * g.q))).map fun n => (g.value (planAt (g.k * g.q) n) : Int)).count (t : Int) := by
  rw [plans_eq]
  generalize List.range (2 ^ (g.k * g.q)) = l
  induction l with
  | nil => rfl
  | cons n l ih =>
    rw [List.map_cons, List.map_cons, List.filter_cons, List.count_cons, ← ih]
    by_cases c : g.value (planAt (g.k * g.q) n) = t
    · rw [if_pos (by simpa using c), if_pos (by rw [c]; exact beq_self_eq_true _)]
      simp
    · rw [if_neg (by simpa using c), if_neg (by simp; omega)]
      rfl
/-! ### what spins win -/
def normP (p : Nat × Nat) : Nat × Nat := (min p.1 p.2, max p.1 p.2)
structure Ok (g : Abs) : Prop where
  game : GOk g
  m6 : g.m ≤ 6
  own : ∀ o ∈ g.owner, o < g.k
  lk : ∀ p ∈ g.links, p.1 < g.m ∧ p.2 < g.m ∧ p.1 ≠ p.2
  lnd : (g.links.map normP).Nodup
  st : Stab g.m g.sure
  ml : g.mine.length = g.k
  mq : ∀ r ∈ g.mine, r.length = g.q
  ms : ∀ r ∈ g.mine, ∀ x ∈ r, Sp g.m x
  mo : ∀ i r, g.mine[i]? = some r → ∀ x ∈ r, ∀ j, j < g.m → x.l.getD j 0 ≠ 0 → g.owner.getD j 0 = i
section
variable {g : Abs}
theorem taken_at {x : List Nat} {i : Nat} (h : Ok g) (hi : i < g.k) (hx : x.getD i 0 < g.q) : ∃ r s, g.mine[i]? = some r ∧ r[x.getD i 0]? = some s ∧ (g.mine.getD i []).getD (x.getD i 0) (Su175.blank g.m) = s ∧ s ∈ r ∧ r ∈ g.mine := by
  have h1 : i < g.mine.length := by rw [h.ml]; exact hi
  have hr := List.getElem_mem h1
  have h2 : x.getD i 0 < (g.mine[i]).length := by rw [h.mq _ hr]; exact hx
  refine ⟨g.mine[i], (g.mine[i])[x.getD i 0], List.getElem?_eq_getElem h1, List.getElem?_eq_getElem h2, ?_, List.getElem_mem h2, hr⟩
  rw [List.getD_eq_getElem?_getD, List.getD_eq_getElem?_getD, List.getElem?_eq_getElem h1, Option.getD_some, List.getElem?_eq_getElem h2, Option.getD_some]
theorem taken_len (g : Abs) (x : List Nat) : (g.taken x).length = g.k := by simp [Su175.Abs.taken]
theorem A_disj : ∀ {m : Nat} {x y : List Nat}, Lt m x → Lt m y → (∀ j, j < m → x.getD j 0 = 0 ∨ y.getD j 0 = 0) → A x y = 0
  | 0, x, y, hx, hy, _ => by rw [hx.nil]; rfl
  | m + 1, x, y, hx, hy, h => by
    obtain ⟨a, x, rfl, ha, hx⟩ := hx.ex
    obtain ⟨b, y, rfl, hb, hy⟩ := hy.ex
    have h0 : am a b = 0 := by
      rcases h 0 (by omega) with z | z
      · have : a = 0 := by simpa using z
        rw [this, am_0l]
      · have : b = 0 := by simpa using z
        rw [this, am_0r]
    show am a b + A x y = 0
    rw [h0, A_disj hx hy fun j hj => by simpa using h (j + 1) (by omega)]
theorem taken_com {x : List Nat} (h : Ok g) (hx : ∀ i, i < g.k → x.getD i 0 < g.q) : Com g.m (g.taken x) := by
  have at' : ∀ s ∈ g.taken x, ∃ i r, i < g.k ∧ g.mine[i]? = some r ∧ s ∈ r ∧ r ∈ g.mine ∧ s = (g.mine.getD i []).getD (x.getD i 0) (Su175.blank g.m) := fun s hs => by
    obtain ⟨i, hi, rfl⟩ := List.mem_map.mp hs
    have hi := List.mem_range.mp hi
    obtain ⟨r, s, h1, _, h3, h4, h5⟩ := taken_at h hi (hx i hi)
    exact ⟨i, r, hi, h1, by rw [h3]; exact h4, h5, rfl⟩
  refine ⟨fun s hs => ?_, fun s hs t ht => ?_⟩
  · obtain ⟨i, r, _, _, h1, h2, _⟩ := at' s hs
    exact h.ms r h2 s h1
  · obtain ⟨i, r, hi, r1, s1, m1, e1⟩ := at' s hs
    obtain ⟨j, u, hj, r2, t1, m2, e2⟩ := at' t ht
    by_cases hij : i = j
    · subst hij
      rw [e1, e2, A_self]
    · rw [A_disj (h.ms r m1 s s1).l (h.ms u m2 t t1).l fun a ha => ?_]
      by_cases z : s.l.getD a 0 = 0
      · exact .inl z
      · refine .inr (Classical.byContradiction fun y => hij ?_)
        rw [← h.mo i r r1 s s1 a ha z, ← h.mo j u r2 t t1 a ha y]
/-- the sum, modulo 2, that is sure of the answers of some -/
def sumK (m : Nat) (f : List Nat → Option Nat) (M : List Spin) (n : Nat) : Option Nat :=
  (f (Su175.prodOf m (some1 M (rowAt 2 M.length n))).1.l).map fun s => (s + signOf (Su175.prodOf m (some1 M (rowAt 2 M.length n)))) % 2
def shO (o : Option Nat) (d : Nat) : Int := match o with
  | none => 0
  | some s => if s = d then 1 else -1
theorem sumK_sureOf {x : List Nat} (n : Nat) : g.sureOf x (rowAt 2 g.k n) = match sumK g.m (sgn g.m g.sure) (g.taken x) n with
    | some s => s + 1
    | none => 0 := by
  unfold sumK
  rw [taken_len]
  show (match g.sign (Su175.prodOf g.m (some1 (g.taken x) (rowAt 2 g.k n))).1.l with
    | some s => (s + signOf (Su175.prodOf g.m (some1 (g.taken x) (rowAt 2 g.k n)))) % 2 + 1
    | none => 0) = _
  rw [sgn_abs]
  cases sgn g.m g.sure (Su175.prodOf g.m (some1 (g.taken x) (rowAt 2 g.k n))).1.l <;> rfl
theorem sh_shO {x : List Nat} (n d : Nat) : sh (g.sureOf x (rowAt 2 g.k n)) d = shO (sumK g.m (sgn g.m g.sure) (g.taken x) n) d := by
  rw [sumK_sureOf]
  cases sumK g.m (sgn g.m g.sure) (g.taken x) n with
  | none => rfl
  | some s =>
    show (if s + 1 = 0 then 0 else if s + 1 = d + 1 then (1 : Int) else -1) = if s = d then 1 else -1
    rw [if_neg (by omega)]
    by_cases c : s = d
    · rw [if_pos (by omega), if_pos c]
    · rw [if_neg (by omega), if_neg c]
/-- how many of the first k places have a 1 in both numbers -/
def bothN (k s n : Nat) : Nat := both (rowAt 2 k s) (rowAt 2 k n)
def chanceI (k : Nat) (sums : Nat → Option Nat) (n : Nat) : Int := isum (List.range (2 ^ k)) fun s => shO (sums s) (bothN k s n % 2)
theorem cf2 {n k : Nat} : Cf k (rowAt 2 k n) := ⟨rowAt_len 2 k n, fun a ha => by have := rowAt_lt (by decide) k n a ha; omega⟩
theorem chance_law {x : List Nat} (h : Ok g) (hx : ∀ i, i < g.k → x.getD i 0 < g.q) {a : List Nat} (ha : Cf g.k a) : (g.chance x a : Int) = chanceI g.k (fun n => sumK g.m (sgn g.m g.sure) (g.taken x) n) (Su175.code 2 a) := by
  rw [chance_sum g x a (taken_com h hx) (taken_len g x) h.st ha]
  unfold chanceI bothN
  have e : rowAt 2 g.k (Su175.code 2 a) = a := by
    have := rowAt_code (q := 2) (x := a) fun b hb => by have := ha.2 b hb; omega
    rw [ha.1] at this
    exact this
  rw [e, ← isum_rows (by decide) g.k fun t => sh (g.sureOf x t) (both t a % 2)]
  refine isum_congr fun n _ => ?_
  rw [sh_shO]
def wonI (g : Abs) (sums : Nat → Option Nat) (p : Nat) : Int := isum (List.range (2 ^ g.k)) fun n => if winAt g p n = 1 then chanceI g.k sums n else 0
theorem spinValue_law (h : Ok g) : (g.spinValue : Int) = isum (List.range (g.q ^ g.k)) fun p => (g.counts.getD p 0 : Int) * wonI g (fun n => sumK g.m (sgn g.m g.sure) (g.taken (rowAt g.q g.k p)) n) p := by
  rw [isum_places h.game.q0 g.k fun p x => (g.counts.getD p 0 : Int) * wonI g (fun n => sumK g.m (sgn g.m g.sure) (g.taken x) n) p]
  unfold Su175.Abs.spinValue Su175.Abs.asks
  rw [isum_cast]
  refine isum_congr fun x hx => ?_
  have hv := mem_rows.mp hx
  have hxl : ∀ i, i < g.k → x.getD i 0 < g.q := fun i hi => by
    have hi' : i < x.length := by rw [hv.1]; exact hi
    rw [List.getD_eq_getElem?_getD, List.getElem?_eq_getElem hi']
    exact hv.2 _ (List.getElem_mem _)
  show ((g.counts.getD (Su175.code g.q x) 0 * _ : Nat) : Int) = _
  rw [Int.natCast_mul, isum_cast]
  congr 1
  unfold wonI
  rw [isum_places (by decide) g.k fun n (_ : List Nat) => if winAt g (Su175.code g.q x) n = 1 then chanceI g.k (fun n => sumK g.m (sgn g.m g.sure) (g.taken x) n) n else 0]
  refine isum_congr fun a ha => ?_
  have hc := rows_cf.mp ha
  by_cases c : g.won x a = true
  · rw [if_pos c, if_pos ((won_eq g x a).mp c), chance_law h hxl hc]
  · rw [if_neg c, if_neg fun z => c ((won_eq g x a).mpr z)]
    rfl
end
end Mx
namespace Mx
open Su173 (Spin times2 mul signOf together)
open Su175 (Abs)
theorem okRow_iff {n b : Nat} {l : List Nat} : Su175.okRow n b l = true ↔ l.length = n ∧ ∀ v ∈ l, v < b := by
  unfold Su175.okRow
  simp
theorem okRow_lt {m : Nat} {l : List Nat} : Su175.okRow m 4 l = true ↔ Lt m l := by
  rw [okRow_iff]
  constructor
  · rintro ⟨h1, h2⟩
    exact ⟨h1, fun a ha => by have := h2 a ha; omega⟩
  · rintro ⟨h1, h2⟩
    exact ⟨h1, fun a ha => by have := h2 a ha; omega⟩
theorem sp_blank (m : Nat) : Sp m (Su175.blank m) := ⟨Lt.z m, by show 0 ≤ 1; decide⟩
theorem blank_at (m j : Nat) : (Su175.blank m).l.getD j 0 = 0 := by
  show (List.replicate m 0).getD j 0 = 0
  rw [List.getD_eq_getElem?_getD, List.getElem?_replicate]
  split <;> rfl
/-! ### it holds at first, and behind each call -/
theorem ok_mine0 {m k q : Nat} : (∀ r ∈ List.replicate k (List.replicate q (Su175.blank m)), ∀ x ∈ r, x = Su175.blank m) := fun r hr x hx => by
  rw [List.eq_of_mem_replicate hr] at hx
  exact List.eq_of_mem_replicate hx
theorem ok_new {k q : Nat} (k2 : 2 ≤ k) (k4 : k ≤ 4) (q1 : 1 ≤ q) (q3 : q ≤ 3) (kq : k * q ≤ 8) : Ok (Su175.new k q) where
  game := ⟨k2, k4, q1, q3, kq, by simp [Su175.new], fun c hc => by rw [List.eq_of_mem_replicate hc]; omega, by simp [Su175.new]⟩
  m6 := by show 0 ≤ 6; omega
  own := fun o ho => absurd ho (by simp [Su175.new])
  lk := fun p hp => absurd hp (by simp [Su175.new])
  lnd := by simp [Su175.new]
  st := first_stab 0 []
  ml := by simp [Su175.new]
  mq := fun r hr => by rw [List.eq_of_mem_replicate hr]; simp [Su175.new]
  ms := fun r hr x hx => by rw [ok_mine0 r hr x hx]; exact sp_blank 0
  mo := fun i r _ x _ j hj => absurd hj (by show ¬ j < 0; omega)
section
variable {g : Abs}
theorem ok_wins (h : Ok g) (w p : Nat) : Ok { g with wins := g.wins.set p w } :=
  { h with game := { h.game with wl := by simp [h.game.wl] } }
theorem ok_counts (h : Ok g) {w : Nat} (p : Nat) (hw : w ≤ 99) : Ok { g with counts := g.counts.set p w } :=
  { h with game := { h.game with cl := by simp [h.game.cl], cb := fun c hc => (List.mem_or_eq_of_mem_set hc).elim (h.game.cb c) fun z => Nat.le_trans (Nat.le_of_eq z) hw } }
theorem ok_spins (h : Ok g) {l : List Nat} (h6 : l.length ≤ 6) (hl : ∀ o ∈ l, o < g.k) : Ok { Su175.restart g l [] with mine := List.replicate g.k (List.replicate g.q (Su175.blank l.length)) } where
  game := { h.game with }
  m6 := h6
  own := hl
  lk := fun p hp => absurd hp (by simp [Su175.restart])
  lnd := by simp [Su175.restart]
  st := first_stab l.length []
  ml := by simp [Su175.restart]
  mq := fun r hr => by rw [List.eq_of_mem_replicate hr]; simp [Su175.restart]
  ms := fun r hr x hx => by rw [ok_mine0 r hr x hx]; exact sp_blank _
  mo := fun i r hr x hx j hj hne => by
    rw [ok_mine0 r (List.mem_of_getElem? hr) x hx, blank_at] at hne
    exact absurd rfl hne
theorem ok_restart (h : Ok g) {l : List (Nat × Nat)} (hl : ∀ p ∈ l, p.1 < g.m ∧ p.2 < g.m ∧ p.1 ≠ p.2) (nd : (l.map normP).Nodup) : Ok (Su175.restart g g.owner l) :=
  { h with game := { h.game with }, lk := hl, lnd := nd, st := first_stab g.m l }
theorem normP_eq {p : Nat × Nat} {i j : Nat} : normP p = normP (i, j) ↔ p = (i, j) ∨ p = (j, i) := by
  obtain ⟨a, b⟩ := p
  unfold normP
  simp only [Prod.mk.injEq]
  omega
/-- linked just if the pair stands there, the lesser first -/
theorem linked_norm (l : List (Nat × Nat)) (i j : Nat) : Su175.linked l i j = true ↔ normP (i, j) ∈ l.map normP := by
  unfold Su175.linked
  simp only [Bool.or_eq_true, List.contains_iff_mem, List.mem_map]
  constructor
  · rintro (h | h)
    · exact ⟨_, h, rfl⟩
    · exact ⟨_, h, normP_eq.mpr (.inr rfl)⟩
  · rintro ⟨p, hp, e⟩
    rcases normP_eq.mp e with rfl | rfl
    · exact .inl hp
    · exact .inr hp
theorem filter_norm (l : List (Nat × Nat)) (i j : Nat) : (l.filter fun p => p != (i, j) && p != (j, i)).map normP = (l.map normP).filter fun p => p != normP (i, j) := by
  induction l with
  | nil => rfl
  | cons p l ih =>
    rw [List.filter_cons, List.map_cons, List.filter_cons]
    by_cases c : normP p = normP (i, j)
    · have h1 : (p != (i, j) && p != (j, i)) = false := by
        rcases normP_eq.mp c with e | e <;> rw [e] <;> simp
      rw [h1, if_neg Bool.false_ne_true, if_neg (by simp [c]), ih]
    · have h1 : (p != (i, j) && p != (j, i)) = true := by
        have := fun z => c (normP_eq.mpr z)
        simp only [Bool.and_eq_true, bne_iff_ne, ne_eq]
        exact ⟨fun e => this (.inl e), fun e => this (.inr e)⟩
      rw [h1, if_pos rfl, if_pos (by simpa using c), List.map_cons, ih]
def turned (g : Abs) (i j : Nat) : List (Nat × Nat) := if Su175.linked g.links i j = true then g.links.filter fun p => p != (i, j) && p != (j, i) else g.links ++ [(i, j)]
theorem ok_turned (h : Ok g) {i j : Nat} (hi : i < g.m) (hj : j < g.m) (hij : i ≠ j) : Ok (Su175.restart g g.owner (turned g i j)) := by
  unfold turned
  by_cases c : Su175.linked g.links i j = true
  · rw [if_pos c]
    refine ok_restart h (fun p hp => h.lk p (List.mem_filter.mp hp).1) ?_
    rw [filter_norm]
    exact h.lnd.filter _
  · rw [if_neg c]
    refine ok_restart h (fun p hp => ?_) ?_
    · rcases List.mem_append.mp hp with hp | hp
      · exact h.lk p hp
      · simp at hp
        rw [hp]
        exact ⟨hi, hj, hij⟩
    · rw [List.map_append, List.nodup_append]
      refine ⟨h.lnd, by simp, fun a ha b hb => ?_⟩
      simp at hb
      rw [hb]
      intro e
      subst e
      exact c ((linked_norm _ _ _).mpr ha)
theorem ok_fresh (h : Ok g) : Ok (Su175.restart g g.owner g.links) := ok_restart h h.lk h.lnd
theorem ok_after (h : Ok g) {l : List Nat} {c : Nat} (hl : Lt g.m l) (hc : c ≤ 1) (e : g.sign l = none) : Ok (g.after l c) := by
  obtain ⟨X, p, Y, es, hX, hp, hf⟩ := aft_split h.st hl (by rw [← sgn_abs]; exact e)
  rw [after_eq h.st es hX hp hf]
  have st := h.st
  rw [es] at st
  exact { h with game := { h.game with }, st := aft_stab st hl hc hX hp }
theorem ok_mine (h : Ok g) {i x : Nat} {s : Nat} {l : List Nat} (hi : i < g.k) (hx : x < g.q) (hs : s ≤ 1) (hl : Lt g.m l) (ho : ∀ j, j < g.m → l.getD j 0 ≠ 0 → g.owner.getD j 0 = i) :
    Ok { g with mine := g.mine.set i ((g.mine.getD i []).set x ⟨s, l⟩) } := by
  have hil : i < g.mine.length := by rw [h.ml]; exact hi
  have hgi : g.mine.getD i [] = g.mine[i] := by rw [List.getD_eq_getElem?_getD, List.getElem?_eq_getElem hil]; rfl
  have hmi := List.getElem_mem hil
  refine { h with game := { h.game with }, ml := by simp [h.ml], mq := fun r hr => ?_, ms := fun r hr y hy => ?_, mo := fun a r hr y hy j hj hne => ?_ }
  · rcases List.mem_or_eq_of_mem_set hr with hr | hr
    · exact h.mq r hr
    · rw [hr, List.length_set, hgi]
      exact h.mq _ hmi
  · rcases List.mem_or_eq_of_mem_set hr with hr | hr
    · exact h.ms r hr y hy
    · rw [hr] at hy
      rcases List.mem_or_eq_of_mem_set hy with hy | hy
      · rw [hgi] at hy
        exact h.ms _ hmi y hy
      · rw [hy]
        exact ⟨hl, hs⟩
  · show g.owner.getD j 0 = a
    have hr' : (g.mine.set i ((g.mine.getD i []).set x ⟨s, l⟩))[a]? = some r := hr
    rw [List.getElem?_set] at hr'
    by_cases c : i = a
    · subst c
      rw [if_pos rfl, if_pos hil] at hr'
      have hr2 := Option.some.inj hr'
      rw [← hr2] at hy
      rcases List.mem_or_eq_of_mem_set hy with hy | hy
      · rw [hgi] at hy
        exact h.mo i _ (List.getElem?_eq_getElem hil) y hy j hj hne
      · rw [hy] at hne
        exact ho j hj hne
    · rw [if_neg c] at hr'
      exact h.mo a r hr' y hy j hj hne
/-- how many links there are -/
theorem nodup_le : ∀ (n : Nat) (l : List Nat), l.Nodup → (∀ a ∈ l, a < n) → l.length ≤ n
  | 0, l, _, h => by
    cases l with
    | nil => simp
    | cons a l => exact absurd (h a (by simp)) (by omega)
  | n + 1, l, nd, h => by
    have h1 := nodup_le n (l.filter fun a => a != n) (nd.filter _) fun a ha => by
      have := List.mem_filter.mp ha
      have h2 := h a this.1
      have h3 : a ≠ n := by simpa using this.2
      omega
    have h2 : l.length ≤ (l.filter fun a => a != n).length + 1 := by
      clear h1 h
      induction l with
      | nil => simp
      | cons a l ih =>
        have nd' := List.nodup_cons.mp nd
        by_cases c : a = n
        · subst c
          have e : l.filter (fun b => b != a) = l := List.filter_eq_self.mpr fun b hb => by
            have : b ≠ a := fun z => nd'.1 (z ▸ hb)
            simpa using this
          rw [List.filter_cons, if_neg (by simp), e, List.length_cons]
          exact Nat.le_refl _
        · rw [List.filter_cons, if_pos (by simpa using c), List.length_cons, List.length_cons]
          have := ih nd'.2
          omega
    omega
theorem links_len (h : Ok g) : g.links.length ≤ 36 := by
  have nd : ((g.links.map normP).map fun p => p.1 * 6 + p.2).Nodup := by
    have hb : ∀ p ∈ g.links.map normP, p.2 < 6 := fun p hp => by
      obtain ⟨r, hr, rfl⟩ := List.mem_map.mp hp
      have := h.lk r hr
      have h6 := h.m6
      show max r.1 r.2 < 6
      omega
    have nd := h.lnd
    generalize g.links.map normP = l at nd hb
    induction l with
    | nil => simp
    | cons p l ih =>
      have nd' := List.nodup_cons.mp nd
      rw [List.map_cons, List.nodup_cons]
      refine ⟨fun z => ?_, ih nd'.2 fun r hr => hb r (by simp [hr])⟩
      obtain ⟨r, hr, e⟩ := List.mem_map.mp z
      have b1 := hb p (by simp)
      have b2 := hb r (by simp [hr])
      have : r = p := by
        obtain ⟨r1, r2⟩ := r
        obtain ⟨p1, p2⟩ := p
        simp only [Prod.mk.injEq] at e b1 b2 ⊢
        omega
      subst this
      exact nd'.1 hr
  have := nodup_le 36 _ nd fun a ha => by
    obtain ⟨p, hp, rfl⟩ := List.mem_map.mp ha
    obtain ⟨r, hr, rfl⟩ := List.mem_map.mp hp
    have := h.lk r hr
    have h6 := h.m6
    show min r.1 r.2 * 6 + max r.1 r.2 < 36
    omega
  simpa using this
end
end Mx
namespace Ss
open PySem PySem.Spec PyProof.Rows L2
open Su173 (Spin)
/-! ### rows, letters, measurements in the heap -/
/-- a row of natural numbers as values -/
abbrev nL (xs : List Nat) : List V := (xs.map (fun (n : Nat) => (n : Int))).map V.int
theorem nL_len (xs : List Nat) : (nL xs).length = xs.length := by simp [nL]
theorem nL_at {xs : List Nat} {i n : Nat} (h : xs[i]? = some n) : (nL xs)[i]? = some (.int n) := by
  rw [List.getElem?_map, List.getElem?_map, h]
  rfl
theorem nL_at' {xs : List Nat} {i : Nat} {v : V} (h : (nL xs)[i]? = some v) : ∃ n, xs[i]? = some n ∧ v = .int n := by
  rw [List.getElem?_map, List.getElem?_map] at h
  cases e : xs[i]? with
  | none => rw [e] at h; cases h
  | some n =>
    rw [e] at h
    exact ⟨n, rfl, (Option.some.inj h).symm⟩
theorem nL_app (xs ys : List Nat) : nL (xs ++ ys) = nL xs ++ nL ys := by simp [nL]
theorem nL_ix {xs : List Nat} {i : Nat} (h : i < xs.length) : atI (nL xs) (i : Int) = some (.int (xs.getD i 0)) := by
  refine atI_nat (nL_at ?_)
  rw [List.getD_eq_getElem?_getD, List.getElem?_eq_getElem h]
  rfl
theorem Same.sqt {K : PySem.W.Frag} {H H' : Hp} {a : Addr} {xs : List V} (e : Same H H') (h : SqT K H a xs) : SqT K H' a xs := by
  rcases h with (h | ⟨o, h⟩) | h
  · exact .inl (.inl (e _ _ h))
  · exact .inl (.inr ⟨o, e _ _ h⟩)
  · exact .inr h
theorem Same.new {H : Hp} {p : Addr} {o : HO} (h : H p = none) : Same H (upd H p o) := fun b u e => by
  rw [upd_ne (ne_of_none e h)]
  exact e
theorem Same.then {H H1 : Hp} {p : Addr} {o : HO} (s : Same H H1) (h : H1 p = none) : Same H (upd H1 p o) := s.trans (Same.new h)
/-- all but what stands at D is as it was -/
def SameX (D : Addr) (H H' : Hp) : Prop := ∀ b o, b ≠ D → H b = some o → H' b = some o
theorem Same.x {D : Addr} {H H' : Hp} (s : Same H H') : SameX D H H' := fun b o _ e => s b o e
theorem SameX.upd {D : Addr} {H : Hp} {o : HO} : SameX D H (upd H D o) := fun b u hb e => by rw [upd_ne hb]; exact e
theorem SameX.trans {D : Addr} {H H1 H2 : Hp} (a : SameX D H H1) (b : SameX D H1 H2) : SameX D H H2 := fun c o hc e => b c o hc (a c o hc e)
theorem SameX.sqt {K : PySem.W.Frag} {D : Addr} {H H' : Hp} {a : Addr} {xs acc : List V} (e : SameX D H H') (hD : H D = some (.lst acc)) (h : SqT K H a xs) : SqT K H' a xs := by
  rcases h with (h | ⟨o, h⟩) | h
  · exact .inl (.inl (e _ _ (ne_of h hD (by intro z; cases z)) h))
  · exact .inl (.inr ⟨o, e _ _ (ne_of h hD (by intro z; cases z)) h⟩)
  · exact .inr h
/-- a measurement -/
def Me (K : PySem.W.Frag) (H : Hp) (v : V) (x : Spin) : Prop := ∃ a b, v = .ref a ∧ H a = some (.tup [.int x.s, .ref b]) ∧ H b = some (.tup (nL x.l))
theorem Me.same {K : PySem.W.Frag} {H H' : Hp} {v : V} {x : Spin} (m : Me K H v x) (s : Same H H') : Me K H' v x := by
  obtain ⟨a, b, h1, h2, h3⟩ := m
  exact ⟨a, b, h1, s _ _ h2, s _ _ h3⟩
theorem Me.samexO {K : PySem.W.Frag} {D : Addr} {H H' : Hp} {v : V} {x : Spin} (m : Me K H v x) (s : SameX D H H') (hD : ∀ xs, H D ≠ some (.tup xs)) : Me K H' v x := by
  obtain ⟨a, b, h1, h2, h3⟩ := m
  exact ⟨a, b, h1, s _ _ (fun e => hD _ (e ▸ h2)) h2, s _ _ (fun e => hD _ (e ▸ h3)) h3⟩
theorem Me.samex {K : PySem.W.Frag} {D : Addr} {H H' : Hp} {v : V} {x : Spin} {acc : List V} (m : Me K H v x) (s : SameX D H H') (hD : H D = some (.lst acc)) : Me K H' v x := m.samexO s fun xs e => by rw [hD] at e; cases e
/-- values that are measurements -/
def MeV (K : PySem.W.Frag) (H : Hp) (vs : List V) (ms : List Spin) : Prop := vs.length = ms.length ∧ ∀ (i : Nat) (v : V) (x : Spin), vs[i]? = some v → ms[i]? = some x → Me K H v x
theorem MeV.same {K : PySem.W.Frag} {H H' : Hp} {vs : List V} {ms : List Spin} (m : MeV K H vs ms) (s : Same H H') : MeV K H' vs ms := ⟨m.1, fun i v x h1 h2 => (m.2 i v x h1 h2).same s⟩
theorem MeV.samex {K : PySem.W.Frag} {D : Addr} {H H' : Hp} {vs : List V} {ms : List Spin} {acc : List V} (m : MeV K H vs ms) (s : SameX D H H') (hD : H D = some (.lst acc)) : MeV K H' vs ms := ⟨m.1, fun i v x h1 h2 => (m.2 i v x h1 h2).samex s hD⟩
theorem MeV.samexO {K : PySem.W.Frag} {D : Addr} {H H' : Hp} {vs : List V} {ms : List Spin} (m : MeV K H vs ms) (s : SameX D H H') (hD : ∀ xs, H D ≠ some (.tup xs)) : MeV K H' vs ms := ⟨m.1, fun i v x h1 h2 => (m.2 i v x h1 h2).samexO s hD⟩
theorem MeV.at {K : PySem.W.Frag} {H : Hp} {vs : List V} {ms : List Spin} (m : MeV K H vs ms) {i : Nat} {x : Spin} (h : ms[i]? = some x) : ∃ v, vs[i]? = some v ∧ Me K H v x := by
  have hi : i < vs.length := by rw [m.1]; exact (List.getElem?_eq_some_iff.mp h).1
  exact ⟨vs[i], List.getElem?_eq_getElem hi, m.2 i _ x (List.getElem?_eq_getElem hi) h⟩
theorem MeV.nil {K : PySem.W.Frag} {H : Hp} : MeV K H [] [] := ⟨rfl, fun i v x h => by simp at h⟩
theorem MeV.app {K : PySem.W.Frag} {H : Hp} {vs ws : List V} {ms ns : List Spin} (m : MeV K H vs ms) (n : MeV K H ws ns) : MeV K H (vs ++ ws) (ms ++ ns) := by
  refine ⟨by rw [List.length_append, List.length_append, m.1, n.1], fun i v x h1 h2 => ?_⟩
  by_cases hi : i < vs.length
  · rw [List.getElem?_append_left hi] at h1
    rw [List.getElem?_append_left (by rw [← m.1]; exact hi)] at h2
    exact m.2 i v x h1 h2
  · rw [List.getElem?_append_right (by omega)] at h1
    rw [List.getElem?_append_right (by rw [← m.1]; omega), ← m.1] at h2
    exact n.2 _ v x h1 h2
theorem MeV.one {K : PySem.W.Frag} {H : Hp} {v : V} {x : Spin} (m : Me K H v x) : MeV K H [v] [x] := ⟨rfl, fun i w y h1 h2 => by
  match i, h1, h2 with
  | 0, h1, h2 =>
    cases h1
    cases h2
    exact m⟩
theorem MeV.snoc {K : PySem.W.Frag} {H : Hp} {vs : List V} {v : V} {ms : List Spin} {x : Spin} (m : MeV K H vs ms) (n : Me K H v x) : MeV K H (vs ++ [v]) (ms ++ [x]) := m.app (.one n)
theorem MeV.set {K : PySem.W.Frag} {H : Hp} {vs : List V} {v : V} {ms : List Spin} {x : Spin} (m : MeV K H vs ms) (i : Nat) (n : Me K H v x) : MeV K H (vs.set i v) (ms.set i x) := by
  refine ⟨by simp [m.1], fun j w y h1 h2 => ?_⟩
  rw [List.getElem?_set] at h1 h2
  by_cases c : i = j
  · rw [if_pos c] at h1 h2
    split at h1
    · split at h2
      · cases h1
        cases h2
        exact n
      · cases h2
    · cases h1
  · rw [if_neg c] at h1 h2
    exact m.2 j w y h1 h2
/-- a list of measurements -/
def MeL (K : PySem.W.Frag) (H : Hp) (a : Addr) (ms : List Spin) : Prop := ∃ vs, SqL K H a vs ∧ MeV K H vs ms
theorem MeL.same {K : PySem.W.Frag} {H H' : Hp} {a : Addr} {ms : List Spin} (m : MeL K H a ms) (s : Same H H') : MeL K H' a ms := by
  obtain ⟨vs, h1, h2⟩ := m
  exact ⟨vs, s.seq h1, h2.same s⟩
/-! ### ifs and turns -/
theorem ifT {c : Bool} {A B : Prop} (hc : c = true) (h : A) : if c = true then A else B := by
  rw [if_pos hc]
  exact h
theorem ifF {c : Bool} {A B : Prop} (hc : c = false) (h : B) : if c = true then A else B := by
  rw [hc, if_neg Bool.false_ne_true]
  exact h
theorem if2 {c : Bool} {A B : Prop} (h1 : c = true → A) (h2 : c = false → B) : if c = true then A else B := by
  cases c with
  | true => exact ifT rfl (h1 rfl)
  | false => exact ifF rfl (h2 rfl)
theorem take_snoc {α : Type} {l : List α} {i : Nat} {x : α} (h : l[i]? = some x) : l.take (i + 1) = l.take i ++ [x] := by
  have hi := (List.getElem?_eq_some_iff.mp h).1
  rw [List.take_succ, h]
  rfl
theorem range_snoc {α : Type} (n : Nat) (f : Nat → α) : (List.range (n + 1)).map f = (List.range n).map f ++ [f n] := by
  rw [List.range_succ, List.map_append]
  rfl
/-! ### comprehensions -/
section
variable {J : It} {n : Nat} {G : Hp → Prop} {Y : Nat → Hp → V → Hp → Prop} {g : TG} {tt : TT} {te : TE} {vs : List Nat} {σ : L2.St} {H1 : Hp} {D : Addr} {Qd : Hp → Prop}
/-- each item's own fact P, that new objects and the growing list leave -/
theorem lc_gen (w : Walk J n G Y) (P : Nat → V → Hp → Prop) (hn : n ≤ 100000) (hD : H1 D = none) (hG : ∀ H, Same H1 H → G H)
    (hP : ∀ i y H H' acc, H D = some (.lst acc) → SameX D H H' → P i y H → P i y H')
    (hs : ∀ i x H H' (Q : V → Hp → Prop), i < n → Same H1 H → (∃ acc, H D = some (.lst acc)) → Y i H x H' → (∀ y H4, Same H H4 → P i y H4 → Q y H4) → g x (wipe σ vs) H' fun σ2 H2 => wipe σ2 vs = wipe σ vs ∧ te σ2 H2 Q)
    (hd : ∀ (H : Hp) (ys : List V), Same H1 H → H D = some (.lst ys) → ys.length = n → (∀ (i : Nat) (y : V), ys[i]? = some y → P i y H) → Qd H) :
    ∃ W : Nat → Nat → Hp → Prop, (∃ m, W 0 m (upd H1 D (.lst []))) ∧ ∀ i m H, W i m H →
      (J.stop i H ∧ Qd H) ∨ (J.go i H ∧ ∃ Nx : Hp → Prop, (∀ H', Nx H' → ∃ m', m' < m ∧ W (i + 1) m' H') ∧ ∀ x H', J.yld i H x H' → g x (wipe σ vs) H' fun σ2 H2 => wipe σ2 vs = wipe σ vs ∧ tYes σ2 H2 fun b H3 =>
        if b = true then te σ2 H3 fun y H4 => ∃ acc, H4 D = some (.lst acc) ∧ acc.length < sizeLine ∧ Nx (upd H4 D (.lst (acc ++ [y]))) else Nx H3) := by
  refine lc_it (tt := tYes) w (fun i H => Same H1 H ∧ ∃ ys : List V, H D = some (.lst ys) ∧ ys.length = i ∧ ∀ (j : Nat) (y : V), ys[j]? = some y → P j y H) ⟨Same.new hD, [], upd_same, rfl, fun j y h => by simp at h⟩ (fun i H _ h => hG H h.1) ?_ ?_
  · rintro i x H H' hi ⟨s, ys, hy, hl, hp⟩ hY
    have := hs i x H H' (fun y H4 => ∃ acc, H4 D = some (.lst acc) ∧ acc.length < sizeLine ∧ (Same H1 (upd H4 D (.lst (acc ++ [y]))) ∧ ∃ zs : List V, upd H4 D (.lst (acc ++ [y])) D = some (.lst zs) ∧ zs.length = i + 1 ∧ ∀ (j : Nat) (z : V), zs[j]? = some z → P j z (upd H4 D (.lst (acc ++ [y]))))) hi s ⟨ys, hy⟩ hY fun y H4 s4 p4 => by
      have hD4 := s4 D _ hy
      refine ⟨ys, hD4, ?_, fun b o e => ?_, _, upd_same, by simp [hl], fun j z hz => ?_⟩
      · rw [sizeLine_eq]
        omega
      · rw [upd_ne (ne_of_none e hD)]
        exact s4 b o (s b o e)
      · by_cases hj : j < ys.length
        · rw [List.getElem?_append_left hj] at hz
          exact hP j z H _ ys hy ((Same.x s4).trans SameX.upd) (hp j z hz)
        · rw [List.getElem?_append_right (by omega)] at hz
          have hj0 : j = i := by
            have := (List.getElem?_eq_some_iff.mp hz).1
            simp at this
            omega
          subst hj0
          have : z = y := by simpa [hl] using hz.symm
          subst this
          exact hP _ _ H4 _ ys hD4 SameX.upd p4
    exact this
  · rintro H ⟨s, ys, hy, hl, hp⟩
    exact hd H ys s hy hl hp
/-- plain values, under a test -/
theorem lc_filt (w : Walk J n G Y) (kp : Nat → Bool) (vl : Nat → V) (hn : n ≤ 100000) (hD : H1 D = none) (hG : ∀ H, Same H1 H → G H)
    (hs : ∀ i x H H' (Q : V → Hp → Prop) (N : Hp → Prop), i < n → Same H1 H → (∃ acc, H D = some (.lst acc)) → Y i H x H' → (∀ H4, Same H H4 → kp i = true → Q (vl i) H4) → (∀ H4, Same H H4 → kp i = false → N H4) →
      g x (wipe σ vs) H' fun σ2 H2 => wipe σ2 vs = wipe σ vs ∧ tt σ2 H2 fun b H3 => if b = true then te σ2 H3 Q else N H3)
    (hd : ∀ H, Same H1 H → H D = some (.lst (((List.range n).filter kp).map vl)) → Qd H) :
    ∃ W : Nat → Nat → Hp → Prop, (∃ m, W 0 m (upd H1 D (.lst []))) ∧ ∀ i m H, W i m H →
      (J.stop i H ∧ Qd H) ∨ (J.go i H ∧ ∃ Nx : Hp → Prop, (∀ H', Nx H' → ∃ m', m' < m ∧ W (i + 1) m' H') ∧ ∀ x H', J.yld i H x H' → g x (wipe σ vs) H' fun σ2 H2 => wipe σ2 vs = wipe σ vs ∧ tt σ2 H2 fun b H3 =>
        if b = true then te σ2 H3 fun y H4 => ∃ acc, H4 D = some (.lst acc) ∧ acc.length < sizeLine ∧ Nx (upd H4 D (.lst (acc ++ [y]))) else Nx H3) := by
  refine lc_it w (fun i H => Same H1 H ∧ H D = some (.lst (((List.range i).filter kp).map vl))) ⟨Same.new hD, upd_same⟩ (fun i H _ h => hG H h.1) ?_ ?_
  · rintro i x H H' hi ⟨s, hy⟩ hY
    refine hs i x H H' _ _ hi s ⟨_, hy⟩ hY (fun H4 s4 hk => ?_) (fun H4 s4 hk => ?_)
    · refine ⟨_, s4 D _ hy, ?_, fun b o e => ?_, ?_⟩
      · have h1 := List.length_filter_le kp (List.range i)
        rw [List.length_range] at h1
        rw [sizeLine_eq, List.length_map]
        omega
      · rw [upd_ne (ne_of_none e hD)]
        exact s4 b o (s b o e)
      · rw [upd_same, List.range_succ, List.filter_append, List.map_append]
        simp [hk]
    · refine ⟨s.trans s4, ?_⟩
      rw [s4 D _ hy, List.range_succ, List.filter_append, List.map_append]
      simp [hk]
  · rintro H ⟨s, hy⟩
    exact hd H s hy
/-- plain values -/
theorem lc_val (w : Walk J n G Y) (vl : Nat → V) (hn : n ≤ 100000) (hD : H1 D = none) (hG : ∀ H, Same H1 H → G H)
    (hs : ∀ i x H H' (Q : V → Hp → Prop), i < n → Same H1 H → (∃ acc, H D = some (.lst acc)) → Y i H x H' → (∀ H4, Same H H4 → Q (vl i) H4) → g x (wipe σ vs) H' fun σ2 H2 => wipe σ2 vs = wipe σ vs ∧ te σ2 H2 Q)
    (hd : ∀ H, Same H1 H → H D = some (.lst ((List.range n).map vl)) → Qd H) :
    ∃ W : Nat → Nat → Hp → Prop, (∃ m, W 0 m (upd H1 D (.lst []))) ∧ ∀ i m H, W i m H →
      (J.stop i H ∧ Qd H) ∨ (J.go i H ∧ ∃ Nx : Hp → Prop, (∀ H', Nx H' → ∃ m', m' < m ∧ W (i + 1) m' H') ∧ ∀ x H', J.yld i H x H' → g x (wipe σ vs) H' fun σ2 H2 => wipe σ2 vs = wipe σ vs ∧ tYes σ2 H2 fun b H3 =>
        if b = true then te σ2 H3 fun y H4 => ∃ acc, H4 D = some (.lst acc) ∧ acc.length < sizeLine ∧ Nx (upd H4 D (.lst (acc ++ [y]))) else Nx H3) :=
  lc_gen w (fun i y _ => y = vl i) hn hD hG (fun _ _ _ _ _ _ _ h => h) (fun i x H H' Q hi s hD hY hk => hs i x H H' Q hi s hD hY fun H4 s4 => hk _ H4 s4 rfl) fun H ys s hy hl hp => by
    refine hd H s ?_
    rw [hy]
    congr 2
    refine List.ext_getElem (by simp [hl]) fun i h1 h2 => ?_
    rw [hp i _ (List.getElem?_eq_getElem h1)]
    simp
end
theorem walk_rng (n : Nat) : Walk (Itr 0 ((n : Nat) : Int).toNat) n (fun _ => True) (YFn fun i => .int (i : Nat)) :=
  ⟨fun _ _ hi _ => hi, fun _ _ => Nat.le_refl _, fun i _ _ _ _ _ y => ⟨y.1, by rw [y.2, Int.zero_add]⟩⟩
/-! ### small laws -/
theorem mapR {α : Type} {xs : List Nat} (f : Nat → α) : (List.range xs.length).map (fun i => f (xs.getD i 0)) = xs.map f := by
  refine List.ext_getElem (by simp) fun i h1 h2 => ?_
  have hi : i < xs.length := by simpa using h1
  simp [List.getD, hi]
theorem getD_of {xs : List Nat} {i n : Nat} (h : xs[i]? = some n) : xs.getD i 0 = n := by
  rw [List.getD_eq_getElem?_getD, h]
  rfl
theorem dVI {a b : Nat} : decide (V.int (a : Int) = V.int (b : Int)) = decide (a = b) := by
  by_cases h : a = b
  · subst h
    simp
  · rw [decide_eq_false h]
    exact decide_eq_false fun z => h (by have := V.int.inj z; omega)
theorem dLe {a b : Nat} : decide ((a : Int) ≤ (b : Int)) = decide (a ≤ b) := by
  by_cases h : a ≤ b
  · rw [decide_eq_true h, decide_eq_true (by omega)]
  · rw [decide_eq_false h, decide_eq_false (by omega)]
theorem dLt {a b : Nat} : decide ((a : Int) < (b : Int)) = decide (a < b) := by
  by_cases h : a < b
  · rw [decide_eq_true h, decide_eq_true (by omega)]
  · rw [decide_eq_false h, decide_eq_false (by omega)]
theorem viT {a b : Nat} (c : decide (V.int (a : Int) = V.int (b : Int)) = true) : a = b := by
  rw [dVI] at c
  exact of_decide_eq_true c
theorem viF {a b : Nat} (c : decide (V.int (a : Int) = V.int (b : Int)) = false) : a ≠ b := by
  rw [dVI] at c
  exact of_decide_eq_false c
theorem vnT {a b : Nat} (c : (!decide (V.int (a : Int) = V.int (b : Int))) = true) : a ≠ b := viF (by simpa using c)
theorem vnF {a b : Nat} (c : (!decide (V.int (a : Int) = V.int (b : Int))) = false) : a = b := viT (by simpa using c)
theorem fmodN {a b : Nat} : Int.fmod (a : Int) (b : Int) = ((a % b : Nat) : Int) := by
  rw [Int.fmod_eq_emod_of_nonneg _ (by omega)]
  rfl
theorem fdivN {a b : Nat} : Int.fdiv (a : Int) (b : Int) = ((a / b : Nat) : Int) := by
  rw [Int.fdiv_eq_ediv_of_nonneg _ (by omega)]
  rfl
theorem qe {Q : VK} {v u : V} {H : Hp} (h : Q u H) (e : v = u) : Q v H := e ▸ h
theorem ve {a b : Int} (h : a = b) : V.int a = V.int b := h ▸ rfl
theorem be {a b : Bool} (h : a = b) : V.bl a = V.bl b := h ▸ rfl
theorem all_id {α : Type} (xs : List α) (p : α → Bool) : (xs.map p).all id = xs.all p := by rw [List.all_map]; rfl
theorem blR {xs : List Nat} (p : Nat → Bool) : (List.range xs.length).map (fun i => V.bl (p (xs.getD i 0))) = (xs.map p).map V.bl := by
  rw [mapR (fun n => V.bl (p n)), List.map_map]
  rfl
/-! ### pairs of numbers as data -/
def pD (p : Nat × Nat) : PyData := .tuple [.int p.1, .int p.2]
theorem pD_lay (z : Nat × Nat) : (pD z).canLay0 = true := by simp [pD, PyData.canLay0, PyData.canLayAll0]
theorem pD_depth (z : Nat × Nat) : (pD z).depth = 1 := by simp [pD, PyData.depth, PyData.depthAll]
theorem pDs_lay : ∀ zs : List (Nat × Nat), PyData.canLayAll0 (zs.map pD) = true
  | [] => by simp [PyData.canLayAll0]
  | z :: zs => by simp [PyData.canLayAll0, pD_lay z, pDs_lay zs]
theorem pDs_depth : ∀ zs : List (Nat × Nat), PyData.depthAll (zs.map pD) ≤ 1
  | [] => by simp [PyData.depthAll]
  | z :: zs => by
    have h1 := pDs_depth zs
    have h2 := pD_depth z
    simp only [List.map_cons, PyData.depthAll]
    omega
theorem pD_shaped (z : Nat × Nat) : SeqAt.shaped (pD z) = true := by
  have h := pD_depth z
  show ((pD z).canLay0 && decide ((pD z).depth ≤ 64)) = true
  rw [Bool.and_eq_true]
  exact ⟨pD_lay z, decide_eq_true (by omega)⟩
theorem pDs_shapedL (zs : List (Nat × Nat)) : SeqAt.shaped (.list (zs.map pD)) = true := by
  have h1 := pDs_depth zs
  have h2 : PyData.depth (.list (zs.map pD)) ≤ 64 := by
    simp only [PyData.depth]
    omega
  show (PyData.canLay0 (.list (zs.map pD)) && decide (PyData.depth (.list (zs.map pD)) ≤ 64)) = true
  rw [Bool.and_eq_true]
  exact ⟨by simp only [PyData.canLay0]; exact pDs_lay zs, decide_eq_true h2⟩
theorem pDs_shapedT (zs : List (Nat × Nat)) : SeqAt.shaped (.tuple (zs.map pD)) = true := by
  have h1 := pDs_depth zs
  have h2 : PyData.depth (.tuple (zs.map pD)) ≤ 64 := by
    simp only [PyData.depth]
    omega
  show (PyData.canLay0 (.tuple (zs.map pD)) && decide (PyData.depth (.tuple (zs.map pD)) ≤ 64)) = true
  rw [Bool.and_eq_true]
  exact ⟨by simp only [PyData.canLay0]; exact pDs_lay zs, decide_eq_true h2⟩
theorem pD_eqv (z w : Nat × Nat) : PyData.eqv (pD z) (pD w) = decide (z = w) := by
  obtain ⟨a, b⟩ := z
  obtain ⟨a', b'⟩ := w
  have e : PyData.eqv (pD (a, b)) (pD (a', b')) = (((a : Int) == (a' : Int)) && (((b : Int) == (b' : Int)) && true)) := by simp only [pD, PyData.eqv, PyData.eqvAll]
  rw [e]
  by_cases h : ((a, b) : Nat × Nat) = (a', b')
  · cases h
    simp
  · rw [decide_eq_false h]
    by_cases h1 : a = a'
    · by_cases h2 : b = b'
      · exact absurd (by rw [h1, h2]) h
      · have q : ((b : Int) == (b' : Int)) = false := beq_eq_false_iff_ne.mpr (by omega)
        rw [q, Bool.false_and, Bool.and_false]
    · have q : ((a : Int) == (a' : Int)) = false := beq_eq_false_iff_ne.mpr (by omega)
      rw [q, Bool.false_and]
theorem pD_any (zs : List (Nat × Nat)) (w : Nat × Nat) : ((zs.map pD).any fun z => PyData.eqv z (pD w)) = zs.contains w := by
  induction zs with
  | nil => rfl
  | cons z zs ih =>
    rw [List.map_cons, List.any_cons, ih, pD_eqv, List.contains_cons]
    by_cases h : z = w
    · subst h
      simp
    · rw [decide_eq_false h, show (w == z) = false from beq_eq_false_iff_ne.mpr (Ne.symm h)]
theorem dp_pair {K : PySem.W.Frag} {H : Hp} {a : Addr} {p : Nat × Nat} (h : SqT K H a [.int p.1, .int p.2]) : Dp K H (.ref a) (pD p) := .tup h (.cons (.int _) (.cons (.int _) .nil))
/-- values that are pairs -/
def PaV (K : PySem.W.Frag) (H : Hp) (vs : List V) (ps : List (Nat × Nat)) : Prop := vs.length = ps.length ∧ ∀ (i : Nat) (v : V) (p : Nat × Nat), vs[i]? = some v → ps[i]? = some p → ∃ a, v = .ref a ∧ H a = some (.tup [.int p.1, .int p.2])
theorem dp_pairs {K : PySem.W.Frag} {H : Hp} : ∀ {vs : List V} {ps : List (Nat × Nat)}, PaV K H vs ps → DpAll K H vs (ps.map pD)
  | [], [], _ => .nil
  | [], _ :: _, h => absurd h.1 (by simp)
  | _ :: _, [], h => absurd h.1 (by simp)
  | v :: vs, p :: ps, h => by
    obtain ⟨a, rfl, ha⟩ := h.2 0 v p rfl rfl
    exact .cons (dp_pair (SqT.of ha)) (dp_pairs ⟨by simpa using h.1, fun i v q h1 h2 => h.2 (i + 1) v q (by simpa using h1) (by simpa using h2)⟩)
theorem PaV.same {K : PySem.W.Frag} {H H' : Hp} {vs : List V} {ps : List (Nat × Nat)} (m : PaV K H vs ps) (s : Same H H') : PaV K H' vs ps := ⟨m.1, fun i v p h1 h2 => let ⟨a, e, h⟩ := m.2 i v p h1 h2; ⟨a, e, s _ _ h⟩⟩
theorem PaV.samexO {K : PySem.W.Frag} {D : Addr} {H H' : Hp} {vs : List V} {ps : List (Nat × Nat)} (m : PaV K H vs ps) (s : SameX D H H') (hD : ∀ xs, H D ≠ some (.tup xs)) : PaV K H' vs ps := ⟨m.1, fun i v p h1 h2 => let ⟨a, e, h⟩ := m.2 i v p h1 h2; ⟨a, e, s _ _ (fun z => hD _ (z ▸ h)) h⟩⟩
/-! ### dicts from letters to signs -/
def keyL (l : List Nat) : List Key := l.map fun (n : Nat) => (Sum.inl (n : Int) : Key)
theorem keyL_v (l : List Nat) : (keyL l).map kV = nL l := by
  unfold keyL nL
  rw [List.map_map, List.map_map]
  rfl
theorem keyL_inj {l m : List Nat} (h : keyL l = keyL m) : l = m := by
  have : ∀ {l m : List Nat}, keyL l = keyL m → l = m := by
    intro l
    induction l with
    | nil =>
      intro m h
      cases m with
      | nil => rfl
      | cons b m => cases h
    | cons a l ih =>
      intro m h
      cases m with
      | nil => cases h
      | cons b m =>
        have h1 : (Sum.inl (a : Int) : Key) = Sum.inl (b : Int) := (List.cons.inj h).1
        have h2 : keyL l = keyL m := (List.cons.inj h).2
        have h3 : (a : Int) = b := Sum.inl.inj h1
        rw [ih h2]
        congr 1
        omega
  exact this h
/-- a natural number or None -/
def oV : Option Nat → V
  | none => .non
  | some s => .int s
def Known (H : Hp) (d : Addr) (f : List Nat → Option Nat) : Prop := ∃ kvs : List (List Key × V), H d = some (.dT kvs) ∧ ∀ l : List Nat, valV kvs (keyL l) = (f l).map fun (s : Nat) => V.int s
theorem Known.same {H H' : Hp} {d : Addr} {f : List Nat → Option Nat} (h : Known H d f) (s : Same H H') : Known H' d f := let ⟨kvs, h1, h2⟩ := h; ⟨kvs, s _ _ h1, h2⟩
end Ss
namespace Ss
open PySem PySem.Spec PyProof.Rows L2
open Su173 (Spin)
/-! ## letters -/
section
variable {P : Program} {w : World} {K : PySem.W.Frag} {mg : Str → Option Value} {base : Heap} {CR CG CS CD aON aSH aDE : Addr}
def sp_are_letters (K : PySem.W.Frag) : Sp := fun vs H Q _ => ∃ (a : Addr) (xs : List Nat) (m : Nat), vs = [.ref a, .int m] ∧ SqL K H a (nL xs) ∧ xs.length ≤ 100 ∧
  ∀ H', Same H H' → Q (.bl (Su175.okRow m 4 xs)) H'
theorem c_are_letters (T : Top K mg CR CG CS CD aON aSH aDE) : CalG CX0 P w K mg base 1 "are_letters" (sp_are_letters K) := by
  obtain ⟨f, fd, hg, hk, F, b⟩ := T.d_are_letters.ex
  refine ⟨f, fd, _, F.ok sc_are_letters (fun vs H Q E h => by obtain ⟨a, xs, m, rfl, _⟩ := h; rfl) (fun cdv A outer s H vs Q E hr h => ⟨_, (pss_one (ps_ret (pe_and (pe_cmpR op_eq (pe_callB call_len_seq (by rfl) T.b_len boot_flen (pa_cons (pv 0) pa_nil)) (pv 1) (nomark _)) (pe_one (pe_callB (cr_all rfl) (by rfl) T.b_all boot_fall (pa_cons (pe_lc (own := [("one", 2)]) (g := gName 2) rfl sc_are_letters.nd (pi_list (pv 0)) (blkOk_by (N := N_are_letters) (sc := defScope s_are_letters) (by decide +kernel)) (fun _ _ _ _ _ => (pg_name (i := 2) sc_are_letters.nd rfl (Or.inl rfl))) (fun _ _ _ _ _ => pts_nil) (fun _ _ _ _ _ => (pe_cmpR op_le (pv 2) (pe_gk rfl T.k_Z) (nomark _)))) pa_nil)))))), ?_⟩), hg, hk, b⟩
  obtain ⟨a, xs, m, rfl, h⟩ := h
  obtain ⟨hS, hl, k⟩ := h
  refine ⟨_, rfl, _, _, rfl, .inl hS, _, rfl, rfl, _, rfl, ?_⟩
  rw [nL_len, dVI]
  refine if2 (fun c => ?_) (fun c => ?_)
  · refine ⟨_, rfl, a, rfl, ⟨_, hS⟩, fun D hD => lc_val walk_list (fun i => .bl (decide (xs.getD i 0 < 4))) (by rw [nL_len]; omega) hD (fun H s => s.seq hS) ?_ ?_⟩
    · rintro i x H1 H' Q' hi s _ ⟨rfl, hx⟩ hk
      obtain ⟨n, hn, rfl⟩ := nL_at' hx
      refine ⟨rfl, _, rfl, _, _, rfl, rfl, ?_⟩
      refine qe (hk _ (Same.refl _)) (be ?_)
      rw [getD_of hn]
      exact decide_eq_decide.mpr (by omega)
    · intro H1 s hy
      rw [nL_len, blR (fun n => decide (n < 4))] at hy
      refine ⟨D, _, rfl, SqL.of hy, ?_⟩
      rw [all_id]
      have := k H1 s
      unfold Su175.okRow at this
      rw [of_decide_eq_true c] at this
      simpa using this
  · have := k H (Same.refl _)
    unfold Su175.okRow at this
    rw [show (xs.length == m) = false from by simpa using of_decide_eq_false c] at this
    exact this
def sp_letter_made : Sp := fun vs H Q _ => ∃ a b : Nat, vs = [.int a, .int b] ∧ a ≤ 3 ∧ b ≤ 3 ∧ Q (.int (Mx.lm a b)) H
theorem c_letter_made (T : Top K mg CR CG CS CD aON aSH aDE) : CalG CX0 P w K mg base 1 "letter_made" (sp_letter_made) := by
  obtain ⟨f, fd, hg, hk, F, b⟩ := T.d_letter_made.ex
  refine ⟨f, fd, _, F.ok sc_letter_made (fun vs H Q E h => by obtain ⟨a, b, rfl, _⟩ := h; rfl) (fun cdv A outer s H vs Q E hr h => ⟨_, (pss_cons (ps_if (pt_cmpR op_eq (pv 0) (pe_gk rfl T.k_NONE) (nomark _)) (pss_one (ps_ret (pv 1))) pss_nil)
    (pss_cons (ps_if (pt_cmpR op_eq (pv 1) (pe_gk rfl T.k_NONE) (nomark _)) (pss_one (ps_ret (pv 0))) pss_nil)
    (pss_cons (ps_if (pt_cmpR op_eq (pv 0) (pv 1) (nomark _)) (pss_one (ps_ret (pe_gk rfl T.k_NONE))) pss_nil)
    (pss_one (ps_ret (pe_op op_sub (pe_op op_sub (pe_op op_add (pe_op op_add (pe_gk rfl T.k_X) (pe_gk rfl T.k_Y)) (pe_gk rfl T.k_Z)) (pv 0)) (pv 1))))))), ?_⟩), hg, hk, b⟩
  obtain ⟨a, b, rfl, h⟩ := h
  obtain ⟨ha, hb, k⟩ := h
  refine ⟨_, rfl, rfl, _, rfl, if2 (fun c => ?_) (fun c => ?_)⟩
  · have := viT (b := 0) c
    subst this
    exact ⟨_, rfl, qe k (ve (by rw [Mx.lm_0l]))⟩
  refine ⟨_, rfl, rfl, _, rfl, if2 (fun d => ?_) (fun d => ?_)⟩
  · have := viT (b := 0) d
    subst this
    exact ⟨_, rfl, qe k (ve (by rw [Mx.lm_0r]))⟩
  refine ⟨_, rfl, _, rfl, rfl, _, rfl, if2 (fun e => ?_) (fun e => ?_)⟩
  · have := viT e
    subst this
    exact qe k (ve (by rw [Mx.lm_self]; rfl))
  refine ⟨_, _, rfl, rfl, _, _, rfl, rfl, _, rfl, _, _, rfl, rfl, _, rfl, _, _, rfl, rfl, qe k (ve ?_)⟩
  have c' := viF (b := 0) c
  have d' := viF (b := 0) d
  have e' := viF e
  rcases Mx.lt4 ha with rfl | rfl | rfl | rfl <;> rcases Mx.lt4 hb with rfl | rfl | rfl | rfl <;> first | rfl | contradiction
def sp_turns_made : Sp := fun vs H Q _ => ∃ a b : Nat, vs = [.int a, .int b] ∧ a ≤ 3 ∧ b ≤ 3 ∧ ∀ H', Same H H' → Q (.int (Mx.tm a b)) H'
theorem c_turns_made (T : Top K mg CR CG CS CD aON aSH aDE) : CalG CX0 P w K mg base 1 "turns_made" (sp_turns_made) := by
  obtain ⟨f, fd, hg, hk, F, b⟩ := T.d_turns_made.ex
  refine ⟨f, fd, _, F.ok sc_turns_made (fun vs H Q E h => by obtain ⟨a, b, rfl, _⟩ := h; rfl) (fun cdv A outer s H vs Q E hr h => ⟨_, (pss_cons (ps_if (PW.pt (pw_or (pt_cmpR op_eq (pv 0) (pe_gk rfl T.k_NONE) (nomark _)) (pw_or (pt_cmpR op_eq (pv 1) (pe_gk rfl T.k_NONE) (nomark _)) (pw_or1 (pt_cmpR op_eq (pv 0) (pv 1) (nomark _)))))) (pss_one (ps_ret pe_int)) pss_nil)
    (pss_cons (ps_if (pt_cmpR (op_inT (hu65 hr)) (pe_tup (pa_cons (pv 0) (pa_cons (pv 1) pa_nil))) (pe_gk rfl T.k_ONWARD) (by rfl)) (pss_one (ps_ret pe_int)) pss_nil)
    (pss_one (ps_ret pe_int)))), ?_⟩), hg, hk, b⟩
  obtain ⟨a, b, rfl, h⟩ := h
  obtain ⟨ha, hb, k⟩ := h
  refine ⟨_, rfl, rfl, _, rfl, if2 (fun c => iteT (qe (k _ (Same.refl _)) (ve ?_))) (fun c => ⟨_, rfl, rfl, _, rfl, if2 (fun d => iteT (qe (k _ (Same.refl _)) (ve ?_))) (fun d => ⟨_, rfl, _, rfl, rfl, _, rfl, if2 (fun e => qe (k _ (Same.refl _)) (ve ?_)) (fun e => ?_)⟩)⟩)⟩
  · have := viT (b := 0) c
    subst this
    rw [Mx.tm_0l]
    rfl
  · have := viT (b := 0) d
    subst this
    rw [Mx.tm_0r]
    rfl
  · have := viT e
    subst this
    rw [Mx.tm_self]
    rfl
  have c' := viF (b := 0) c
  have d' := viF (b := 0) d
  have e' := viF e
  obtain ⟨b1, b2, b3, t0, t1, t2, t3⟩ := T.onw
  refine ⟨_, rfl, _, rfl, (by show 2 ≤ sizeLine; decide), fun p hp => ⟨pD (a, b), [(1, 2), (2, 3), (3, 1)].map pD, dp_pair (SqT.of upd_same), .tup t0.sq (.cons (dp_pair (p := (1, 2)) t1.sq) (.cons (dp_pair (p := (2, 3)) t2.sq) (.cons (dp_pair (p := (3, 1)) t3.sq) .nil))), pD_shaped _, pDs_shapedT _, _, rfl, ?_⟩⟩
  rw [pD_any]
  refine if2 (fun z => qe (k _ (Same.new hp)) (ve ?_)) (fun z => qe (k _ (Same.new hp)) (ve ?_))
  · rcases Mx.lt4 ha with rfl | rfl | rfl | rfl <;> rcases Mx.lt4 hb with rfl | rfl | rfl | rfl <;> first | rfl | contradiction | exact absurd z (by decide)
  · rcases Mx.lt4 ha with rfl | rfl | rfl | rfl <;> rcases Mx.lt4 hb with rfl | rfl | rfl | rfl <;> first | rfl | contradiction | exact absurd z (by decide)
def sp_are_unlike : Sp := fun vs H Q _ => ∃ a b : Nat, vs = [.int a, .int b] ∧ Q (.bl (decide (Mx.am a b = 1))) H
theorem c_are_unlike (T : Top K mg CR CG CS CD aON aSH aDE) : CalG CX0 P w K mg base 1 "are_unlike" (sp_are_unlike) := by
  obtain ⟨f, fd, hg, hk, F, b⟩ := T.d_are_unlike.ex
  refine ⟨f, fd, _, F.ok sc_are_unlike (fun vs H Q E h => by obtain ⟨a, b, rfl, _⟩ := h; rfl) (fun cdv A outer s H vs Q E hr h => ⟨_, (pss_one (ps_ret (pe_and (pe_cmpR op_ne (pv 0) (pe_gk rfl T.k_NONE) (nomark _)) (pe_and (pe_cmpR op_ne (pv 1) (pe_gk rfl T.k_NONE) (nomark _)) (pe_one (pe_cmpR op_ne (pv 0) (pv 1) (nomark _))))))), ?_⟩), hg, hk, b⟩
  obtain ⟨a, b, rfl, h⟩ := h
  refine ⟨_, rfl, rfl, _, rfl, if2 (fun c => ?_) (fun c => ?_)⟩
  · have c' := vnT (b := 0) c
    refine ⟨_, rfl, rfl, _, rfl, if2 (fun d => ?_) (fun d => ?_)⟩
    · have d' := vnT (b := 0) d
      refine ⟨_, rfl, _, rfl, rfl, qe h (be ?_)⟩
      rw [dVI]
      unfold Mx.am
      by_cases e : a = b
      · rw [if_neg (fun z => z.2.2 e)]
        simp [e]
      · rw [if_pos ⟨c', d', e⟩]
        simp [e]
    · have d' := vnF (b := 0) d
      subst d'
      exact qe h (be (by rw [Mx.am_0r]; rfl))
  · have c' := vnF (b := 0) c
    subst c'
    exact qe h (be (by rw [Mx.am_0l]; rfl))
theorem am_le (a b : Nat) : Mx.am a b ≤ 1 := by unfold Mx.am; split <;> omega
theorem A_filter (x y : List Nat) (h : x.length = y.length) : ((List.range x.length).filter fun i => decide (Mx.am (x.getD i 0) (y.getD i 0) = 1)).length = Mx.A x y := by
  induction x generalizing y with
  | nil =>
    cases y with
    | nil => rfl
    | cons b y => exact absurd h (by simp)
  | cons a x ih =>
    cases y with
    | nil => exact absurd h (by simp)
    | cons b y =>
      have := ih y (by simpa using h)
      rw [List.length_cons, Mx.range_cons, List.filter_cons, List.filter_map]
      have e : (List.filter ((fun i => decide (Mx.am ((a :: x).getD i 0) ((b :: y).getD i 0) = 1)) ∘ Nat.succ) (List.range x.length)).length = Mx.A x y := by
        rw [← this]
        rfl
      show _ = Mx.am a b + Mx.A x y
      have hl := am_le a b
      by_cases c : Mx.am a b = 1
      · rw [if_pos (by simpa using c), List.length_cons, List.length_map, e]
        omega
      · rw [if_neg (by simpa using c), List.length_map, e]
        omega
def sp_go_together (K : PySem.W.Frag) : Sp := fun vs H Q _ => ∃ (a b : Addr) (x y : List Nat), vs = [.ref a, .ref b] ∧ SqT K H a (nL x) ∧ SqT K H b (nL y) ∧ x.length = y.length ∧ x.length ≤ 100 ∧
  ∀ H', Same H H' → Q (.bl (decide (Mx.A x y % 2 = 0))) H'
theorem c_go_together (T : Top K mg CR CG CS CD aON aSH aDE) : CalG CX0 P w K mg base 2 "go_together" (sp_go_together K) := by
  obtain ⟨f, fd, hg, hk, F, b⟩ := T.d_go_together.ex
  refine ⟨f, fd, _, F.ok sc_go_together (fun vs H Q E h => by obtain ⟨a, b, x, y, rfl, _⟩ := h; rfl) (fun cdv A outer s H vs Q E hr h => ⟨_, (pss_cons (ps_setLc (i := 2) (own := [("at", 3)]) (g := gName 3) rfl sc_go_together.nd rfl rfl (sw_true rfl rfl rfl (by decide +kernel)) (pi_range1 (by rfl) T.b_range (pa_cons (pe_callB call_len_seq (by rfl) T.b_len boot_flen (pa_cons (pv 0) pa_nil)) pa_nil)) (blkOk_by (N := N_go_together) (sc := defScope s_go_together) (by decide +kernel)) (fun _ _ _ _ _ => (pg_name (i := 3) sc_go_together.nd rfl (Or.inl rfl))) (fun _ _ _ _ _ => (pts_one (pt_val (pe_cg (c_are_unlike T) hr (by decide) rfl pass0 (pa_cons (pe_ix (ix_tupK (K := K) rfl) (pv 0) (pv 3) (fun _ _ => rfl)) (pa_cons (pe_ix (ix_tupK (K := K) rfl) (pv 1) (pv 3) (fun _ _ => rfl)) pa_nil)))))) (fun _ _ _ _ _ => (pv 3)))
    (pss_one (ps_ret (pe_cmpR op_eq (pe_op op_modN (pe_callB call_len_seq (by rfl) T.b_len boot_flen (pa_cons (pv 2) pa_nil)) pe_int) pe_int (nomark _))))), ?_⟩), hg, hk, b⟩
  obtain ⟨a, b, x, y, rfl, h⟩ := h
  obtain ⟨hx, hy, hl, hz, k⟩ := h
  refine ⟨_, rfl, _, _, rfl, .inr hx, _, rfl, (by omega), (by rw [nL_len]; omega), fun D hD => ?_⟩
  rw [nL_len]
  refine lc_filt (walk_rng _) (fun i => decide (Mx.am (x.getD i 0) (y.getD i 0) = 1)) (fun i => .int (i : Nat)) (by omega) hD (fun _ _ => trivial) ?_ ?_
  · rintro i v H1 H' Q' N' hi s _ ⟨rfl, rfl⟩ k1 k2
    refine ⟨rfl, _, rfl, _, rfl, _, _, _, _, rfl, rfl, Same.sqt s hx, nL_ix hi, _, rfl, _, rfl, _, _, _, _, rfl, rfl, Same.sqt s hy, nL_ix (by omega), _, _, rfl, _, rfl, ?_⟩
    exact if2 (fun c => ⟨_, rfl, k1 _ (Same.refl _) c⟩) (fun c => k2 _ (Same.refl _) c)
  · intro H1 s hy
    refine ⟨_, rfl, _, _, rfl, .inl (SqL.of hy), _, _, rfl, rfl, (by show (2 : Int) ≠ 0; decide), rfl, qe (k _ s) (be ?_)⟩
    rw [List.length_map, A_filter x y hl]
    show decide (V.int (Int.fmod (Mx.A x y : Int) ((2 : Nat) : Int)) = V.int ((0 : Nat) : Int)) = _
    rw [fmodN, dVI]
theorem flat_rep (m n : Nat) : (List.replicate m [V.int (n : Int)]).flatten = nL (List.replicate m n) := by
  induction m with
  | zero => rfl
  | succ m ih =>
    rw [List.replicate_succ, List.flatten_cons, ih]
    rfl
theorem flat_rep0 (m : Nat) : (List.replicate m [V.int 0]).flatten = nL (List.replicate m 0) := flat_rep m 0
theorem flat_rep1 (m : Nat) : (List.replicate m [V.int 1]).flatten = nL (List.replicate m 1) := flat_rep m 1
def sp_bare (K : PySem.W.Frag) : Sp := fun vs H Q _ => ∃ m : Nat, vs = [.int m] ∧ m ≤ 100 ∧ ∀ v H', Same H H' → Me K H' v (Su175.blank m) → Q v H'
theorem c_bare (T : Top K mg CR CG CS CD aON aSH aDE) : CalG CX0 P w K mg base 1 "bare" (sp_bare K) := by
  obtain ⟨f, fd, hg, hk, F, b⟩ := T.d_bare.ex
  refine ⟨f, fd, _, F.ok sc_bare (fun vs H Q E h => by obtain ⟨m, rfl, _⟩ := h; rfl) (fun cdv A outer s H vs Q E hr h => ⟨_, (pss_one (ps_ret (pe_tup (pa_cons pe_int (pa_cons (pe_op op_trep (pe_tup (pa_cons (pe_gk rfl T.k_NONE) pa_nil)) (pv 0)) pa_nil))))), ?_⟩), hg, hk, b⟩
  obtain ⟨m, rfl, h⟩ := h
  obtain ⟨hm, k⟩ := h
  refine ⟨(by show 1 ≤ sizeLine; decide), fun p hp => ⟨_, rfl, p, m, _, rfl, rfl, SqT.of upd_same, by simp, by omega, by show 1 ≤ 1000; decide, fun c => ?_, fun c q hq => ?_⟩⟩
  · subst c
    refine ⟨(by show 2 ≤ sizeLine; decide), fun r hr => k _ _ (Same.then (Same.new hp) hr) ⟨r, p, rfl, upd_same, ?_⟩⟩
    rw [upd_ne (ne_of_none upd_same hr), upd_same]
    rfl
  · refine ⟨(by show 2 ≤ sizeLine; decide), fun r hr => k _ _ (Same.then (Same.then (Same.new hp) hq) hr) ⟨r, q, rfl, upd_same, ?_⟩⟩
    rw [upd_ne (ne_of_none upd_same hr), upd_same, flat_rep0]
    rfl
/-- letters on their way: the first j are made -/
def cur (l x : List Nat) (j : Nat) : List Nat := (Mx.L l x).take j ++ l.drop j
theorem cur_zero (l x : List Nat) : cur l x 0 = l := rfl
theorem cur_len {m : Nat} {l x : List Nat} (hl : Mx.Lt m l) (hx : Mx.Lt m x) (j : Nat) : (cur l x j).length = m := by
  unfold cur
  rw [List.length_append, List.length_take, List.length_drop, (Mx.L_lt hl hx).1, hl.1]
  omega
theorem cur_all {m : Nat} {l x : List Nat} (hl : Mx.Lt m l) (hx : Mx.Lt m x) : cur l x m = Mx.L l x := by
  unfold cur
  rw [List.take_of_length_le (by rw [(Mx.L_lt hl hx).1]; exact Nat.le_refl _), List.drop_eq_nil_of_le (by rw [hl.1]; exact Nat.le_refl _), List.append_nil]
theorem L_at : ∀ {m : Nat} {l x : List Nat} {j : Nat}, Mx.Lt m l → Mx.Lt m x → j < m → (Mx.L l x).getD j 0 = Mx.lm (l.getD j 0) (x.getD j 0)
  | 0, _, _, _, _, _, hj => absurd hj (by omega)
  | m + 1, l, x, j, hl, hx, hj => by
    obtain ⟨a, l, rfl, ha, hl⟩ := hl.ex
    obtain ⟨b, x, rfl, hb, hx⟩ := hx.ex
    cases j with
    | zero => rfl
    | succ j => exact L_at (j := j) hl hx (by omega)
theorem cur_at {m : Nat} {l x : List Nat} (hl : Mx.Lt m l) (hx : Mx.Lt m x) {j : Nat} (hj : j < m) : (cur l x j).getD j 0 = l.getD j 0 := by
  unfold cur
  have h1 : ((Mx.L l x).take j).length = j := by rw [List.length_take, (Mx.L_lt hl hx).1]; omega
  rw [List.getD_eq_getElem?_getD, List.getElem?_append_right (by omega), h1, Nat.sub_self, List.getElem?_drop, Nat.add_zero, List.getD_eq_getElem?_getD]
theorem cur_set {m : Nat} {l x : List Nat} (hl : Mx.Lt m l) (hx : Mx.Lt m x) {j : Nat} (hj : j < m) : (cur l x j).set j (Mx.lm (l.getD j 0) (x.getD j 0)) = cur l x (j + 1) := by
  have hL := Mx.L_lt hl hx
  have h1 : ((Mx.L l x).take j).length = j := by rw [List.length_take, hL.1]; omega
  have hjL : j < (Mx.L l x).length := by rw [hL.1]; exact hj
  have hjl : j < l.length := by rw [hl.1]; exact hj
  unfold cur
  rw [List.set_append_right _ _ (by omega), h1, Nat.sub_self, List.drop_eq_getElem_cons hjl, List.set_cons_zero, List.take_succ, List.getElem?_eq_getElem hjL]
  have e : (Mx.L l x)[j] = Mx.lm (l.getD j 0) (x.getD j 0) := by
    have := L_at hl hx hj
    rw [List.getD_eq_getElem?_getD, List.getElem?_eq_getElem hjL] at this
    exact this
  rw [e]
  simp
/-- quarter turns of the first j letters -/
def TT (l x : List Nat) (j : Nat) : Nat := Mx.T (l.take j) (x.take j)
theorem TT_succ : ∀ {m : Nat} {l x : List Nat} {j : Nat}, Mx.Lt m l → Mx.Lt m x → j < m → TT l x (j + 1) = TT l x j + Mx.tm (l.getD j 0) (x.getD j 0)
  | 0, _, _, _, _, _, hj => absurd hj (by omega)
  | m + 1, l, x, j, hl, hx, hj => by
    obtain ⟨a, l, rfl, ha, hl⟩ := hl.ex
    obtain ⟨b, x, rfl, hb, hx⟩ := hx.ex
    cases j with
    | zero =>
      show Mx.tm a b + Mx.T (l.take 0) (x.take 0) = 0 + Mx.tm a b
      simp [Mx.T]
    | succ j =>
      have := TT_succ (j := j) hl hx (by omega)
      show Mx.tm a b + TT l x (j + 1) = Mx.tm a b + TT l x j + Mx.tm (l.getD j 0) (x.getD j 0)
      omega
theorem TT_all {m : Nat} {l x : List Nat} (hl : Mx.Lt m l) (hx : Mx.Lt m x) : TT l x m = Mx.T l x := by
  unfold TT
  rw [List.take_of_length_le (Nat.le_of_eq hl.1), List.take_of_length_le (Nat.le_of_eq hx.1)]
def sp_product (K : PySem.W.Frag) : Sp := fun vs H Q _ => ∃ (a : Addr) (ms : List Spin) (m : Nat), vs = [.ref a, .int m] ∧ MeL K H a ms ∧ (∀ x ∈ ms, Mx.Sp m x) ∧ m ≤ 100 ∧
  ∀ v H', Same H H' → Me K H' v ⟨Su173.signOf (Su175.prodOf m ms), (Su175.prodOf m ms).1.l⟩ → Q v H'
theorem c_product (T : Top K mg CR CG CS CD aON aSH aDE) : CalG CX0 P w K mg base 2 "product" (sp_product K) := by
  obtain ⟨f, fd, hg, hk, F, b⟩ := T.d_product.ex
  refine ⟨f, fd, _, F.ok sc_product (fun vs H Q E h => by obtain ⟨a, ms, m, rfl, _⟩ := h; rfl) (fun cdv A outer s H vs Q E hr h => ⟨_, (pss_cons (ps_set (i := 2) sc_product.nd rfl (Or.inl rfl) pe_int)
    (pss_cons (ps_set (i := 3) sc_product.nd rfl (Or.inl rfl) pe_int)
    (pss_cons (ps_set (i := 4) sc_product.nd rfl (Or.inl rfl) (pe_op op_rep (pe_lst (pa_cons (pe_gk rfl T.k_NONE) pa_nil)) (pv 1)))
    (pss_cons (ps_for PassesOwn.never rfl (pi_list (pv 0)) (pg_name (i := 5) sc_product.nd rfl (Or.inl rfl)) (pss_cons (ps_set (i := 2) sc_product.nd rfl (Or.inl rfl) (pe_op op_add (pv 2) (pe_ix ix_tup (pv 5) pe_int (fun _ _ => rfl))))
    (pss_one (ps_for PassesOwn.never rfl (pi_range1 (by rfl) T.b_range (pa_cons (pv 1) pa_nil)) (pg_name (i := 6) sc_product.nd rfl (Or.inl rfl)) (pss_cons (ps_set (i := 3) sc_product.nd rfl (Or.inl rfl) (pe_op op_add (pv 3) (pe_cg (c_turns_made T) hr (by decide) rfl pass0 (pa_cons (pe_ix ix_list (pv 4) (pv 6) (fun _ _ => rfl)) (pa_cons (pe_ix ix_tup (pe_ix ix_tup (pv 5) pe_int (fun _ _ => rfl)) (pv 6) (fun _ _ => rfl)) pa_nil)))))
    (pss_one (ps_asg (pe_cg (c_letter_made T) hr (by decide) rfl pass0 (pa_cons (pe_ix ix_list (pv 4) (pv 6) (fun _ _ => rfl)) (pa_cons (pe_ix ix_tup (pe_ix ix_tup (pv 5) pe_int (fun _ _ => rfl)) (pv 6) (fun _ _ => rfl)) pa_nil))) (pg_sub (pv 4) (pv 6) set_list))))))))
    (pss_one (ps_ret (pe_tup (pa_cons (pe_op op_modN (pe_op op_add (pv 2) (pe_op op_fdivN (pe_op op_modN (pv 3) pe_int) pe_int)) pe_int) (pa_cons (pe_callTy call_tuple_of (by rfl) T.b_tuple boot_ftuple (pa_cons (pv 4) pa_nil)) pa_nil))))))))), ?_⟩), hg, hk, b⟩
  obtain ⟨a, ms, m, rfl, h⟩ := h
  obtain ⟨hM, hsp, hm, k⟩ := h
  refine ⟨(by show 1 ≤ sizeLine; decide), fun p0 hp0 => ⟨_, rfl, p0, m, _, rfl, rfl, upd_same, by omega, by omega, by rw [sizeLine_eq]; simp; omega, fun L hL => ?_⟩⟩
  rw [show (m : Int).toNat = m from by omega, flat_rep0]
  have hL0 : H L = none := Same.free (Same.new hp0) hL
  have s0 : Same H (upd (upd H p0 (.lst [V.int 0])) L (.lst (nL (Mx.Z m)))) := Same.then (Same.new hp0) hL
  obtain ⟨vs, hv, hV⟩ := hM
  have spi : ∀ i, i ≤ ms.length → ∀ x ∈ ms.take i, Mx.Sp m x := fun i _ x hx => hsp x (List.mem_of_mem_take hx)
  have hlen : vs.length = ms.length := hV.1
  -- the state behind i of them
  let PS : Nat → Nat → Nat → List Nat → Prop := fun i S t l => Mx.Lt m l ∧ Su175.prodOf m (ms.take i) = (⟨S % 2, l⟩, t % 4)
  refine ⟨_, rfl, a, rfl, ⟨_, Same.seq s0 hv⟩, for_it walk_list (fun i σ H' => Same H H' ∧ ∃ (S t : Nat) (l : List Nat) (o5 o6 : Option V), PS i S t l ∧ H' L = some (.lst (nL l)) ∧ σ = [some (.ref a), some (.int m), some (.int S), some (.int t), some (.ref L), o5, o6])
    ⟨s0, 0, 0, Mx.Z m, none, none, ⟨Mx.Lt.z m, rfl⟩, upd_same, rfl⟩ (fun i σ H' _ h => Same.seq h.1 hv) ?_ ?_⟩
  · rintro i v σ H1 H1' hi ⟨s1, S, t, l, o5, o6, ⟨hl, hp⟩, hLl, rfl⟩ ⟨rfl, hvi⟩
    have him : i < ms.length := by omega
    have hxi := List.getElem?_eq_getElem him
    obtain ⟨a1, b1, rfl, ht1, ht2⟩ := hV.2 i _ _ hvi hxi
    have hx := (hsp _ (List.getElem_mem him)).l
    generalize hxe : ms[i] = x at hx ht1 ht2 hxi
    refine ⟨_, rfl, _, rfl, a1, _, 0, _, rfl, rfl, SqT.of (s1 _ _ ht1), rfl, _, _, rfl, rfl, ?_⟩
    refine ⟨_, rfl, _, rfl, (by omega), (by omega), ?_⟩
    refine for_it (walk_rng m) (fun j σ H' => Same H H' ∧ ∃ (o6 : Option V), H' L = some (.lst (nL (cur l x.l j))) ∧ σ = [some (.ref a), some (.int m), some (.int (S + x.s : Nat)), some (.int (t + TT l x.l j : Nat)), some (.ref L), some (.ref a1), o6])
      ⟨s1, o6, hLl, rfl⟩ (fun _ _ _ _ _ => trivial) ?_ ?_
    · rintro j v σ H2 H2' hj ⟨s2, o6, hL2, rfl⟩ ⟨rfl, rfl⟩
      have hj1 : j < (cur l x.l j).length := by rw [cur_len hl hx]; exact hj
      have hj2 : j < x.l.length := by rw [hx.1]; exact hj
      have b1' := Mx.lt_at hl hj
      have b2' := Mx.lt_at hx hj
      have sq : ∀ {H'}, Same H2' H' → SqL K H' L (nL (cur l x.l j)) := fun s => SqL.of (s L _ hL2)
      have st : ∀ {H'}, Same H2' H' → SqT K H' a1 [.int x.s, .ref b1] := fun s => SqT.of (s _ _ (s2 _ _ ht1))
      have su : ∀ {H'}, Same H2' H' → SqT K H' b1 (nL x.l) := fun s => SqT.of (s _ _ (s2 _ _ ht2))
      have r0 := Same.refl H2'
      refine ⟨_, rfl, _, rfl, _, rfl, L, _, _, _, rfl, rfl, sq r0, nL_ix hj1, _, rfl, a1, _, 1, _, rfl, rfl, st r0, rfl, _, rfl, b1, _, _, _, rfl, rfl, su r0, nL_ix hj2, ?_⟩
      rw [cur_at hl hx hj]
      refine ⟨_, _, rfl, b1', b2', fun H3 s3 => ⟨_, _, rfl, rfl, ?_⟩⟩
      refine ⟨_, rfl, _, rfl, L, _, _, _, rfl, rfl, sq s3, nL_ix hj1, _, rfl, a1, _, 1, _, rfl, rfl, st s3, rfl, _, rfl, b1, _, _, _, rfl, rfl, su s3, nL_ix hj2, ?_⟩
      rw [cur_at hl hx hj]
      refine ⟨_, _, rfl, b1', b2', ?_⟩
      refine ⟨_, rfl, _, rfl, L, _, _, j, rfl, rfl, s3 L _ hL2, ?_, ?_⟩
      · unfold ixN
        rw [if_pos (by omega), if_pos (by rw [nL_len]; omega)]
        rfl
      · refine ⟨fun b o e => ?_, some (.int j), ?_, ?_⟩
        · rw [upd_ne (ne_of_none e hL0)]
          exact s3 b o (s2 b o e)
        · rw [upd_same, ← cur_set hl hx hj]
          simp [nL, List.map_set]
        · rw [TT_succ hl hx hj, ← Nat.add_assoc]
          rfl
    · rintro σ H2 ⟨s2, o6, hL2, rfl⟩
      refine ⟨s2, S + x.s, t + Mx.T l x.l, Mx.L l x.l, some (.ref a1), o6, ⟨Mx.L_lt hl hx, ?_⟩, ?_, ?_⟩
      · rw [take_snoc hxi]
        unfold Su175.prodOf at hp ⊢
        rw [List.foldl_append, hp]
        show Su173.mul (⟨S % 2, l⟩, t % 4) (x, 0) = _
        refine Prod.ext ?_ ?_
        · have h1 := Mx.mul_s (⟨S % 2, l⟩, t % 4) (x, 0)
          have h2 := Mx.mul_l (⟨S % 2, l⟩, t % 4) (x, 0)
          cases hq : (Su173.mul (⟨S % 2, l⟩, t % 4) (x, 0)).1 with
          | mk u v =>
            rw [hq] at h1 h2
            simp only at h1 h2 ⊢
            rw [h1, h2]
            congr 1
            omega
        · rw [Mx.mul_t]
          show (t % 4 + 0 + Mx.T l x.l) % 4 = (t + Mx.T l x.l) % 4
          omega
      · rw [cur_all hl hx] at hL2
        exact hL2
      · rw [TT_all hl hx]
  · rintro σ H1 ⟨s1, S, t, l, o5, o6, ⟨hl, hp⟩, hLl, rfl⟩
    rw [hlen, List.take_length] at hp
    refine ⟨_, rfl, _, rfl, _, _, rfl, rfl, (by show (4 : Int) ≠ 0; decide), _, _, rfl, rfl, ⟨by decide, by decide⟩, _, _, rfl, rfl, _, _, rfl, rfl, (by show (2 : Int) ≠ 0; decide), ?_⟩
    refine ⟨_, rfl, L, _, rfl, .inl ⟨SqL.of hLl, fun q hq => ?_⟩⟩
    refine ⟨(by show 2 ≤ sizeLine; decide), fun r hr => k _ _ (Same.then (Same.then s1 hq) hr) ⟨r, q, rfl, ?_, ?_⟩⟩
    · rw [upd_same, hp]
      congr 3
      show V.int (Int.fmod ((S : Int) + Int.fdiv (Int.fmod (t : Int) ((4 : Nat) : Int)) ((2 : Nat) : Int)) ((2 : Nat) : Int)) = V.int ((Su173.signOf (⟨S % 2, l⟩, t % 4) : Nat) : Int)
      rw [fmodN, fdivN, ← Int.natCast_add, fmodN]
      refine ve (congrArg _ ?_)
      unfold Su173.signOf
      simp only
      omega
    · rw [upd_ne (ne_of_none upd_same hr), upd_same, hp]
end
end Ss
namespace Ss
open PySem PySem.Spec PyProof.Rows L2
open Su173 (Spin)
/-! ## rows -/
section
variable {P : Program} {w : World} {K : PySem.W.Frag} {mg : Str → Option Value} {base : Heap} {CR CG CS CD aON aSH aDE : Addr}
theorem divN (n p : Nat) : (n : Int) / 2 ^ ((p : Int)).toNat = ((n / 2 ^ p : Nat) : Int) := by
  rw [show ((p : Int)).toNat = p from by omega, Int.natCast_ediv, Int.natCast_pow]
  rfl
theorem andN (a b : Nat) : Builtin.bitAnd (a : Int) (b : Int) = ((a &&& b : Nat) : Int) := by
  rw [bitAnd_pp (by omega) (by omega), Int.toNat_natCast, Int.toNat_natCast]
theorem bitN (n p : Nat) : Builtin.bitAnd ((n : Int) / 2 ^ ((p : Int)).toNat) 1 = ((n / 2 ^ p % 2 : Nat) : Int) := by
  rw [divN]
  show Builtin.bitAnd ((n / 2 ^ p : Nat) : Int) ((1 : Nat) : Int) = _
  rw [andN, Nat.and_one_is_mod]
theorem powN (a p : Nat) : (a : Int) * 2 ^ ((p : Int)).toNat = ((a * 2 ^ p : Nat) : Int) := by
  rw [show ((p : Int)).toNat = p from by omega, Int.natCast_mul, Int.natCast_pow]
  rfl
theorem sumN : ∀ xs : List Nat, (xs.map (fun (n : Nat) => (n : Int))).sum = ((xs.sum : Nat) : Int)
  | [] => rfl
  | x :: xs => by
    rw [List.map_cons, List.sum_cons, sumN xs, List.sum_cons]
    omega
def sp_are_bits (K : PySem.W.Frag) : Sp := fun vs H Q _ => ∃ (a : Addr) (xs : List Nat), vs = [.ref a] ∧ SqL K H a (nL xs) ∧ xs.length ≤ 100 ∧ ∀ H', Same H H' → Q (.bl (xs.all fun n => decide (n < 2))) H'
theorem c_are_bits (T : Top K mg CR CG CS CD aON aSH aDE) : CalG CX0 P w K mg base 1 "are_bits" (sp_are_bits K) := by
  obtain ⟨f, fd, hg, hk, F, b⟩ := T.d_are_bits.ex
  refine ⟨f, fd, _, F.ok sc_are_bits (fun vs H Q E h => by obtain ⟨a, xs, rfl, _⟩ := h; rfl) (fun cdv A outer s H vs Q E hr h => ⟨_, (pss_one (ps_ret (pe_callB (cr_all rfl) (by rfl) T.b_all boot_fall (pa_cons (pe_lc (own := [("one", 1)]) (g := gName 1) rfl sc_are_bits.nd (pi_list (pv 0)) (blkOk_by (N := N_are_bits) (sc := defScope s_are_bits) (by decide +kernel)) (fun _ _ _ _ _ => (pg_name (i := 1) sc_are_bits.nd rfl (Or.inl rfl))) (fun _ _ _ _ _ => pts_nil) (fun _ _ _ _ _ => (pe_cmpR op_le (pv 1) pe_int (nomark _)))) pa_nil)))), ?_⟩), hg, hk, b⟩
  obtain ⟨a, xs, rfl, h⟩ := h
  obtain ⟨hS, hl, k⟩ := h
  refine ⟨_, rfl, a, rfl, ⟨_, hS⟩, fun D hD => lc_val walk_list (fun i => .bl (decide (xs.getD i 0 < 2))) (by rw [nL_len]; omega) hD (fun H s => s.seq hS) ?_ ?_⟩
  · rintro i x H1 H' Q' hi s _ ⟨rfl, hx⟩ hk
    obtain ⟨n, hn, rfl⟩ := nL_at' hx
    refine ⟨rfl, _, rfl, _, _, rfl, rfl, qe (hk _ (Same.refl _)) (be ?_)⟩
    rw [getD_of hn]
    exact decide_eq_decide.mpr (by omega)
  · intro H1 s hy
    rw [nL_len, blR (fun n => decide (n < 2))] at hy
    exact ⟨D, _, rfl, SqL.of hy, qe (k H1 s) (be (all_id _ _))⟩
def sp_bit_at : Sp := fun vs H Q _ => ∃ n p : Nat, vs = [.int n, .int p] ∧ Q (.int (n / 2 ^ p % 2 : Nat)) H
theorem c_bit_at (T : Top K mg CR CG CS CD aON aSH aDE) : CalG CX0 P w K mg base 1 "bit_at" (sp_bit_at) := by
  obtain ⟨f, fd, hg, hk, F, b⟩ := T.d_bit_at.ex
  refine ⟨f, fd, _, F.ok sc_bit_at (fun vs H Q E h => by obtain ⟨n, p, rfl, _⟩ := h; rfl) (fun cdv A outer s H vs Q E hr h => ⟨_, (pss_one (ps_ret (pe_op op_and (pe_op op_shr (pv 0) (pv 1)) pe_int))), ?_⟩), hg, hk, b⟩
  obtain ⟨n, p, rfl, h⟩ := h
  exact ⟨_, rfl, _, rfl, _, _, rfl, rfl, by omega, _, _, rfl, rfl, qe h (ve (bitN n p))⟩
def sp_number_of_bits (K : PySem.W.Frag) : Sp := fun vs H Q _ => ∃ (a : Addr) (xs : List Nat), vs = [.ref a] ∧ SqL K H a (nL xs) ∧ xs.length ≤ 100 ∧ (∀ x ∈ xs, x < 4294967296) ∧ ∀ H', Same H H' → Q (.int (Su175.code 2 xs)) H'
theorem c_number_of_bits (T : Top K mg CR CG CS CD aON aSH aDE) : CalG CX0 P w K mg base 1 "number_of_bits" (sp_number_of_bits K) := by
  obtain ⟨f, fd, hg, hk, F, b⟩ := T.d_number_of_bits.ex
  refine ⟨f, fd, _, F.ok sc_number_of_bits (fun vs H Q E h => by obtain ⟨a, xs, rfl, _⟩ := h; rfl) (fun cdv A outer s H vs Q E hr h => ⟨_, (pss_cons (ps_set (i := 1) sc_number_of_bits.nd rfl (Or.inl rfl) pe_int)
    (pss_cons (ps_for PassesOwn.never rfl (pi_enum (by rfl) T.b_enumerate (pa_cons (pv 0) pa_nil)) (pg_tup rfl (pgs_cons (pg_name (i := 2) sc_number_of_bits.nd rfl (Or.inl rfl)) (pgs_cons (pg_name (i := 3) sc_number_of_bits.nd rfl (Or.inl rfl)) pgs_nil))) (pss_one (ps_set (i := 1) sc_number_of_bits.nd rfl (Or.inl rfl) (pe_op op_add (pv 1) (pe_op op_shl (pv 3) (pv 2))))))
    (pss_one (ps_ret (pv 1))))), ?_⟩), hg, hk, b⟩
  obtain ⟨a, xs, rfl, h⟩ := h
  obtain ⟨hS, hl, hb, k⟩ := h
  refine ⟨_, rfl, a, _, rfl, hS, for_it walk_enum (fun i σ H' => Same H H' ∧ ∃ o2 o3 : Option V, σ = [some (.ref a), some (.int (Su175.code 2 (xs.take i))), o2, o3]) ⟨Same.refl _, none, none, rfl⟩ (fun i σ H' _ h => Same.seq h.1 hS) ?_ ?_⟩
  · rintro i v σ H1 H1' hi ⟨s1, o2, o3, rfl⟩ ⟨T', x, y, rfl, hT, rfl, hx, hy⟩
    cases hx
    obtain ⟨n, hn, rfl⟩ := nL_at' hy
    have hnb := hb n (List.mem_of_getElem? hn)
    rw [nL_len] at hi
    refine ⟨T', _, rfl, SqT.of upd_same, rfl, _, _, rfl, _, _, rfl, rfl, ?_⟩
    refine ⟨_, rfl, _, rfl, _, rfl, _, _, rfl, rfl, ⟨by omega, by omega, by omega⟩, _, _, rfl, rfl, Same.then s1 hT, some (.int (i : Nat)), some (.int n), ?_⟩
    rw [take_snoc hn, Mx.code_snoc, List.length_take, Nat.min_eq_left (by omega), powN]
    rfl
  · rintro σ H1 ⟨s1, o2, o3, rfl⟩
    rw [nL_len, List.take_length]
    exact ⟨_, rfl, k H1 s1⟩
theorem rowAt2 : ∀ (m n : Nat), Mx.rowAt 2 m n = (List.range m).map fun i => n / 2 ^ i % 2
  | 0, _ => rfl
  | m + 1, n => by
    rw [Mx.range_cons, List.map_cons, List.map_map]
    show n % 2 :: Mx.rowAt 2 m (n / 2) = _
    rw [rowAt2 m (n / 2)]
    simp only [Nat.pow_zero, Nat.div_one]
    congr 1
    refine List.map_congr_left fun i _ => ?_
    show n / 2 / 2 ^ i % 2 = n / 2 ^ (i + 1) % 2
    rw [Nat.div_div_eq_div_mul, Nat.pow_succ, Nat.mul_comm 2]
def sp_bits_of_number : Sp := fun vs H Q _ => ∃ n m : Nat, vs = [.int n, .int m] ∧ m ≤ 100 ∧ ∀ p H', Same H H' → H p = none → H' p = some (.lst (nL (Mx.rowAt 2 m n))) → Q (.ref p) H'
theorem c_bits_of_number (T : Top K mg CR CG CS CD aON aSH aDE) : CalG CX0 P w K mg base 2 "bits_of_number" (sp_bits_of_number) := by
  obtain ⟨f, fd, hg, hk, F, b⟩ := T.d_bits_of_number.ex
  refine ⟨f, fd, _, F.ok sc_bits_of_number (fun vs H Q E h => by obtain ⟨n, m, rfl, _⟩ := h; rfl) (fun cdv A outer s H vs Q E hr h => ⟨_, (pss_one (ps_ret (pe_lc (own := [("place", 2)]) (g := gName 2) rfl sc_bits_of_number.nd (pi_range1 (by rfl) T.b_range (pa_cons (pv 1) pa_nil)) (blkOk_by (N := N_bits_of_number) (sc := defScope s_bits_of_number) (by decide +kernel)) (fun _ _ _ _ _ => (pg_name (i := 2) sc_bits_of_number.nd rfl (Or.inl rfl))) (fun _ _ _ _ _ => pts_nil) (fun _ _ _ _ _ => (pe_cg (c_bit_at T) hr (by decide) rfl pass0 (pa_cons (pv 0) (pa_cons (pv 2) pa_nil))))))), ?_⟩), hg, hk, b⟩
  obtain ⟨n, m, rfl, h⟩ := h
  obtain ⟨hm, k⟩ := h
  refine ⟨_, rfl, _, rfl, (by omega), (by omega), fun D hD => lc_val (walk_rng m) (fun i => .int (n / 2 ^ i % 2 : Nat)) (by omega) hD (fun _ _ => trivial) ?_ ?_⟩
  · rintro i x H1 H' Q' hi s _ ⟨rfl, rfl⟩ hk
    exact ⟨rfl, _, rfl, _, rfl, n, i, rfl, hk _ (Same.refl _)⟩
  · intro H1 s hy
    refine k D H1 s hD ?_
    rw [hy, rowAt2]
    simp [nL]
def oddN (n m : Nat) : Nat := (Mx.rowAt 2 m n).sum % 2
def sp_odd_of : Sp := fun vs H Q _ => ∃ n m : Nat, vs = [.int n, .int m] ∧ m ≤ 100 ∧ ∀ H', Same H H' → Q (.int (oddN n m)) H'
theorem c_odd_of (T : Top K mg CR CG CS CD aON aSH aDE) : CalG CX0 P w K mg base 3 "odd_of" (sp_odd_of) := by
  obtain ⟨f, fd, hg, hk, F, b⟩ := T.d_odd_of.ex
  refine ⟨f, fd, _, F.ok sc_odd_of (fun vs H Q E h => by obtain ⟨n, m, rfl, _⟩ := h; rfl) (fun cdv A outer s H vs Q E hr h => ⟨_, (pss_one (ps_ret (pe_op op_modN (pe_callB (cr_sum rfl) (by rfl) T.b_sum boot_fsum (pa_cons (pe_cg (c_bits_of_number T) hr (by decide) rfl pass0 (pa_cons (pv 0) (pa_cons (pv 1) pa_nil))) pa_nil)) pe_int))), ?_⟩), hg, hk, b⟩
  obtain ⟨n, m, rfl, h⟩ := h
  obtain ⟨hm, k⟩ := h
  refine ⟨_, rfl, _, rfl, n, m, rfl, hm, fun p H1 s1 _ hp => ⟨p, _, rfl, SqL.of hp, _, _, rfl, rfl, (by show (2 : Int) ≠ 0; decide), qe (k H1 s1) (ve ?_)⟩⟩
  rw [sumN]
  exact fmodN (b := 2)
def sp_row_count : Sp := fun vs H Q _ => ∃ k q : Nat, vs = [.int k, .int q] ∧ k ≤ 4 ∧ q ≤ 3 ∧ Q (.int (q ^ k : Nat)) H
theorem pow81 {k q : Nat} (hk : k ≤ 4) (hq : q ≤ 3) : q ^ k ≤ 81 := by
  have h1 : q ^ k ≤ 3 ^ k := Nat.pow_le_pow_left hq _
  have h2 : 3 ^ k ≤ 3 ^ 4 := Nat.pow_le_pow_right (by decide) hk
  have : (3 : Nat) ^ 4 = 81 := by decide
  omega
theorem c_row_count (T : Top K mg CR CG CS CD aON aSH aDE) : CalG CX0 P w K mg base 1 "row_count" (sp_row_count) := by
  obtain ⟨f, fd, hg, hk, F, b⟩ := T.d_row_count.ex
  refine ⟨f, fd, _, F.ok sc_row_count (fun vs H Q E h => by obtain ⟨k, q, rfl, _⟩ := h; rfl) (fun cdv A outer s H vs Q E hr h => ⟨_, (pss_cons (ps_set (i := 2) sc_row_count.nd rfl (Or.inl rfl) pe_int)
    (pss_cons (ps_for PassesOwn.never rfl (pi_range1 (by rfl) T.b_range (pa_cons (pv 0) pa_nil)) (pg_name (i := 3) sc_row_count.nd rfl (Or.inl rfl)) (pss_one (ps_set (i := 2) sc_row_count.nd rfl (Or.inl rfl) (pe_op op_mul (pv 2) (pv 1)))))
    (pss_one (ps_ret (pv 2))))), ?_⟩), hg, hk, b⟩
  obtain ⟨k, q, rfl, h⟩ := h
  obtain ⟨hk4, hq, h⟩ := h
  refine ⟨_, rfl, _, rfl, (by omega), (by omega), for_it (walk_rng k) (fun i σ H' => H' = H ∧ ∃ o3 : Option V, σ = [some (.int k), some (.int q), some (.int (q ^ i : Nat)), o3]) ⟨rfl, none, rfl⟩ (fun _ _ _ _ _ => trivial) ?_ ?_⟩
  · rintro i v σ H1 H1' hi ⟨rfl, o3, rfl⟩ ⟨rfl, rfl⟩
    have hb := pow81 (k := i) (q := q) (by omega) hq
    refine ⟨_, rfl, _, rfl, _, _, rfl, rfl, .inr ⟨by omega, by omega⟩, rfl, some (.int i), ?_⟩
    rw [Nat.pow_succ]
    rfl
  · rintro σ H1 ⟨rfl, o3, rfl⟩
    exact ⟨_, rfl, h⟩
def sp_is_asked (K : PySem.W.Frag) : Sp := fun vs H Q _ => ∃ (a : Addr) (xs : List Nat) (k q : Nat), vs = [.ref a, .int k, .int q] ∧ SqL K H a (nL xs) ∧ xs.length ≤ 100 ∧ ∀ H', Same H H' → Q (.bl (Su175.okRow k q xs)) H'
theorem c_is_asked (T : Top K mg CR CG CS CD aON aSH aDE) : CalG CX0 P w K mg base 1 "is_asked" (sp_is_asked K) := by
  obtain ⟨f, fd, hg, hk, F, b⟩ := T.d_is_asked.ex
  refine ⟨f, fd, _, F.ok sc_is_asked (fun vs H Q E h => by obtain ⟨a, xs, k, q, rfl, _⟩ := h; rfl) (fun cdv A outer s H vs Q E hr h => ⟨_, (pss_one (ps_ret (pe_and (pe_cmpR op_eq (pe_callB call_len_seq (by rfl) T.b_len boot_flen (pa_cons (pv 0) pa_nil)) (pv 1) (nomark _)) (pe_one (pe_callB (cr_all rfl) (by rfl) T.b_all boot_fall (pa_cons (pe_lc (own := [("one", 3)]) (g := gName 3) rfl sc_is_asked.nd (pi_list (pv 0)) (blkOk_by (N := N_is_asked) (sc := defScope s_is_asked) (by decide +kernel)) (fun _ _ _ _ _ => (pg_name (i := 3) sc_is_asked.nd rfl (Or.inl rfl))) (fun _ _ _ _ _ => pts_nil) (fun _ _ _ _ _ => (pe_cmpR op_lt (pv 3) (pv 2) (nomark _)))) pa_nil)))))), ?_⟩), hg, hk, b⟩
  obtain ⟨a, xs, k, q, rfl, h⟩ := h
  obtain ⟨hS, hl, kk⟩ := h
  refine ⟨_, rfl, _, _, rfl, .inl hS, _, rfl, rfl, _, rfl, ?_⟩
  rw [nL_len, dVI]
  refine if2 (fun c => ?_) (fun c => ?_)
  · refine ⟨_, rfl, a, rfl, ⟨_, hS⟩, fun D hD => lc_val walk_list (fun i => .bl (decide (xs.getD i 0 < q))) (by rw [nL_len]; omega) hD (fun H s => s.seq hS) ?_ ?_⟩
    · rintro i x H1 H' Q' hi s _ ⟨rfl, hx⟩ hk
      obtain ⟨n, hn, rfl⟩ := nL_at' hx
      refine ⟨rfl, _, rfl, _, rfl, _, _, rfl, rfl, qe (hk _ (Same.refl _)) (be ?_)⟩
      rw [getD_of hn]
      exact dLt
    · intro H1 s hy
      rw [nL_len, blR (fun n => decide (n < q))] at hy
      refine ⟨D, _, rfl, SqL.of hy, ?_⟩
      rw [all_id]
      have := kk H1 s
      unfold Su175.okRow at this
      rw [of_decide_eq_true c] at this
      simpa using this
  · have := kk H (Same.refl _)
    unfold Su175.okRow at this
    rw [show (xs.length == k) = false from by simpa using of_decide_eq_false c] at this
    exact this
def sp_place_of (K : PySem.W.Frag) : Sp := fun vs H Q _ => ∃ (a : Addr) (xs : List Nat) (q : Nat), vs = [.ref a, .int q] ∧ SqL K H a (nL xs) ∧ xs.length ≤ 4 ∧ q ≤ 3 ∧ (∀ x ∈ xs, x < q) ∧ ∀ H', Same H H' → Q (.int (Su175.code q xs)) H'
theorem c_place_of (T : Top K mg CR CG CS CD aON aSH aDE) : CalG CX0 P w K mg base 1 "place_of" (sp_place_of K) := by
  obtain ⟨f, fd, hg, hk, F, b⟩ := T.d_place_of.ex
  refine ⟨f, fd, _, F.ok sc_place_of (fun vs H Q E h => by obtain ⟨a, xs, q, rfl, _⟩ := h; rfl) (fun cdv A outer s H vs Q E hr h => ⟨_, (pss_cons (ps_set (i := 2) sc_place_of.nd rfl (Or.inl rfl) pe_int)
    (pss_cons (ps_for PassesOwn.never rfl (pi_list (pe_revL (pv 0))) (pg_name (i := 3) sc_place_of.nd rfl (Or.inl rfl)) (pss_one (ps_set (i := 2) sc_place_of.nd rfl (Or.inl rfl) (pe_op op_add (pe_op op_mul (pv 2) (pv 1)) (pv 3)))))
    (pss_one (ps_ret (pv 2))))), ?_⟩), hg, hk, b⟩
  obtain ⟨a, xs, q, rfl, h⟩ := h
  obtain ⟨hS, hl, hq, hx, k⟩ := h
  refine ⟨_, rfl, a, _, rfl, hS, fun p hp => ?_⟩
  rw [show (nL xs).reverse = nL xs.reverse from by simp [nL, List.map_reverse]]
  refine ⟨p, rfl, ⟨_, SqL.of upd_same⟩, for_it walk_list (fun i σ H' => H' = upd H p (.lst (nL xs.reverse)) ∧ ∃ o3 : Option V, σ = [some (.ref a), some (.int q), some (.int (Su175.code q (xs.reverse.take i).reverse)), o3]) ⟨rfl, none, rfl⟩ (fun i σ H' _ h => SqL.of (by rw [h.1]; exact upd_same)) ?_ ?_⟩
  · rintro i v σ H1 H1' hi ⟨rfl, o3, rfl⟩ ⟨rfl, hv⟩
    obtain ⟨n, hn, rfl⟩ := nL_at' hv
    have hb : Su175.code q (xs.reverse.take i).reverse < q ^ (xs.reverse.take i).reverse.length := Mx.code_lt fun b hb => hx b (by
      have := List.mem_reverse.mp hb
      exact List.mem_reverse.mp (List.mem_of_mem_take this))
    have hp81 := pow81 (k := (xs.reverse.take i).reverse.length) (q := q) (by simp; omega) hq
    refine ⟨_, rfl, _, rfl, _, _, rfl, rfl, .inr ⟨by omega, by omega⟩, _, rfl, _, _, rfl, rfl, rfl, some (.int n), ?_⟩
    rw [take_snoc hn, List.reverse_append]
    show _ = ([some (.ref a), some (.int q), some (.int ((Su175.code q (n :: (xs.reverse.take i).reverse) : Nat) : Int)), some (.int n)] : L2.St)
    rw [Mx.code_cons, Int.natCast_add, Int.natCast_mul, Int.add_comm, Int.mul_comm]
    rfl
  · rintro σ H1 ⟨rfl, o3, rfl⟩
    rw [nL_len, List.take_length, List.reverse_reverse]
    exact ⟨_, rfl, k _ (Same.new hp)⟩
theorem rowAt_snoc (q : Nat) : ∀ (i p : Nat), Mx.rowAt q (i + 1) p = Mx.rowAt q i p ++ [p / q ^ i % q]
  | 0, p => by simp [Mx.rowAt]
  | i + 1, p => by
    show p % q :: Mx.rowAt q (i + 1) (p / q) = p % q :: (Mx.rowAt q i (p / q) ++ [p / q ^ (i + 1) % q])
    rw [rowAt_snoc q i, Nat.div_div_eq_div_mul, Nat.pow_succ, Nat.mul_comm q]
def sp_row_of : Sp := fun vs H Q _ => ∃ (p k q : Nat), vs = [.int p, .int k, .int q] ∧ k ≤ 4 ∧ 0 < q ∧ q ≤ 3 ∧ ∀ L H', Same H H' → H L = none → H' L = some (.lst (nL (Mx.rowAt q k p))) → Q (.ref L) H'
theorem c_row_of (T : Top K mg CR CG CS CD aON aSH aDE) : CalG CX0 P w K mg base 1 "row_of" (sp_row_of) := by
  obtain ⟨f, fd, hg, hk, F, b⟩ := T.d_row_of.ex
  refine ⟨f, fd, _, F.ok sc_row_of (fun vs H Q E h => by obtain ⟨p, k, q, rfl, _⟩ := h; rfl) (fun cdv A outer s H vs Q E hr h => ⟨_, (pss_cons (ps_set (i := 3) sc_row_of.nd rfl (Or.inl rfl) (pe_lst pa_nil))
    (pss_cons (ps_set (i := 4) sc_row_of.nd rfl (Or.inl rfl) (pv 0))
    (pss_cons (ps_for PassesOwn.never rfl (pi_range1 (by rfl) T.b_range (pa_cons (pv 1) pa_nil)) (pg_name (i := 5) sc_row_of.nd rfl (Or.inl rfl)) (pss_cons (ps_expr (pe_bm PySem.F.plainAttrs_list PySem.F.slot_list_append PySem.F.type_list_append mt_append (pv 3) (pa_cons (pe_op op_modN (pv 4) (pv 2)) pa_nil)))
    (pss_one (ps_set (i := 4) sc_row_of.nd rfl (Or.inl rfl) (pe_op op_fdivN (pv 4) (pv 2))))))
    (pss_one (ps_ret (pv 3)))))), ?_⟩), hg, hk, b⟩
  obtain ⟨p, k, q, rfl, h⟩ := h
  obtain ⟨hk, hq0, hq, kk⟩ := h
  refine ⟨(by show 0 ≤ sizeLine; decide), fun L hL => ⟨_, rfl, _, rfl, _, rfl, (by omega), (by omega), for_it (walk_rng k) (fun i σ H' => Same H H' ∧ H' L = some (.lst (nL (Mx.rowAt q i p))) ∧ ∃ o5 : Option V, σ = [some (.int p), some (.int k), some (.int q), some (.ref L), some (.int (p / q ^ i : Nat)), o5]) ⟨Same.new hL, upd_same, none, by simp; rfl⟩ (fun _ _ _ _ _ => trivial) ?_ ?_⟩⟩
  · rintro i v σ H1 H1' hi ⟨s1, hl, o5, rfl⟩ ⟨rfl, rfl⟩
    refine ⟨_, rfl, .inl ⟨rfl, _, SqL.of hl⟩, _, rfl, _, rfl, _, _, rfl, rfl, (by omega), L, _, _, rfl, rfl, hl, (by rw [nL_len, Mx.rowAt_len, sizeLine_eq]; omega), ?_⟩
    refine ⟨_, rfl, _, rfl, _, _, rfl, rfl, ⟨by omega, by omega⟩, fun b o e => ?_, ?_, some (.int i), ?_⟩
    · rw [upd_ne (ne_of_none e hL)]
      exact s1 b o e
    · rw [upd_same, rowAt_snoc, nL_app]
      congr 3
      show [V.int (Int.fmod ((p / q ^ i : Nat) : Int) (q : Int))] = _
      rw [fmodN]
      rfl
    · rw [Nat.pow_succ, ← Nat.div_div_eq_div_mul, ← fdivN (a := p / q ^ i) (b := q)]
      rfl
  · rintro σ H1 ⟨s1, hl, o5, rfl⟩
    exact ⟨_, rfl, kk L H1 s1 hL hl⟩
/-- a new list of new rows, all of them by their places -/
def RowsNew (H H' : Hp) (D : Addr) (k q : Nat) : Prop := H D = none ∧ ∃ ys : List V, H' D = some (.lst ys) ∧ ys.length = q ^ k ∧ ∀ (i : Nat) (y : V), ys[i]? = some y → ∃ a, y = .ref a ∧ H a = none ∧ a ≠ D ∧ H' a = some (.lst (nL (Mx.rowAt q k i)))
def sp_all_rows : Sp := fun vs H Q _ => ∃ (k q : Nat), vs = [.int k, .int q] ∧ k ≤ 4 ∧ 0 < q ∧ q ≤ 3 ∧ ∀ D H', Same H H' → RowsNew H H' D k q → Q (.ref D) H'
theorem c_all_rows (T : Top K mg CR CG CS CD aON aSH aDE) : CalG CX0 P w K mg base 2 "all_rows" (sp_all_rows) := by
  obtain ⟨f, fd, hg, hk, F, b⟩ := T.d_all_rows.ex
  refine ⟨f, fd, _, F.ok sc_all_rows (fun vs H Q E h => by obtain ⟨k, q, rfl, _⟩ := h; rfl) (fun cdv A outer s H vs Q E hr h => ⟨_, (pss_one (ps_ret (pe_lc (own := [("place", 2)]) (g := gName 2) rfl sc_all_rows.nd (pi_range1 (by rfl) T.b_range (pa_cons (pe_cg (c_row_count T) hr (by decide) rfl pass0 (pa_cons (pv 0) (pa_cons (pv 1) pa_nil))) pa_nil)) (blkOk_by (N := N_all_rows) (sc := defScope s_all_rows) (by decide +kernel)) (fun _ _ _ _ _ => (pg_name (i := 2) sc_all_rows.nd rfl (Or.inl rfl))) (fun _ _ _ _ _ => pts_nil) (fun _ _ _ _ _ => (pe_cg (c_row_of T) hr (by decide) rfl pass0 (pa_cons (pv 2) (pa_cons (pv 0) (pa_cons (pv 1) pa_nil)))))))), ?_⟩), hg, hk, b⟩
  obtain ⟨k, q, rfl, h⟩ := h
  obtain ⟨hk, hq0, hq, kk⟩ := h
  have hb := pow81 hk hq
  refine ⟨_, rfl, _, rfl, k, q, rfl, hk, hq, _, rfl, (by omega), (by omega), fun D hD => lc_gen (walk_rng _) (fun i y H' => ∃ a, y = .ref a ∧ H a = none ∧ a ≠ D ∧ H' a = some (.lst (nL (Mx.rowAt q k i)))) (by omega) hD (fun _ _ => trivial) ?_ ?_ ?_⟩
  · rintro i y H1 H2 acc hacc sx ⟨a, e, h1, h2, h3⟩
    exact ⟨a, e, h1, h2, sx a _ h2 h3⟩
  · rintro i x H1 H' Q' hi s ⟨acc, hacc⟩ ⟨rfl, rfl⟩ hQ
    refine ⟨rfl, _, rfl, _, rfl, _, rfl, i, k, q, rfl, hk, hq0, hq, fun L H2 s2 hL hl => hQ _ _ s2 ⟨L, rfl, Same.free s hL, ?_, hl⟩⟩
    intro e
    rw [e, hacc] at hL
    cases hL
  · rintro H1 ys s hy hlen hp
    exact kk D H1 s ⟨hD, ys, hy, hlen, hp⟩
end
end Ss
namespace Ss
open PySem PySem.Spec PyProof.Rows L2
open Su173 (Spin)
open Su175 (Abs)
theorem rng1 {n : Nat} (h : n ≤ 100000) : -(2 ^ 62) ≤ (n : Int) := by omega
theorem rng2 {n : Nat} (h : n ≤ 100000) : (n : Int) < 2 ^ 62 := by omega
/-! ## objects by their fields -/
theorem lk_here {k : Str} {v : V} {r : List (Str × V)} : List.lookup k ((k, v) :: r) = some v := by
  have e : (k == k) = true := beq_self_eq_true k
  simp only [List.lookup, e]
theorem lk_past {k g : Str} {v : V} {r : List (Str × V)} (h : (k == g) = false) : List.lookup k ((g, v) :: r) = List.lookup k r := by
  simp only [List.lookup, h]
theorem put_here {f : Str} {v x : V} {r : List (Str × V)} : putF f v ((f, x) :: r) = (f, v) :: r := if_pos rfl
theorem put_past {f g : Str} {v x : V} {r : List (Str × V)} (h : ¬ g = f) : putF f v ((g, x) :: r) = (g, x) :: putF f v r := if_neg h
def gF (k q : Nat) (r m w : Addr) : List (Str × V) := [("persons", .int k), ("questions", .int q), ("rows", .ref r), ("much", .ref m), ("winning", .ref w)]
section
variable {k q : Nat} {r m w : Addr}
theorem gF_persons : (gF k q r m w).lookup ("persons" : Str) = some (.int k) := lk_here
theorem gF_questions : (gF k q r m w).lookup ("questions" : Str) = some (.int q) := (lk_past (by decide +kernel)).trans lk_here
theorem gF_rows : (gF k q r m w).lookup ("rows" : Str) = some (.ref r) := (lk_past (by decide +kernel)).trans ((lk_past (by decide +kernel)).trans lk_here)
theorem gF_much : (gF k q r m w).lookup ("much" : Str) = some (.ref m) := (lk_past (by decide +kernel)).trans ((lk_past (by decide +kernel)).trans ((lk_past (by decide +kernel)).trans lk_here))
theorem gF_winning : (gF k q r m w).lookup ("winning" : Str) = some (.ref w) := (lk_past (by decide +kernel)).trans ((lk_past (by decide +kernel)).trans ((lk_past (by decide +kernel)).trans ((lk_past (by decide +kernel)).trans lk_here)))
/-- a name that is none of the attributes -/
theorem gF_no {f : Str} (h1 : (f == ("persons" : Str)) = false) (h2 : (f == ("questions" : Str)) = false) (h3 : (f == ("rows" : Str)) = false) (h4 : (f == ("much" : Str)) = false) (h5 : (f == ("winning" : Str)) = false) : (gF k q r m w).lookup f = none :=
  (lk_past h1).trans ((lk_past h2).trans ((lk_past h3).trans ((lk_past h4).trans ((lk_past h5).trans rfl))))
theorem gF_not {f : Str} (h : (([("persons" : Str), "questions", "rows", "much", "winning"]).all fun g => !(f == g)) = true) : (gF k q r m w).lookup f = none := by
  simp only [List.all_cons, List.all_nil, Bool.and_true, Bool.and_eq_true, Bool.not_eq_true'] at h
  exact gF_no h.1 h.2.1 h.2.2.1 h.2.2.2.1 h.2.2.2.2
end
theorem put_new {f : Str} {v : V} : ∀ {l : List (Str × V)} {ns : List Str}, l.map (·.1) = ns → f ∉ ns → putF f v l = l ++ [(f, v)]
  | [], _, _, _ => rfl
  | (g, x) :: l, ns, e, h => by
    subst e
    have h1 : ¬ g = f := fun z => h (by simp [z])
    rw [put_past h1, put_new (l := l) rfl fun z => h (by simp at z ⊢; exact .inr z)]
    rfl
theorem gF_new (k q : Nat) (r m w : Addr) : putF "winning" (.ref w) (putF "much" (.ref m) (putF "rows" (.ref r) (putF "questions" (.int q) (putF "persons" (.int k) [])))) = gF k q r m w := by
  have e1 : putF "persons" (.int k) [] = ([("persons", .int k)] : List (Str × V)) := rfl
  have e2 : putF "questions" (.int q) [("persons", .int k)] = ([("persons", .int k), ("questions", .int q)] : List (Str × V)) := put_new (ns := ["persons"]) rfl (by decide +kernel)
  have e3 : putF "rows" (.ref r) [("persons", .int k), ("questions", .int q)] = ([("persons", .int k), ("questions", .int q), ("rows", .ref r)] : List (Str × V)) := put_new (ns := ["persons", "questions"]) rfl (by decide +kernel)
  have e4 : putF "much" (.ref m) [("persons", .int k), ("questions", .int q), ("rows", .ref r)] = ([("persons", .int k), ("questions", .int q), ("rows", .ref r), ("much", .ref m)] : List (Str × V)) := put_new (ns := ["persons", "questions", "rows"]) rfl (by decide +kernel)
  rw [e1, e2, e3, e4]
  exact put_new (ns := ["persons", "questions", "rows", "much"]) rfl (by decide +kernel)
/-- rows by their places -/
def RowsIn (H : Hp) (r : Addr) (k q : Nat) : Prop := ∃ ys : List V, H r = some (.lst ys) ∧ ys.length = q ^ k ∧ ∀ (i : Nat) (y : V), ys[i]? = some y → ∃ a, y = .ref a ∧ H a = some (.lst (nL (Mx.rowAt q k i)))
theorem RowsIn.same {H H' : Hp} {r : Addr} {k q : Nat} (h : RowsIn H r k q) (s : Same H H') : RowsIn H' r k q := by
  obtain ⟨ys, h1, h2, h3⟩ := h
  exact ⟨ys, s _ _ h1, h2, fun i y hy => let ⟨a, e, h⟩ := h3 i y hy; ⟨a, e, s _ _ h⟩⟩
/-- a game that is read -/
def GameR (CG : Addr) (H : Hp) (a : Addr) (g : Abs) : Prop := ∃ dx r m w, H a = some (.ins CG dx (gF g.k g.q r m w)) ∧ H m = some (.lst (nL g.counts)) ∧ H w = some (.lst (nL g.wins)) ∧ RowsIn H r g.k g.q
theorem GameR.same {CG : Addr} {H H' : Hp} {a : Addr} {g : Abs} (h : GameR CG H a g) (s : Same H H') : GameR CG H' a g := by
  obtain ⟨dx, r, m, w, h1, h2, h3, h4⟩ := h
  exact ⟨dx, r, m, w, s _ _ h1, s _ _ h2, s _ _ h3, h4.same s⟩
/-! ## refusals -/
section
variable {P : Program} {w : World} {K : PySem.W.Frag} {mg : Str → Option Value} {base : Heap} {CR CG CS CD aON aSH aDE : Addr}
/-- a refusal with a code leaves -/
def Refuse (CR : Addr) (E : XK) (H : Hp) (c : Int) : Prop := ∀ d H', Same H H' → H d = none → H' d = some (.xd [("code", .int c)]) → E (.ref CR) (some d) H'
theorem Refuse.of {CR : Addr} {E : XK} {H H1 : Hp} {c : Int} (h : Refuse CR E H c) (s : Same H H1) : Refuse CR E H1 c := fun d H' s1 hd h1 => h d H' (Same.trans s s1) (Same.free s hd) h1
def sp_ref (K : PySem.W.Frag) (CR : Addr) : Sp := fun vs H Q _ => ∃ (a : Addr) (v : V), vs = [.ref a, v] ∧ H a = some (exo a CR none) ∧ ∀ dx, H dx = none → dx ≠ a → Q .non (upd (upd H dx (exd dx [("code", v)])) a (exo a CR (some dx)))
theorem c_Refused_init (T : Top K mg CR CG CS CD aON aSH aDE) : RefG CX0 P w K mg base 1 CR (sp_ref K CR) := by
  obtain ⟨f, fd, h1, h2, F, b⟩ := T.i_Refused.ex
  refine ⟨f, fd, _, h1, h2, F.ok sc_Refused_init (fun vs H Q E h => by obtain ⟨a, v, rfl, _⟩ := h; rfl) (fun cdv A outer s H vs Q E hr h => ⟨_, (pss_one (ps_ost (pv 0) (pv 1))), ?_⟩), b⟩
  obtain ⟨a, v, rfl, h⟩ := h
  obtain ⟨ha, k⟩ := h
  exact ⟨_, rfl, _, rfl, a, CR, rfl, T.oex, T.noCode, .inl ⟨ha, fun dx hd hne => k dx hd hne⟩⟩
def sp_need (CR : Addr) : Sp := fun vs H Q E => ∃ (b : Bool) (c : Int), vs = [.bl b, .int c] ∧ (b = true → Q .non H) ∧ (b = false → Refuse CR E H c)
theorem c_need (T : Top K mg CR CG CS CD aON aSH aDE) : CalG (L2.CX P w) P w K mg base 3 "need" (sp_need CR) := by
  obtain ⟨f, fd, hg, hk, F, b⟩ := T.d_need.ex
  refine ⟨f, fd, _, F.okX sc_need (fun vs H Q E h => by obtain ⟨b, c, rfl, _⟩ := h; rfl) (fun cdv A outer s H vs Q E hr h => ⟨_, (pss_one (ps_if (pt_not (pt_val (pv 0))) (pss_one (ps_raise rfl (takes_of rfl rfl rfl rfl) (pmk_ref T.oex T.g_Refused (c_Refused_init T) hr (by decide) rfl (pa_cons (pv 1) pa_nil)))) pss_nil)), ?_⟩), hg, hk, b⟩
  obtain ⟨b, c, rfl, h⟩ := h
  obtain ⟨k1, k2⟩ := h
  refine ⟨_, rfl, _, rfl, ?_⟩
  cases b with
  | true => exact iteF (k1 rfl)
  | false =>
    refine iteT ⟨_, rfl, by simp, fun a ha => ⟨a, _, rfl, upd_same, fun dx hd hne => ⟨rfl, dx, [("code", .int c)], upd_same, ?_, ?_, ?_⟩⟩⟩
    · rw [upd_ne hne, upd_same]
    · rw [upd_ne hne] at hd
      exact hd
    · rw [upd_ne hne] at hd
      refine k2 rfl dx _ (fun b o e => ?_) hd upd_same
      have h1 : b ≠ dx := ne_of_none e hd
      have h2 : b ≠ a := ne_of_none e ha
      rw [upd_ne h1, del_ne h2, upd_ne h2, upd_ne h1, upd_ne h2]
      exact e
end
end Ss
namespace Ss
open PySem PySem.Spec PyProof.Rows L2
open Su173 (Spin)
open Su175 (Abs)
/-! ## games -/
section
variable {P : Program} {w : World} {K : PySem.W.Frag} {mg : Str → Option Value} {base : Heap} {CR CG CS CD aON aSH aDE : Addr}
/-- new rows, none of them at A -/
def RowsFar (H H' : Hp) (A : List Addr) (D : Addr) (k q : Nat) : Prop := H D = none ∧ D ∉ A ∧ ∃ ys : List V, H' D = some (.lst ys) ∧ ys.length = q ^ k ∧ ∀ (i : Nat) (y : V), ys[i]? = some y → ∃ a, y = .ref a ∧ H a = none ∧ a ∉ A ∧ H' a = some (.lst (nL (Mx.rowAt q k i)))
def sp_Game_init (CG : Addr) : Sp := fun vs H Q _ => ∃ (p : Addr) (k q : Nat) (dx : Addr), vs = [.ref p, .int k, .int q] ∧ H p = some (.ins CG dx []) ∧ k ≤ 4 ∧ 0 < q ∧ q ≤ 3 ∧
  ∀ (H' : Hp) (D M W : Addr), H' p = some (.ins CG dx (gF k q D M W)) → H' M = some (.lst (nL (List.replicate (q ^ k) 1))) → H' W = some (.lst (nL (List.replicate (q ^ k) 0))) → RowsFar H H' [p, M, W] D k q →
    H M = none → H W = none → M ≠ W → (∀ b o, H b = some o → b ≠ p → H' b = some o) → Q .non H'
theorem c_Game_init (T : Top K mg CR CG CS CD aON aSH aDE) : MakG CX0 P w K mg base 3 "Game" CG (sp_Game_init CG) := by
  obtain ⟨f, fd, hm, F, b⟩ := T.i_Game.ex
  refine ⟨f, fd, _, hm, F.ok sc_Game_init (fun vs H Q E h => by obtain ⟨p, k, q, dx, rfl, _⟩ := h; rfl) (fun cdv A outer s H vs Q E hr h => ⟨_, (pss_cons (ps_fld (pv 0) (pv 1) rfl)
    (pss_cons (ps_fld (pv 0) (pv 2) rfl)
    (pss_cons (ps_fld (pv 0) (pe_cg (c_all_rows T) hr (by decide) rfl pass0 (pa_cons (pv 1) (pa_cons (pv 2) pa_nil))) rfl)
    (pss_cons (ps_fld (pv 0) (pe_op op_rep (pe_lst (pa_cons pe_int pa_nil)) (pe_callB call_len_seq (by rfl) T.b_len boot_flen (pa_cons (pe_fld (pv 0) rfl) pa_nil))) rfl)
    (pss_one (ps_fld (pv 0) (pe_op op_rep (pe_lst (pa_cons pe_int pa_nil)) (pe_callB call_len_seq (by rfl) T.b_len boot_flen (pa_cons (pe_fld (pv 0) rfl) pa_nil))) rfl)))))), ?_⟩), T.g_Game, b⟩
  obtain ⟨p, k, q, dx, rfl, h⟩ := h
  obtain ⟨hp, hk, hq0, hq, kk⟩ := h
  have hb := pow81 hk hq
  refine ⟨_, rfl, _, rfl, p, CG, dx, _, rfl, hp, T.cl_Game, T.n_Game_persons, (by show 0 < 1000; decide), ?_⟩
  refine ⟨_, rfl, _, rfl, p, CG, dx, _, rfl, upd_same, T.cl_Game, T.n_Game_questions, (by show 1 < 1000; decide), ?_⟩
  rw [upd_upd]
  refine ⟨_, rfl, _, rfl, k, q, rfl, hk, hq0, hq, fun D H1 s1 hR => ?_⟩
  obtain ⟨hD, ys, hy, hyl, hyr⟩ := hR
  have hpD : D ≠ p := fun e => by rw [e, upd_same] at hD; cases hD
  have hD0 : H D = none := by rw [upd_ne hpD] at hD; exact hD
  have p1 := s1 p _ upd_same
  refine ⟨_, rfl, p, CG, dx, _, rfl, p1, T.cl_Game, T.n_Game_rows, (by show 2 < 1000; decide), ?_⟩
  -- much
  refine ⟨(by show 1 ≤ sizeLine; decide), fun u1 hu1 => ?_⟩
  have q1 : u1 ≠ p := fun e => by rw [e, upd_same] at hu1; cases hu1
  have q1D : u1 ≠ D := fun e => by rw [e, upd_ne hpD, hy] at hu1; cases hu1
  refine ⟨_, rfl, p, CG, dx, _, _, rfl, (by rw [upd_ne (Ne.symm q1), upd_same]), T.cl_Game, T.n_Game_rows, ?_, D, ys, rfl, .inl (SqL.of (by rw [upd_ne (Ne.symm q1D), upd_ne hpD]; exact hy)), u1, _, _, rfl, rfl, upd_same, by omega, by omega, by rw [sizeLine_eq]; show 1 * ((ys.length : Nat) : Int).toNat ≤ _; omega, fun M hM => ?_⟩
  · rw [lookup_putF, if_pos rfl]
  rw [show ((ys.length : Nat) : Int).toNat = q ^ k from by omega, flat_rep1]
  have mu : M ≠ u1 := fun e => by rw [e, upd_same] at hM; cases hM
  have mp : M ≠ p := fun e => by rw [e, upd_ne (Ne.symm q1), upd_same] at hM; cases hM
  have mD : M ≠ D := fun e => by rw [e, upd_ne (Ne.symm q1D), upd_ne hpD, hy] at hM; cases hM
  have m1 : H1 M = none := by rw [upd_ne mu, upd_ne mp] at hM; exact hM
  refine ⟨_, rfl, p, CG, dx, _, rfl, (by rw [upd_ne (Ne.symm mp), upd_ne (Ne.symm q1), upd_same]), T.cl_Game, T.n_Game_much, (by show 3 < 1000; decide), ?_⟩
  -- winning
  refine ⟨(by show 1 ≤ sizeLine; decide), fun u2 hu2 => ?_⟩
  have r2 : u2 ≠ p := fun e => by rw [e, upd_same] at hu2; cases hu2
  have r2M : u2 ≠ M := fun e => by rw [e, upd_ne mp, upd_same] at hu2; cases hu2
  have r2D : u2 ≠ D := fun e => by rw [e, upd_ne hpD, upd_ne (Ne.symm mD), upd_ne (Ne.symm q1D), upd_ne hpD, hy] at hu2; cases hu2
  refine ⟨_, rfl, p, CG, dx, _, _, rfl, (by rw [upd_ne (Ne.symm r2), upd_same]), T.cl_Game, T.n_Game_rows, ?_, D, ys, rfl, .inl (SqL.of (by rw [upd_ne (Ne.symm r2D), upd_ne hpD, upd_ne (Ne.symm mD), upd_ne (Ne.symm q1D), upd_ne hpD]; exact hy)), u2, _, _, rfl, rfl, upd_same, by omega, by omega, by rw [sizeLine_eq]; show 1 * ((ys.length : Nat) : Int).toNat ≤ _; omega, fun W hW => ?_⟩
  · rw [lookup_putF, if_neg (by decide +kernel), lookup_putF, if_pos rfl]
  rw [show ((ys.length : Nat) : Int).toNat = q ^ k from by omega, flat_rep0]
  have wu : W ≠ u2 := fun e => by rw [e, upd_same] at hW; cases hW
  have wp : W ≠ p := fun e => by rw [e, upd_ne (Ne.symm r2), upd_same] at hW; cases hW
  have wM : W ≠ M := fun e => by rw [e, upd_ne (Ne.symm r2M), upd_ne mp, upd_same] at hW; cases hW
  have wD : W ≠ D := fun e => by rw [e, upd_ne (Ne.symm r2D), upd_ne hpD, upd_ne (Ne.symm mD), upd_ne (Ne.symm q1D), upd_ne hpD, hy] at hW; cases hW
  have w4 : upd (upd (upd H1 p (.ins CG dx (putF "rows" (.ref D) (putF "questions" (.int q) (putF "persons" (.int k) []))))) u1 (.lst [.int 1])) M (.lst (nL (List.replicate (q ^ k) 1))) W = none := by
    rw [upd_ne wu, upd_ne wp] at hW
    exact hW
  have wu1 : W ≠ u1 := fun e => by rw [e, upd_ne (Ne.symm mu), upd_same] at w4; cases w4
  have w1 : H1 W = none := by rw [upd_ne wM, upd_ne wu1, upd_ne wp] at w4; exact w4
  refine ⟨_, rfl, p, CG, dx, _, rfl, (by rw [upd_ne (Ne.symm wp), upd_ne (Ne.symm r2), upd_same]), T.cl_Game, T.n_Game_winning, (by show 4 < 1000; decide), ?_⟩
  have back : ∀ {b : Addr} {o : HO}, H1 b = some o → b ≠ p → upd (upd (upd (upd (upd (upd (upd H1 p (.ins CG dx (putF "rows" (.ref D) (putF "questions" (.int q) (putF "persons" (.int k) []))))) u1 (.lst [.int 1])) M (.lst (nL (List.replicate (q ^ k) 1)))) p (.ins CG dx (putF "much" (.ref M) (putF "rows" (.ref D) (putF "questions" (.int q) (putF "persons" (.int k) [])))))) u2 (.lst [.int 0])) W (.lst (nL (List.replicate (q ^ k) 0)))) p (.ins CG dx (putF "winning" (.ref W) (putF "much" (.ref M) (putF "rows" (.ref D) (putF "questions" (.int q) (putF "persons" (.int k) [])))))) b = some o := fun {b o} e hbp => by
    have h1 : b ≠ u1 := fun z => by rw [z] at e; rw [upd_ne q1, e] at hu1; cases hu1
    have h2 : b ≠ M := fun z => by rw [z, m1] at e; cases e
    have h3 : b ≠ W := fun z => by rw [z, w1] at e; cases e
    have h4 : b ≠ u2 := fun z => by rw [z] at e; rw [upd_ne r2, upd_ne r2M, upd_ne (z ▸ h1), upd_ne r2, e] at hu2; cases hu2
    rw [upd_ne hbp, upd_ne h3, upd_ne h4, upd_ne hbp, upd_ne h2, upd_ne h1, upd_ne hbp]
    exact e
  have fr : ∀ {b : Addr}, H1 b = none → b ≠ p → H b = none := fun {b} e hbp => by
    cases z : H b with
    | none => rfl
    | some o =>
      rw [s1 b o (by rw [upd_ne hbp]; exact z)] at e
      cases e
  refine kk _ D M W ?_ ?_ ?_ ⟨hD0, ?_, ys, back hy hpD, hyl, fun i y hi => ?_⟩ (fr m1 mp) (fr w1 wp) (Ne.symm wM) fun b o e hbp => back (s1 b o (by rw [upd_ne hbp]; exact e)) hbp
  · rw [upd_same, gF_new]
  · rw [upd_ne mp, upd_ne (Ne.symm wM), upd_ne (Ne.symm r2M), upd_ne mp, upd_same]
  · rw [upd_ne wp, upd_same]
  · simp only [List.mem_cons, List.not_mem_nil, or_false, not_or]
    exact ⟨hpD, Ne.symm mD, Ne.symm wD⟩
  · obtain ⟨a, rfl, ha, haD, har⟩ := hyr i y hi
    have hap : a ≠ p := fun e => by rw [e, upd_same] at ha; cases ha
    rw [upd_ne hap] at ha
    refine ⟨a, rfl, ha, ?_, back har hap⟩
    simp only [List.mem_cons, List.not_mem_nil, or_false, not_or]
    exact ⟨hap, (fun e => by rw [e, m1] at har; cases har), (fun e => by rw [e, w1] at har; cases har)⟩
def sp_place_asked (CG CR : Addr) (K : PySem.W.Frag) : Sp := fun vs H Q E => ∃ (p a : Addr) (g : Abs) (xs : List Nat), vs = [.ref p, .ref a] ∧ GameR CG H p g ∧ Mx.GOk g ∧ SqL K H a (nL xs) ∧ xs.length ≤ 100 ∧
  (g.asked xs = true → ∀ H', Same H H' → Q (.int (Su175.code g.q xs)) H') ∧ (g.asked xs = false → Refuse CR E H (-22))
theorem c_Game_place_asked (T : Top K mg CR CG CS CD aON aSH aDE) : MetG (L2.CX P w) P w K mg base 4 CG "place_asked" (sp_place_asked CG CR K) := by
  obtain ⟨f, fd, hm, F, b⟩ := T.m_Game_place_asked.ex
  refine ⟨f, fd, _, T.cl_Game, hm, F.okX sc_Game_place_asked (fun vs H Q E h => by obtain ⟨p, a, g, xs, rfl, _⟩ := h; rfl) (fun cdv A outer s H vs Q E hr h => ⟨_, (pss_cons (ps_expr (pe_cg (c_need T) hr (by decide) rfl (passes_call (takes_of rfl rfl rfl rfl) (fun _ _ _ _ h => h)) (pa_cons (pe_cg (c_is_asked T) hr (by decide) rfl pass0 (pa_cons (pv 1) (pa_cons (pe_fld (pv 0) rfl) (pa_cons (pe_fld (pv 0) rfl) pa_nil)))) (pa_cons (pe_gk rfl T.k_NOT_AS_TOLD) pa_nil))))
    (pss_one (ps_ret (pe_cg (c_place_of T) hr (by decide) rfl pass0 (pa_cons (pv 1) (pa_cons (pe_fld (pv 0) rfl) pa_nil)))))), ?_⟩), b⟩
  obtain ⟨p, a, g, xs, rfl, h⟩ := h
  obtain ⟨hG, ok, hS, hl, k1, k2⟩ := h
  obtain ⟨dx, r, m, w, hp, _⟩ := hG
  refine ⟨_, rfl, _, rfl, p, CG, dx, _, _, rfl, hp, T.cl_Game, T.n_Game_persons, gF_persons, _, rfl, p, CG, dx, _, _, rfl, hp, T.cl_Game, T.n_Game_questions, gF_questions, a, xs, g.k, g.q, rfl, hS, hl, fun H1 s1 => ⟨_, _, rfl, fun c => ?_, fun c => (k2 c).of s1⟩⟩
  have c' := Mx.okRow_iff.mp c
  have hp1 := s1 _ _ hp
  exact ⟨_, rfl, _, rfl, p, CG, dx, _, _, rfl, hp1, T.cl_Game, T.n_Game_questions, gF_questions, a, xs, g.q, rfl, Same.seq s1 hS, (by have := c'.1; have := ok.k4; omega), ok.q3, c'.2, fun H2 s2 => k1 c H2 (Same.trans s1 s2)⟩
def sp_answer_rows (CG : Addr) : Sp := fun vs H Q _ => ∃ (p : Addr) (g : Abs), vs = [.ref p] ∧ GameR CG H p g ∧ Mx.GOk g ∧ Q (.int (2 ^ g.k : Nat)) H
theorem shl1 (k : Nat) : (1 : Int) * 2 ^ ((k : Int)).toNat = ((2 ^ k : Nat) : Int) := by
  have := powN 1 k
  rw [Nat.one_mul] at this
  exact this
theorem c_Game_answer_rows (T : Top K mg CR CG CS CD aON aSH aDE) : MetG CX0 P w K mg base 1 CG "answer_rows" (sp_answer_rows CG) := by
  obtain ⟨f, fd, hm, F, b⟩ := T.m_Game_answer_rows.ex
  refine ⟨f, fd, _, T.cl_Game, hm, F.ok sc_Game_answer_rows (fun vs H Q E h => by obtain ⟨p, g, rfl, _⟩ := h; rfl) (fun cdv A outer s H vs Q E hr h => ⟨_, (pss_one (ps_ret (pe_op op_shl pe_int (pe_fld (pv 0) rfl)))), ?_⟩), b⟩
  obtain ⟨p, g, rfl, h⟩ := h
  obtain ⟨⟨dx, r, m, w, hp, _⟩, ok, k⟩ := h
  have := ok.k4
  exact ⟨_, rfl, p, CG, dx, _, _, rfl, hp, T.cl_Game, T.n_Game_persons, gF_persons, _, _, rfl, rfl, ⟨by omega, by omega, by decide⟩, qe k (ve (shl1 g.k))⟩
def sp_set_winning (CG : Addr) : Sp := fun vs H Q _ => ∃ (p : Addr) (n x k q : Nat) (dx r m w : Addr) (ws : List Nat), vs = [.ref p, .int n, .int x] ∧ H p = some (.ins CG dx (gF k q r m w)) ∧ H w = some (.lst (nL ws)) ∧ n < ws.length ∧ Q .non (upd H w (.lst (nL (ws.set n x))))
theorem ixN_lt {n i : Nat} (h : i < n) : ixN n (i : Int) = some i := by
  unfold ixN
  rw [if_pos (by omega), if_pos (by omega)]
  rfl
theorem nL_set (ws : List Nat) (n x : Nat) : (nL ws).set n (.int x) = nL (ws.set n x) := by simp [nL, List.map_set]
theorem c_Game_set_winning (T : Top K mg CR CG CS CD aON aSH aDE) : MetG CX0 P w K mg base 1 CG "set_winning" (sp_set_winning CG) := by
  obtain ⟨f, fd, hm, F, b⟩ := T.m_Game_set_winning.ex
  refine ⟨f, fd, _, T.cl_Game, hm, F.ok sc_Game_set_winning (fun vs H Q E h => by obtain ⟨p, n, x, k, q, dx, r, m, w, ws, rfl, _⟩ := h; rfl) (fun cdv A outer s H vs Q E hr h => ⟨_, (pss_one (ps_asg (pv 2) (pg_sub (pe_fld (pv 0) rfl) (pv 1) set_list))), ?_⟩), b⟩
  obtain ⟨p, n, x, k, q, dx, r, m, w, ws, rfl, h⟩ := h
  obtain ⟨hp, hw, hn, kk⟩ := h
  refine ⟨_, rfl, _, rfl, p, CG, dx, _, _, rfl, hp, T.cl_Game, T.n_Game_winning, gF_winning, _, rfl, w, _, _, n, rfl, rfl, hw, ixN_lt (by rw [nL_len]; exact hn), ?_⟩
  rw [nL_set]
  exact kk
def sp_set_much (CG : Addr) : Sp := fun vs H Q _ => ∃ (p : Addr) (n x k q : Nat) (dx r m w : Addr) (ws : List Nat), vs = [.ref p, .int n, .int x] ∧ H p = some (.ins CG dx (gF k q r m w)) ∧ H m = some (.lst (nL ws)) ∧ n < ws.length ∧ Q .non (upd H m (.lst (nL (ws.set n x))))
theorem c_Game_set_much (T : Top K mg CR CG CS CD aON aSH aDE) : MetG CX0 P w K mg base 1 CG "set_much" (sp_set_much CG) := by
  obtain ⟨f, fd, hm, F, b⟩ := T.m_Game_set_much.ex
  refine ⟨f, fd, _, T.cl_Game, hm, F.ok sc_Game_set_much (fun vs H Q E h => by obtain ⟨p, n, x, k, q, dx, r, m, w, ws, rfl, _⟩ := h; rfl) (fun cdv A outer s H vs Q E hr h => ⟨_, (pss_one (ps_asg (pv 2) (pg_sub (pe_fld (pv 0) rfl) (pv 1) set_list))), ?_⟩), b⟩
  obtain ⟨p, n, x, k, q, dx, r, m, w, ws, rfl, h⟩ := h
  obtain ⟨hp, hw, hn, kk⟩ := h
  refine ⟨_, rfl, _, rfl, p, CG, dx, _, _, rfl, hp, T.cl_Game, T.n_Game_much, gF_much, _, rfl, m, _, _, n, rfl, rfl, hw, ixN_lt (by rw [nL_len]; exact hn), ?_⟩
  rw [nL_set]
  exact kk
def sp_all_much (CG : Addr) : Sp := fun vs H Q _ => ∃ (p : Addr) (g : Abs), vs = [.ref p] ∧ GameR CG H p g ∧ Q (.int g.total) H
theorem c_Game_all_much (T : Top K mg CR CG CS CD aON aSH aDE) : MetG CX0 P w K mg base 1 CG "all_much" (sp_all_much CG) := by
  obtain ⟨f, fd, hm, F, b⟩ := T.m_Game_all_much.ex
  refine ⟨f, fd, _, T.cl_Game, hm, F.ok sc_Game_all_much (fun vs H Q E h => by obtain ⟨p, g, rfl, _⟩ := h; rfl) (fun cdv A outer s H vs Q E hr h => ⟨_, (pss_one (ps_ret (pe_callB (cr_sum rfl) (by rfl) T.b_sum boot_fsum (pa_cons (pe_fld (pv 0) rfl) pa_nil)))), ?_⟩), b⟩
  obtain ⟨p, g, rfl, h⟩ := h
  obtain ⟨⟨dx, r, m, w, hp, hm, _⟩, k⟩ := h
  exact ⟨_, rfl, p, CG, dx, _, _, rfl, hp, T.cl_Game, T.n_Game_much, gF_much, m, _, rfl, SqL.of hm, qe k (ve (sumN _))⟩
def sp_wins_at (CG : Addr) : Sp := fun vs H Q _ => ∃ (p : Addr) (g : Abs) (i n : Nat), vs = [.ref p, .int i, .int n] ∧ GameR CG H p g ∧ i < g.wins.length ∧ Q (.int (Mx.winAt g i n)) H
theorem c_Game_wins_at (T : Top K mg CR CG CS CD aON aSH aDE) : MetG CX0 P w K mg base 1 CG "wins_at" (sp_wins_at CG) := by
  obtain ⟨f, fd, hm, F, b⟩ := T.m_Game_wins_at.ex
  refine ⟨f, fd, _, T.cl_Game, hm, F.ok sc_Game_wins_at (fun vs H Q E h => by obtain ⟨p, g, i, n, rfl, _⟩ := h; rfl) (fun cdv A outer s H vs Q E hr h => ⟨_, (pss_one (ps_ret (pe_op op_and (pe_op op_shr (pe_ix ix_list (pe_fld (pv 0) rfl) (pv 1) (fun _ _ => rfl)) (pv 2)) pe_int))), ?_⟩), b⟩
  obtain ⟨p, g, i, n, rfl, h⟩ := h
  obtain ⟨⟨dx, r, m, w, hp, hm, hw, _⟩, hi, k⟩ := h
  exact ⟨_, rfl, p, CG, dx, _, _, rfl, hp, T.cl_Game, T.n_Game_winning, gF_winning, _, rfl, w, _, _, _, rfl, rfl, SqL.of hw, nL_ix hi, _, rfl, _, _, rfl, rfl, by omega, _, _, rfl, rfl, qe k (ve (bitN _ _))⟩
theorem isumNN {n : Nat} {F : Nat → Int} (h : ∀ i, i < n → 0 ≤ F i) : 0 ≤ Mx.isum (List.range n) F := Mx.isum_nonneg fun i hi => h i (List.mem_range.mp hi)
def sp_which_with (CG : Addr) : Sp := fun vs H Q _ => ∃ (p : Addr) (g : Abs) (s : Nat), vs = [.ref p, .int s] ∧ GameR CG H p g ∧ Mx.GOk g ∧ ∀ H', Same H H' → Q (.int (Su175.oddMask g.k s)) H'
theorem c_Game_which_with (T : Top K mg CR CG CS CD aON aSH aDE) : MetG CX0 P w K mg base 4 CG "which_with" (sp_which_with CG) := by
  obtain ⟨f, fd, hm, F, b⟩ := T.m_Game_which_with.ex
  refine ⟨f, fd, _, T.cl_Game, hm, F.ok sc_Game_which_with (fun vs H Q E h => by obtain ⟨p, g, s, rfl, _⟩ := h; rfl) (fun cdv A outer s H vs Q E hr h => ⟨_, (pss_cons (ps_set (i := 2) sc_Game_which_with.nd rfl (Or.inl rfl) pe_int)
    (pss_cons (ps_for PassesOwn.never rfl (pi_range1 (by rfl) T.b_range (pa_cons (pe_mg0 (c_Game_answer_rows T) hr (by decide) pass0 (pv 0)) pa_nil)) (pg_name (i := 3) sc_Game_which_with.nd rfl (Or.inl rfl)) (pss_one (ps_if (pt_cmpR op_eq (pe_cg (c_odd_of T) hr (by decide) rfl pass0 (pa_cons (pv 3) (pa_cons (pe_fld (pv 0) rfl) pa_nil))) (pv 1) (nomark _)) (pss_one (ps_set (i := 2) sc_Game_which_with.nd rfl (Or.inl rfl) (pe_op op_add (pv 2) (pe_op op_shl pe_int (pv 3))))) pss_nil)))
    (pss_one (ps_ret (pv 2))))), ?_⟩), b⟩
  obtain ⟨p, g, s, rfl, h⟩ := h
  obtain ⟨hG, ok, k⟩ := h
  have h16 := ok.k16
  obtain ⟨dx, r, m, w, hp, _⟩ := id hG
  have k4 := ok.k4
  refine ⟨_, rfl, p, dx, _, rfl, hp, gF_not (by decide +kernel), p, g, rfl, hG, ok, _, rfl, rng1 (by omega), rng2 (by omega), ?_⟩
  let F : Nat → Int := fun n => if (Mx.rowAt 2 g.k n).sum % 2 = s then ((2 ^ n : Nat) : Int) else 0
  refine for_it (walk_rng (2 ^ g.k)) (fun i σ H' => Same H H' ∧ ∃ o3 : Option V, σ = [some (.ref p), some (.int s), some (.int (Mx.isum (List.range i) F)), o3]) ⟨Same.refl _, none, rfl⟩ (fun _ _ _ _ _ => trivial) ?_ ?_
  · rintro i v σ H1 H1' hi ⟨s1, o3, rfl⟩ ⟨rfl, rfl⟩
    refine ⟨_, rfl, _, rfl, p, CG, dx, _, _, rfl, s1 _ _ hp, T.cl_Game, T.n_Game_persons, gF_persons, i, g.k, rfl, by omega, fun H2 s2 => ⟨_, rfl, rfl, _, rfl, ?_⟩⟩
    have hs := Mx.isum_rsucc i F
    refine if2 (fun c => ?_) (fun c => ?_)
    · have c' := viT c
      refine ⟨_, rfl, _, rfl, _, _, rfl, rfl, ⟨by omega, by omega, by decide⟩, _, _, rfl, rfl, Same.trans s1 s2, some (.int i), ?_⟩
      rw [hs, show F i = ((2 ^ i : Nat) : Int) from if_pos c', ← shl1]
      rfl
    · have c' := viF c
      refine ⟨Same.trans s1 s2, some (.int i), ?_⟩
      rw [hs, show F i = 0 from if_neg c', Int.add_zero]
      rfl
  · rintro σ H1 ⟨s1, o3, rfl⟩
    exact ⟨_, rfl, qe (k H1 s1) (ve (Mx.oddMask_law g.k s).symm)⟩
def sp_plan_size (CG : Addr) : Sp := fun vs H Q _ => ∃ (p : Addr) (g : Abs), vs = [.ref p] ∧ GameR CG H p g ∧ Mx.GOk g ∧ Q (.int (g.k * g.q : Nat)) H
theorem c_plan_size (T : Top K mg CR CG CS CD aON aSH aDE) : CalG CX0 P w K mg base 1 "plan_size" (sp_plan_size CG) := by
  obtain ⟨f, fd, hg, hk, F, b⟩ := T.d_plan_size.ex
  refine ⟨f, fd, _, F.ok sc_plan_size (fun vs H Q E h => by obtain ⟨p, g, rfl, _⟩ := h; rfl) (fun cdv A outer s H vs Q E hr h => ⟨_, (pss_one (ps_ret (pe_op op_mul (pe_fld (pv 0) rfl) (pe_fld (pv 0) rfl)))), ?_⟩), hg, hk, b⟩
  obtain ⟨p, g, rfl, h⟩ := h
  obtain ⟨⟨dx, r, m, w, hp, _⟩, ok, k⟩ := h
  have := ok.k4
  exact ⟨_, rfl, p, CG, dx, _, _, rfl, hp, T.cl_Game, T.n_Game_persons, gF_persons, _, rfl, p, CG, dx, _, _, rfl, hp, T.cl_Game, T.n_Game_questions, gF_questions, _, _, rfl, rfl, .inl ⟨by omega, by omega⟩, qe k (ve (by rw [Int.natCast_mul]))⟩
def sp_plan_count (CG : Addr) : Sp := fun vs H Q _ => ∃ (p : Addr) (g : Abs), vs = [.ref p] ∧ GameR CG H p g ∧ Mx.GOk g ∧ Q (.int (2 ^ (g.k * g.q) : Nat)) H
theorem c_plan_count (T : Top K mg CR CG CS CD aON aSH aDE) : CalG CX0 P w K mg base 2 "plan_count" (sp_plan_count CG) := by
  obtain ⟨f, fd, hg, hk, F, b⟩ := T.d_plan_count.ex
  refine ⟨f, fd, _, F.ok sc_plan_count (fun vs H Q E h => by obtain ⟨p, g, rfl, _⟩ := h; rfl) (fun cdv A outer s H vs Q E hr h => ⟨_, (pss_one (ps_ret (pe_op op_shl pe_int (pe_cg (c_plan_size T) hr (by decide) rfl pass0 (pa_cons (pv 0) pa_nil))))), ?_⟩), hg, hk, b⟩
  obtain ⟨p, g, rfl, h⟩ := h
  obtain ⟨hG, ok, k⟩ := h
  have := ok.kq
  exact ⟨_, rfl, p, g, rfl, hG, ok, _, _, rfl, rfl, ⟨by omega, by omega, by decide⟩, qe k (ve (shl1 _))⟩
def sp_is_plan (CG : Addr) (K : PySem.W.Frag) : Sp := fun vs H Q _ => ∃ (p a : Addr) (g : Abs) (xs : List Nat), vs = [.ref p, .ref a] ∧ GameR CG H p g ∧ Mx.GOk g ∧ SqL K H a (nL xs) ∧ xs.length ≤ 100 ∧ ∀ H', Same H H' → Q (.bl (Su175.okRow (g.k * g.q) 2 xs)) H'
theorem c_is_plan (T : Top K mg CR CG CS CD aON aSH aDE) : CalG CX0 P w K mg base 2 "is_plan" (sp_is_plan CG K) := by
  obtain ⟨f, fd, hg, hk, F, b⟩ := T.d_is_plan.ex
  refine ⟨f, fd, _, F.ok sc_is_plan (fun vs H Q E h => by obtain ⟨p, a, g, xs, rfl, _⟩ := h; rfl) (fun cdv A outer s H vs Q E hr h => ⟨_, (pss_one (ps_ret (pe_and (pe_cmpR op_eq (pe_callB call_len_seq (by rfl) T.b_len boot_flen (pa_cons (pv 1) pa_nil)) (pe_cg (c_plan_size T) hr (by decide) rfl pass0 (pa_cons (pv 0) pa_nil)) (nomark _)) (pe_one (pe_cg (c_are_bits T) hr (by decide) rfl pass0 (pa_cons (pv 1) pa_nil)))))), ?_⟩), hg, hk, b⟩
  obtain ⟨p, a, g, xs, rfl, h⟩ := h
  obtain ⟨hG, ok, hS, hl, kk⟩ := h
  refine ⟨_, rfl, _, _, rfl, .inl hS, _, rfl, p, g, rfl, hG, ok, rfl, _, rfl, ?_⟩
  rw [nL_len, dVI]
  refine if2 (fun c => ?_) (fun c => ?_)
  · refine ⟨_, rfl, a, xs, rfl, hS, hl, fun H1 s => ?_⟩
    have := kk H1 s
    unfold Su175.okRow at this
    rw [of_decide_eq_true c] at this
    simpa using this
  · have := kk H (Same.refl _)
    unfold Su175.okRow at this
    rw [show (xs.length == g.k * g.q) = false from by simpa using of_decide_eq_false c] at this
    exact this
def sp_plan_at : Sp := fun vs H Q _ => ∃ (n s : Nat), vs = [.int n, .int s] ∧ s ≤ 100 ∧ ∀ D H', Same H H' → H D = none → H' D = some (.lst (nL (Mx.planAt s n))) → Q (.ref D) H'
theorem c_plan_at (T : Top K mg CR CG CS CD aON aSH aDE) : CalG CX0 P w K mg base 1 "plan_at" (sp_plan_at) := by
  obtain ⟨f, fd, hg, hk, F, b⟩ := T.d_plan_at.ex
  refine ⟨f, fd, _, F.ok sc_plan_at (fun vs H Q E h => by obtain ⟨n, s, rfl, _⟩ := h; rfl) (fun cdv A outer s H vs Q E hr h => ⟨_, (pss_one (ps_ret (pe_lc (own := [("place", 2)]) (g := gName 2) rfl sc_plan_at.nd (pi_range1 (by rfl) T.b_range (pa_cons (pv 1) pa_nil)) (blkOk_by (N := N_plan_at) (sc := defScope s_plan_at) (by decide +kernel)) (fun _ _ _ _ _ => (pg_name (i := 2) sc_plan_at.nd rfl (Or.inl rfl))) (fun _ _ _ _ _ => pts_nil) (fun _ _ _ _ _ => (pe_op op_and (pe_op op_shr (pv 0) (pe_op op_sub (pe_op op_sub (pv 1) pe_int) (pv 2))) pe_int))))), ?_⟩), hg, hk, b⟩
  obtain ⟨n, s, rfl, h⟩ := h
  obtain ⟨hs, k⟩ := h
  refine ⟨_, rfl, _, rfl, (by omega), (by omega), fun D hD => lc_val (walk_rng s) (fun i => .int (n / 2 ^ (s - 1 - i) % 2 : Nat)) (by omega) hD (fun _ _ => trivial) ?_ ?_⟩
  · rintro i x H1 H' Q' hi s1 _ ⟨rfl, rfl⟩ hk
    refine ⟨rfl, _, rfl, _, rfl, _, _, rfl, rfl, _, rfl, _, _, rfl, rfl, _, _, rfl, rfl, (by omega), _, _, rfl, rfl, qe (hk _ (Same.refl _)) (ve ?_)⟩
    rw [show ((s : Int) - 1 - (i : Int)) = ((s - 1 - i : Nat) : Int) from by omega]
    exact bitN _ _
  · intro H1 s1 hy
    refine k D H1 s1 hD ?_
    rw [hy]
    simp [nL, Mx.planAt]
def sp_answers_by (CG : Addr) (K : PySem.W.Frag) : Sp := fun vs H Q _ => ∃ (p a b : Addr) (g : Abs) (f x : List Nat), vs = [.ref p, .ref a, .ref b] ∧ GameR CG H p g ∧ Mx.GOk g ∧ SqL K H a (nL f) ∧ Mx.Cf (g.k * g.q) f ∧ SqL K H b (nL x) ∧ x.length = g.k ∧ (∀ i, i < g.k → x.getD i 0 < g.q) ∧
  Q (.int (Su175.code 2 (Mx.ansRow g.k g.q f x))) H
theorem c_answers_by (T : Top K mg CR CG CS CD aON aSH aDE) : CalG CX0 P w K mg base 1 "answers_by" (sp_answers_by CG K) := by
  obtain ⟨f, fd, hg, hk, F, b⟩ := T.d_answers_by.ex
  refine ⟨f, fd, _, F.ok sc_answers_by (fun vs H Q E h => by obtain ⟨p, a, b', g, f', x, rfl, _⟩ := h; rfl) (fun cdv A outer s H vs Q E hr h => ⟨_, (pss_cons (ps_set (i := 3) sc_answers_by.nd rfl (Or.inl rfl) pe_int)
    (pss_cons (ps_for PassesOwn.never rfl (pi_range1 (by rfl) T.b_range (pa_cons (pe_fld (pv 0) rfl) pa_nil)) (pg_name (i := 4) sc_answers_by.nd rfl (Or.inl rfl)) (pss_one (ps_set (i := 3) sc_answers_by.nd rfl (Or.inl rfl) (pe_op op_add (pv 3) (pe_op op_shl (pe_ix ix_list (pv 1) (pe_op op_add (pe_op op_mul (pv 4) (pe_fld (pv 0) rfl)) (pe_ix ix_list (pv 2) (pv 4) (fun _ _ => rfl))) (fun _ _ => rfl)) (pv 4))))))
    (pss_one (ps_ret (pv 3))))), ?_⟩), hg, hk, b⟩
  obtain ⟨p, a, b', g, f', x, rfl, h⟩ := h
  obtain ⟨hG, ok, hf, hcf, hx, hxl, hxq, kk⟩ := h
  obtain ⟨dx, r, m, w, hp, _⟩ := id hG
  have k4 := ok.k4
  have q3 := ok.q3
  refine ⟨_, rfl, p, CG, dx, _, _, rfl, hp, T.cl_Game, T.n_Game_persons, gF_persons, _, rfl, by omega, by omega, ?_⟩
  refine for_it (walk_rng g.k) (fun i σ H' => H' = H ∧ ∃ o4 : Option V, σ = [some (.ref p), some (.ref a), some (.ref b'), some (.int (Su175.code 2 (Mx.ansRow i g.q f' x))), o4]) ⟨rfl, none, rfl⟩ (fun _ _ _ _ _ => trivial) ?_ ?_
  · rintro i v σ H1 H1' hi ⟨rfl, o4, rfl⟩ ⟨rfl, rfl⟩
    have hxi := hxq i hi
    have hq : i * g.q + x.getD i 0 < g.k * g.q := by
      have : (i + 1) * g.q ≤ g.k * g.q := Nat.mul_le_mul_right _ hi
      rw [Nat.succ_mul] at this
      omega
    have hfl : i * g.q + x.getD i 0 < f'.length := by rw [hcf.1]; exact hq
    have hb : f'.getD (i * g.q + x.getD i 0) 0 ≤ 1 := Mx.getD_le hcf.2 _
    have hat : atI (nL f') ((i : Int) * (g.q : Int) + ((x.getD i 0 : Nat) : Int)) = some (.int (f'.getD (i * g.q + x.getD i 0) 0 : Nat)) := by
      rw [show ((i : Int) * (g.q : Int) + ((x.getD i 0 : Nat) : Int)) = ((i * g.q + x.getD i 0 : Nat) : Int) from by rw [Int.natCast_add, Int.natCast_mul]]
      exact nL_ix hfl
    refine ⟨_, rfl, _, rfl, _, rfl, _, rfl, p, CG, dx, _, _, rfl, hp, T.cl_Game, T.n_Game_questions, gF_questions, _, _, rfl, rfl, .inl ⟨by omega, by omega⟩, _, rfl, _, rfl, b', _, _, _, rfl, rfl, hx, nL_ix (by omega), _, _, rfl, rfl, a, _, _, _, rfl, rfl, hf, hat, _, rfl, _, _, rfl, rfl, ⟨by omega, by omega, by omega⟩, _, _, rfl, rfl, rfl, some (.int i), ?_⟩
    · have e : Mx.ansRow (i + 1) g.q f' x = Mx.ansRow i g.q f' x ++ [f'.getD (i * g.q + x.getD i 0) 0] := range_snoc _ _
      rw [e, Mx.code_snoc, show (Mx.ansRow i g.q f' x).length = i from by simp [Mx.ansRow], Int.natCast_add, ← powN]
      rfl
  · rintro σ H1 ⟨rfl, o4, rfl⟩
    exact ⟨_, rfl, kk⟩
def sp_won_by (CG : Addr) (K : PySem.W.Frag) : Sp := fun vs H Q _ => ∃ (p a : Addr) (g : Abs) (f : List Nat), vs = [.ref p, .ref a] ∧ GameR CG H p g ∧ Mx.GOk g ∧ SqL K H a (nL f) ∧ Mx.Cf (g.k * g.q) f ∧ ∀ H', Same H H' → Q (.int (g.value f)) H'
theorem c_won_by (T : Top K mg CR CG CS CD aON aSH aDE) : CalG CX0 P w K mg base 2 "won_by" (sp_won_by CG K) := by
  obtain ⟨f, fd, hg, hk, F, b⟩ := T.d_won_by.ex
  refine ⟨f, fd, _, F.ok sc_won_by (fun vs H Q E h => by obtain ⟨p, a, g, f', rfl, _⟩ := h; rfl) (fun cdv A outer s H vs Q E hr h => ⟨_, (pss_cons (ps_set (i := 2) sc_won_by.nd rfl (Or.inl rfl) pe_int)
    (pss_cons (ps_for PassesOwn.never rfl (pi_enum (by rfl) T.b_enumerate (pa_cons (pe_fld (pv 0) rfl) pa_nil)) (pg_tup rfl (pgs_cons (pg_name (i := 3) sc_won_by.nd rfl (Or.inl rfl)) (pgs_cons (pg_name (i := 4) sc_won_by.nd rfl (Or.inl rfl)) pgs_nil))) (pss_one (ps_if (pt_cmpR op_eq (pe_mg (c_Game_wins_at T) hr (by decide) pass0 (pv 0) (pa_cons (pv 3) (pa_cons (pe_cg (c_answers_by T) hr (by decide) rfl pass0 (pa_cons (pv 0) (pa_cons (pv 1) (pa_cons (pv 4) pa_nil)))) pa_nil))) pe_int (nomark _)) (pss_one (ps_set (i := 2) sc_won_by.nd rfl (Or.inl rfl) (pe_op op_add (pv 2) (pe_ix ix_list (pe_fld (pv 0) rfl) (pv 3) (fun _ _ => rfl))))) pss_nil)))
    (pss_one (ps_ret (pv 2))))), ?_⟩), hg, hk, b⟩
  obtain ⟨p, a, g, f', rfl, h⟩ := h
  obtain ⟨hG, ok, hf, hcf, kk⟩ := h
  obtain ⟨dx, r, m, w, hp, hm, hw, ys, hr, hrl, hry⟩ := id hG
  have h81 := ok.qk
  let F : Nat → Int := fun p => if Mx.winAt g p (Su175.code 2 (Mx.ansRow g.k g.q f' (Mx.rowAt g.q g.k p))) = 1 then (g.counts.getD p 0 : Int) else 0
  refine ⟨_, rfl, p, CG, dx, _, _, rfl, hp, T.cl_Game, T.n_Game_rows, gF_rows, r, ys, rfl, SqL.of hr, ?_⟩
  refine for_it walk_enum (fun i σ H' => Same H H' ∧ ∃ o3 o4 : Option V, σ = [some (.ref p), some (.ref a), some (.int (Mx.isum (List.range i) F)), o3, o4]) ⟨Same.refl _, none, none, rfl⟩ (fun i σ H' _ h => Same.seq h.1 (SqL.of hr)) ?_ ?_
  · rintro i v σ H1 H1' hi ⟨s1, o3, o4, rfl⟩ ⟨T', x, y, rfl, hT, rfl, hx, hy⟩
    cases hx
    obtain ⟨b', rfl, hb'⟩ := hry i y hy
    rw [hrl] at hi
    have s2 : Same H (upd H1 T' (.tup [.int (i : Nat), .ref b'])) := Same.then s1 hT
    have hrow := Mx.rowAt_len g.q g.k i
    refine ⟨T', _, rfl, SqT.of upd_same, rfl, _, _, rfl, _, _, rfl, rfl, ?_⟩
    refine ⟨_, rfl, p, dx, _, rfl, s2 _ _ hp, gF_not (by decide +kernel), _, rfl, _, rfl, _, rfl, _, rfl, p, a, b', g, f', Mx.rowAt g.q g.k i, rfl, hG.same s2, ok, Same.seq s2 hf, hcf, SqL.of (s2 _ _ hb'), hrow, fun j hj => ?_, p, g, i, _, rfl, hG.same s2, by rw [ok.wl]; exact hi, rfl, _, rfl, ?_⟩
    · have hj' : j < (Mx.rowAt g.q g.k i).length := by rw [hrow]; exact hj
      rw [List.getD_eq_getElem?_getD, List.getElem?_eq_getElem hj']
      exact Mx.rowAt_lt ok.q0 _ _ _ (List.getElem_mem hj')
    · have hs := Mx.isum_rsucc i F
      refine if2 (fun c => ?_) (fun c => ?_)
      · have c' := viT (b := 1) c
        refine ⟨_, rfl, _, rfl, p, CG, dx, _, _, rfl, s2 _ _ hp, T.cl_Game, T.n_Game_much, gF_much, _, rfl, m, _, _, _, rfl, rfl, SqL.of (s2 _ _ hm), nL_ix (by rw [ok.cl]; exact hi), _, _, rfl, rfl, s2, some (.int i), some (.ref b'), ?_⟩
        rw [hs, show F i = (g.counts.getD i 0 : Int) from if_pos c']
        rfl
      · have c' := viF (b := 1) c
        refine ⟨s2, some (.int i), some (.ref b'), ?_⟩
        rw [hs, show F i = 0 from if_neg c', Int.add_zero]
        rfl
  · rintro σ H1 ⟨s1, o3, o4, rfl⟩
    rw [hrl]
    exact ⟨_, rfl, qe (kk H1 s1) (ve (Mx.value_law ok f').symm)⟩
/-- what each plan wins, in their order -/
def allW (g : Abs) : List Int := (List.range (2 ^ (g.k * g.q))).map fun n => (g.value (Mx.planAt (g.k * g.q) n) : Int)
def sp_all_won (CG : Addr) : Sp := fun vs H Q _ => ∃ (p : Addr) (g : Abs), vs = [.ref p] ∧ GameR CG H p g ∧ Mx.GOk g ∧ ∀ D H', Same H H' → H D = none → H' D = some (.lst ((allW g).map V.int)) → Q (.ref D) H'
theorem c_all_won (T : Top K mg CR CG CS CD aON aSH aDE) : CalG CX0 P w K mg base 3 "all_won" (sp_all_won CG) := by
  obtain ⟨f, fd, hg, hk, F, b⟩ := T.d_all_won.ex
  refine ⟨f, fd, _, F.ok sc_all_won (fun vs H Q E h => by obtain ⟨p, g, rfl, _⟩ := h; rfl) (fun cdv A outer s H vs Q E hr h => ⟨_, (pss_cons (ps_set (i := 1) sc_all_won.nd rfl (Or.inr rfl) (pe_cg (c_plan_size T) hr (by decide) rfl pass0 (pa_cons (pv 0) pa_nil)))
    (pss_one (ps_ret (pe_lc (own := [("number", 2)]) (g := gName 2) rfl sc_all_won.nd (pi_range1 (by rfl) T.b_range (pa_cons (pe_cg (c_plan_count T) hr (by decide) rfl pass0 (pa_cons (pv 0) pa_nil)) pa_nil)) (blkOk_by (N := N_all_won) (sc := defScope s_all_won) (by decide +kernel)) (fun _ _ _ _ _ => (pg_name (i := 2) sc_all_won.nd rfl (Or.inl rfl))) (fun _ _ _ _ _ => pts_nil) (fun _ _ _ _ _ => (pe_cg (c_won_by T) hr (by decide) rfl pass0 (pa_cons (pv 0) (pa_cons (pe_cg (c_plan_at T) hr (by decide) rfl pass0 (pa_cons (pv 2) (pa_cons (pv 1) pa_nil))) pa_nil)))))))), ?_⟩), hg, hk, b⟩
  obtain ⟨p, g, rfl, h⟩ := h
  obtain ⟨hG, ok, k⟩ := h
  have h256 := ok.p256
  have kq8 := ok.kq
  refine ⟨_, rfl, p, g, rfl, hG, ok, _, rfl, p, g, rfl, hG, ok, _, rfl, rng1 (by omega), rng2 (by omega), fun D hD => lc_val (walk_rng _) (fun n => .int (g.value (Mx.planAt (g.k * g.q) n))) (by omega) hD (fun _ _ => trivial) ?_ ?_⟩
  · rintro i x H1 H' Q' hi s1 _ ⟨rfl, rfl⟩ hk
    refine ⟨rfl, _, rfl, _, rfl, _, rfl, i, g.k * g.q, rfl, by omega, fun D2 H2 s2 _ hD2 => ⟨p, D2, g, _, rfl, hG.same (Same.trans s1 s2), ok, SqL.of hD2, Mx.planAt_cf _ _, fun H3 s3 => hk H3 (Same.trans s2 s3)⟩⟩
  · intro H1 s1 hy
    refine k D H1 s1 hD ?_
    rw [hy]
    simp [allW]
theorem least_of {p : Nat → Prop} : ∀ n, p n → ∃ j, j ≤ n ∧ p j ∧ ∀ i, i < j → ¬ p i := by
  intro n
  induction n using Nat.strongRecOn with
  | ind n ih =>
    intro h
    by_cases c : ∃ i, i < n ∧ p i
    · obtain ⟨i, hi, hp⟩ := c
      obtain ⟨j, h1, h2, h3⟩ := ih i hi hp
      exact ⟨j, by omega, h2, h3⟩
    · exact ⟨n, Nat.le_refl _, h, fun i hi hp => c ⟨i, hi, hp⟩⟩
theorem allW_len (g : Abs) : (allW g).length = 2 ^ (g.k * g.q) := by simp [allW]
theorem allW_at {g : Abs} {j : Nat} (h : j < 2 ^ (g.k * g.q)) : (allW g)[j]? = some (g.value (Mx.planAt (g.k * g.q) j) : Int) := by
  unfold allW
  rw [List.getElem?_map, List.getElem?_range h]
  rfl
theorem best_val {g : Abs} {m : Int} (h1 : m ∈ allW g) (h2 : ∀ y, y ∈ allW g → y ≤ m) : m = (g.value g.best : Int) ∧ ∃ j, j < 2 ^ (g.k * g.q) ∧ (allW g)[j]? = some m ∧ (∀ i, i < j → (allW g)[i]? ≠ some m) ∧ g.best = Mx.planAt (g.k * g.q) j := by
  obtain ⟨n, hn, e⟩ := List.mem_iff_getElem.mp h1
  have hnl : n < 2 ^ (g.k * g.q) := by rw [← allW_len g]; exact hn
  have ne : (allW g)[n]? = some m := by rw [List.getElem?_eq_getElem hn, e]
  obtain ⟨j, hjn, hj, hmin⟩ := least_of (p := fun j => (allW g)[j]? = some m) n ne
  have hjl : j < 2 ^ (g.k * g.q) := by omega
  have hv : (g.value (Mx.planAt (g.k * g.q) j) : Int) = m := Option.some.inj ((allW_at hjl).symm.trans hj)
  have hb := Mx.best_at (g := g) (m := g.value (Mx.planAt (g.k * g.q) j)) (j := j) (fun f hf => by
    rw [Mx.plans_eq] at hf
    obtain ⟨i, hi, rfl⟩ := List.mem_map.mp hf
    have := h2 _ (List.mem_of_getElem? (allW_at (List.mem_range.mp hi)))
    omega) hjl rfl fun i hi he => hmin i hi (by rw [allW_at (by omega)]; congr 1; omega)
  exact ⟨by rw [hb.2]; exact hv.symm, j, hjl, hj, hmin, hb.1⟩
def sp_most_won (CG : Addr) : Sp := fun vs H Q _ => ∃ (p : Addr) (g : Abs), vs = [.ref p] ∧ GameR CG H p g ∧ Mx.GOk g ∧ ∀ H', Same H H' → Q (.int (g.value g.best)) H'
theorem c_most_won (T : Top K mg CR CG CS CD aON aSH aDE) : CalG CX0 P w K mg base 4 "most_won" (sp_most_won CG) := by
  obtain ⟨f, fd, hg, hk, F, b⟩ := T.d_most_won.ex
  refine ⟨f, fd, _, F.ok sc_most_won (fun vs H Q E h => by obtain ⟨p, g, rfl, _⟩ := h; rfl) (fun cdv A outer s H vs Q E hr h => ⟨_, (pss_one (ps_ret (pe_callB (cr_max rfl) (by rfl) T.b_max boot_fmax (pa_cons (pe_cg (c_all_won T) hr (by decide) rfl pass0 (pa_cons (pv 0) pa_nil)) pa_nil)))), ?_⟩), hg, hk, b⟩
  obtain ⟨p, g, rfl, h⟩ := h
  obtain ⟨hG, ok, k⟩ := h
  refine ⟨_, rfl, p, g, rfl, hG, ok, fun D H1 s1 _ hD => ⟨D, allW g, rfl, SqL.of hD, by rw [allW_len]; exact Nat.pow_pos (by decide), fun m h1 h2 => qe (k H1 s1) (ve (best_val h1 h2).1)⟩⟩
def sp_best_plan (CG : Addr) : Sp := fun vs H Q _ => ∃ (p : Addr) (g : Abs), vs = [.ref p] ∧ GameR CG H p g ∧ Mx.GOk g ∧ ∀ t a H', Same H H' → H' t = some (.tup [.int (g.value g.best), .ref a]) → H' a = some (.lst (nL g.best)) → Q (.ref t) H'
theorem c_best_plan (T : Top K mg CR CG CS CD aON aSH aDE) : CalG CX0 P w K mg base 4 "best_plan" (sp_best_plan CG) := by
  obtain ⟨f, fd, hg, hk, F, b⟩ := T.d_best_plan.ex
  refine ⟨f, fd, _, F.ok sc_best_plan (fun vs H Q E h => by obtain ⟨p, g, rfl, _⟩ := h; rfl) (fun cdv A outer s H vs Q E hr h => ⟨_, (pss_cons (ps_set (i := 1) sc_best_plan.nd rfl (Or.inl rfl) (pe_cg (c_all_won T) hr (by decide) rfl pass0 (pa_cons (pv 0) pa_nil)))
    (pss_cons (ps_set (i := 2) sc_best_plan.nd rfl (Or.inl rfl) (pe_callB (cr_max rfl) (by rfl) T.b_max boot_fmax (pa_cons (pv 1) pa_nil)))
    (pss_one (ps_ret (pe_tup (pa_cons (pv 2) (pa_cons (pe_cg (c_plan_at T) hr (by decide) rfl pass0 (pa_cons (pe_bm PySem.F.plainAttrs_list PySem.F.slot_list_index PySem.F.type_list_index mt_index (pv 1) (pa_cons (pv 2) pa_nil)) (pa_cons (pe_cg (c_plan_size T) hr (by decide) rfl pass0 (pa_cons (pv 0) pa_nil)) pa_nil))) pa_nil))))))), ?_⟩), hg, hk, b⟩
  obtain ⟨p, g, rfl, h⟩ := h
  obtain ⟨hG, ok, k⟩ := h
  have kq8 := ok.kq
  have flat : ((allW g).map V.int).all flatV = true := by
    rw [List.all_map]
    exact List.all_eq_true.mpr fun _ _ => rfl
  refine ⟨_, rfl, p, g, rfl, hG, ok, fun D H1 s1 _ hD => ⟨_, rfl, D, allW g, rfl, SqL.of hD, by rw [allW_len]; exact Nat.pow_pos (by decide), fun m h1 h2 => ?_⟩⟩
  obtain ⟨e, j, hj, hat, hmin, hb⟩ := best_val h1 h2
  have hat' : ((allW g).map V.int)[j]? = some (.int m) := by rw [List.getElem?_map, hat]; rfl
  refine ⟨_, rfl, _, rfl, .inl ⟨rfl, _, SqL.of hD⟩, _, rfl, D, _, _, j, _, rfl, rfl, SqL.of hD, rfl, flat, hat', by simp [eqV], fun i z hi hz => ?_, ?_⟩
  · rw [List.getElem?_map] at hz
    cases q : (allW g)[i]? with
    | none => rw [q] at hz; cases hz
    | some y =>
      rw [q] at hz
      cases hz
      have : y ≠ m := fun e => hmin i hi (by rw [q, e])
      simp [eqV, this]
  · refine ⟨_, rfl, p, g, rfl, hG.same s1, ok, j, _, rfl, by omega, fun A H2 s2 _ hA => ⟨(by show 2 ≤ sizeLine; decide), fun t ht => k t A _ (Same.then (Same.trans s1 s2) ht) ?_ ?_⟩⟩
    · rw [upd_same, e]
    · rw [upd_ne (ne_of_none hA ht), hA, hb]
def sp_plans_that_win (CG : Addr) : Sp := fun vs H Q _ => ∃ (p : Addr) (g : Abs) (t : Nat), vs = [.ref p, .int t] ∧ GameR CG H p g ∧ Mx.GOk g ∧ ∀ H', Same H H' → Q (.int ((g.plans.filter fun f => g.value f == t).length : Nat)) H'
theorem c_plans_that_win (T : Top K mg CR CG CS CD aON aSH aDE) : CalG CX0 P w K mg base 4 "plans_that_win" (sp_plans_that_win CG) := by
  obtain ⟨f, fd, hg, hk, F, b⟩ := T.d_plans_that_win.ex
  refine ⟨f, fd, _, F.ok sc_plans_that_win (fun vs H Q E h => by obtain ⟨p, g, t, rfl, _⟩ := h; rfl) (fun cdv A outer s H vs Q E hr h => ⟨_, (pss_one (ps_ret (pe_bm PySem.F.plainAttrs_list PySem.F.slot_list_count PySem.F.type_list_count mt_lcount (pe_cg (c_all_won T) hr (by decide) rfl pass0 (pa_cons (pv 0) pa_nil)) (pa_cons (pv 1) pa_nil)))), ?_⟩), hg, hk, b⟩
  obtain ⟨p, g, t, rfl, h⟩ := h
  obtain ⟨hG, ok, k⟩ := h
  refine ⟨_, rfl, p, g, rfl, hG, ok, fun D H1 s1 _ hD => ⟨.inl ⟨rfl, _, SqL.of hD⟩, _, rfl, D, allW g, _, rfl, rfl, SqL.of hD, qe (k H1 s1) (ve ?_)⟩⟩
  rw [Mx.plans_count]
  rfl
end
end Ss
namespace Ss
open PySem PySem.Spec PyProof.Rows L2
open Su173 (Spin)
open Su175 (Abs)
/-! ## shared spins -/
def sF (o l u : Addr) (t : Bool) : List (Str × V) := [("owners", .ref o), ("links", .ref l), ("sures", .ref u), ("was_measured", .bl t)]
section
variable {o l u : Addr} {t : Bool}
theorem sF_owners : (sF o l u t).lookup ("owners" : Str) = some (.ref o) := lk_here
theorem sF_links : (sF o l u t).lookup ("links" : Str) = some (.ref l) := (lk_past (by decide +kernel)).trans lk_here
theorem sF_sures : (sF o l u t).lookup ("sures" : Str) = some (.ref u) := (lk_past (by decide +kernel)).trans ((lk_past (by decide +kernel)).trans lk_here)
theorem sF_was : (sF o l u t).lookup ("was_measured" : Str) = some (.bl t) := (lk_past (by decide +kernel)).trans ((lk_past (by decide +kernel)).trans ((lk_past (by decide +kernel)).trans lk_here))
theorem sF_not {f : Str} (h : (([("owners" : Str), "links", "sures", "was_measured"]).all fun g => !(f == g)) = true) : (sF o l u t).lookup f = none := by
  simp only [List.all_cons, List.all_nil, Bool.and_true, Bool.and_eq_true, Bool.not_eq_true'] at h
  exact (lk_past h.1).trans ((lk_past h.2.1).trans ((lk_past h.2.2.1).trans ((lk_past h.2.2.2).trans rfl)))
theorem sF_new (o l u : Addr) (t : Bool) : putF "was_measured" (.bl t) (putF "sures" (.ref u) (putF "links" (.ref l) (putF "owners" (.ref o) []))) = sF o l u t := by
  have e1 : putF "owners" (.ref o) [] = ([("owners", .ref o)] : List (Str × V)) := rfl
  have e2 : putF "links" (.ref l) [("owners", .ref o)] = ([("owners", .ref o), ("links", .ref l)] : List (Str × V)) := put_new (ns := ["owners"]) rfl (by decide +kernel)
  have e3 : putF "sures" (.ref u) [("owners", .ref o), ("links", .ref l)] = ([("owners", .ref o), ("links", .ref l), ("sures", .ref u)] : List (Str × V)) := put_new (ns := ["owners", "links"]) rfl (by decide +kernel)
  rw [e1, e2, e3]
  exact put_new (ns := ["owners", "links", "sures"]) rfl (by decide +kernel)
theorem sF_putL (l' : Addr) : putF "links" (.ref l') (sF o l u t) = sF o l' u t := (put_past (by decide +kernel)).trans (congrArg _ put_here)
theorem sF_putS (u' : Addr) : putF "sures" (.ref u') (sF o l u t) = sF o l u' t := (put_past (by decide +kernel)).trans (congrArg _ ((put_past (by decide +kernel)).trans (congrArg _ put_here)))
theorem sF_putW (t' : Bool) : putF "was_measured" (.bl t') (sF o l u t) = sF o l u t' := (put_past (by decide +kernel)).trans (congrArg _ ((put_past (by decide +kernel)).trans (congrArg _ ((put_past (by decide +kernel)).trans (congrArg _ put_here)))))
end
section
variable {P : Program} {w : World} {K : PySem.W.Frag} {mg : Str → Option Value} {base : Heap} {CR CG CS CD aON aSH aDE : Addr}
/-- owners, links (the lesser first) at their places -/
def OwnL (K : PySem.W.Frag) (H : Hp) (o l : Addr) (ow : List Nat) (lk : List (Nat × Nat)) : Prop := H o = some (.tup (nL ow)) ∧ ∃ vl, H l = some (.lst vl) ∧ PaV K H vl (lk.map Mx.normP)
theorem OwnL.same {H H' : Hp} {o l : Addr} {ow : List Nat} {lk : List (Nat × Nat)} (h : OwnL K H o l ow lk) (s : Same H H') : OwnL K H' o l ow lk := let ⟨h1, vl, h2, h3⟩ := h; ⟨s _ _ h1, vl, s _ _ h2, h3.same s⟩
def sp_many (CS : Addr) : Sp := fun vs H Q _ => ∃ (p dx o l u : Addr) (t : Bool) (ow : List Nat), vs = [.ref p] ∧ H p = some (.ins CS dx (sF o l u t)) ∧ H o = some (.tup (nL ow)) ∧ Q (.int ow.length) H
theorem c_Spins_many (T : Top K mg CR CG CS CD aON aSH aDE) : MetG CX0 P w K mg base 1 CS "many" (sp_many CS) := by
  obtain ⟨f, fd, hm, F, b⟩ := T.m_Spins_many.ex
  refine ⟨f, fd, _, T.cl_Spins, hm, F.ok sc_Spins_many (fun vs H Q E h => by obtain ⟨p, dx, o, l, u, t, ow, rfl, _⟩ := h; rfl) (fun cdv A outer s H vs Q E hr h => ⟨_, (pss_one (ps_ret (pe_callB call_len_seq (by rfl) T.b_len boot_flen (pa_cons (pe_fld (pv 0) rfl) pa_nil)))), ?_⟩), b⟩
  obtain ⟨p, dx, o, l, u, t, ow, rfl, h⟩ := h
  obtain ⟨hp, ho, k⟩ := h
  exact ⟨_, rfl, p, CS, dx, _, _, rfl, hp, T.cl_Spins, T.n_Spins_owners, sF_owners, o, _, rfl, .inr (SqT.of ho), qe k (ve (by rw [nL_len]))⟩
theorem min2 (i j : Nat) : (if (j : Int) < (i : Int) then (j : Int) else i) = ((min i j : Nat) : Int) := by
  by_cases h : j < i
  · rw [if_pos (by omega), Nat.min_eq_right (by omega)]
  · rw [if_neg (by omega), Nat.min_eq_left (by omega)]
theorem max2 (i j : Nat) : (if (j : Int) > (i : Int) then (j : Int) else i) = ((max i j : Nat) : Int) := by
  by_cases h : j > i
  · rw [if_pos (by omega), Nat.max_eq_right (by omega)]
  · rw [if_neg (by omega), Nat.max_eq_left (by omega)]
def sp_are_linked (CS : Addr) (K : PySem.W.Frag) : Sp := fun vs H Q _ => ∃ (p : Addr) (i j : Nat) (dx o l u : Addr) (t : Bool) (ow : List Nat) (lk : List (Nat × Nat)), vs = [.ref p, .int i, .int j] ∧ H p = some (.ins CS dx (sF o l u t)) ∧ OwnL K H o l ow lk ∧
  ∀ H', Same H H' → Q (.bl (Su175.linked lk i j)) H'
theorem linked_contains (lk : List (Nat × Nat)) (i j : Nat) : (lk.map Mx.normP).contains (min i j, max i j) = Su175.linked lk i j := by
  have h := Mx.linked_norm lk i j
  cases e : Su175.linked lk i j with
  | true => exact List.contains_iff_mem.mpr (h.mp e)
  | false =>
    cases q : (lk.map Mx.normP).contains (min i j, max i j) with
    | false => rfl
    | true =>
      have := h.mpr (List.contains_iff_mem.mp q)
      rw [e] at this
      cases this
theorem c_Spins_are_linked (T : Top K mg CR CG CS CD aON aSH aDE) : MetG CX0 P w K mg base 1 CS "are_linked" (sp_are_linked CS K) := by
  obtain ⟨f, fd, hm, F, b⟩ := T.m_Spins_are_linked.ex
  refine ⟨f, fd, _, T.cl_Spins, hm, F.ok sc_Spins_are_linked (fun vs H Q E h => by obtain ⟨p, i, j, dx, o, l, u, t, ow, lk, rfl, _⟩ := h; rfl) (fun cdv A outer s H vs Q E hr h => ⟨_, (pss_one (ps_ret (pe_cmpR (op_inD (hu65 hr)) (pe_tup (pa_cons (pe_callB (call_min2 rfl) (by rfl) T.b_min boot_fmin (pa_cons (pv 1) (pa_cons (pv 2) pa_nil))) (pa_cons (pe_callB (call_max2 rfl) (by rfl) T.b_max boot_fmax (pa_cons (pv 1) (pa_cons (pv 2) pa_nil))) pa_nil))) (pe_fld (pv 0) rfl) (by rfl)))), ?_⟩), b⟩
  obtain ⟨p, i, j, dx, o, l, u, t, ow, lk, rfl, h⟩ := h
  obtain ⟨hp, ⟨ho, vl, hl, hv⟩, k⟩ := h
  refine ⟨_, rfl, _, rfl, _, _, rfl, ?_⟩
  rw [min2]
  refine ⟨_, rfl, _, rfl, _, _, rfl, ?_⟩
  rw [max2]
  refine ⟨(by show 2 ≤ sizeLine; decide), fun q hq => ?_⟩
  have s := Same.new (o := HO.tup [.int (min i j : Nat), .int (max i j : Nat)]) hq
  refine ⟨_, rfl, p, CS, dx, _, _, rfl, s _ _ hp, T.cl_Spins, T.n_Spins_links, sF_links, pD (min i j, max i j), (lk.map Mx.normP).map pD, dp_pair (SqT.of upd_same), .lst (SqL.of (s _ _ hl)) (dp_pairs (hv.same s)), pD_shaped _, pDs_shapedL _, ?_⟩
  exact qe (k _ s) (be (by rw [pD_any, linked_contains]))
def sp_letter_at_first (CS : Addr) (K : PySem.W.Frag) : Sp := fun vs H Q _ => ∃ (p : Addr) (i j : Nat) (dx o l u : Addr) (t : Bool) (ow : List Nat) (lk : List (Nat × Nat)), vs = [.ref p, .int i, .int j] ∧ H p = some (.ins CS dx (sF o l u t)) ∧ OwnL K H o l ow lk ∧
  ∀ H', Same H H' → Q (.int (Mx.fl lk i j)) H'
theorem c_Spins_letter_at_first (T : Top K mg CR CG CS CD aON aSH aDE) : MetG CX0 P w K mg base 2 CS "letter_at_first" (sp_letter_at_first CS K) := by
  obtain ⟨f, fd, hm, F, b⟩ := T.m_Spins_letter_at_first.ex
  refine ⟨f, fd, _, T.cl_Spins, hm, F.ok sc_Spins_letter_at_first (fun vs H Q E h => by obtain ⟨p, i, j, dx, o, l, u, t, ow, lk, rfl, _⟩ := h; rfl) (fun cdv A outer s H vs Q E hr h => ⟨_, (pss_cons (ps_if (pt_cmpR op_eq (pv 2) (pv 1) (nomark _)) (pss_one (ps_ret (pe_gk rfl T.k_X))) pss_nil)
    (pss_cons (ps_if (pt_val (pe_mg (c_Spins_are_linked T) hr (by decide) pass0 (pv 0) (pa_cons (pv 1) (pa_cons (pv 2) pa_nil)))) (pss_one (ps_ret (pe_gk rfl T.k_Z))) pss_nil)
    (pss_one (ps_ret (pe_gk rfl T.k_NONE))))), ?_⟩), b⟩
  obtain ⟨p, i, j, dx, o, l, u, t, ow, lk, rfl, h⟩ := h
  obtain ⟨hp, hO, k⟩ := h
  refine ⟨_, rfl, _, rfl, rfl, _, rfl, if2 (fun c => qe (k _ (Same.refl _)) (ve ?_)) (fun c => ?_)⟩
  · have := viT c
    unfold Mx.fl
    rw [if_pos this]
    rfl
  · have c' := viF c
    refine ⟨_, rfl, p, dx, _, rfl, hp, sF_not (by decide +kernel), _, rfl, _, rfl, p, i, j, dx, o, l, u, t, ow, lk, rfl, hp, hO, fun H1 s1 => ⟨_, rfl, if2 (fun d => qe (k _ s1) (ve ?_)) (fun d => qe (k _ s1) (ve ?_))⟩⟩
    · unfold Mx.fl
      rw [if_neg c', if_pos d]
      rfl
    · unfold Mx.fl
      rw [if_neg c', if_neg (by rw [d]; exact Bool.false_ne_true)]
      rfl
def sp_sure_at_first (CS : Addr) (K : PySem.W.Frag) : Sp := fun vs H Q _ => ∃ (p : Addr) (i : Nat) (dx o l u : Addr) (t : Bool) (ow : List Nat) (lk : List (Nat × Nat)), vs = [.ref p, .int i] ∧ H p = some (.ins CS dx (sF o l u t)) ∧ OwnL K H o l ow lk ∧ ow.length ≤ 100 ∧
  ∀ v H', Same H H' → Me K H' v ⟨0, Mx.ro ow.length lk i⟩ → Q v H'
theorem c_Spins_sure_at_first (T : Top K mg CR CG CS CD aON aSH aDE) : MetG CX0 P w K mg base 3 CS "sure_at_first" (sp_sure_at_first CS K) := by
  obtain ⟨f, fd, hm, F, b⟩ := T.m_Spins_sure_at_first.ex
  refine ⟨f, fd, _, T.cl_Spins, hm, F.ok sc_Spins_sure_at_first (fun vs H Q E h => by obtain ⟨p, i, dx, o, l, u, t, ow, lk, rfl, _⟩ := h; rfl) (fun cdv A outer s H vs Q E hr h => ⟨_, (pss_one (ps_ret (pe_tup (pa_cons pe_int (pa_cons (pe_callTy call_tuple_of (by rfl) T.b_tuple boot_ftuple (pa_cons (pe_lc (own := [("other", 2)]) (g := gName 2) rfl sc_Spins_sure_at_first.nd (pi_range1 (by rfl) T.b_range (pa_cons (pe_mg0 (c_Spins_many T) hr (by decide) pass0 (pv 0)) pa_nil)) (blkOk_by (N := N_Spins_sure_at_first) (sc := defScope s_Spins_sure_at_first) (by decide +kernel)) (fun _ _ _ _ _ => (pg_name (i := 2) sc_Spins_sure_at_first.nd rfl (Or.inl rfl))) (fun _ _ _ _ _ => pts_nil) (fun _ _ _ _ _ => (pe_mg (c_Spins_letter_at_first T) hr (by decide) pass0 (pv 0) (pa_cons (pv 1) (pa_cons (pv 2) pa_nil))))) pa_nil)) pa_nil))))), ?_⟩), b⟩
  obtain ⟨p, i, dx, o, l, u, t, ow, lk, rfl, h⟩ := h
  obtain ⟨hp, hO, hl, k⟩ := h
  refine ⟨_, rfl, p, dx, _, rfl, hp, sF_not (by decide +kernel), p, dx, o, l, u, t, ow, rfl, hp, hO.1, _, rfl, rng1 (by omega), rng2 (by omega), fun D hD => lc_val (walk_rng _) (fun j => .int (Mx.fl lk i j)) (by omega) hD (fun _ _ => trivial) ?_ ?_⟩
  · rintro j x H1 H' Q' hj s1 _ ⟨rfl, rfl⟩ hk
    exact ⟨rfl, _, rfl, p, dx, _, rfl, s1 _ _ hp, sF_not (by decide +kernel), _, rfl, _, rfl, p, i, j, dx, o, l, u, t, ow, lk, rfl, s1 _ _ hp, hO.same s1, fun H2 s2 => hk H2 s2⟩
  · intro H1 s1 hy
    refine ⟨D, _, rfl, .inl ⟨SqL.of hy, fun q hq => ⟨(by show 2 ≤ sizeLine; decide), fun r hr => k _ _ (Same.then (Same.then s1 hq) hr) ⟨r, q, rfl, upd_same, ?_⟩⟩⟩⟩
    rw [upd_ne (ne_of_none upd_same hr), upd_same]
    simp [nL, Mx.ro]
/-- refresh: what's sure at first is sure, nothing was measured -/
def sp_refresh (CS : Addr) (K : PySem.W.Frag) : Sp := fun vs H Q _ => ∃ (p dx o l u : Addr) (t : Bool) (ow : List Nat) (lk : List (Nat × Nat)), vs = [.ref p] ∧ H p = some (.ins CS dx (sF o l u t)) ∧ OwnL K H o l ow lk ∧ ow.length ≤ 100 ∧
  ∀ H' u' vu, H u' = none → H' p = some (.ins CS dx (sF o l u' false)) → H' u' = some (.lst vu) → MeV K H' vu (Su175.first ow.length lk) → SameX p H H' → Q .non H'
theorem notTup {D : Addr} {H : Hp} {C dx : Addr} {fs : List (Str × V)} (h : H D = some (.ins C dx fs)) : ∀ xs, H D ≠ some (.tup xs) := fun xs e => by rw [h] at e; cases e
theorem c_Spins_refresh (T : Top K mg CR CG CS CD aON aSH aDE) : MetG CX0 P w K mg base 4 CS "refresh" (sp_refresh CS K) := by
  obtain ⟨f, fd, hm, F, b⟩ := T.m_Spins_refresh.ex
  refine ⟨f, fd, _, T.cl_Spins, hm, F.ok sc_Spins_refresh (fun vs H Q E h => by obtain ⟨p, dx, o, l, u, t, ow, lk, rfl, _⟩ := h; rfl) (fun cdv A outer s H vs Q E hr h => ⟨_, (pss_cons (ps_fld (pv 0) (pe_lc (own := [("spin", 1)]) (g := gName 1) rfl sc_Spins_refresh.nd (pi_range1 (by rfl) T.b_range (pa_cons (pe_mg0 (c_Spins_many T) hr (by decide) pass0 (pv 0)) pa_nil)) (blkOk_by (N := N_Spins_refresh) (sc := defScope s_Spins_refresh) (by decide +kernel)) (fun _ _ _ _ _ => (pg_name (i := 1) sc_Spins_refresh.nd rfl (Or.inl rfl))) (fun _ _ _ _ _ => pts_nil) (fun _ _ _ _ _ => (pe_mg (c_Spins_sure_at_first T) hr (by decide) pass0 (pv 0) (pa_cons (pv 1) pa_nil)))) rfl)
    (pss_one (ps_fld (pv 0) pe_bl rfl))), ?_⟩), b⟩
  obtain ⟨p, dx, o, l, u, t, ow, lk, rfl, h⟩ := h
  obtain ⟨hp, hO, hl, k⟩ := h
  refine ⟨_, rfl, p, dx, _, rfl, hp, sF_not (by decide +kernel), p, dx, o, l, u, t, ow, rfl, hp, hO.1, _, rfl, rng1 (by omega), rng2 (by omega), fun D hD => lc_gen (walk_rng _) (fun i y H' => Me K H' y ⟨0, Mx.ro ow.length lk i⟩) (by omega) hD (fun _ _ => trivial) (fun i y H1 H2 acc hacc sx m => m.samex sx hacc) ?_ ?_⟩
  · rintro i x H1 H' Q' hi s1 _ ⟨rfl, rfl⟩ hk
    exact ⟨rfl, _, rfl, p, dx, _, rfl, s1 _ _ hp, sF_not (by decide +kernel), _, rfl, p, i, dx, o, l, u, t, ow, lk, rfl, s1 _ _ hp, hO.same s1, hl, fun v H2 s2 m => hk v H2 s2 m⟩
  · intro H1 ys s1 hy hyl hyp
    have hp1 := s1 _ _ hp
    have hDp : D ≠ p := fun e => by rw [e, hp] at hD; cases hD
    refine ⟨_, rfl, p, CS, dx, _, rfl, hp1, T.cl_Spins, T.n_Spins_sures, (by show 4 < 1000; decide), ?_⟩
    rw [sF_putS]
    refine ⟨_, rfl, p, CS, dx, _, rfl, upd_same, T.cl_Spins, T.n_Spins_was_measured, (by show 4 < 1000; decide), ?_⟩
    rw [sF_putW, upd_upd]
    have mv : MeV K H1 ys (Su175.first ow.length lk) := ⟨by rw [hyl]; simp [Su175.first], fun i v x h1 h2 => by
      have := hyp i v h1
      rw [Mx.first_eq, List.getElem?_map] at h2
      cases q : (List.range ow.length)[i]? with
      | none => rw [q] at h2; cases h2
      | some j =>
        rw [q] at h2
        have hj : j = i := by
          have h3 := List.getElem?_eq_some_iff.mp q
          obtain ⟨_, h3⟩ := h3
          simpa using h3.symm
        subst hj
        cases h2
        exact this⟩
    refine k _ D ys hD upd_same ?_ (mv.samexO SameX.upd (notTup hp1)) fun b o' hb e => by rw [upd_ne hb]; exact s1 b o' e
    rw [upd_ne hDp]
    exact hy
end
end Ss
namespace Mx
open Su173 (Spin)
/-! ### what a measurement changes, place by place -/
def apart (m : Nat) (S : List Spin) (l : List Nat) : List Nat := (List.range m).filter fun i => decide (A (S.getD i ⟨0, []⟩).l l % 2 = 1)
theorem mem_apart {m : Nat} {S : List Spin} {l : List Nat} {i : Nat} : i ∈ apart m S l ↔ i < m ∧ A (S.getD i ⟨0, []⟩).l l % 2 = 1 := by
  unfold apart
  rw [List.mem_filter, List.mem_range, decide_eq_true_iff]
theorem apart_nodup (m : Nat) (S : List Spin) (l : List Nat) : (apart m S l).Nodup := List.nodup_range.filter _
theorem getD_mid {X Y : List Spin} {p : Spin} : (X ++ p :: Y).getD X.length ⟨0, []⟩ = p := by
  rw [List.getD_eq_getElem?_getD, List.getElem?_append_right (Nat.le_refl _), Nat.sub_self]
  rfl
theorem apart_head {X Y : List Spin} {p : Spin} {l : List Nat} {m : Nat} (hm : (X ++ p :: Y).length = m) (hX : ∀ s ∈ X, A s.l l % 2 = 0) (hp : A p.l l % 2 = 1) :
    ∃ R, apart m (X ++ p :: Y) l = X.length :: R := by
  have e : m = X.length + (Y.length + 1) := by rw [← hm]; simp
  unfold apart
  rw [e, List.range_add, List.filter_append]
  have h1 : (List.range X.length).filter (fun i => decide (A ((X ++ p :: Y).getD i ⟨0, []⟩).l l % 2 = 1)) = [] := by
    rw [List.filter_eq_nil_iff]
    intro i hi
    rw [List.mem_range] at hi
    have h2 : (X ++ p :: Y).getD i ⟨0, []⟩ = X[i] := by
      rw [List.getD_eq_getElem?_getD, List.getElem?_append_left hi, List.getElem?_eq_getElem hi]
      rfl
    rw [h2]
    have := hX _ (List.getElem_mem hi)
    rw [decide_eq_true_iff]
    omega
  rw [h1, List.nil_append, range_cons, List.map_cons, List.filter_cons]
  have h3 : decide (A ((X ++ p :: Y).getD (X.length + 0) ⟨0, []⟩).l l % 2 = 1) = true := by
    rw [Nat.add_zero, getD_mid]
    exact decide_eq_true hp
  rw [if_pos h3]
  exact ⟨_, rfl⟩
/-- the places R changed, one after another -/
def sets (f : Nat → Spin) (R : List Nat) (S : List Spin) : List Spin := R.foldl (fun acc i => acc.set i (f i)) S
theorem sets_snoc (f : Nat → Spin) (R : List Nat) (i : Nat) (S : List Spin) : sets f (R ++ [i]) S = (sets f R S).set i (f i) := by
  unfold sets
  rw [List.foldl_append]
  rfl
theorem sets_len (f : Nat → Spin) : ∀ (R : List Nat) (S : List Spin), (sets f R S).length = S.length
  | [], _ => rfl
  | i :: R, S => by
    show (sets f R (S.set i (f i))).length = _
    rw [sets_len f R, List.length_set]
theorem sets_at (f : Nat → Spin) : ∀ (R : List Nat) (S : List Spin) (j : Nat), j < S.length → (sets f R S)[j]? = if j ∈ R then some (f j) else S[j]?
  | [], _, _, _ => by
    rw [if_neg (by simp)]
    rfl
  | i :: R, S, j, hj => by
    show (sets f R (S.set i (f i)))[j]? = _
    rw [sets_at f R _ j (by rw [List.length_set]; exact hj), List.getElem?_set]
    by_cases h : j ∈ R
    · rw [if_pos h, if_pos (by simp [h])]
    · rw [if_neg h]
      by_cases e : i = j
      · subst e
        rw [if_pos rfl, if_pos hj, if_pos (by simp)]
      · rw [if_neg e, if_neg (by simp [h, Ne.symm e])]
theorem aft_sets {X Y : List Spin} {p : Spin} {l : List Nat} {m c : Nat} {Q : List Nat} (hm : (X ++ p :: Y).length = m) (hX : ∀ s ∈ X, A s.l l % 2 = 0) (hp : A p.l l % 2 = 1)
    (hQ : apart m (X ++ p :: Y) l = X.length :: Q) : (sets (fun i => pr2 m ((X ++ p :: Y).getD i ⟨0, []⟩) p) Q (X ++ p :: Y)).set X.length ⟨c, l⟩ = aft m X p Y l c := by
  have em : m = X.length + (Y.length + 1) := by rw [← hm]; simp
  have nd := apart_nodup m (X ++ p :: Y) l
  rw [hQ] at nd
  have nd1 := (List.nodup_cons.mp nd).1
  have mem : ∀ i, i ≠ X.length → (i ∈ Q ↔ i < m ∧ A ((X ++ p :: Y).getD i ⟨0, []⟩).l l % 2 = 1) := fun i hi => by
    rw [← mem_apart, hQ, List.mem_cons]
    constructor
    · exact .inr
    · rintro (h | h)
      · exact absurd h hi
      · exact h
  refine List.ext_getElem? fun j => ?_
  by_cases hj : j < m
  · rw [List.getElem?_set]
    by_cases e : X.length = j
    · subst e
      rw [if_pos rfl, if_pos (by rw [sets_len, hm]; exact hj)]
      unfold aft
      rw [List.getElem?_append_right (Nat.le_refl _), Nat.sub_self]
      rfl
    · rw [if_neg e, sets_at _ _ _ _ (by rw [hm]; exact hj)]
      by_cases hjX : j < X.length
      · have h2 : (X ++ p :: Y).getD j ⟨0, []⟩ = X[j] := by
          rw [List.getD_eq_getElem?_getD, List.getElem?_append_left hjX, List.getElem?_eq_getElem hjX]
          rfl
        have h3 := hX _ (List.getElem_mem hjX)
        rw [if_neg (by rw [mem j (Ne.symm e), h2]; omega)]
        unfold aft
        rw [List.getElem?_append_left hjX, List.getElem?_append_left hjX]
      · obtain ⟨d, rfl⟩ : ∃ d, j = X.length + (d + 1) := ⟨j - X.length - 1, by omega⟩
        have hd : d < Y.length := by omega
        have h1 : (X ++ p :: Y)[X.length + (d + 1)]? = some Y[d] := by
          rw [List.getElem?_append_right (by omega), show X.length + (d + 1) - X.length = d + 1 from by omega, List.getElem?_cons_succ, List.getElem?_eq_getElem hd]
        have h2 : (X ++ p :: Y).getD (X.length + (d + 1)) ⟨0, []⟩ = Y[d] := by
          rw [List.getD_eq_getElem?_getD, h1]
          rfl
        have h4 : (aft m X p Y l c)[X.length + (d + 1)]? = some (if A Y[d].l l % 2 = 0 then Y[d] else pr2 m Y[d] p) := by
          unfold aft
          rw [List.getElem?_append_right (by omega), show X.length + (d + 1) - X.length = d + 1 from by omega, List.getElem?_cons_succ, List.getElem?_map, List.getElem?_eq_getElem hd]
          rfl
        rw [h4]
        by_cases c2 : A Y[d].l l % 2 = 1
        · rw [if_pos (by rw [mem _ (by omega), h2]; exact ⟨hj, c2⟩), if_neg (by omega), h2]
        · rw [if_neg (by rw [mem _ (by omega), h2]; exact fun z => c2 z.2), if_pos (by omega), h1]
  · rw [List.getElem?_eq_none (by rw [List.length_set, sets_len, hm]; omega), List.getElem?_eq_none (by unfold aft; simp; omega)]
def turnL (lk : List (Nat × Nat)) (i j : Nat) : List (Nat × Nat) := if Su175.linked lk i j = true then lk.filter fun p => p != (i, j) && p != (j, i) else lk ++ [(i, j)]
theorem com_take {m : Nat} {S : List Spin} (h : Com m S) (i : Nat) : Com m (S.take i) := ⟨fun x hx => h.sp x (List.mem_of_mem_take hx), fun x hx y hy => h.co x (List.mem_of_mem_take hx) y (List.mem_of_mem_take hy)⟩
end Mx
namespace Ss
open PySem PySem.Spec PyProof.Rows L2
open Su173 (Spin)
open Su175 (Abs)
section
variable {P : Program} {w : World} {K : PySem.W.Frag} {mg : Str → Option Value} {base : Heap} {CR CG CS CD aON aSH aDE : Addr}
theorem SameX.free {D b : Addr} {H H' : Hp} (s : SameX D H H') (e : H' b = none) (hb : b ≠ D) : H b = none := by
  cases z : H b with
  | none => rfl
  | some o =>
    rw [s b o hb z] at e
    cases e
theorem SameX.new {D p : Addr} {H H' : Hp} {o : HO} (s : SameX D H H') (h : H' p = none) : SameX D H (L2.upd H' p o) := SameX.trans s (Same.x (Same.new h))
theorem PaV.snoc {H : Hp} {vs : List V} {v : V} {ps : List (Nat × Nat)} {p : Nat × Nat} {a : Addr} (m : PaV K H vs ps) (e : v = .ref a) (h : H a = some (.tup [.int p.1, .int p.2])) : PaV K H (vs ++ [v]) (ps ++ [p]) := by
  refine ⟨by rw [List.length_append, List.length_append, m.1]; rfl, fun i u q h1 h2 => ?_⟩
  by_cases hi : i < vs.length
  · rw [List.getElem?_append_left hi] at h1
    rw [List.getElem?_append_left (by rw [← m.1]; exact hi)] at h2
    exact m.2 i u q h1 h2
  · rw [List.getElem?_append_right (by omega)] at h1
    rw [List.getElem?_append_right (by rw [← m.1]; omega), ← m.1] at h2
    generalize i - vs.length = j at h1 h2
    match j, h1, h2 with
    | 0, h1, h2 =>
      cases h1
      cases h2
      exact ⟨a, e, h⟩
def sp_Spins_init (CS : Addr) (K : PySem.W.Frag) : Sp := fun vs H Q _ => ∃ (p a dx : Addr) (ow : List Nat), vs = [.ref p, .ref a] ∧ H p = some (.ins CS dx []) ∧ SqL K H a (nL ow) ∧ ow.length ≤ 100 ∧
  ∀ H' o l u vu, H o = none → H l = none → H u = none → o ≠ p → l ≠ p → u ≠ p → H' p = some (.ins CS dx (sF o l u false)) → H' o = some (.tup (nL ow)) → H' l = some (.lst []) → H' u = some (.lst vu) → MeV K H' vu (Su175.first ow.length []) → SameX p H H' → Q .non H'
theorem c_Spins_init (T : Top K mg CR CG CS CD aON aSH aDE) : MakG CX0 P w K mg base 5 "Spins" CS (sp_Spins_init CS K) := by
  obtain ⟨f, fd, hm, F, b⟩ := T.i_Spins.ex
  refine ⟨f, fd, _, hm, F.ok sc_Spins_init (fun vs H Q E h => by obtain ⟨p, a, dx, ow, rfl, _⟩ := h; rfl) (fun cdv A outer s H vs Q E hr h => ⟨_, (pss_cons (ps_fld (pv 0) (pe_callTy call_tuple_of (by rfl) T.b_tuple boot_ftuple (pa_cons (pv 1) pa_nil)) rfl)
    (pss_cons (ps_fld (pv 0) (pe_lst pa_nil) rfl)
    (pss_cons (ps_fld (pv 0) (pe_lst pa_nil) rfl)
    (pss_cons (ps_fld (pv 0) pe_bl rfl)
    (pss_one (ps_expr (pe_mg0 (c_Spins_refresh T) hr (by decide) pass0 (pv 0)))))))), ?_⟩), T.g_Spins, b⟩
  obtain ⟨p, a, dx, ow, rfl, h⟩ := h
  obtain ⟨hp, ha, hl, k⟩ := h
  refine ⟨_, rfl, a, _, rfl, .inl ⟨ha, fun o ho => ?_⟩⟩
  have op : o ≠ p := fun e => by rw [e, hp] at ho; cases ho
  refine ⟨_, rfl, p, CS, dx, _, rfl, (by rw [upd_ne (Ne.symm op)]; exact hp), T.cl_Spins, T.n_Spins_owners, (by show 0 < 1000; decide), ?_⟩
  refine ⟨(by show 0 ≤ sizeLine; decide), fun l hl1 => ?_⟩
  have lp : l ≠ p := fun e => by rw [e, upd_same] at hl1; cases hl1
  have lo : l ≠ o := fun e => by rw [e, upd_ne op, upd_same] at hl1; cases hl1
  have l0 : H l = none := by rw [upd_ne lp, upd_ne lo] at hl1; exact hl1
  refine ⟨_, rfl, p, CS, dx, _, rfl, (by rw [upd_ne (Ne.symm lp), upd_same]), T.cl_Spins, T.n_Spins_links, (by show 1 < 1000; decide), ?_⟩
  refine ⟨(by show 0 ≤ sizeLine; decide), fun u hu1 => ?_⟩
  have up : u ≠ p := fun e => by rw [e, upd_same] at hu1; cases hu1
  have ul : u ≠ l := fun e => by rw [e, upd_ne lp, upd_same] at hu1; cases hu1
  have u2 : upd (upd H o (.tup (nL ow))) p (.ins CS dx (putF "owners" (.ref o) [])) u = none := by rw [upd_ne up, upd_ne ul] at hu1; exact hu1
  have uo : u ≠ o := fun e => by rw [e, upd_ne op, upd_same] at u2; cases u2
  have u0 : H u = none := by rw [upd_ne up, upd_ne uo] at u2; exact u2
  refine ⟨_, rfl, p, CS, dx, _, rfl, (by rw [upd_ne (Ne.symm up), upd_same]), T.cl_Spins, T.n_Spins_sures, (by show 2 < 1000; decide), ?_⟩
  refine ⟨_, rfl, p, CS, dx, _, rfl, upd_same, T.cl_Spins, T.n_Spins_was_measured, (by show 3 < 1000; decide), ?_⟩
  rw [sF_new]
  refine ⟨_, rfl, p, dx, _, rfl, upd_same, sF_not (by decide +kernel), p, dx, o, l, u, false, ow, [], rfl, upd_same, ⟨?_, [], ?_, ⟨rfl, fun i v q h => by simp at h⟩⟩, hl, fun H' u' vu hu' hp' hu'' mv sx => ?_⟩
  · rw [upd_ne op, upd_ne op, upd_ne (Ne.symm uo), upd_ne op, upd_ne (Ne.symm lo), upd_ne op, upd_same]
  · rw [upd_ne lp, upd_ne lp, upd_ne (Ne.symm ul), upd_ne lp, upd_same]
  have u'p : u' ≠ p := fun e => by rw [e, upd_same] at hu'; cases hu'
  rw [upd_ne u'p, upd_ne u'p] at hu'
  have u'u : u' ≠ u := fun e => by rw [e, upd_same] at hu'; cases hu'
  rw [upd_ne u'u, upd_ne u'p] at hu'
  have u'l : u' ≠ l := fun e => by rw [e, upd_same] at hu'; cases hu'
  rw [upd_ne u'l, upd_ne u'p] at hu'
  have u'o : u' ≠ o := fun e => by rw [e, upd_same] at hu'; cases hu'
  rw [upd_ne u'o] at hu'
  refine k H' o l u' vu ho l0 hu' op lp u'p hp' (sx _ _ op ?_) (sx _ _ lp ?_) hu'' mv fun b ob hb e => sx _ _ hb ?_
  · rw [upd_ne op, upd_ne op, upd_ne (Ne.symm uo), upd_ne op, upd_ne (Ne.symm lo), upd_ne op, upd_same]
  · rw [upd_ne lp, upd_ne lp, upd_ne (Ne.symm ul), upd_ne lp, upd_same]
  · rw [upd_ne hb, upd_ne hb, upd_ne (ne_of_none e u0), upd_ne hb, upd_ne (ne_of_none e l0), upd_ne hb, upd_ne (ne_of_none e ho)]
    exact e
def sp_note_measured (CS : Addr) : Sp := fun vs H Q _ => ∃ (p dx o l u : Addr) (t : Bool), vs = [.ref p] ∧ H p = some (.ins CS dx (sF o l u t)) ∧ Q .non (upd H p (.ins CS dx (sF o l u true)))
theorem c_Spins_note_measured (T : Top K mg CR CG CS CD aON aSH aDE) : MetG CX0 P w K mg base 1 CS "note_measured" (sp_note_measured CS) := by
  obtain ⟨f, fd, hm, F, b⟩ := T.m_Spins_note_measured.ex
  refine ⟨f, fd, _, T.cl_Spins, hm, F.ok sc_Spins_note_measured (fun vs H Q E h => by obtain ⟨p, dx, o, l, u, t, rfl, _⟩ := h; rfl) (fun cdv A outer s H vs Q E hr h => ⟨_, (pss_one (ps_fld (pv 0) pe_bl rfl)), ?_⟩), b⟩
  obtain ⟨p, dx, o, l, u, t, rfl, h⟩ := h
  obtain ⟨hp, k⟩ := h
  refine ⟨_, rfl, p, CS, dx, _, rfl, hp, T.cl_Spins, T.n_Spins_was_measured, (by show 4 < 1000; decide), ?_⟩
  rw [sF_putW]
  exact k
def sp_turn_link (CS : Addr) (K : PySem.W.Frag) : Sp := fun vs H Q _ => ∃ (p : Addr) (i j : Nat) (dx o l u : Addr) (t : Bool) (ow : List Nat) (lk : List (Nat × Nat)), vs = [.ref p, .int i, .int j] ∧ H p = some (.ins CS dx (sF o l u t)) ∧ OwnL K H o l ow lk ∧ ow.length ≤ 100 ∧ lk.length ≤ 100 ∧
  ∀ H' l' u' vu, H l' = none → H u' = none → H' p = some (.ins CS dx (sF o l' u' false)) → OwnL K H' o l' ow (Mx.turnL lk i j) → H' u' = some (.lst vu) → MeV K H' vu (Su175.first ow.length (Mx.turnL lk i j)) → SameX p H H' → Q .non H'
theorem c_Spins_turn_link (T : Top K mg CR CG CS CD aON aSH aDE) : MetG CX0 P w K mg base 5 CS "turn_link" (sp_turn_link CS K) := by
  obtain ⟨f, fd, hm, F, b⟩ := T.m_Spins_turn_link.ex
  refine ⟨f, fd, _, T.cl_Spins, hm, F.ok sc_Spins_turn_link (fun vs H Q E h => by obtain ⟨p, i, j, dx, o, l, u, t, ow, lk, rfl, _⟩ := h; rfl) (fun cdv A outer s H vs Q E hr h => ⟨_, (pss_cons (ps_set (i := 3) sc_Spins_turn_link.nd rfl (Or.inr rfl) (pe_tup (pa_cons (pe_callB (call_min2 rfl) (by rfl) T.b_min boot_fmin (pa_cons (pv 1) (pa_cons (pv 2) pa_nil))) (pa_cons (pe_callB (call_max2 rfl) (by rfl) T.b_max boot_fmax (pa_cons (pv 1) (pa_cons (pv 2) pa_nil))) pa_nil))))
    (pss_cons (ps_if (pt_cmpR (op_inD (hu65 hr)) (pv 3) (pe_fld (pv 0) rfl) (by rfl)) (pss_one (ps_fld (pv 0) (pe_lc (own := [("link", 4)]) (g := gName 4) rfl sc_Spins_turn_link.nd (pi_list (pe_fld (pv 0) rfl)) (blkOk_by (N := N_Spins_turn_link) (sc := defScope s_Spins_turn_link) (by decide +kernel)) (fun _ _ _ _ _ => (pg_name (i := 4) sc_Spins_turn_link.nd rfl (Or.inl rfl))) (fun _ _ _ _ _ => (pts_one (pt_cmpR (op_neDK (K := K) rfl hr.units) (pv 4) (pv 3) (nomark _)))) (fun _ _ _ _ _ => (pv 4))) rfl)) (pss_one (ps_fld (pv 0) (pe_op op_cat (pe_fld (pv 0) rfl) (pe_lst (pa_cons (pv 3) pa_nil))) rfl)))
    (pss_one (ps_expr (pe_mg0 (c_Spins_refresh T) hr (by decide) pass0 (pv 0)))))), ?_⟩), b⟩
  obtain ⟨p, i, j, dx, o, l, u, t, ow, lk, rfl, h⟩ := h
  obtain ⟨hp, ⟨ho, vl, hl, hv⟩, hol, hll, k⟩ := h
  refine ⟨_, rfl, _, rfl, _, _, rfl, ?_⟩
  rw [min2]
  refine ⟨_, rfl, _, rfl, _, _, rfl, ?_⟩
  rw [max2]
  refine ⟨(by show 2 ≤ sizeLine; decide), fun q hq => ?_⟩
  have s := Same.new (o := HO.tup [.int (min i j : Nat), .int (max i j : Nat)]) hq
  have hp1 := s _ _ hp
  have pl := hv.1
  have hvl : vl.length ≤ 100 := by rw [pl, List.length_map]; exact hll
  -- once the links are new
  have fin : ∀ (H2 : Hp) (l' : Addr) (vs : List V), Same H H2 → H l' = none → H2 l' = some (.lst vs) → PaV K H2 vs ((Mx.turnL lk i j).map Mx.normP) → ∀ H' u' vu,
      upd H2 p (.ins CS dx (sF o l' u t)) u' = none → H' p = some (.ins CS dx (sF o l' u' false)) → H' u' = some (.lst vu) → MeV K H' vu (Su175.first ow.length (Mx.turnL lk i j)) → SameX p (upd H2 p (.ins CS dx (sF o l' u t))) H' → Q .non H' := fun H2 l' vs s2 hl' h2 pv H' u' vu hu hp' hu' mv sx => by
    have up : u' ≠ p := fun e => by rw [e, upd_same] at hu; cases hu
    rw [upd_ne up] at hu
    have op : o ≠ p := ne_of ho hp (by intro z; cases z)
    have lp : l' ≠ p := fun e => by rw [e, hp] at hl'; cases hl'
    have sx' : SameX p H2 H' := fun b ob hb e => sx b ob hb (by rw [upd_ne hb]; exact e)
    exact k H' l' u' vu hl' (Same.free s2 hu) hp' ⟨sx' _ _ op (s2 _ _ ho), vs, sx' _ _ lp h2, pv.samexO sx' (notTup (s2 _ _ hp))⟩ hu' mv fun b ob hb e => sx' b ob hb (s2 b ob e)
  have own : ∀ (H2 : Hp) (l' : Addr) (vs : List V), Same H H2 → H l' = none → H2 l' = some (.lst vs) → PaV K H2 vs ((Mx.turnL lk i j).map Mx.normP) → OwnL K (upd H2 p (.ins CS dx (sF o l' u t))) o l' ow (Mx.turnL lk i j) := fun H2 l' vs s2 hl' h2 pv => by
    have op : o ≠ p := ne_of ho hp (by intro z; cases z)
    have lp : l' ≠ p := fun e => by rw [e, hp] at hl'; cases hl'
    exact ⟨by rw [upd_ne op]; exact s2 _ _ ho, vs, by rw [upd_ne lp]; exact h2, pv.samexO SameX.upd (notTup (s2 _ _ hp))⟩
  refine ⟨_, rfl, _, rfl, p, CS, dx, _, _, rfl, hp1, T.cl_Spins, T.n_Spins_links, sF_links, pD (min i j, max i j), (lk.map Mx.normP).map pD, dp_pair (SqT.of upd_same), .lst (SqL.of (s _ _ hl)) (dp_pairs (hv.same s)), pD_shaped _, pDs_shapedL _, _, rfl, ?_⟩
  rw [pD_any, linked_contains]
  refine if2 (fun c => ?_) (fun c => ?_)
  · have et : (Mx.turnL lk i j).map Mx.normP = (lk.map Mx.normP).filter fun z => z != Mx.normP (i, j) := by
      unfold Mx.turnL
      rw [if_pos c, Mx.filter_norm]
    refine ⟨_, rfl, p, CS, dx, _, _, rfl, hp1, T.cl_Spins, T.n_Spins_links, sF_links, l, rfl, ⟨_, SqL.of (s _ _ hl)⟩, fun D hD => lc_it walk_list (fun n H' => Same (upd H q (.tup [.int (min i j : Nat), .int (max i j : Nat)])) H' ∧ ∃ ws : List V, H' D = some (.lst ws) ∧ ws.length ≤ n ∧ PaV K H' ws (((lk.map Mx.normP).take n).filter fun z => z != Mx.normP (i, j)))
      ⟨Same.new hD, [], upd_same, Nat.le_refl _, rfl, fun i v q h => by simp at h⟩ (fun n H' _ h => SqL.of (h.1 _ _ (s _ _ hl))) ?_ ?_⟩
    · rintro n x H1 H1' hn ⟨s1, ws, hws, hwl, pw⟩ ⟨rfl, hx⟩
      have hn2 : n < (lk.map Mx.normP).length := by rw [← pl]; exact hn
      have hz := List.getElem?_eq_getElem hn2
      obtain ⟨a, rfl, ha⟩ := hv.2 n _ _ hx hz
      generalize (lk.map Mx.normP)[n] = z at ha hz
      have ha1 := s1 _ _ (s _ _ ha)
      refine ⟨rfl, _, rfl, _, rfl, pD z, pD (Mx.normP (i, j)), dp_pair (SqT.of ha1), dp_pair (SqT.of (s1 _ _ upd_same)), pD_shaped _, pD_shaped _, _, rfl, ?_⟩
      rw [pD_eqv]
      have hfr : H1' D = some (.lst ws) := hws
      refine if2 (fun d => ⟨_, rfl, ws, hws, by rw [sizeLine_eq]; omega, fun b ob e => ?_, _, upd_same, ?_, ?_⟩) (fun d => ⟨s1, ws, hws, by omega, ?_⟩)
      · rw [upd_ne (ne_of_none e hD)]
        exact s1 b ob e
      · rw [List.length_append]
        exact Nat.succ_le_succ hwl
      · rw [take_snoc hz, List.filter_append]
        have e1 : (z != Mx.normP (i, j)) = true := by
          have : ¬ z = Mx.normP (i, j) := by simpa using d
          simpa using this
        rw [show ([z].filter fun z => z != Mx.normP (i, j)) = [z] from by simp [List.filter_cons, e1]]
        have aD : a ≠ D := ne_of ha1 hws (by intro z; cases z)
        exact PaV.snoc (pw.samexO SameX.upd (fun xs e => by rw [hws] at e; cases e)) rfl (by rw [upd_ne aD]; exact ha1)
      · rw [take_snoc hz, List.filter_append]
        have e1 : (z != Mx.normP (i, j)) = false := by
          have : z = Mx.normP (i, j) := by simpa using d
          simpa using this
        rw [show ([z].filter fun z => z != Mx.normP (i, j)) = [] from by simp [List.filter_cons, e1], List.append_nil]
        exact pw
    · rintro H1 ⟨s1, ws, hws, hwl, pw⟩
      rw [pl, List.take_length, ← et] at pw
      have s2 : Same H H1 := s.trans s1
      refine ⟨_, rfl, p, CS, dx, _, rfl, s2 _ _ hp, T.cl_Spins, T.n_Spins_links, (by show 4 < 1000; decide), ?_⟩
      rw [sF_putL]
      exact ⟨_, rfl, p, dx, _, rfl, upd_same, sF_not (by decide +kernel), p, dx, o, D, u, t, ow, Mx.turnL lk i j, rfl, upd_same, own H1 D ws s2 (Same.free s hD) hws pw, hol, fun H' u' vu hu hp' hu' mv sx => fin H1 D ws s2 (Same.free s hD) hws pw H' u' vu hu hp' hu' mv sx⟩
  · have et : (Mx.turnL lk i j).map Mx.normP = lk.map Mx.normP ++ [Mx.normP (i, j)] := by
      unfold Mx.turnL
      rw [if_neg (by rw [c]; exact Bool.false_ne_true), List.map_append]
      rfl
    refine ⟨_, rfl, p, CS, dx, _, _, rfl, hp1, T.cl_Spins, T.n_Spins_links, sF_links, _, rfl, (by show 1 ≤ sizeLine; decide), fun r hr => ?_⟩
    have s1 := Same.then (o := HO.lst [.ref q]) s hr
    refine ⟨l, r, _, _, rfl, rfl, s1 _ _ hl, upd_same, by rw [sizeLine_eq]; show vl.length + 1 ≤ _; omega, fun l' hl' => ?_⟩
    have s2 := Same.then (o := HO.lst (vl ++ [.ref q])) s1 hl'
    have pw : PaV K (upd (upd (upd H q (.tup [.int (min i j : Nat), .int (max i j : Nat)])) r (.lst [.ref q])) l' (.lst (vl ++ [.ref q]))) (vl ++ [.ref q]) ((Mx.turnL lk i j).map Mx.normP) := by
      rw [et]
      exact PaV.snoc (hv.same s2) rfl ((Same.new hl') _ _ ((Same.new hr) _ _ upd_same))
    have hl0 : H l' = none := Same.free s1 hl'
    refine ⟨_, rfl, p, CS, dx, _, rfl, s2 _ _ hp, T.cl_Spins, T.n_Spins_links, (by show 4 < 1000; decide), ?_⟩
    rw [sF_putL]
    exact ⟨_, rfl, p, dx, _, rfl, upd_same, sF_not (by decide +kernel), p, dx, o, l', u, t, ow, Mx.turnL lk i j, rfl, upd_same, own _ l' _ s2 hl0 upd_same pw, hol, fun H' u' vu hu hp' hu' mv sx => fin _ l' _ s2 hl0 upd_same pw H' u' vu hu hp' hu' mv sx⟩
end
end Ss
namespace Ss
open PySem PySem.Spec PyProof.Rows L2
open Su173 (Spin)
open Su175 (Abs)
section
variable {P : Program} {w : World} {K : PySem.W.Frag} {mg : Str → Option Value} {base : Heap} {CR CG CS CD aON aSH aDE : Addr}
theorem putK_long {κ : Type} [DecidableEq κ] (c : List (κ × V)) (k : κ) (x : V) : (putK c k x).length ≤ c.length + 1 := by
  unfold putK
  by_cases e : (c.any fun kv => decide (kv.1 = k)) = true
  · rw [if_pos e, List.length_map]
    omega
  · rw [if_neg e, List.length_append]
    simp
theorem atV {xs : List V} {i : Nat} {v : V} (h : xs[i]? = some v) : atI xs (i : Int) = some v := atI_nat h
/-- spins that are read -/
def SpinR (CS : Addr) (K : PySem.W.Frag) (H : Hp) (p : Addr) (ow : List Nat) (S : List Spin) : Prop := ∃ (dx o l u : Addr) (t : Bool) (vu : List V), H p = some (.ins CS dx (sF o l u t)) ∧ H o = some (.tup (nL ow)) ∧ H u = some (.lst vu) ∧ MeV K H vu S
theorem SpinR.same {CS : Addr} {H H' : Hp} {p : Addr} {ow : List Nat} {S : List Spin} (h : SpinR CS K H p ow S) (s : Same H H') : SpinR CS K H' p ow S := by
  obtain ⟨dx, o, l, u, t, vu, h1, h2, h3, h4⟩ := h
  exact ⟨dx, o, l, u, t, vu, s _ _ h1, s _ _ h2, s _ _ h3, h4.same s⟩
def sp_known_signs (CS : Addr) (K : PySem.W.Frag) : Sp := fun vs H Q _ => ∃ (p : Addr) (ow : List Nat) (S : List Spin), vs = [.ref p] ∧ SpinR CS K H p ow S ∧ Mx.Stab ow.length S ∧ ow.length ≤ 6 ∧
  ∀ d H', Same H H' → H d = none → Known H' d (Mx.sgn ow.length S) → Q (.ref d) H'
theorem c_Spins_known_signs (T : Top K mg CR CG CS CD aON aSH aDE) : MetG CX0 P w K mg base 3 CS "known_signs" (sp_known_signs CS K) := by
  obtain ⟨f, fd, hm, F, b⟩ := T.m_Spins_known_signs.ex
  refine ⟨f, fd, _, T.cl_Spins, hm, F.ok sc_Spins_known_signs (fun vs H Q E h => by obtain ⟨p, ow, S, rfl, _⟩ := h; rfl) (fun cdv A outer s H vs Q E hr h => ⟨_, (pss_cons (ps_set (i := 1) sc_Spins_known_signs.nd rfl (Or.inl rfl) (pe_lst (pa_cons (pe_cg (c_bare T) hr (by decide) rfl pass0 (pa_cons (pe_mg0 (c_Spins_many T) hr (by decide) pass0 (pv 0)) pa_nil)) pa_nil)))
    (pss_cons (ps_for PassesOwn.never rfl (pi_list (pe_fld (pv 0) rfl)) (pg_name (i := 2) sc_Spins_known_signs.nd rfl (Or.inr rfl)) (pss_one (ps_set (i := 1) sc_Spins_known_signs.nd rfl (Or.inl rfl) (pe_op op_cat (pv 1) (pe_lc (own := [("each", 6)]) (g := gName 6) rfl sc_Spins_known_signs.nd (pi_list (pv 1)) (blkOk_by (N := N_Spins_known_signs) (sc := defScope s_Spins_known_signs) (by decide +kernel)) (fun _ _ _ _ _ => (pg_name (i := 6) sc_Spins_known_signs.nd rfl (Or.inl rfl))) (fun _ _ _ _ _ => pts_nil) (fun _ _ _ _ _ => (pe_cg (c_product T) hr (by decide) rfl pass0 (pa_cons (pe_lst (pa_cons (pv 6) (pa_cons (pv 2) pa_nil))) (pa_cons (pe_mg0 (c_Spins_many T) hr (by decide) pass0 (pv 0)) pa_nil)))))))))
    (pss_cons (ps_set (i := 3) sc_Spins_known_signs.nd rfl (Or.inl rfl) pe_dnewT)
    (pss_cons (ps_for PassesOwn.never rfl (pi_list (pv 1)) (pg_tup rfl (pgs_cons (pg_name (i := 4) sc_Spins_known_signs.nd rfl (Or.inl rfl)) (pgs_cons (pg_name (i := 5) sc_Spins_known_signs.nd rfl (Or.inl rfl)) pgs_nil))) (pss_one (ps_dput (hu_of hr) (pv 3) (pv 5) (pv 4) rfl)))
    (pss_one (ps_ret (pv 3))))))), ?_⟩), b⟩
  obtain ⟨p, ow, S, rfl, h⟩ := h
  obtain ⟨⟨dx, o, l, u, t, vu, hp, ho, hu, hv⟩, st, hm, k⟩ := h
  have cm := fun i => (Mx.kn_mem (S.take i) (Mx.com_take st.com i)).1
  have hSl : S.length ≤ 6 := by rw [st.len]; exact hm
  refine ⟨_, rfl, p, dx, _, rfl, hp, sF_not (by decide +kernel), p, dx, o, l, u, t, ow, rfl, hp, ho, ow.length, rfl, by omega, fun v H1 s1 me => ⟨(by show 1 ≤ sizeLine; decide), fun L0 hL0 => ?_⟩⟩
  have sL := Same.then (o := HO.lst [v]) s1 hL0
  have vl := hv.1
  refine ⟨_, rfl, p, CS, dx, _, _, rfl, sL _ _ hp, T.cl_Spins, T.n_Spins_sures, sF_sures, u, rfl, ⟨_, SqL.of (sL _ _ hu)⟩, for_it walk_list (fun i σ H' => Same H H' ∧ ∃ (L : Addr) (vs : List V) (o2 o6 : Option V), H' L = some (.lst vs) ∧ vs.length = 2 ^ i ∧ MeV K H' vs (Mx.kn ow.length (S.take i)) ∧ σ = [some (.ref p), some (.ref L), o2, none, none, none, o6])
    ⟨sL, L0, [v], none, none, upd_same, rfl, (MeV.one me).same (Same.new hL0), rfl⟩ (fun i σ H' _ h => SqL.of (h.1 _ _ hu)) ?_ ?_⟩
  · rintro i x σ H2 H2' hi ⟨s2, L, vs, o2, o6, hL, hvl, mv, rfl⟩ ⟨rfl, hx⟩
    have hi2 : i < S.length := by omega
    have hi6 : i < 6 := by omega
    have hg := List.getElem?_eq_getElem hi2
    have hgm := List.getElem_mem hi2
    have mg1 := hv.2 i _ _ hx hg
    generalize S[i] = g at hg hgm mg1
    have pw : 2 ^ i ≤ 32 := by
      have : 2 ^ i ≤ 2 ^ 5 := Nat.pow_le_pow_right (by omega) (by omega)
      omega
    refine ⟨_, rfl, _, rfl, L, rfl, ⟨_, SqL.of hL⟩, fun D hD => lc_gen walk_list (fun j y H' => ∃ e, (Mx.kn ow.length (S.take i))[j]? = some e ∧ Me K H' y (Mx.pr2 ow.length e g)) (by omega) hD (fun H' s' => SqL.of (s' _ _ hL)) (fun j y H3 H4 acc hacc sx m => let ⟨e, h1, h2⟩ := m; ⟨e, h1, h2.samex sx hacc⟩) ?_ ?_⟩
    · rintro j y H3 H3' Q' hj s3 _ ⟨rfl, hy⟩ hk
      have hj2 : j < (Mx.kn ow.length (S.take i)).length := by rw [← mv.1]; exact hj
      have he := List.getElem?_eq_getElem hj2
      have hem := List.getElem_mem hj2
      have me := mv.2 j _ _ hy he
      generalize (Mx.kn ow.length (S.take i))[j] = e at he hem me
      have s02 := Same.trans s2 s3
      refine ⟨rfl, _, rfl, _, rfl, (by show 2 ≤ sizeLine; decide), fun q hq => ?_⟩
      have sq : Same H3' (upd H3' q (.lst [y, x])) := Same.new hq
      have s4 := Same.trans s02 sq
      refine ⟨_, rfl, p, dx, _, rfl, s4 _ _ hp, sF_not (by decide +kernel), p, dx, o, l, u, t, ow, rfl, s4 _ _ hp, s4 _ _ ho, q, [e, g], ow.length, rfl, ⟨[y, x], SqL.of upd_same, ?_⟩, ?_, by omega, fun v5 H5 s5 m5 => hk v5 H5 (Same.trans sq s5) ⟨e, he, m5⟩⟩
      · exact MeV.snoc (MeV.one ((me.same s3).same sq)) (mg1.same s4)
      · intro z hz
        rcases List.mem_cons.mp hz with rfl | hz
        · exact (cm i _ hem).1
        · rcases List.mem_cons.mp hz with rfl | hz
          · exact st.sp _ hgm
          · cases hz
    · intro H3 ys s3 hy hyl hyp
      refine ⟨L, D, _, _, rfl, rfl, s3 _ _ hL, hy, by rw [sizeLine_eq]; omega, fun L' hL' => ?_⟩
      have s4 := Same.then (o := HO.lst (vs ++ ys)) s3 hL'
      refine ⟨Same.trans s2 s4, L', _, some x, o6, upd_same, by rw [List.length_append, hyl, hvl, Nat.pow_succ]; omega, ?_, rfl⟩
      rw [take_snoc hg, Mx.kn_snoc]
      refine (mv.same s4).app ⟨by rw [hyl, List.length_map, mv.1], fun j y z h1 h2 => ?_⟩
      obtain ⟨e, he, me⟩ := hyp j y h1
      rw [List.getElem?_map, he] at h2
      cases h2
      exact me.same (Same.new hL')
  · rintro σ H2 ⟨s2, L, vs, o2, o6, hL, hvl, mv, rfl⟩
    rw [vl, List.take_length] at mv
    have hvs : vs.length ≤ 64 := by
      have : 2 ^ vu.length ≤ 2 ^ 6 := Nat.pow_le_pow_right (by omega) (by omega)
      omega
    refine fun d hd => ?_
    have hd0 : H d = none := Same.free s2 hd
    refine ⟨_, rfl, L, rfl, ⟨_, SqL.of ((Same.new hd) _ _ hL)⟩, for_it walk_list (fun i σ H' => Same H2 H' ∧ ∃ (kvs : List (List Key × V)) (o4 o5 : Option V), H' d = some (.dT kvs) ∧ kvs.length ≤ i ∧ (∀ z : List Nat, valV kvs (keyL z) = (Mx.lastOf ((Mx.kn ow.length S).take i) z).map fun (n : Nat) => V.int n) ∧ σ = [some (.ref p), some (.ref L), o2, some (.ref d), o4, o5, o6])
      ⟨Same.new hd, [], none, none, upd_same, Nat.le_refl _, fun z => rfl, rfl⟩ (fun i σ H' _ h => SqL.of (h.1 _ _ hL)) ?_ ?_⟩
    · rintro i x σ H3 H3' hi ⟨s3, kvs, o4, o5, hk, hkl, hkv, rfl⟩ ⟨rfl, hx⟩
      have hi2 : i < (Mx.kn ow.length S).length := by rw [← mv.1]; exact hi
      have he := List.getElem?_eq_getElem hi2
      obtain ⟨a1, b1, rfl, h1, h2⟩ := mv.2 i _ _ hx he
      generalize (Mx.kn ow.length S)[i] = e at he h1 h2
      refine ⟨a1, _, rfl, SqT.of (s3 _ _ h1), rfl, _, _, rfl, _, _, rfl, rfl, _, rfl, _, rfl, _, rfl, d, _, rfl, DPut.t (k := keyL e.l) hk (by rw [keyL_v]; exact s3 _ _ h2) (by rw [sizeLine_eq]; omega), fun b ob hb => ?_, _, some (.int e.s), some (.ref b1), upd_same, Nat.le_trans (putK_long _ _ _) (Nat.succ_le_succ hkl), fun z => ?_, rfl⟩
      · rw [upd_ne (ne_of_none hb hd)]
        exact s3 _ _ hb
      · rw [valV_put, take_snoc he, Mx.lastOf_snoc, hkv]
        by_cases c : e.l = z
        · subst c
          rw [if_pos rfl, if_pos rfl]
          rfl
        · rw [if_neg (fun z' => c (keyL_inj z').symm), if_neg c]
    · rintro σ H3 ⟨s3, kvs, o4, o5, hk, hkl, hkv, rfl⟩
      refine ⟨_, rfl, k d H3 (Same.trans s2 s3) hd0 ⟨kvs, hk, fun z => ?_⟩⟩
      rw [hkv, mv.1, List.take_length, Mx.kn_sgn st]
theorem oV_map (x : Option Nat) : (x.map fun (s : Nat) => V.int s).getD .non = oV x := by cases x <;> rfl
theorem Known.isD {H : Hp} {d : Addr} {f' : List Nat → Option Nat} (h : Known H d f') : IsD H d := let ⟨kvs, h1, _⟩ := h; .inr ⟨kvs, .inl h1⟩
theorem Known.get {H : Hp} {d b : Addr} {f' : List Nat → Option Nat} {l : List Nat} (h : Known H d f') (hb : H b = some (.tup (nL l))) : DGet H d (.ref b) ((f' l).map fun (s : Nat) => V.int s) := by
  obtain ⟨kvs, h1, h2⟩ := h
  rw [← h2]
  exact DGet.t h1 (by rw [keyL_v]; exact hb)
def sp_sign_of (CS : Addr) (K : PySem.W.Frag) : Sp := fun vs H Q _ => ∃ (p b : Addr) (ow : List Nat) (S : List Spin) (lt : List Nat), vs = [.ref p, .ref b] ∧ SpinR CS K H p ow S ∧ Mx.Stab ow.length S ∧ ow.length ≤ 6 ∧ H b = some (.tup (nL lt)) ∧
  ∀ H', Same H H' → Q (oV (Mx.sgn ow.length S lt)) H'
theorem c_Spins_sign_of (T : Top K mg CR CG CS CD aON aSH aDE) : MetG CX0 P w K mg base 4 CS "sign_of" (sp_sign_of CS K) := by
  obtain ⟨f, fd, hm, F, b⟩ := T.m_Spins_sign_of.ex
  refine ⟨f, fd, _, T.cl_Spins, hm, F.ok sc_Spins_sign_of (fun vs H Q E h => by obtain ⟨p, b', ow, S, lt, rfl, _⟩ := h; rfl) (fun cdv A outer s H vs Q E hr h => ⟨_, (pss_one (ps_ret (pe_dget1 (hu_of hr) (pe_mg0 (c_Spins_known_signs T) hr (by decide) pass0 (pv 0)) (pv 1) ⟨rfl, rfl, rfl, rfl⟩))), ?_⟩), b⟩
  obtain ⟨p, b', ow, S, lt, rfl, h⟩ := h
  obtain ⟨hR, st, hm, hb, k⟩ := h
  obtain ⟨dx, o, l, u, t, vu, hp, _⟩ := id hR
  refine ⟨_, rfl, p, dx, _, rfl, hp, sF_not (by decide +kernel), p, ow, S, rfl, hR, st, hm, fun d H' s hd Kn => ⟨d, rfl, Kn.isD, _, rfl, _, Kn.get (s _ _ hb), ?_⟩⟩
  rw [oV_map]
  exact k H' s
def sp_become_sure (CS : Addr) (K : PySem.W.Frag) : Sp := fun vs H Q _ => ∃ (p : Addr) (c : Nat) (b dx o l u : Addr) (t : Bool) (vu : List V) (ow : List Nat) (X : List Spin) (q : Spin) (Y : List Spin) (lt : List Nat), vs = [.ref p, .int c, .ref b] ∧ H p = some (.ins CS dx (sF o l u t)) ∧ H o = some (.tup (nL ow)) ∧ H u = some (.lst vu) ∧ MeV K H vu (X ++ q :: Y) ∧
  Mx.Stab ow.length (X ++ q :: Y) ∧ ow.length ≤ 6 ∧ H b = some (.tup (nL lt)) ∧ Mx.Lt ow.length lt ∧ (∀ s ∈ X, Mx.A s.l lt % 2 = 0) ∧ Mx.A q.l lt % 2 = 1 ∧
  ∀ H' u' vu', H u' = none → H' p = some (.ins CS dx (sF o l u' t)) → H' u' = some (.lst vu') → MeV K H' vu' (Mx.aft ow.length X q Y lt c) → SameX p H H' → Q .non H'
theorem cut_tail (x : V) (xs : List V) : cutV (x :: xs) (some ((1 : Nat) : Int)) none = xs := by
  unfold cutV
  rw [HT.sIx_nat, HT.sIx_none, Nat.min_eq_left (by simp)]
  simp
theorem intsN (R : List Nat) : (R.map fun (i : Nat) => V.int (i : Int)) = nL R := by
  unfold nL
  rw [List.map_map]
  rfl
theorem c_Spins_become_sure (T : Top K mg CR CG CS CD aON aSH aDE) : MetG CX0 P w K mg base 3 CS "become_sure" (sp_become_sure CS K) := by
  obtain ⟨f, fd, hm, F, b⟩ := T.m_Spins_become_sure.ex
  refine ⟨f, fd, _, T.cl_Spins, hm, F.ok sc_Spins_become_sure (fun vs H Q E h => by obtain ⟨p, c, b', dx, o, l, u, t, vu, ow, X, q, Y, lt, rfl, _⟩ := h; rfl) (fun cdv A outer s H vs Q E hr h => ⟨_, (pss_cons (ps_setLc (i := 3) (own := [("at", 7)]) (g := gName 7) rfl sc_Spins_become_sure.nd rfl rfl (sw_true rfl rfl rfl (by decide +kernel)) (pi_range1 (by rfl) T.b_range (pa_cons (pe_mg0 (c_Spins_many T) hr (by decide) pass0 (pv 0)) pa_nil)) (blkOk_by (N := N_Spins_become_sure) (sc := defScope s_Spins_become_sure) (by decide +kernel)) (fun _ _ _ _ _ => (pg_name (i := 7) sc_Spins_become_sure.nd rfl (Or.inl rfl))) (fun _ _ _ _ _ => (pts_one (pt_not (pt_val (pe_cg (c_go_together T) hr (by decide) rfl pass0 (pa_cons (pe_ix (ix_tupK (K := K) rfl) (pe_ix (ix_listK (K := K) rfl) (pe_fldK (K := K) rfl (pv 0)) (pv 7) (fun _ _ => rfl)) pe_int (fun _ _ => rfl)) (pa_cons (pv 2) pa_nil))))))) (fun _ _ _ _ _ => (pv 7)))
    (pss_cons (ps_set (i := 4) sc_Spins_become_sure.nd rfl (Or.inl rfl) (pe_ix ix_list (pv 3) pe_int (fun _ _ => rfl)))
    (pss_cons (ps_set (i := 5) sc_Spins_become_sure.nd rfl (Or.inl rfl) (pe_ix ix_list (pe_fld (pv 0) rfl) (pv 4) (fun _ _ => rfl)))
    (pss_cons (ps_set (i := 6) sc_Spins_become_sure.nd rfl (Or.inl rfl) (pe_callTy call_list_of (by rfl) T.b_list boot_flist (pa_cons (pe_fld (pv 0) rfl) pa_nil)))
    (pss_cons (ps_for PassesOwn.never rfl (pi_list (pe_slice sl_list (pv 3) (po_some pe_int) po_none)) (pg_name (i := 7) sc_Spins_become_sure.nd rfl (Or.inl rfl)) (pss_one (ps_asg (pe_cg (c_product T) hr (by decide) rfl pass0 (pa_cons (pe_lst (pa_cons (pe_ix ix_list (pe_fld (pv 0) rfl) (pv 7) (fun _ _ => rfl)) (pa_cons (pv 5) pa_nil))) (pa_cons (pe_mg0 (c_Spins_many T) hr (by decide) pass0 (pv 0)) pa_nil))) (pg_sub (pv 6) (pv 7) set_list))))
    (pss_cons (ps_asg (pe_tup (pa_cons (pv 1) (pa_cons (pv 2) pa_nil))) (pg_sub (pv 6) (pv 4) set_list))
    (pss_one (ps_fld (pv 0) (pv 6) rfl)))))))), ?_⟩), b⟩
  obtain ⟨p, c, b', dx, o, l, u, t, vu, ow, X, q, Y, lt, rfl, h⟩ := h
  obtain ⟨hp, ho, hu, hv, st, hm, hb, hlt, hX, hq, k⟩ := h
  obtain ⟨R, hR⟩ := Mx.apart_head st.len hX hq
  have vl := hv.1
  have hSl := st.len
  have hap : (Mx.apart ow.length (X ++ q :: Y) lt).length ≤ 6 := Nat.le_trans (List.length_filter_le _ _) (by rw [List.length_range]; exact hm)
  have memR : ∀ i ∈ R, i < ow.length := fun i hi => (Mx.mem_apart.mp (by rw [hR]; exact List.mem_cons_of_mem _ hi : i ∈ Mx.apart ow.length (X ++ q :: Y) lt)).1
  refine ⟨_, rfl, p, dx, _, rfl, hp, sF_not (by decide +kernel), p, dx, o, l, u, t, ow, rfl, hp, ho, _, rfl, rng1 (by omega), rng2 (by omega), fun D hD => lc_filt (walk_rng _) (fun i => decide (Mx.A ((X ++ q :: Y).getD i ⟨0, []⟩).l lt % 2 = 1)) (fun i => .int (i : Nat)) (by omega) hD (fun _ _ => trivial) ?_ ?_⟩
  · rintro i x H1 H' Q' N hi s1 _ ⟨rfl, rfl⟩ k1 k2
    have hi2 : i < vu.length := by omega
    have hi3 : i < (X ++ q :: Y).length := by omega
    have h1 := List.getElem?_eq_getElem hi2
    have h2 := List.getElem?_eq_getElem hi3
    obtain ⟨a1, b1, e1, t1, t2⟩ := (hv.2 i _ _ h1 h2)
    have hsp := (st.sp _ (List.getElem_mem hi3)).l
    have eD : (X ++ q :: Y).getD i ⟨0, []⟩ = (X ++ q :: Y)[i] := by
      rw [List.getD_eq_getElem?_getD, h2]
      rfl
    rw [eD] at k1 k2
    generalize (X ++ q :: Y)[i] = g at t1 t2 hsp k1 k2
    rw [e1] at h1
    refine ⟨rfl, _, rfl, p, CS, dx, _, _, rfl, s1 _ _ hp, T.cl_Spins, T.n_Spins_sures, sF_sures, _, rfl, u, _, _, _, rfl, rfl, SqL.of (s1 _ _ hu), atV h1, a1, _, 1, _, rfl, rfl, SqT.of (s1 _ _ t1), rfl, _, rfl, b1, b', g.l, lt, rfl, SqT.of (s1 _ _ t2), SqT.of (s1 _ _ hb), by rw [hsp.1, hlt.1], by rw [hsp.1]; omega, fun H3 s3 => ⟨_, rfl, if2 (fun z => ⟨_, rfl, k1 H3 s3 ?_⟩) (fun z => k2 H3 s3 ?_)⟩⟩
    · have := Nat.mod_two_eq_zero_or_one (Mx.A g.l lt)
      simp only [Bool.not_eq_true', decide_eq_false_iff_not] at z
      exact decide_eq_true (by omega)
    · have := Nat.mod_two_eq_zero_or_one (Mx.A g.l lt)
      simp only [Bool.not_eq_false', decide_eq_true_iff] at z
      exact decide_eq_false (by omega)
  · intro H1 s1 hD1
    rw [intsN] at hD1
    have hD2 : H1 D = some (.lst (nL (X.length :: R))) := by rw [← hR]; exact hD1
    have hXm : X.length < ow.length := by rw [← hSl]; simp
    have hqv : ∃ v, vu[X.length]? = some v ∧ Me K H v q := hv.at (by rw [List.getElem?_append_right (Nat.le_refl _), Nat.sub_self]; rfl)
    obtain ⟨vq, hvq, mq⟩ := hqv
    refine ⟨_, rfl, D, _, 0, _, rfl, rfl, SqL.of hD2, atV (i := 0) rfl, ?_⟩
    refine ⟨_, rfl, p, CS, dx, _, _, rfl, s1 _ _ hp, T.cl_Spins, T.n_Spins_sures, sF_sures, _, rfl, u, _, _, _, rfl, rfl, SqL.of (s1 _ _ hu), atV hvq, ?_⟩
    refine ⟨_, rfl, p, CS, dx, _, _, rfl, s1 _ _ hp, T.cl_Spins, T.n_Spins_sures, sF_sures, u, _, rfl, .inl (SqL.of (s1 _ _ hu)), fun U hU => ?_⟩
    have hU0 : H U = none := Same.free s1 hU
    have sU := Same.then (o := HO.lst vu) s1 hU
    refine ⟨_, rfl, _, rfl, D, _, rfl, SqL.of ((Same.new hU) _ _ hD2), fun E2 hE2 => ?_⟩
    rw [show nL (X.length :: R) = .int (X.length : Nat) :: nL R from rfl]
    show _
    have sE := Same.then (o := HO.lst (cutV (.int (X.length : Nat) :: nL R) (some 1) none)) sU hE2
    have UE : U ≠ E2 := fun e => by rw [← e, upd_same] at hE2; cases hE2
    have hEc : upd (upd H1 U (.lst vu)) E2 (.lst (cutV (.int (X.length : Nat) :: nL R) (some 1) none)) E2 = some (.lst (nL R)) := by
      rw [upd_same]
      exact congrArg (fun z => some (HO.lst z)) (cut_tail _ _)
    have hE1 : H1 E2 = none := by rw [upd_ne (Ne.symm UE)] at hE2; exact hE2
    let f : Nat → Spin := fun i => Mx.pr2 ow.length ((X ++ q :: Y).getD i ⟨0, []⟩) q
    refine ⟨E2, rfl, ⟨_, SqL.of hEc⟩, for_it walk_list (fun i σ H' => Same H H' ∧ H' E2 = some (.lst (nL R)) ∧ ∃ (vs : List V) (o7 : Option V), H' U = some (.lst vs) ∧ MeV K H' vs (Mx.sets f (R.take i) (X ++ q :: Y)) ∧ σ = [some (.ref p), some (.int c), some (.ref b'), some (.ref D), some (.int (X.length : Nat)), some vq, some (.ref U), o7])
      ⟨sE, hEc, vu, none, by rw [upd_ne UE, upd_same], hv.same sE, rfl⟩ (fun i σ H' _ h => SqL.of h.2.1) ?_ ?_⟩
    · rintro i x σ H2 H2' hi ⟨s2, hE3, vs, o7, hUv, mv, rfl⟩ ⟨rfl, hx⟩
      obtain ⟨j, hj, rfl⟩ := nL_at' hx
      have hjm := memR j (List.mem_of_getElem? hj)
      have hj2 : j < vu.length := by omega
      have hj3 : j < (X ++ q :: Y).length := by omega
      have h1 := List.getElem?_eq_getElem hj2
      have h2 := List.getElem?_eq_getElem hj3
      have mj := hv.2 j _ _ h1 h2
      have eD : f j = Mx.pr2 ow.length (X ++ q :: Y)[j] q := by
        show Mx.pr2 ow.length ((X ++ q :: Y).getD j ⟨0, []⟩) q = _
        rw [List.getD_eq_getElem?_getD, h2]
        rfl
      have hgm := List.getElem_mem hj3
      refine ⟨_, rfl, p, CS, dx, _, _, rfl, s2 _ _ hp, T.cl_Spins, T.n_Spins_sures, sF_sures, _, rfl, u, _, _, _, rfl, rfl, SqL.of (s2 _ _ hu), atV h1, _, rfl, (by show 2 ≤ sizeLine; decide), fun z hz => ?_⟩
      have sz : Same H2' (upd H2' z (.lst [vu[j], vq])) := Same.new hz
      have s4 := Same.trans s2 sz
      refine ⟨_, rfl, p, dx, _, rfl, s4 _ _ hp, sF_not (by decide +kernel), p, dx, o, l, u, t, ow, rfl, s4 _ _ hp, s4 _ _ ho, z, [(X ++ q :: Y)[j], q], ow.length, rfl, ⟨[vu[j], vq], SqL.of upd_same, ?_⟩, ?_, by omega, fun v5 H5 s5 m5 => ?_⟩
      · exact MeV.snoc (MeV.one (mj.same s4)) (mq.same s4)
      · intro y hy
        rcases List.mem_cons.mp hy with rfl | hy
        · exact st.sp _ hgm
        · rcases List.mem_cons.mp hy with rfl | hy
          · exact st.sp _ (by simp)
          · cases hy
      · have s6 := Same.trans sz s5
        have hU5 := s6 _ _ hUv
        have hvsl : vs.length = ow.length := by rw [mv.1, Mx.sets_len, hSl]
        refine ⟨_, rfl, _, rfl, U, _, _, j, rfl, rfl, hU5, ixN_lt (by rw [hvsl]; exact hjm), fun b ob e => ?_, ?_, _, some (.int (j : Nat)), upd_same, ?_, rfl⟩
        · rw [upd_ne (ne_of_none e hU0)]
          exact s6 _ _ (s2 _ _ e)
        · rw [upd_ne (Ne.symm UE)]
          exact s6 _ _ hE3
        · rw [take_snoc hj, Mx.sets_snoc, eD]
          exact ((mv.same s6).set j m5).samexO SameX.upd (fun xs e => by rw [hU5] at e; cases e)
    · rintro σ H2 ⟨s2, hE3, vs, o7, hUv, mv, rfl⟩
      rw [nL_len, List.take_length] at mv
      have hvsl : vs.length = ow.length := by rw [mv.1, Mx.sets_len, hSl]
      refine ⟨_, rfl, _, rfl, (by show 2 ≤ sizeLine; decide), fun z hz => ?_⟩
      have sz : Same H2 (upd H2 z (.tup [.int c, .ref b'])) := Same.new hz
      have s4 := Same.trans s2 sz
      have hU4 := sz _ _ hUv
      refine ⟨_, rfl, _, rfl, U, _, _, X.length, rfl, rfl, hU4, ixN_lt (by rw [hvsl]; exact hXm), ?_⟩
      have Up : p ≠ U := ne_of_none hp hU0
      have m6 : MeV K (upd (upd H2 z (.tup [.int c, .ref b'])) U (.lst (vs.set X.length (.ref z)))) (vs.set X.length (.ref z)) (Mx.aft ow.length X q Y lt c) := by
        have e := Mx.aft_sets (c := c) hSl hX hq hR
        rw [← e]
        have m7 : MeV K (upd H2 z (.tup [.int c, .ref b'])) (vs.set X.length (.ref z)) ((Mx.sets f R (X ++ q :: Y)).set X.length ⟨c, lt⟩) := (mv.same sz).set X.length ⟨z, b', rfl, upd_same, s4 _ _ hb⟩
        exact m7.samexO SameX.upd (fun xs e => by rw [hU4] at e; cases e)
      refine ⟨_, rfl, _, rfl, p, CS, dx, _, rfl, (by rw [upd_ne Up]; exact s4 _ _ hp), T.cl_Spins, T.n_Spins_sures, (by show 4 < 1000; decide), ?_⟩
      rw [sF_putS]
      refine k _ U _ hU0 upd_same (by rw [upd_ne (Ne.symm Up), upd_same]) (m6.samexO SameX.upd (notTup (by rw [upd_ne Up]; exact s4 _ _ hp))) fun b ob hb e => ?_
      rw [upd_ne hb, upd_ne (ne_of_none e hU0)]
      exact s4 _ _ e
end
end Ss
namespace Mx
open Su173 (Spin)
theorem and_mod_two (a b : Nat) : (a &&& b) % 2 = if a % 2 = 1 ∧ b % 2 = 1 then 1 else 0 := by
  have := @Nat.and_mod_two_pow a b 1
  rw [Nat.pow_one] at this
  rw [this]
  rcases Nat.mod_two_eq_zero_or_one a with h | h <;> rcases Nat.mod_two_eq_zero_or_one b with h' | h' <;> rw [h, h'] <;> decide
theorem both_cons (a b : Nat) (x y : List Nat) : both (a :: x) (b :: y) = (if a = 1 ∧ b = 1 then 1 else 0) + both x y := by
  unfold both
  rw [List.zip_cons_cons, List.filter_cons]
  by_cases h : a = 1 ∧ b = 1
  · rw [if_pos h, if_pos (by simp [h.1, h.2]), List.length_cons]
    omega
  · rw [if_neg h, if_neg (by simpa using h), Nat.zero_add]
theorem bothN_and : ∀ (k s n : Nat), bothN k s n = (rowAt 2 k (s &&& n)).sum
  | 0, _, _ => rfl
  | k + 1, s, n => by
    show both (s % 2 :: rowAt 2 k (s / 2)) (n % 2 :: rowAt 2 k (n / 2)) = ((s &&& n) % 2 :: rowAt 2 k ((s &&& n) / 2)).sum
    rw [both_cons, List.sum_cons, Nat.and_div_two, and_mod_two, ← bothN_and k]
    rfl
/-- rows of the same length, one after another -/
theorem flat_at {α : Type} {q : Nat} : ∀ {l : List (List α)} {i j : Nat} {r : List α}, (∀ r ∈ l, r.length = q) → l[i]? = some r → j < q → l.flatten[i * q + j]? = r[j]?
  | [], _, _, _, _, h, _ => by simp at h
  | x :: l, 0, j, r, hl, h, hj => by
    have e : x = r := by simpa using h
    subst e
    rw [List.flatten_cons, Nat.zero_mul, Nat.zero_add, List.getElem?_append_left (by rw [hl x (by simp)]; exact hj)]
  | x :: l, i + 1, j, r, hl, h, hj => by
    have hx := hl x (by simp)
    rw [List.flatten_cons, List.getElem?_append_right (by rw [hx, Nat.succ_mul]; omega), hx, show (i + 1) * q + j - q = i * q + j from by rw [Nat.succ_mul]; omega]
    exact flat_at (fun r hr => hl r (by simp [hr])) (by simpa using h) hj
theorem flat_len {α : Type} {q : Nat} : ∀ {l : List (List α)}, (∀ r ∈ l, r.length = q) → l.flatten.length = l.length * q
  | [], _ => by simp
  | x :: l, hl => by
    rw [List.flatten_cons, List.length_append, flat_len (l := l) fun r hr => hl r (by simp [hr]), hl x (by simp), List.length_cons, Nat.succ_mul, Nat.add_comm]
theorem flat_set {α : Type} {q : Nat} {z : α} : ∀ {l : List (List α)} {i j : Nat} {r : List α}, (∀ r ∈ l, r.length = q) → l[i]? = some r → j < q → (l.set i (r.set j z)).flatten = l.flatten.set (i * q + j) z
  | [], _, _, _, _, h, _ => by simp at h
  | x :: l, 0, j, r, hl, h, hj => by
    have e : x = r := by simpa using h
    subst e
    rw [List.set_cons_zero, List.flatten_cons, List.flatten_cons, Nat.zero_mul, Nat.zero_add, List.set_append_left _ _ (by rw [hl x (by simp)]; exact hj)]
  | x :: l, i + 1, j, r, hl, h, hj => by
    have hx := hl x (by simp)
    rw [List.set_cons_succ, List.flatten_cons, List.flatten_cons, List.set_append_right _ _ (by rw [hx, Nat.succ_mul]; omega), hx, show (i + 1) * q + j - q = i * q + j from by rw [Nat.succ_mul]; omega]
    rw [flat_set (fun r hr => hl r (by simp [hr])) (by simpa using h) hj]
theorem flat_rep {α : Type} (k q : Nat) (z : α) : (List.replicate k (List.replicate q z)).flatten = List.replicate (k * q) z := by
  induction k with
  | zero => simp
  | succ k ih => rw [List.replicate_succ, List.flatten_cons, ih, Nat.succ_mul, Nat.add_comm, ← List.replicate_append_replicate]
theorem own_at {g : Su175.Abs} {x : List Nat} {i : Nat} (h : Ok g) (hi : i < g.k) (hx : x.getD i 0 < g.q) : ∃ s, g.mine.flatten[i * g.q + x.getD i 0]? = some s ∧ (g.taken x)[i]? = some s := by
  obtain ⟨r, s, h1, h2, h3, h4, h5⟩ := taken_at h hi hx
  refine ⟨s, ?_, ?_⟩
  · rw [flat_at h.mq h1 hx, h2]
  · unfold Su175.Abs.taken
    rw [List.getElem?_map, List.getElem?_range hi, Option.map_some, h3]
theorem some1_snoc {x : Spin} {b : Nat} : ∀ {M : List Spin} {t : List Nat}, t[M.length]? = some b → some1 (M ++ [x]) t = some1 M t ++ if b = 1 then [x] else []
  | [], [], h => by simp at h
  | [], a :: t, h => by
    have e : a = b := by simpa using h
    subst e
    show some1 [x] (a :: t) = _
    unfold some1
    rw [List.zip_cons_cons]
    by_cases c : a = 1
    · simp [c]
    · simp [c]
  | y :: M, [], h => by simp at h
  | y :: M, a :: t, h => by
    have ih := some1_snoc (x := x) (b := b) (M := M) (t := t) (by simpa using h)
    unfold some1 at ih ⊢
    rw [List.cons_append, List.zip_cons_cons, List.zip_cons_cons]
    by_cases c : a = 1
    · rw [List.filterMap_cons, List.filterMap_cons]
      simp only [c, if_true, List.cons_append]
      rw [ih]
    · rw [List.filterMap_cons, List.filterMap_cons]
      simp only [c, if_false]
      exact ih
end Mx
namespace Ss
open PySem PySem.Spec PyProof.Rows L2
open Su173 (Spin)
open Su175 (Abs)
section
variable {P : Program} {w : World} {K : PySem.W.Frag} {mg : Str → Option Value} {base : Heap} {CR CG CS CD aON aSH aDE : Addr}
/-- a list of measurements in the written part or not -/
def MeH (K : PySem.W.Frag) (H : Hp) (a : Addr) (ms : List Spin) : Prop := ∃ vs, H a = some (.lst vs) ∧ MeV K H vs ms
theorem MeH.same {H H' : Hp} {a : Addr} {ms : List Spin} (m : MeH K H a ms) (s : Same H H') : MeH K H' a ms := let ⟨vs, h1, h2⟩ := m; ⟨vs, s _ _ h1, h2.same s⟩
def sp_measured_by (CG : Addr) (K : PySem.W.Frag) : Sp := fun vs H Q _ => ∃ (p a b : Addr) (g : Abs) (x : List Nat), vs = [.ref p, .ref a, .ref b] ∧ GameR CG H p g ∧ Mx.Ok g ∧ MeH K H a g.mine.flatten ∧ SqL K H b (nL x) ∧ x.length = g.k ∧ (∀ i, i < g.k → x.getD i 0 < g.q) ∧
  ∀ D H', Same H H' → H D = none → MeH K H' D (g.taken x) → Q (.ref D) H'
theorem c_measured_by (T : Top K mg CR CG CS CD aON aSH aDE) : CalG CX0 P w K mg base 1 "measured_by" (sp_measured_by CG K) := by
  obtain ⟨f, fd, hg, hk, F, b⟩ := T.d_measured_by.ex
  refine ⟨f, fd, _, F.ok sc_measured_by (fun vs H Q E h => by obtain ⟨p, a, b', g, x, rfl, _⟩ := h; rfl) (fun cdv A outer s H vs Q E hr h => ⟨_, (pss_one (ps_ret (pe_lc (own := [("person", 3)]) (g := gName 3) rfl sc_measured_by.nd (pi_range1 (by rfl) T.b_range (pa_cons (pe_fld (pv 0) rfl) pa_nil)) (blkOk_by (N := N_measured_by) (sc := defScope s_measured_by) (by decide +kernel)) (fun _ _ _ _ _ => (pg_name (i := 3) sc_measured_by.nd rfl (Or.inl rfl))) (fun _ _ _ _ _ => pts_nil) (fun _ _ _ _ _ => (pe_ix (ix_listK (K := K) rfl) (pv 1) (pe_op op_add (pe_op op_mul (pv 3) (pe_fldK (K := K) rfl (pv 0))) (pe_ix (ix_listK (K := K) rfl) (pv 2) (pv 3) (fun _ _ => rfl))) (fun _ _ => rfl)))))), ?_⟩), hg, hk, b⟩
  obtain ⟨p, a, b', g, x, rfl, h⟩ := h
  obtain ⟨hG, ok, ⟨vw, ha, hv⟩, hx, hxl, hxq, k⟩ := h
  obtain ⟨dx, r, m, w, hp, _⟩ := id hG
  have k4 := ok.game.k4
  have q3 := ok.game.q3
  refine ⟨_, rfl, p, CG, dx, _, _, rfl, hp, T.cl_Game, T.n_Game_persons, gF_persons, _, rfl, rng1 (by omega), rng2 (by omega), fun D hD => lc_gen (walk_rng g.k) (fun i y H' => ∃ s, (g.taken x)[i]? = some s ∧ Me K H' y s) (by omega) hD (fun _ _ => trivial) (fun i y H1 H2 acc hacc sx m => let ⟨s, h1, h2⟩ := m; ⟨s, h1, h2.samex sx hacc⟩) ?_ ?_⟩
  · rintro i y H1 H1' Q' hi s1 _ ⟨rfl, rfl⟩ hk
    have hxi := hxq i hi
    obtain ⟨s, e1, e2⟩ := Mx.own_at ok hi hxi
    obtain ⟨v, hv1, mv⟩ := hv.at e1
    have hat : atI vw ((i : Int) * (g.q : Int) + ((x.getD i 0 : Nat) : Int)) = some v := by
      rw [show ((i : Int) * (g.q : Int) + ((x.getD i 0 : Nat) : Int)) = ((i * g.q + x.getD i 0 : Nat) : Int) from by rw [Int.natCast_add, Int.natCast_mul]]
      exact atV hv1
    exact ⟨rfl, _, rfl, _, rfl, _, rfl, p, CG, dx, _, _, rfl, s1 _ _ hp, T.cl_Game, T.n_Game_questions, gF_questions, _, _, rfl, rfl, .inl ⟨by omega, by omega⟩, _, rfl, _, rfl, b', _, _, _, rfl, rfl, Same.seq s1 hx, nL_ix (by omega), _, _, rfl, rfl, a, _, _, _, rfl, rfl, SqL.of (s1 _ _ ha), hat, hk v H1' (Same.refl _) ⟨s, e2, mv.same s1⟩⟩
  · intro H1 ys s1 hy hyl hyp
    refine k D H1 s1 hD ⟨ys, hy, by rw [hyl, Mx.taken_len], fun i v s h1 h2 => ?_⟩
    obtain ⟨s', e, m⟩ := hyp i v h1
    rw [e] at h2
    cases h2
    exact m
def sp_sum_known (K : PySem.W.Frag) : Sp := fun vs H Q _ => ∃ (d a : Addr) (n m : Nat) (M : List Spin) (F : List Nat → Option Nat), vs = [.ref d, .ref a, .int n, .int m] ∧ Known H d F ∧ MeH K H a M ∧ (∀ x ∈ M, Mx.Sp m x) ∧ M.length ≤ 100 ∧ m ≤ 100 ∧
  ∀ H', Same H H' → Q (oV (Mx.sumK m F M n)) H'
theorem c_sum_known (T : Top K mg CR CG CS CD aON aSH aDE) : CalG CX0 P w K mg base 3 "sum_known" (sp_sum_known K) := by
  obtain ⟨f, fd, hg, hk, F, b⟩ := T.d_sum_known.ex
  refine ⟨f, fd, _, F.ok sc_sum_known (fun vs H Q E h => by obtain ⟨d, a, n, m, M, F', rfl, _⟩ := h; rfl) (fun cdv A outer s H vs Q E hr h => ⟨_, (pss_cons (ps_setLc (i := 4) (own := [("person", 8), ("one", 9)]) (g := gTup K 2 (gCons (gName 8) (gCons (gName 9) gNil))) rfl sc_sum_known.nd rfl rfl (sw_true rfl rfl rfl (by decide +kernel)) (pi_enum (by rfl) T.b_enumerate (pa_cons (pv 1) pa_nil)) (blkOk_by (N := N_sum_known) (sc := defScope s_sum_known) (by decide +kernel)) (fun _ _ _ _ _ => (pg_tup rfl (pgs_cons (pg_name (i := 8) sc_sum_known.nd rfl (Or.inl rfl)) (pgs_cons (pg_name (i := 9) sc_sum_known.nd rfl (Or.inl rfl)) pgs_nil)))) (fun _ _ _ _ _ => (pts_one (pt_cmpR op_eq (pe_cg (c_bit_at T) hr (by decide) rfl pass0 (pa_cons (pv 2) (pa_cons (pv 8) pa_nil))) pe_int (nomark _)))) (fun _ _ _ _ _ => (pv 9)))
    (pss_cons (ps_asg (pe_cg (c_product T) hr (by decide) rfl pass0 (pa_cons (pv 4) (pa_cons (pv 3) pa_nil))) (pg_tup rfl (pgs_cons (pg_name (i := 5) sc_sum_known.nd rfl (Or.inl rfl)) (pgs_cons (pg_name (i := 6) sc_sum_known.nd rfl (Or.inl rfl)) pgs_nil))))
    (pss_cons (ps_set (i := 7) sc_sum_known.nd rfl (Or.inl rfl) (pe_dget1 (hu_of hr) (pv 0) (pv 6) ⟨rfl, rfl, rfl, rfl⟩))
    (pss_cons (ps_if (pt_cmpR op_isN (pv 7) pe_non (nomark _)) (pss_one (ps_ret pe_non)) pss_nil)
    (pss_one (ps_ret (pe_op op_modN (pe_op op_add (pv 7) (pv 5)) pe_int))))))), ?_⟩), hg, hk, b⟩
  obtain ⟨d, a, n, m, M, F', rfl, h⟩ := h
  obtain ⟨Kn, ⟨vw, ha, hv⟩, hM, hMl, hm, k⟩ := h
  have vl := hv.1
  refine ⟨_, rfl, a, _, rfl, SqL.of ha, fun D hD => lc_it walk_enum (fun i H' => Same H H' ∧ ∃ ws : List V, H' D = some (.lst ws) ∧ ws.length ≤ i ∧ MeV K H' ws (Mx.some1 (M.take i) (Mx.rowAt 2 M.length n))) ⟨Same.new hD, [], upd_same, Nat.le_refl _, MeV.nil⟩ (fun i H' _ h => SqL.of (h.1 _ _ ha)) ?_ ?_⟩
  · rintro i v H1 H1' hi ⟨s1, ws, hws, hwl, mw⟩ ⟨T', x, y, rfl, hT, rfl, hx, hy⟩
    cases hx
    have hi2 : i < M.length := by omega
    have he := List.getElem?_eq_getElem hi2
    have me := hv.2 i _ _ hy he
    generalize M[i] = e at he me
    have s2 : Same H (upd H1 T' (.tup [.int (i : Nat), y])) := Same.then s1 hT
    have hws2 := (Same.new (o := HO.tup [.int (i : Nat), y]) hT) _ _ hws
    have hb : (Mx.rowAt 2 M.length n)[(M.take i).length]? = some (n / 2 ^ i % 2) := by
      rw [rowAt2, List.length_take, Nat.min_eq_left (by omega), List.getElem?_map, List.getElem?_range hi2]
      rfl
    refine ⟨T', _, rfl, SqT.of upd_same, rfl, _, _, rfl, _, _, rfl, rfl, rfl, _, rfl, _, rfl, n, i, rfl, rfl, _, rfl, ?_⟩
    refine if2 (fun c => ?_) (fun c => ?_)
    · have c' := viT (b := 1) c
      refine ⟨_, rfl, ws, hws2, by rw [sizeLine_eq]; omega, fun b ob e => ?_, _, upd_same, ?_, ?_⟩
      · rw [upd_ne (ne_of_none e hD)]
        exact s2 _ _ e
      · rw [List.length_append]
        exact Nat.succ_le_succ hwl
      · rw [take_snoc he, Mx.some1_snoc hb, if_pos c']
        exact (mw.same (Same.new hT)).samexO SameX.upd (fun xs e => by rw [hws2] at e; cases e) |>.snoc ((me.same s2).samex SameX.upd hws2)
    · have c' := viF (b := 1) c
      refine ⟨s2, ws, hws2, by omega, ?_⟩
      rw [take_snoc he, Mx.some1_snoc hb, if_neg c', List.append_nil]
      exact mw.same (Same.new hT)
  · rintro H1 ⟨s1, ws, hws, hwl, mw⟩
    rw [vl, List.take_length] at mw
    refine ⟨_, rfl, _, rfl, D, _, m, rfl, ⟨ws, SqL.of hws, mw⟩, fun x hx => hM x (Mx.some1_mem x hx), hm, fun v H2 s2 me => ?_⟩
    obtain ⟨a1, b1, rfl, t1, t2⟩ := me
    have s3 := Same.trans s1 s2
    refine ⟨a1, _, rfl, SqT.of t1, rfl, _, _, rfl, _, _, rfl, rfl, ?_⟩
    refine ⟨_, rfl, d, rfl, (Kn.same s3).isD, _, rfl, _, (Kn.same s3).get t2, ?_⟩
    rw [oV_map]
    have hk := k H2 s3
    unfold Mx.sumK at hk
    generalize F' (Su175.prodOf m (Mx.some1 M (Mx.rowAt 2 M.length n))).1.l = o at hk ⊢
    generalize Su173.signOf (Su175.prodOf m (Mx.some1 M (Mx.rowAt 2 M.length n))) = z at hk ⊢
    cases o with
    | none => exact ⟨_, rfl, rfl, _, rfl, ifT (by decide) hk⟩
    | some s' =>
      refine ⟨_, rfl, rfl, _, rfl, ifF (by simp [oV]) ⟨_, rfl, _, rfl, _, _, rfl, rfl, _, _, rfl, rfl, (by show (2 : Int) ≠ 0; decide), qe hk ?_⟩⟩
      refine ve ?_
      rw [← Int.natCast_add]
      exact fmodN (b := 2)
/-- a list of sums -/
def SumH (H : Hp) (a : Addr) (k : Nat) (F : Nat → Option Nat) : Prop := H a = some (.lst ((List.range (2 ^ k)).map fun i => oV (F i)))
def sp_sums_known (K : PySem.W.Frag) : Sp := fun vs H Q _ => ∃ (d a : Addr) (m : Nat) (M : List Spin) (F : List Nat → Option Nat), vs = [.ref d, .ref a, .int m] ∧ Known H d F ∧ MeH K H a M ∧ (∀ x ∈ M, Mx.Sp m x) ∧ M.length ≤ 4 ∧ m ≤ 100 ∧
  ∀ D H', Same H H' → H D = none → SumH H' D M.length (fun n => Mx.sumK m F M n) → Q (.ref D) H'
theorem c_sums_known (T : Top K mg CR CG CS CD aON aSH aDE) : CalG CX0 P w K mg base 4 "sums_known" (sp_sums_known K) := by
  obtain ⟨f, fd, hg, hk, F, b⟩ := T.d_sums_known.ex
  refine ⟨f, fd, _, F.ok sc_sums_known (fun vs H Q E h => by obtain ⟨d, a, m, M, F', rfl, _⟩ := h; rfl) (fun cdv A outer s H vs Q E hr h => ⟨_, (pss_one (ps_ret (pe_lc (own := [("some", 3)]) (g := gName 3) rfl sc_sums_known.nd (pi_range1 (by rfl) T.b_range (pa_cons (pe_op op_shl pe_int (pe_callB call_len_seq (by rfl) T.b_len boot_flen (pa_cons (pv 1) pa_nil))) pa_nil)) (blkOk_by (N := N_sums_known) (sc := defScope s_sums_known) (by decide +kernel)) (fun _ _ _ _ _ => (pg_name (i := 3) sc_sums_known.nd rfl (Or.inl rfl))) (fun _ _ _ _ _ => pts_nil) (fun _ _ _ _ _ => (pe_cg (c_sum_known T) hr (by decide) rfl pass0 (pa_cons (pv 0) (pa_cons (pv 1) (pa_cons (pv 3) (pa_cons (pv 2) pa_nil))))))))), ?_⟩), hg, hk, b⟩
  obtain ⟨d, a, m, M, F', rfl, h⟩ := h
  obtain ⟨Kn, hA, hM, hMl, hm, k⟩ := h
  obtain ⟨vw, ha, hv⟩ := id hA
  have p16 : 2 ^ M.length ≤ 16 := by
    have : 2 ^ M.length ≤ 2 ^ 4 := Nat.pow_le_pow_right (by omega) hMl
    omega
  refine ⟨_, rfl, a, _, rfl, .inl (SqL.of ha), _, _, rfl, rfl, ⟨by omega, by rw [hv.1]; omega, by decide⟩, ((2 ^ M.length : Nat) : Int), congrArg (fun z => [V.int z]) (by rw [shl1, hv.1]), rng1 (by omega), rng2 (by omega), fun D hD => lc_val (walk_rng _) (fun n => oV (Mx.sumK m F' M n)) (by omega) hD (fun _ _ => trivial) ?_ ?_⟩
  · rintro i y H1 H1' Q' hi s1 _ ⟨rfl, rfl⟩ hk
    exact ⟨rfl, _, rfl, _, rfl, _, rfl, _, rfl, d, a, i, m, M, F', rfl, Kn.same s1, hA.same s1, hM, by omega, hm, fun H2 s2 => hk H2 s2⟩
  · intro H1 s1 hy
    exact k D H1 s1 hD hy
def sp_share : Sp := fun vs H Q _ => ∃ (o : Option Nat) (s n k : Nat), vs = [oV o, .int s, .int n, .int k] ∧ k ≤ 100 ∧ ∀ H', Same H H' → Q (.int (Mx.shO o (Mx.bothN k s n % 2))) H'
theorem c_share (T : Top K mg CR CG CS CD aON aSH aDE) : CalG CX0 P w K mg base 4 "share" (sp_share) := by
  obtain ⟨f, fd, hg, hk, F, b⟩ := T.d_share.ex
  refine ⟨f, fd, _, F.ok sc_share (fun vs H Q E h => by obtain ⟨o, s', n, k', rfl, _⟩ := h; rfl) (fun cdv A outer s H vs Q E hr h => ⟨_, (pss_cons (ps_if (pt_cmpR op_isN (pv 0) pe_non (nomark _)) (pss_one (ps_ret pe_int)) pss_nil)
    (pss_cons (ps_if (pt_cmpR op_eq (pv 0) (pe_cg (c_odd_of T) hr (by decide) rfl pass0 (pa_cons (pe_op op_and (pv 1) (pv 2)) (pa_cons (pv 3) pa_nil))) (nomark _)) (pss_one (ps_ret pe_int)) pss_nil)
    (pss_one (ps_ret (pe_un un_neg pe_int))))), ?_⟩), hg, hk, b⟩
  obtain ⟨o, s', n, k', rfl, h⟩ := h
  obtain ⟨hk, k⟩ := h
  cases o with
  | none => exact ⟨_, rfl, rfl, _, rfl, ifT (by decide) (k H (Same.refl _))⟩
  | some z =>
    refine ⟨_, rfl, rfl, _, rfl, ifF (by simp [oV]) ⟨_, rfl, _, rfl, _, rfl, _, _, rfl, rfl, _, rfl, s' &&& n, k', congrArg (fun z => [V.int z, V.int k']) (andN s' n), hk, ?_⟩⟩
    refine fun H1 s1 => ⟨rfl, _, rfl, ?_⟩
    have hk1 := k H1 s1
    have e : oddN (s' &&& n) k' = Mx.bothN k' s' n % 2 := by
      rw [Mx.bothN_and]
      rfl
    rw [e]
    refine if2 (fun c => qe hk1 (ve ?_)) (fun c => ⟨_, rfl, qe hk1 (ve ?_)⟩)
    · exact (if_pos (viT c)).symm
    · exact (if_neg (viF c)).symm
def sp_chance_of (K : PySem.W.Frag) : Sp := fun vs H Q _ => ∃ (a : Addr) (n k : Nat) (F : Nat → Option Nat), vs = [.ref a, .int n, .int k] ∧ SumH H a k F ∧ k ≤ 4 ∧ ∀ H', Same H H' → Q (.int (Mx.chanceI k F n)) H'
theorem intsF {n : Nat} (G : Nat → Int) : ((List.range n).map fun i => V.int (G i)) = ((List.range n).map G).map V.int := by
  rw [List.map_map]
  rfl
theorem c_chance_of (T : Top K mg CR CG CS CD aON aSH aDE) : CalG CX0 P w K mg base 5 "chance_of" (sp_chance_of K) := by
  obtain ⟨f, fd, hg, hk, F, b⟩ := T.d_chance_of.ex
  refine ⟨f, fd, _, F.ok sc_chance_of (fun vs H Q E h => by obtain ⟨a, n, k', F', rfl, _⟩ := h; rfl) (fun cdv A outer s H vs Q E hr h => ⟨_, (pss_one (ps_ret (pe_callB (cr_sum rfl) (by rfl) T.b_sum boot_fsum (pa_cons (pe_lc (own := [("some", 3), ("sure_sum", 4)]) (g := gTup K 2 (gCons (gName 3) (gCons (gName 4) gNil))) rfl sc_chance_of.nd (pi_enum (by rfl) T.b_enumerate (pa_cons (pv 0) pa_nil)) (blkOk_by (N := N_chance_of) (sc := defScope s_chance_of) (by decide +kernel)) (fun _ _ _ _ _ => (pg_tup rfl (pgs_cons (pg_name (i := 3) sc_chance_of.nd rfl (Or.inl rfl)) (pgs_cons (pg_name (i := 4) sc_chance_of.nd rfl (Or.inl rfl)) pgs_nil)))) (fun _ _ _ _ _ => pts_nil) (fun _ _ _ _ _ => (pe_cg (c_share T) hr (by decide) rfl pass0 (pa_cons (pv 4) (pa_cons (pv 3) (pa_cons (pv 1) (pa_cons (pv 2) pa_nil))))))) pa_nil)))), ?_⟩), hg, hk, b⟩
  obtain ⟨a, n, k', F', rfl, h⟩ := h
  obtain ⟨ha, hk4, k⟩ := h
  have p16 : 2 ^ k' ≤ 16 := by
    have : 2 ^ k' ≤ 2 ^ 4 := Nat.pow_le_pow_right (by omega) hk4
    omega
  refine ⟨_, rfl, a, _, rfl, SqL.of ha, fun D hD => lc_val walk_enum (fun i => .int (Mx.shO (F' i) (Mx.bothN k' i n % 2))) (by simp; omega) hD (fun H' s' => SqL.of (s' _ _ ha)) ?_ ?_⟩
  · rintro i v H1 H1' Q' hi s1 _ ⟨T', x, y, rfl, hT, rfl, hx, hy⟩ hk
    cases hx
    rw [List.length_map, List.length_range] at hi
    have hy2 : ((List.range (2 ^ k')).map fun i => oV (F' i))[i]? = some y := hy
    rw [List.getElem?_map, List.getElem?_range hi] at hy2
    cases hy2
    exact ⟨T', _, rfl, SqT.of upd_same, rfl, _, _, rfl, _, _, rfl, rfl, rfl, _, rfl, _, rfl, _, rfl, _, rfl, F' i, i, n, k', rfl, by omega, fun H2 s2 => hk H2 (Same.trans (Same.new hT) s2)⟩
  · intro H1 s1 hy
    rw [List.length_map, List.length_range, intsF] at hy
    exact ⟨D, _, rfl, SqL.of hy, k H1 s1⟩
def sp_won_at (CG : Addr) (K : PySem.W.Frag) : Sp := fun vs H Q _ => ∃ (p a : Addr) (i : Nat) (g : Abs) (F : Nat → Option Nat), vs = [.ref p, .ref a, .int i] ∧ GameR CG H p g ∧ Mx.GOk g ∧ SumH H a g.k F ∧ i < g.wins.length ∧ ∀ H', Same H H' → Q (.int (Mx.wonI g F i)) H'
theorem c_won_at (T : Top K mg CR CG CS CD aON aSH aDE) : CalG CX0 P w K mg base 6 "won_at" (sp_won_at CG K) := by
  obtain ⟨f, fd, hg, hk, F, b⟩ := T.d_won_at.ex
  refine ⟨f, fd, _, F.ok sc_won_at (fun vs H Q E h => by obtain ⟨p, a, i, g, F', rfl, _⟩ := h; rfl) (fun cdv A outer s H vs Q E hr h => ⟨_, (pss_cons (ps_set (i := 3) sc_won_at.nd rfl (Or.inl rfl) pe_int)
    (pss_cons (ps_for PassesOwn.never rfl (pi_range1 (by rfl) T.b_range (pa_cons (pe_mg0 (c_Game_answer_rows T) hr (by decide) pass0 (pv 0)) pa_nil)) (pg_name (i := 4) sc_won_at.nd rfl (Or.inl rfl)) (pss_one (ps_if (pt_cmpR op_eq (pe_mg (c_Game_wins_at T) hr (by decide) pass0 (pv 0) (pa_cons (pv 2) (pa_cons (pv 4) pa_nil))) pe_int (nomark _)) (pss_one (ps_set (i := 3) sc_won_at.nd rfl (Or.inl rfl) (pe_op op_add (pv 3) (pe_cg (c_chance_of T) hr (by decide) rfl pass0 (pa_cons (pv 1) (pa_cons (pv 4) (pa_cons (pe_fld (pv 0) rfl) pa_nil))))))) pss_nil)))
    (pss_one (ps_ret (pv 3))))), ?_⟩), hg, hk, b⟩
  obtain ⟨p, a, i, g, F', rfl, h⟩ := h
  obtain ⟨hG, ok, ha, hi, k⟩ := h
  have h16 := ok.k16
  obtain ⟨dx, r, m, w, hp, _⟩ := id hG
  have k4 := ok.k4
  refine ⟨_, rfl, p, dx, _, rfl, hp, gF_not (by decide +kernel), p, g, rfl, hG, ok, _, rfl, rng1 (by omega), rng2 (by omega), ?_⟩
  let G : Nat → Int := fun n => if Mx.winAt g i n = 1 then Mx.chanceI g.k F' n else 0
  refine for_it (walk_rng (2 ^ g.k)) (fun j σ H' => Same H H' ∧ ∃ o4 : Option V, σ = [some (.ref p), some (.ref a), some (.int i), some (.int (Mx.isum (List.range j) G)), o4]) ⟨Same.refl _, none, rfl⟩ (fun _ _ _ _ _ => trivial) ?_ ?_
  · rintro j v σ H1 H1' hj ⟨s1, o4, rfl⟩ ⟨rfl, rfl⟩
    have hs := Mx.isum_rsucc j G
    refine ⟨_, rfl, p, dx, _, rfl, s1 _ _ hp, gF_not (by decide +kernel), _, rfl, _, rfl, p, g, i, j, rfl, hG.same s1, hi, rfl, _, rfl, ?_⟩
    refine if2 (fun c => ?_) (fun c => ?_)
    · have c' := viT (b := 1) c
      refine ⟨_, rfl, _, rfl, _, rfl, _, rfl, p, CG, dx, _, _, rfl, s1 _ _ hp, T.cl_Game, T.n_Game_persons, gF_persons, a, j, g.k, F', rfl, s1 _ _ ha, ok.k4, fun H2 s2 => ⟨_, _, rfl, rfl, Same.trans s1 s2, some (.int j), ?_⟩⟩
      rw [hs, show G j = Mx.chanceI g.k F' j from if_pos c']
      rfl
    · have c' := viF (b := 1) c
      refine ⟨s1, some (.int j), ?_⟩
      rw [hs, show G j = 0 from if_neg c', Int.add_zero]
      rfl
  · rintro σ H1 ⟨s1, o4, rfl⟩
    exact ⟨_, rfl, k H1 s1⟩
def sp_won_by_spins (CG CS : Addr) (K : PySem.W.Frag) : Sp := fun vs H Q _ => ∃ (p q a : Addr) (g : Abs), vs = [.ref p, .ref q, .ref a] ∧ GameR CG H p g ∧ Mx.Ok g ∧ SpinR CS K H q g.owner g.sure ∧ MeH K H a g.mine.flatten ∧ ∀ H', Same H H' → Q (.int g.spinValue) H'
theorem row_lt {g : Abs} (ok : Mx.GOk g) (i j : Nat) (hj : j < g.k) : (Mx.rowAt g.q g.k i).getD j 0 < g.q := by
  have hj' : j < (Mx.rowAt g.q g.k i).length := by rw [Mx.rowAt_len]; exact hj
  rw [List.getD_eq_getElem?_getD, List.getElem?_eq_getElem hj']
  exact Mx.rowAt_lt ok.q0 _ _ _ (List.getElem_mem hj')
theorem c_won_by_spins (T : Top K mg CR CG CS CD aON aSH aDE) : CalG CX0 P w K mg base 7 "won_by_spins" (sp_won_by_spins CG CS K) := by
  obtain ⟨f, fd, hg, hk, F, b⟩ := T.d_won_by_spins.ex
  refine ⟨f, fd, _, F.ok sc_won_by_spins (fun vs H Q E h => by obtain ⟨p, q, a, g, rfl, _⟩ := h; rfl) (fun cdv A outer s H vs Q E hr h => ⟨_, (pss_cons (ps_set (i := 3) sc_won_by_spins.nd rfl (Or.inl rfl) (pe_mg0 (c_Spins_known_signs T) hr (by decide) pass0 (pv 1)))
    (pss_cons (ps_set (i := 4) sc_won_by_spins.nd rfl (Or.inl rfl) pe_int)
    (pss_cons (ps_for PassesOwn.never rfl (pi_enum (by rfl) T.b_enumerate (pa_cons (pe_fld (pv 0) rfl) pa_nil)) (pg_tup rfl (pgs_cons (pg_name (i := 5) sc_won_by_spins.nd rfl (Or.inl rfl)) (pgs_cons (pg_name (i := 6) sc_won_by_spins.nd rfl (Or.inl rfl)) pgs_nil))) (pss_cons (ps_set (i := 7) sc_won_by_spins.nd rfl (Or.inl rfl) (pe_cg (c_sums_known T) hr (by decide) rfl pass0 (pa_cons (pv 3) (pa_cons (pe_cg (c_measured_by T) hr (by decide) rfl pass0 (pa_cons (pv 0) (pa_cons (pv 2) (pa_cons (pv 6) pa_nil)))) (pa_cons (pe_mg0 (c_Spins_many T) hr (by decide) pass0 (pv 1)) pa_nil)))))
    (pss_one (ps_set (i := 4) sc_won_by_spins.nd rfl (Or.inl rfl) (pe_op op_add (pv 4) (pe_op op_mul (pe_ix ix_list (pe_fld (pv 0) rfl) (pv 5) (fun _ _ => rfl)) (pe_cg (c_won_at T) hr (by decide) rfl pass0 (pa_cons (pv 0) (pa_cons (pv 7) (pa_cons (pv 5) pa_nil))))))))))
    (pss_one (ps_ret (pv 4)))))), ?_⟩), hg, hk, b⟩
  obtain ⟨p, q, a, g, rfl, h⟩ := h
  obtain ⟨hG, ok, hS, ha, k⟩ := h
  obtain ⟨dx, r, m, w, hp, hm, hw, ys, hr, hrl, hry⟩ := id hG
  obtain ⟨dx2, o, l, u, t, vu, hq, ho, _⟩ := id hS
  have h81 := ok.game.qk
  let G : Nat → Int := fun i => (g.counts.getD i 0 : Int) * Mx.wonI g (fun n => Mx.sumK g.m (Mx.sgn g.m g.sure) (g.taken (Mx.rowAt g.q g.k i)) n) i
  refine ⟨_, rfl, q, dx2, _, rfl, hq, sF_not (by decide +kernel), q, g.owner, g.sure, rfl, hS, ok.st, ok.m6, fun d H0 s0 hd Kn => ?_⟩
  refine ⟨_, rfl, p, CG, dx, _, _, rfl, s0 _ _ hp, T.cl_Game, T.n_Game_rows, gF_rows, r, ys, rfl, SqL.of (s0 _ _ hr), ?_⟩
  refine for_it walk_enum (fun i σ H' => Same H0 H' ∧ ∃ o5 o6 o7 : Option V, σ = [some (.ref p), some (.ref q), some (.ref a), some (.ref d), some (.int (Mx.isum (List.range i) G)), o5, o6, o7]) ⟨Same.refl _, none, none, none, rfl⟩ (fun i σ H' _ h => Same.seq h.1 (SqL.of (s0 _ _ hr))) ?_ ?_
  · rintro i v σ H1 H1' hi ⟨s1, o5, o6, o7, rfl⟩ ⟨T', x, y, rfl, hT, rfl, hx, hy⟩
    cases hx
    obtain ⟨b', rfl, hb'⟩ := hry i y hy
    rw [hrl] at hi
    have sT : Same H0 (upd H1 T' (.tup [.int (i : Nat), .ref b'])) := Same.then s1 hT
    have s2 : Same H (upd H1 T' (.tup [.int (i : Nat), .ref b'])) := Same.trans s0 sT
    have hrow := Mx.rowAt_len g.q g.k i
    have hM := (Mx.taken_com ok (x := Mx.rowAt g.q g.k i) (row_lt ok.game i)).sp
    refine ⟨T', _, rfl, SqT.of upd_same, rfl, _, _, rfl, _, _, rfl, rfl, ?_⟩
    refine ⟨_, rfl, _, rfl, _, rfl, _, rfl, p, a, b', g, Mx.rowAt g.q g.k i, rfl, hG.same s2, ok, ha.same s2, SqL.of (s2 _ _ hb'), hrow, row_lt ok.game i, fun D H3 s3 hD hMe => ?_⟩
    have s4 := Same.trans s2 s3
    refine ⟨_, rfl, q, dx2, _, rfl, s4 _ _ hq, sF_not (by decide +kernel), q, dx2, o, l, u, t, g.owner, rfl, s4 _ _ hq, s4 _ _ ho, d, D, g.m, g.taken (Mx.rowAt g.q g.k i), _, rfl, Kn.same (Same.trans sT s3), hMe, hM, by rw [Mx.taken_len]; exact ok.game.k4, by have := ok.m6; omega, fun D2 H5 s5 hD2 hSu => ?_⟩
    have s6 := Same.trans s4 s5
    rw [Mx.taken_len] at hSu
    refine ⟨_, rfl, _, rfl, p, CG, dx, _, _, rfl, s6 _ _ hp, T.cl_Game, T.n_Game_much, gF_much, _, rfl, m, _, _, _, rfl, rfl, SqL.of (s6 _ _ hm), nL_ix (by rw [ok.game.cl]; exact hi), _, rfl, _, rfl, _, rfl, p, D2, i, g, _, rfl, hG.same s6, ok.game, hSu, by rw [ok.game.wl]; exact hi, fun H7 s7 => ⟨_, _, rfl, rfl, ?_, _, _, rfl, rfl, Same.trans sT (Same.trans s3 (Same.trans s5 s7)), some (.int i), some (.ref b'), some (.ref D2), ?_⟩⟩
    · have := Mx.getD_le ok.game.cb i
      exact .inl ⟨by omega, by omega⟩
    · rw [Mx.isum_rsucc i G]
      rfl
  · rintro σ H1 ⟨s1, o5, o6, o7, rfl⟩
    rw [hrl]
    exact ⟨_, rfl, qe (k H1 (Same.trans s0 s1)) (ve (Mx.spinValue_law ok).symm)⟩
end
end Ss
namespace Ss
open PySem PySem.Spec PyProof.Rows L2
open Su173 (Spin)
open Su175 (Abs)
/-! ## the desk -/
def dF (g s o : V) : List (Str × V) := [("game", g), ("shared", s), ("own", o)]
section
variable {g s o : V}
theorem dF_game : (dF g s o).lookup ("game" : Str) = some g := lk_here
theorem dF_shared : (dF g s o).lookup ("shared" : Str) = some s := (lk_past (by decide +kernel)).trans lk_here
theorem dF_own : (dF g s o).lookup ("own" : Str) = some o := (lk_past (by decide +kernel)).trans ((lk_past (by decide +kernel)).trans lk_here)
theorem dF_not {f : Str} (h : (([("game" : Str), "shared", "own"]).all fun g => !(f == g)) = true) : (dF g s o).lookup f = none := by
  simp only [List.all_cons, List.all_nil, Bool.and_true, Bool.and_eq_true, Bool.not_eq_true'] at h
  exact (lk_past h.1).trans ((lk_past h.2.1).trans ((lk_past h.2.2).trans rfl))
theorem dF_new (g s o : V) : putF "own" o (putF "shared" s (putF "game" g [])) = dF g s o := by
  have e1 : putF "game" g [] = ([("game", g)] : List (Str × V)) := rfl
  have e2 : putF "shared" s [("game", g)] = ([("game", g), ("shared", s)] : List (Str × V)) := put_new (ns := ["game"]) rfl (by decide +kernel)
  rw [e1, e2]
  exact put_new (ns := ["game", "shared"]) rfl (by decide +kernel)
theorem dF_putG (v : V) : putF "game" v (dF g s o) = dF v s o := put_here
theorem dF_putS (v : V) : putF "shared" v (dF g s o) = dF g v o := (put_past (by decide +kernel)).trans (congrArg _ put_here)
theorem dF_putO (v : V) : putF "own" v (dF g s o) = dF g s v := (put_past (by decide +kernel)).trans (congrArg _ ((put_past (by decide +kernel)).trans (congrArg _ put_here)))
end
section
variable {P : Program} {w : World} {K : PySem.W.Frag} {mg : Str → Option Value} {base : Heap} {CR CG CS CD aON aSH aDE : Addr}
def sp_Desk_init (CD : Addr) : Sp := fun vs H Q _ => ∃ (p dx : Addr), vs = [.ref p] ∧ H p = some (.ins CD dx []) ∧ ∀ H' w, H w = none → w ≠ p → H' p = some (.ins CD dx (dF .non .non (.ref w))) → H' w = some (.lst []) → SameX p H H' → Q .non H'
theorem c_Desk_init (T : Top K mg CR CG CS CD aON aSH aDE) : MakG CX0 P w K mg base 1 "Desk" CD (sp_Desk_init CD) := by
  obtain ⟨f, fd, hm, F, b⟩ := T.i_Desk.ex
  refine ⟨f, fd, _, hm, F.ok sc_Desk_init (fun vs H Q E h => by obtain ⟨p, dx, rfl, _⟩ := h; rfl) (fun cdv A outer s H vs Q E hr h => ⟨_, (pss_cons (ps_fld (pv 0) pe_non rfl)
    (pss_cons (ps_fld (pv 0) pe_non rfl)
    (pss_one (ps_fld (pv 0) (pe_lst pa_nil) rfl)))), ?_⟩), T.g_Desk, b⟩
  obtain ⟨p, dx, rfl, h⟩ := h
  obtain ⟨hp, k⟩ := h
  refine ⟨_, rfl, p, CD, dx, _, rfl, hp, T.cl_Desk, T.n_Desk_game, (by show 0 < 1000; decide), ?_⟩
  refine ⟨_, rfl, p, CD, dx, _, rfl, upd_same, T.cl_Desk, T.n_Desk_shared, (by show 1 < 1000; decide), ?_⟩
  rw [upd_upd]
  refine ⟨(by show 0 ≤ sizeLine; decide), fun W hW => ?_⟩
  have Wp : W ≠ p := fun e => by rw [e, upd_same] at hW; cases hW
  have hW0 : H W = none := by rw [upd_ne Wp] at hW; exact hW
  refine ⟨_, rfl, p, CD, dx, _, rfl, (by rw [upd_ne (Ne.symm Wp), upd_same]), T.cl_Desk, T.n_Desk_own, (by show 2 < 1000; decide), ?_⟩
  rw [dF_new]
  refine k _ W hW0 Wp upd_same (by rw [upd_ne Wp, upd_same]) fun b ob hb e => ?_
  rw [upd_ne hb, upd_ne (ne_of_none e hW0), upd_ne hb]
  exact e
def sp_is_begun (CD : Addr) : Sp := fun vs H Q _ => ∃ (p dx : Addr) (v s o : V), vs = [.ref p] ∧ H p = some (.ins CD dx (dF v s o)) ∧ Q (.bl (!decide (v = .non))) H
theorem c_Desk_is_begun (T : Top K mg CR CG CS CD aON aSH aDE) : MetG CX0 P w K mg base 1 CD "is_begun" (sp_is_begun CD) := by
  obtain ⟨f, fd, hm, F, b⟩ := T.m_Desk_is_begun.ex
  refine ⟨f, fd, _, T.cl_Desk, hm, F.ok sc_Desk_is_begun (fun vs H Q E h => by obtain ⟨p, dx, v, s', o, rfl, _⟩ := h; rfl) (fun cdv A outer s H vs Q E hr h => ⟨_, (pss_one (ps_ret (pe_cmpR op_notN (pe_fld (pv 0) rfl) pe_non (nomark _)))), ?_⟩), b⟩
  obtain ⟨p, dx, v, s', o, rfl, h⟩ := h
  obtain ⟨hp, k⟩ := h
  exact ⟨_, rfl, p, CD, dx, _, _, rfl, hp, T.cl_Desk, T.n_Desk_game, dF_game, rfl, k⟩
theorem MeV.rep {H : Hp} {v : V} {x : Spin} (n : Nat) (m : Me K H v x) : MeV K H (List.replicate n v) (List.replicate n x) := ⟨by simp, fun i u y h1 h2 => by
  obtain ⟨_, h3⟩ := List.getElem?_eq_some_iff.mp h1
  obtain ⟨_, h4⟩ := List.getElem?_eq_some_iff.mp h2
  rw [List.getElem_replicate] at h3 h4
  subst h3 h4
  exact m⟩
theorem flat_repV (n : Nat) (v : V) : (List.replicate n [v]).flatten = List.replicate n v := by
  induction n with
  | zero => rfl
  | succ n ih =>
    rw [List.replicate_succ, List.flatten_cons, ih]
    rfl
def sp_take_spins (CG CS CD : Addr) (K : PySem.W.Frag) : Sp := fun vs H Q _ => ∃ (p a dx gp dg : Addr) (k q : Nat) (rw mu wn : Addr) (v1 v2 : V) (ow : List Nat), vs = [.ref p, .ref a] ∧ H p = some (.ins CD dx (dF (.ref gp) v1 v2)) ∧ H gp = some (.ins CG dg (gF k q rw mu wn)) ∧ SqL K H a (nL ow) ∧ ow.length ≤ 100 ∧ k ≤ 4 ∧ q ≤ 3 ∧ gp ≠ p ∧
  ∀ H' sp ds o l u w vu vw, H sp = none → H o = none → H l = none → H u = none → H w = none → w ≠ l → w ≠ u → H' p = some (.ins CD dx (dF (.ref gp) (.ref sp) (.ref w))) → H' sp = some (.ins CS ds (sF o l u false)) → H' o = some (.tup (nL ow)) → H' l = some (.lst []) → H' u = some (.lst vu) →
    MeV K H' vu (Su175.first ow.length []) → H' w = some (.lst vw) → MeV K H' vw (List.replicate (k * q) (Su175.blank ow.length)) → SameX p H H' → Q .non H'
theorem SqL.x {H H' : Hp} {D a C dx : Addr} {fs : List (Str × V)} {xs : List V} (s : SameX D H H') (hD : H D = some (.ins C dx fs)) (h : SqL K H a xs) : SqL K H' a xs := by
  rcases h with (h | ⟨o, h⟩) | h
  · exact .inl (.inl (s _ _ (ne_of h hD (by intro z; cases z)) h))
  · exact .inl (.inr ⟨o, s _ _ (ne_of h hD (by intro z; cases z)) h⟩)
  · exact .inr h
theorem c_Desk_take_spins (T : Top K mg CR CG CS CD aON aSH aDE) : MetG CX0 P w K mg base 7 CD "take_spins" (sp_take_spins CG CS CD K) := by
  obtain ⟨f, fd, hm, F, b⟩ := T.m_Desk_take_spins.ex
  refine ⟨f, fd, _, T.cl_Desk, hm, F.ok sc_Desk_take_spins (fun vs H Q E h => by obtain ⟨p, a, dx, gp, dg, k', q, rw', mu, wn, v1, v2, ow, rfl, _⟩ := h; rfl) (fun cdv A outer s H vs Q E hr h => ⟨_, (pss_cons (ps_fld (pv 0) (pe_mak (c_Spins_init T) hr (by decide) rfl (pa_cons (pv 1) pa_nil)) rfl)
    (pss_one (ps_fld (pv 0) (pe_op op_rep (pe_lst (pa_cons (pe_cg (c_bare T) hr (by decide) rfl pass0 (pa_cons (pe_callB call_len_seq (by rfl) T.b_len boot_flen (pa_cons (pv 1) pa_nil)) pa_nil)) pa_nil)) (pe_op op_mul (pe_fld (pe_fld (pv 0) rfl) rfl) (pe_fld (pe_fld (pv 0) rfl) rfl))) rfl))), ?_⟩), b⟩
  obtain ⟨p, a, dx, gp, dg, k', q, rw', mu, wn, v1, v2, ow, rfl, h⟩ := h
  obtain ⟨hp, hg, ha, hl, hk, hq, gpp, kk⟩ := h
  refine ⟨_, rfl, fun x dx2 hx hdx hne => ?_⟩
  have sb : Same H (upd (upd H dx2 (.own x)) x (.ins CS dx2 [])) := Same.then (Same.new hdx) (by rw [upd_ne (Ne.symm hne)]; exact hx)
  refine ⟨x, a, dx2, ow, rfl, upd_same, Same.seq sb ha, hl, fun H1 o l u vu ho hl' hu ox lx ux hx1 ho1 hl1 hu1 mv sx => ⟨rfl, ?_⟩⟩
  have s1 : Same H H1 := fun b ob e => sx b ob (ne_of_none e hx) (sb b ob e)
  have ho0 := Same.free sb ho
  have hl0 := Same.free sb hl'
  have hu0 := Same.free sb hu
  have hp1 := s1 _ _ hp
  refine ⟨_, rfl, p, CD, dx, _, rfl, hp1, T.cl_Desk, T.n_Desk_shared, (by show 3 < 1000; decide), ?_⟩
  rw [dF_putS]
  have s2 : SameX p H (upd H1 p (.ins CD dx (dF (.ref gp) (.ref x) v2))) := SameX.trans (Same.x s1) SameX.upd
  have ha2 : SqL K (upd H1 p (.ins CD dx (dF (.ref gp) (.ref x) v2))) a (nL ow) := SqL.x s2 hp ha
  refine ⟨_, rfl, a, _, rfl, .inl ha2, ow.length, congrArg (fun (z : Int) => [V.int z]) (by rw [nL_len]), hl, fun v H3 s3 me => ⟨(by show 1 ≤ sizeLine; decide), fun e he => ?_⟩⟩
  have se : Same H3 (upd H3 e (.lst [v])) := Same.new he
  have s4 := Same.trans s3 se
  have hp4 := s4 p _ upd_same
  have xp : x ≠ p := fun z => by rw [z, hp] at hx; cases hx
  have hg4 := s4 gp _ (s2 _ _ gpp hg)
  refine ⟨_, rfl, p, CD, dx, _, _, rfl, hp4, T.cl_Desk, T.n_Desk_game, dF_game, gp, CG, dg, _, _, rfl, hg4, T.cl_Game, T.n_Game_persons, gF_persons, _, rfl, p, CD, dx, _, _, rfl, hp4, T.cl_Desk, T.n_Desk_game, dF_game, gp, CG, dg, _, _, rfl, hg4, T.cl_Game, T.n_Game_questions, gF_questions, _, _, rfl, rfl, .inl ⟨by omega, by omega⟩, ?_⟩
  have kq : ((k' : Int) * (q : Int)) = ((k' * q : Nat) : Int) := by rw [Int.natCast_mul]
  have kq12 : k' * q ≤ 12 := Nat.mul_le_mul hk hq
  refine ⟨e, _, _, rfl, rfl, upd_same, by rw [kq]; omega, by rw [kq]; omega, by rw [sizeLine_eq, kq]; show 1 * ((k' * q : Nat) : Int).toNat ≤ _; omega, fun W hW => ?_⟩
  have sW := Same.then (o := HO.lst (List.replicate ((k' : Int) * (q : Int)).toNat [v]).flatten) s4 hW
  have sW2 : Same H3 (upd (upd H3 e (.lst [v])) W (.lst (List.replicate ((k' : Int) * (q : Int)).toNat [v]).flatten)) := Same.then se hW
  have hpW := sW p _ upd_same
  refine ⟨_, rfl, p, CD, dx, _, rfl, hpW, T.cl_Desk, T.n_Desk_own, (by show 3 < 1000; decide), ?_⟩
  rw [dF_putO]
  -- all that was before the last step
  have h2 : upd H1 p (.ins CD dx (dF (.ref gp) (.ref x) v2)) W = none := Same.free s4 hW
  have Wp : W ≠ p := fun z => by rw [z, upd_same] at h2; cases h2
  rw [upd_ne Wp] at h2
  have Wl : W ≠ l := fun z => by rw [z, hl1] at h2; cases h2
  have Wu : W ≠ u := fun z => by rw [z, hu1] at h2; cases h2
  have hW0 : H W = none := Same.free s1 h2
  have all : ∀ b ob, b ≠ p → H1 b = some ob → upd (upd (upd H3 e (.lst [v])) W (.lst (List.replicate ((k' : Int) * (q : Int)).toNat [v]).flatten)) p (.ins CD dx (dF (.ref gp) (.ref x) (.ref W))) b = some ob := fun b ob hb eb => by
    rw [upd_ne hb]
    exact sW b ob (by rw [upd_ne hb]; exact eb)
  have op : o ≠ p := fun z => by rw [z, hp] at ho0; cases ho0
  have lp : l ≠ p := fun z => by rw [z, hp] at hl0; cases hl0
  have up : u ≠ p := fun z => by rw [z, hp] at hu0; cases hu0
  refine kk _ x dx2 o l u W vu (List.replicate (k' * q) v) hx ho0 hl0 hu0 hW0 Wl Wu upd_same (all x _ xp hx1) (all o _ op ho1) (all l _ lp hl1) (all u _ up hu1) ?_ ?_ ?_ fun b ob hb eb => all b ob hb (s1 b ob eb)
  · exact mv.samexO (D := p) (fun b ob hb eb => all b ob hb eb) (notTup hp1)
  · rw [upd_ne Wp, upd_same, flat_repV, kq]
    rfl
  · exact ((MeV.rep (k' * q) me).same sW2).samexO SameX.upd (notTup hpW)
def sp_Desk_begin (CG CS CD : Addr) (K : PySem.W.Frag) : Sp := fun vs H Q _ => ∃ (p : Addr) (k q : Nat) (dx : Addr) (v0 v1 v2 : V), vs = [.ref p, .int k, .int q] ∧ H p = some (.ins CD dx (dF v0 v1 v2)) ∧ k ≤ 4 ∧ 0 < q ∧ q ≤ 3 ∧
  ∀ H' gp dg rw mu wn sp ds o l u w vu vw, H gp = none → H mu = none → H wn = none → H sp = none → H o = none → H l = none → H u = none → H w = none → mu ≠ wn → w ≠ mu → w ≠ wn → w ≠ l → w ≠ u → l ≠ mu → l ≠ wn → u ≠ mu → u ≠ wn →
    H' gp = some (.ins CG dg (gF k q rw mu wn)) → H' mu = some (.lst (nL (List.replicate (q ^ k) 1))) → H' wn = some (.lst (nL (List.replicate (q ^ k) 0))) → RowsFar H H' [p, mu, wn, w, sp] rw k q → gp ≠ sp →
    H' p = some (.ins CD dx (dF (.ref gp) (.ref sp) (.ref w))) → H' sp = some (.ins CS ds (sF o l u false)) → H' o = some (.tup (nL [])) → H' l = some (.lst []) → H' u = some (.lst vu) →
    MeV K H' vu (Su175.first 0 []) → H' w = some (.lst vw) → MeV K H' vw (List.replicate (k * q) (Su175.blank 0)) → SameX p H H' → Q .non H'
theorem c_Desk_begin (T : Top K mg CR CG CS CD aON aSH aDE) : MetG CX0 P w K mg base 8 CD "begin" (sp_Desk_begin CG CS CD K) := by
  obtain ⟨f, fd, hm, F, b⟩ := T.m_Desk_begin.ex
  refine ⟨f, fd, _, T.cl_Desk, hm, F.ok sc_Desk_begin (fun vs H Q E h => by obtain ⟨p, k', q, dx, v0, v1, v2, rfl, _⟩ := h; rfl) (fun cdv A outer s H vs Q E hr h => ⟨_, (pss_cons (ps_fld (pv 0) (pe_mak (c_Game_init T) hr (by decide) rfl (pa_cons (pv 1) (pa_cons (pv 2) pa_nil))) rfl)
    (pss_one (ps_expr (pe_mg (c_Desk_take_spins T) hr (by decide) pass0 (pv 0) (pa_cons (pe_lst pa_nil) pa_nil))))), ?_⟩), b⟩
  obtain ⟨p, k', q, dx, v0, v1, v2, rfl, h⟩ := h
  obtain ⟨hp, hk, hq0, hq, kk⟩ := h
  refine ⟨_, rfl, _, rfl, fun x dx2 hx hdx hne => ?_⟩
  have sb : Same H (upd (upd H dx2 (.own x)) x (.ins CG dx2 [])) := Same.then (Same.new hdx) (by rw [upd_ne (Ne.symm hne)]; exact hx)
  refine ⟨x, k', q, dx2, rfl, upd_same, hk, hq0, hq, fun H1 D M W hx1 hM hW hR hM0 hW0 hMW keep => ⟨rfl, ?_⟩⟩
  have s1 : Same H H1 := fun b ob e => keep b ob (sb b ob e) (ne_of_none e hx)
  have hM00 := Same.free sb hM0
  have hW00 := Same.free sb hW0
  refine ⟨_, rfl, p, CD, dx, _, rfl, s1 _ _ hp, T.cl_Desk, T.n_Desk_game, (by show 3 < 1000; decide), ?_⟩
  rw [dF_putG]
  have xp : x ≠ p := fun z => by rw [z, hp] at hx; cases hx
  have Mp : M ≠ p := fun z => by rw [z, hp] at hM00; cases hM00
  have Wp : W ≠ p := fun z => by rw [z, hp] at hW00; cases hW00
  have s2 : SameX p H (upd H1 p (.ins CD dx (dF (.ref x) v1 v2))) := SameX.trans (Same.x s1) SameX.upd
  refine ⟨_, rfl, p, dx, _, rfl, upd_same, dF_not (by decide +kernel), (by show 0 ≤ sizeLine; decide), fun e he => ?_⟩
  have se : Same (upd H1 p (.ins CD dx (dF (.ref x) v1 v2))) (upd (upd H1 p (.ins CD dx (dF (.ref x) v1 v2))) e (.lst [])) := Same.new he
  have h3 : ∀ b ob, b ≠ p → H1 b = some ob → upd (upd H1 p (.ins CD dx (dF (.ref x) v1 v2))) e (.lst []) b = some ob := fun b ob hb eb => se b ob (by rw [upd_ne hb]; exact eb)
  refine ⟨p, e, dx, x, dx2, k', q, D, M, W, v1, v2, [], rfl, se _ _ upd_same, h3 _ _ xp hx1, SqL.of upd_same, by decide, hk, hq, xp, fun H' sp ds o l u w' vu vw hsp ho hl hu hw wl wu hp' hsp' ho' hl' hu' mv hw' mw sx => ?_⟩
  have down : ∀ b, upd (upd H1 p (.ins CD dx (dF (.ref x) v1 v2))) e (.lst []) b = none → H1 b = none ∧ H b = none := fun b eb => by
    have bp : b ≠ p := fun z => by rw [z, se _ _ upd_same] at eb; cases eb
    have h1 := Same.free se eb
    rw [upd_ne bp] at h1
    exact ⟨h1, Same.free s1 h1⟩
  have up' : ∀ b ob, b ≠ p → H1 b = some ob → H' b = some ob := fun b ob hb eb => sx b ob hb (h3 b ob hb eb)
  have ne1 : ∀ {b c ob}, H1 b = some ob → H1 c = none → c ≠ b := fun e1 e2 z => by rw [z, e1] at e2; cases e2
  obtain ⟨hD0, hDA, ys, hy, hyl, hyr⟩ := hR
  simp only [List.mem_cons, List.not_mem_nil, or_false, not_or] at hDA
  have Dp : D ≠ p := fun z => by rw [z] at hD0; rw [sb _ _ hp] at hD0; cases hD0
  refine kk H' x dx2 D M W sp ds o l u w' vu vw hx hM00 hW00 (down _ hsp).2 (down _ ho).2 (down _ hl).2 (down _ hu).2 (down _ hw).2 hMW (ne1 hM (down _ hw).1) (ne1 hW (down _ hw).1) wl wu (ne1 hM (down _ hl).1) (ne1 hW (down _ hl).1) (ne1 hM (down _ hu).1) (ne1 hW (down _ hu).1)
    (up' _ _ xp hx1) (up' _ _ Mp hM) (up' _ _ Wp hW) ⟨Same.free sb hD0, ?_, ys, up' _ _ Dp hy, hyl, fun i y hi => ?_⟩ (Ne.symm (ne1 hx1 (down _ hsp).1)) hp' hsp' ho' hl' hu' mv hw' mw fun b ob hb eb => up' b ob hb (s1 b ob eb)
  · simp only [List.mem_cons, List.not_mem_nil, or_false, not_or]
    exact ⟨Dp, hDA.2.1, hDA.2.2, Ne.symm (ne1 hy (down _ hw).1), Ne.symm (ne1 hy (down _ hsp).1)⟩
  · obtain ⟨a, rfl, ha, haA, har⟩ := hyr i y hi
    simp only [List.mem_cons, List.not_mem_nil, or_false, not_or] at haA
    have ap : a ≠ p := fun z => by rw [z] at ha; rw [sb _ _ hp] at ha; cases ha
    refine ⟨a, rfl, Same.free sb ha, ?_, up' _ _ ap har⟩
    simp only [List.mem_cons, List.not_mem_nil, or_false, not_or]
    exact ⟨ap, haA.2.1, haA.2.2, Ne.symm (ne1 har (down _ hw).1), Ne.symm (ne1 har (down _ hsp).1)⟩
def sp_place_own (CG CD : Addr) : Sp := fun vs H Q _ => ∃ (p : Addr) (i j : Nat) (dx gp dg : Addr) (k q : Nat) (rw mu wn : Addr) (v1 v2 : V), vs = [.ref p, .int i, .int j] ∧ H p = some (.ins CD dx (dF (.ref gp) v1 v2)) ∧ H gp = some (.ins CG dg (gF k q rw mu wn)) ∧ i ≤ 100 ∧ q ≤ 3 ∧ Q (.int (i * q + j : Nat)) H
theorem c_Desk_place_own (T : Top K mg CR CG CS CD aON aSH aDE) : MetG CX0 P w K mg base 1 CD "place_own" (sp_place_own CG CD) := by
  obtain ⟨f, fd, hm, F, b⟩ := T.m_Desk_place_own.ex
  refine ⟨f, fd, _, T.cl_Desk, hm, F.ok sc_Desk_place_own (fun vs H Q E h => by obtain ⟨p, i, j, dx, gp, dg, k', q, rw', mu, wn, v1, v2, rfl, _⟩ := h; rfl) (fun cdv A outer s H vs Q E hr h => ⟨_, (pss_one (ps_ret (pe_op op_add (pe_op op_mul (pv 1) (pe_fld (pe_fld (pv 0) rfl) rfl)) (pv 2)))), ?_⟩), b⟩
  obtain ⟨p, i, j, dx, gp, dg, k', q, rw', mu, wn, v1, v2, rfl, h⟩ := h
  obtain ⟨hp, hg, hi, hq, k⟩ := h
  exact ⟨_, rfl, _, rfl, p, CD, dx, _, _, rfl, hp, T.cl_Desk, T.n_Desk_game, dF_game, gp, CG, dg, _, _, rfl, hg, T.cl_Game, T.n_Game_questions, gF_questions, _, _, rfl, rfl, .inl ⟨by omega, by omega⟩, _, rfl, _, _, rfl, rfl, qe k (ve (by rw [Int.natCast_add, Int.natCast_mul]))⟩
def sp_set_own (CG CD : Addr) : Sp := fun vs H Q _ => ∃ (p : Addr) (i j : Nat) (v : V) (dx gp dg : Addr) (k q : Nat) (rw mu wn : Addr) (v1 : V) (w : Addr) (vw : List V), vs = [.ref p, .int i, .int j, v] ∧ H p = some (.ins CD dx (dF (.ref gp) v1 (.ref w))) ∧ H gp = some (.ins CG dg (gF k q rw mu wn)) ∧ i ≤ 100 ∧ q ≤ 3 ∧ H w = some (.lst vw) ∧ i * q + j < vw.length ∧
  Q .non (upd H w (.lst (vw.set (i * q + j) v)))
theorem c_Desk_set_own (T : Top K mg CR CG CS CD aON aSH aDE) : MetG CX0 P w K mg base 2 CD "set_own" (sp_set_own CG CD) := by
  obtain ⟨f, fd, hm, F, b⟩ := T.m_Desk_set_own.ex
  refine ⟨f, fd, _, T.cl_Desk, hm, F.ok sc_Desk_set_own (fun vs H Q E h => by obtain ⟨p, i, j, v, dx, gp, dg, k', q, rw', mu, wn, v1, W, vw, rfl, _⟩ := h; rfl) (fun cdv A outer s H vs Q E hr h => ⟨_, (pss_one (ps_asg (pv 3) (pg_sub (pe_fld (pv 0) rfl) (pe_mg (c_Desk_place_own T) hr (by decide) pass0 (pv 0) (pa_cons (pv 1) (pa_cons (pv 2) pa_nil))) set_list))), ?_⟩), b⟩
  obtain ⟨p, i, j, v, dx, gp, dg, k', q, rw', mu, wn, v1, W, vw, rfl, h⟩ := h
  obtain ⟨hp, hg, hi, hq, hw, hlt, k⟩ := h
  exact ⟨_, rfl, _, rfl, p, CD, dx, _, _, rfl, hp, T.cl_Desk, T.n_Desk_own, dF_own, _, rfl, p, dx, _, rfl, hp, dF_not (by decide +kernel), _, rfl, _, rfl, p, i, j, dx, gp, dg, k', q, rw', mu, wn, v1, .ref W, rfl, hp, hg, hi, hq, W, _, _, i * q + j, rfl, rfl, hw, ixN_lt hlt, k⟩
end
end Ss
namespace Ss
open PySem PySem.Spec PyProof.Rows L2
open Su173 (Spin)
open Su175 (Abs)
/-! ## what a desk is: places, what's fixed (G), what may change -/
structure Lay where
  gp : Addr
  sp : Addr
  w : Addr
  mu : Addr
  wn : Addr
  rw : Addr
  o : Addr
  l : Addr
  u : Addr
  dd : Addr
  dg : Addr
  ds : Addr
noncomputable def cutH (H : Hp) (A : Addr → Prop) : Hp := fun b => open Classical in if A b then none else H b
theorem cutH_in {H : Hp} {A : Addr → Prop} {b : Addr} (h : A b) : cutH H A b = none := if_pos h
theorem cutH_out {H : Hp} {A : Addr → Prop} {b : Addr} (h : ¬ A b) : cutH H A b = H b := if_neg h
theorem cutH_same (H : Hp) (A : Addr → Prop) : Same (cutH H A) H := fun b o e => by
  by_cases h : A b
  · rw [cutH_in h] at e
    cases e
  · rw [cutH_out h] at e
    exact e
def Aset (N : Addr → Prop) (dk : Addr) (y : Lay) (b : Addr) : Prop := b = dk ∨ b = y.sp ∨ b = y.w ∨ b = y.mu ∨ b = y.wn ∨ N b
structure St (K : PySem.W.Frag) (CG CS CD : Addr) (N : Addr → Prop) (G H : Hp) (dk : Addr) (y : Lay) (g : Abs) : Prop where
  s : Same G H
  ok : Mx.Ok g
  hdk : H dk = some (.ins CD y.dd (dF (.ref y.gp) (.ref y.sp) (.ref y.w)))
  gdk : G dk = none
  hgp : G y.gp = some (.ins CG y.dg (gF g.k g.q y.rw y.mu y.wn))
  hmu : H y.mu = some (.lst (nL g.counts))
  gmu : G y.mu = none
  hwn : H y.wn = some (.lst (nL g.wins))
  gwn : G y.wn = none
  rows : RowsIn G y.rw g.k g.q
  hsp : H y.sp = some (.ins CS y.ds (sF y.o y.l y.u g.touched))
  gsp : G y.sp = none
  own : OwnL K G y.o y.l g.owner g.links
  su : ∃ vu, G y.u = some (.lst vu) ∧ MeV K G vu g.sure
  hw : ∃ vw, H y.w = some (.lst vw) ∧ MeV K G vw g.mine.flatten
  gw : G y.w = none
  n1 : y.mu ≠ y.wn
  n2 : y.w ≠ y.mu
  n3 : y.w ≠ y.wn
  res : ∀ b, N b → G b = none ∧ b ≠ y.w ∧ b ≠ y.mu ∧ b ≠ y.wn ∧ b ≠ dk ∧ b ≠ y.sp ∧ ∃ o, H b = some o ∧ ∀ xs, o ≠ .tup xs
def Sta (K : PySem.W.Frag) (CG CS CD : Addr) (N : Addr → Prop) (H : Hp) (dk : Addr) (g : Abs) : Prop := ∃ G y, St K CG CS CD N G H dk y g
def Keep (N : Addr → Prop) (H H' : Hp) : Prop := ∀ b o, N b → H b = some o → H' b = some o
section
variable {K : PySem.W.Frag} {CG CS CD CR : Addr} {N : Addr → Prop} {G H H' : Hp} {dk : Addr} {y : Lay} {g : Abs}
theorem Keep.of (s : Same H H') : Keep N H H' := fun b o _ e => s b o e
theorem Keep.trans {H2 : Hp} (a : Keep N H H') (b : Keep N H' H2) : Keep N H H2 := fun c o n e => b c o n (a c o n e)
theorem St.same (t : St K CG CS CD N G H dk y g) (s : Same H H') : St K CG CS CD N G H' dk y g :=
  { t with
    s := Same.trans t.s s
    hdk := s _ _ t.hdk
    hmu := s _ _ t.hmu
    hwn := s _ _ t.hwn
    hsp := s _ _ t.hsp
    hw := let ⟨vw, h1, h2⟩ := t.hw; ⟨vw, s _ _ h1, h2⟩
    res := fun b n => let ⟨h0, h1, h2, h3, h4, h5, o, h6, h7⟩ := t.res b n; ⟨h0, h1, h2, h3, h4, h5, o, s _ _ h6, h7⟩ }
theorem St.fewer {N' : Addr → Prop} (t : St K CG CS CD N G H dk y g) (h : ∀ b, N' b → N b) : St K CG CS CD N' G H dk y g := { t with res := fun b n => t.res b (h b n) }
theorem St.gp1 (t : St K CG CS CD N G H dk y g) : H y.gp = some (.ins CG y.dg (gF g.k g.q y.rw y.mu y.wn)) := t.s _ _ t.hgp
theorem St.game (t : St K CG CS CD N G H dk y g) : GameR CG H y.gp g := ⟨y.dg, y.rw, y.mu, y.wn, t.gp1, t.hmu, t.hwn, t.rows.same t.s⟩
theorem St.spin (t : St K CG CS CD N G H dk y g) : SpinR CS K H y.sp g.owner g.sure := by
  obtain ⟨vu, h1, h2⟩ := t.su
  exact ⟨y.ds, y.o, y.l, y.u, g.touched, vu, t.hsp, t.s _ _ t.own.1, t.s _ _ h1, h2.same t.s⟩
theorem St.mine (t : St K CG CS CD N G H dk y g) : MeH K H y.w g.mine.flatten := by
  obtain ⟨vw, h1, h2⟩ := t.hw
  exact ⟨vw, h1, h2.same t.s⟩
theorem St.ownH (t : St K CG CS CD N G H dk y g) : OwnL K H y.o y.l g.owner g.links := t.own.same t.s
theorem PaV.cut {A : Addr → Prop} {vs : List V} {ps : List (Nat × Nat)} (m : PaV K H vs ps) (h : ∀ b xs, H b = some (.tup xs) → ¬ A b) : PaV K (cutH H A) vs ps := ⟨m.1, fun i v p h1 h2 => let ⟨a, e, h3⟩ := m.2 i v p h1 h2; ⟨a, e, by rw [cutH_out (h _ _ h3)]; exact h3⟩⟩
theorem MeV.cut {A : Addr → Prop} {vs : List V} {ms : List Spin} (m : MeV K H vs ms) (h : ∀ b xs, H b = some (.tup xs) → ¬ A b) : MeV K (cutH H A) vs ms :=
  ⟨m.1, fun i v x h1 h2 => let ⟨a, b, e, h3, h4⟩ := m.2 i v x h1 h2; ⟨a, b, e, by rw [cutH_out (h _ _ h3)]; exact h3, by rw [cutH_out (h _ _ h4)]; exact h4⟩⟩
theorem st_cut (ok : Mx.Ok g) (hdk : H dk = some (.ins CD y.dd (dF (.ref y.gp) (.ref y.sp) (.ref y.w)))) (hgp : H y.gp = some (.ins CG y.dg (gF g.k g.q y.rw y.mu y.wn))) (ngp : ¬ Aset N dk y y.gp) (hmu : H y.mu = some (.lst (nL g.counts))) (hwn : H y.wn = some (.lst (nL g.wins)))
    (hrw : ∃ ys : List V, H y.rw = some (.lst ys) ∧ ys.length = g.q ^ g.k ∧ ∀ (i : Nat) (v : V), ys[i]? = some v → ∃ a, v = .ref a ∧ H a = some (.lst (nL (Mx.rowAt g.q g.k i))) ∧ ¬ Aset N dk y a) (nrw : ¬ Aset N dk y y.rw)
    (hsp : H y.sp = some (.ins CS y.ds (sF y.o y.l y.u g.touched))) (own : OwnL K H y.o y.l g.owner g.links) (nl : ¬ Aset N dk y y.l) (nu : ¬ Aset N dk y y.u) (su : MeH K H y.u g.sure) (hw : MeH K H y.w g.mine.flatten)
    (n1 : y.mu ≠ y.wn) (n2 : y.w ≠ y.mu) (n3 : y.w ≠ y.wn) (res : ∀ b, N b → b ≠ y.w ∧ b ≠ y.mu ∧ b ≠ y.wn ∧ b ≠ dk ∧ b ≠ y.sp ∧ ∃ o, H b = some o ∧ ∀ xs, o ≠ .tup xs) : St K CG CS CD N (cutH H (Aset N dk y)) H dk y g := by
  have nt : ∀ b xs, H b = some (.tup xs) → ¬ Aset N dk y b := fun b xs e h => by
    obtain ⟨vw, hw, _⟩ := hw
    rcases h with rfl | rfl | rfl | rfl | rfl | h
    · rw [hdk] at e; cases e
    · rw [hsp] at e; cases e
    · rw [hw] at e; cases e
    · rw [hmu] at e; cases e
    · rw [hwn] at e; cases e
    · obtain ⟨_, _, _, _, _, o, h1, h2⟩ := res b h
      rw [h1] at e
      exact h2 xs (Option.some.inj e)
  obtain ⟨ho, vl, hl, hv⟩ := own
  obtain ⟨vu, hu, mu⟩ := su
  obtain ⟨vw, hw, mw⟩ := hw
  obtain ⟨ys, hr, hrl, hra⟩ := hrw
  exact {
    s := cutH_same _ _
    ok := ok
    hdk := hdk
    gdk := cutH_in (.inl rfl)
    hgp := by rw [cutH_out ngp]; exact hgp
    hmu := hmu
    gmu := cutH_in (.inr (.inr (.inr (.inl rfl))))
    hwn := hwn
    gwn := cutH_in (.inr (.inr (.inr (.inr (.inl rfl)))))
    rows := ⟨ys, by rw [cutH_out nrw]; exact hr, hrl, fun i v h => let ⟨a, e, h1, h2⟩ := hra i v h; ⟨a, e, by rw [cutH_out h2]; exact h1⟩⟩
    hsp := hsp
    gsp := cutH_in (.inr (.inl rfl))
    own := ⟨by rw [cutH_out (nt _ _ ho)]; exact ho, vl, by rw [cutH_out nl]; exact hl, hv.cut nt⟩
    su := ⟨vu, by rw [cutH_out nu]; exact hu, mu.cut nt⟩
    hw := ⟨vw, hw, mw.cut nt⟩
    gw := cutH_in (.inr (.inr (.inl rfl)))
    n1 := n1
    n2 := n2
    n3 := n3
    res := fun b n => ⟨cutH_in (.inr (.inr (.inr (.inr (.inr n))))), res b n⟩ }
theorem St.notA (t : St K CG CS CD N G H dk y g) {b : Addr} {o : HO} (h : G b = some o) : ¬ Aset N dk y b := fun z => by
  rcases z with rfl | rfl | rfl | rfl | rfl | z
  · rw [t.gdk] at h; cases h
  · rw [t.gsp] at h; cases h
  · rw [t.gw] at h; cases h
  · rw [t.gmu] at h; cases h
  · rw [t.gwn] at h; cases h
  · rw [(t.res b z).1] at h; cases h
theorem St.freeA (t : St K CG CS CD N G H dk y g) {b : Addr} (h : H b = none) : ¬ Aset N dk y b := fun z => by
  obtain ⟨vw, hw, _⟩ := t.hw
  rcases z with rfl | rfl | rfl | rfl | rfl | z
  · rw [t.hdk] at h; cases h
  · rw [t.hsp] at h; cases h
  · rw [hw] at h; cases h
  · rw [t.hmu] at h; cases h
  · rw [t.hwn] at h; cases h
  · obtain ⟨_, _, _, _, _, _, o, h1, _⟩ := t.res b z
    rw [h1] at h
    cases h
/-- what leaves all but the places that may change -/
def Most (y : Lay) (H H' : Hp) : Prop := ∀ b o, H b = some o → b ≠ y.sp → b ≠ y.w → b ≠ y.mu → b ≠ y.wn → H' b = some o
theorem Most.sp (s : SameX y.sp H H') : Most y H H' := fun b o e h _ _ _ => s b o h e
theorem Most.w (s : SameX y.w H H') : Most y H H' := fun b o e _ h _ _ => s b o h e
theorem Most.mu (s : SameX y.mu H H') : Most y H H' := fun b o e _ _ h _ => s b o h e
theorem Most.wn (s : SameX y.wn H H') : Most y H H' := fun b o e _ _ _ h => s b o h e
theorem St.keep (t : St K CG CS CD N G H dk y g) (s : Most y H H') : Keep N H H' := fun b o n e => by
  obtain ⟨_, h1, h2, h3, h4, h5, _⟩ := t.res b n
  exact s b o e h5 h1 h2 h3
theorem St.next {g' : Abs} {l' u' : Addr} (t : St K CG CS CD N G H dk y g) (s : Most y H H') (ok : Mx.Ok g') (hk : g'.k = g.k) (hq : g'.q = g.q) (hmu : H' y.mu = some (.lst (nL g'.counts))) (hwn : H' y.wn = some (.lst (nL g'.wins)))
    (hsp : H' y.sp = some (.ins CS y.ds (sF y.o l' u' g'.touched))) (own : OwnL K H' y.o l' g'.owner g'.links) (su : MeH K H' u' g'.sure) (hl : l' = y.l ∨ H l' = none) (hu : u' = y.u ∨ H u' = none) (hw : MeH K H' y.w g'.mine.flatten) :
    Sta K CG CS CD N H' dk g' := by
  obtain ⟨vw, hw0, _⟩ := t.hw
  obtain ⟨vu, hu0, _⟩ := t.su
  obtain ⟨_, vl, hl0, _⟩ := t.own
  obtain ⟨ys, hr, hrl, hra⟩ := t.rows
  have sG : ∀ b o, G b = some o → H' b = some o := fun b o e => by
    have := t.notA e
    unfold Aset at this
    simp only [not_or] at this
    exact s b o (t.s b o e) this.2.1 this.2.2.1 this.2.2.2.1 this.2.2.2.2.1
  have ne : ∀ {b c : Addr} {o u : HO}, H b = some o → H c = some u → o ≠ u → b ≠ c := fun e1 e2 h z => h (by rw [z, e2] at e1; exact (Option.some.inj e1).symm)
  have A' : ∀ b, ¬ Aset N dk y b → ¬ Aset N dk { y with l := l', u := u' } b := fun b h z => h z
  refine ⟨_, _, st_cut (y := { y with l := l', u := u' }) ok ?_ ?_ (A' _ (t.notA t.hgp)) hmu hwn ⟨ys, sG _ _ hr, by rw [hk, hq]; exact hrl, fun i v h => ?_⟩ (A' _ (t.notA hr)) hsp own (A' _ ?_) (A' _ ?_) su hw t.n1 t.n2 t.n3 fun b n => ?_⟩
  · exact s _ _ t.hdk (ne t.hdk t.hsp (by intro z; have := (HO.ins.inj z).2.2; simp [dF, sF] at this)) (ne t.hdk hw0 (by intro z; cases z)) (ne t.hdk t.hmu (by intro z; cases z)) (ne t.hdk t.hwn (by intro z; cases z))
  · rw [hk, hq]
    exact sG _ _ t.hgp
  · obtain ⟨a, e, ha⟩ := hra i v h
    exact ⟨a, e, by rw [hk, hq]; exact sG _ _ ha, A' _ (t.notA ha)⟩
  · rcases hl with rfl | h
    · exact t.notA hl0
    · exact t.freeA h
  · rcases hu with rfl | h
    · exact t.notA hu0
    · exact t.freeA h
  · obtain ⟨h0, h1, h2, h3, h4, h5, o, h6, h7⟩ := t.res b n
    exact ⟨h1, h2, h3, h4, h5, o, s b o h6 h5 h1 h2 h3, h7⟩
theorem St.ne_sp (t : St K CG CS CD N G H dk y g) : y.mu ≠ y.sp ∧ y.wn ≠ y.sp ∧ y.w ≠ y.sp := by
  obtain ⟨vw, hw0, _⟩ := t.hw
  refine ⟨fun z => ?_, fun z => ?_, fun z => ?_⟩
  · have := t.hmu; rw [z, t.hsp] at this; cases this
  · have := t.hwn; rw [z, t.hsp] at this; cases this
  · rw [z, t.hsp] at hw0; cases hw0
/-! ## what a call is due -/
def OutOk (K : PySem.W.Frag) (CG CS CD : Addr) (N : Addr → Prop) (H : Hp) (dk : Addr) (g : Abs) (zs : List Nat) (Q : VK) : Prop := ∀ r H', Sta K CG CS CD N H' dk g → Keep N H H' → H' r = some (.lst (nL zs)) → ¬ N r → Q (.ref r) H'
def Due (K : PySem.W.Frag) (CR CG CS CD : Addr) (N : Addr → Prop) (H : Hp) (dk : Addr) (Q : VK) (E : XK) (z : Abs × Su175.Ans) : Prop :=
  (z.2.value < 0 → Refuse CR E H z.2.value) ∧ (0 ≤ z.2.value → OutOk K CG CS CD N H dk z.1 (z.2.value.toNat :: z.2.out) Q)
variable {Q : VK} {E : XK}
theorem Due.no {z : Abs × Su175.Ans} {c : Int} (h : Due K CR CG CS CD N H dk Q E z) (e : z = (g, Su175.no c)) (hc : c < 0) : Refuse CR E H c := by
  subst e
  exact h.1 hc
theorem Due.num {z : Abs × Su175.Ans} {n : Nat} {l : List Nat} (h : Due K CR CG CS CD N H dk Q E z) (e : z = (g, Su175.num n l)) : OutOk K CG CS CD N H dk g (n :: l) Q := by
  subst e
  exact h.2 (Int.natCast_nonneg n)
theorem out_fin {zs : List Nat} {H1 : Hp} {r : Addr} {vs : List V} (k : OutOk K CG CS CD N H dk g zs Q) (st : Sta K CG CS CD N H1 dk g) (kp : Keep N H H1) (hr : H1 r = none) (e : vs = nL zs) : Q (.ref r) (upd H1 r (.lst vs)) := by
  subst e
  obtain ⟨G, y, t⟩ := st
  refine k r _ ⟨G, y, t.same (Same.new hr)⟩ (kp.trans (Keep.of (Same.new hr))) upd_same fun n => ?_
  obtain ⟨_, _, _, _, _, _, o, h, _⟩ := t.res r n
  rw [hr] at h
  cases h
structure Args (N : Addr → Prop) (H : Hp) (a b : Addr) (nums row : List Nat) (n : Nat) : Prop where
  ha : H a = some (.lst (nL nums))
  hb : H b = some (.lst (nL row))
  na : N a
  nb : N b
  len : nums.length = n
  rl : row.length ≤ 100
  rb : ∀ x ∈ row, x < 4294967296
  ab : ∀ x ∈ nums, x < 4294967296
theorem getD_lt {xs : List Nat} {i b : Nat} (h : ∀ x ∈ xs, x < b) (hb : 0 < b) : xs.getD i 0 < b := by
  rw [List.getD_eq_getElem?_getD]
  cases e : xs[i]? with
  | none => exact hb
  | some x => exact h x (List.mem_of_getElem? e)
end
def sp_deed (K : PySem.W.Frag) (CR CG CS CD : Addr) (n : Nat) (c : List Nat → List Nat → Su175.Call) : Sp := fun vs H Q E => ∃ (dk a b : Addr) (N : Addr → Prop) (G : Hp) (y : Lay) (g : Abs) (nums row : List Nat), vs = [.ref dk, .ref a, .ref b] ∧ St K CG CS CD N G H dk y g ∧ Args N H a b nums row n ∧
  Due K CR CG CS CD N H dk Q E (Su175.does g (c nums row))
end Ss
namespace Ss
open PySem PySem.Spec PyProof.Rows L2
open Su173 (Spin)
open Su175 (Abs)
section
variable {K : PySem.W.Frag} {CG CS CD CR : Addr} {N : Addr → Prop} {G H H' : Hp} {dk : Addr} {y : Lay} {g : Abs}
theorem St.through (t : St K CG CS CD N G H dk y g) (s : Most y H H') : Same G H' := fun b o e => by
  have := t.notA e
  unfold Aset at this
  simp only [not_or] at this
  exact s b o (t.s b o e) this.2.1 this.2.2.1 this.2.2.2.1 this.2.2.2.2.1
theorem St.suH (t : St K CG CS CD N G H dk y g) (s : Same G H') : MeH K H' y.u g.sure := let ⟨vu, h1, h2⟩ := t.su; ⟨vu, s _ _ h1, h2.same s⟩
theorem St.setWins (t : St K CG CS CD N G H dk y g) (i x : Nat) : Sta K CG CS CD N (upd H y.wn (.lst (nL (g.wins.set i x)))) dk { g with wins := g.wins.set i x } := by
  have s : Most y H (upd H y.wn (.lst (nL (g.wins.set i x)))) := Most.wn SameX.upd
  have sG := t.through s
  obtain ⟨vw, hw, mw⟩ := t.hw
  exact t.next s (Mx.ok_wins t.ok _ _) rfl rfl (by rw [upd_ne t.n1]; exact t.hmu) upd_same (by rw [upd_ne (Ne.symm t.ne_sp.2.1)]; exact t.hsp) (t.own.same sG) (t.suH sG) (.inl rfl) (.inl rfl) ⟨vw, by rw [upd_ne t.n3]; exact hw, mw.same sG⟩
theorem St.setCounts (t : St K CG CS CD N G H dk y g) (i : Nat) {x : Nat} (hx : x ≤ 99) : Sta K CG CS CD N (upd H y.mu (.lst (nL (g.counts.set i x)))) dk { g with counts := g.counts.set i x } := by
  have s : Most y H (upd H y.mu (.lst (nL (g.counts.set i x)))) := Most.mu SameX.upd
  have sG := t.through s
  obtain ⟨vw, hw, mw⟩ := t.hw
  exact t.next s (Mx.ok_counts t.ok _ hx) rfl rfl upd_same (by rw [upd_ne (Ne.symm t.n1)]; exact t.hwn) (by rw [upd_ne (Ne.symm t.ne_sp.1)]; exact t.hsp) (t.own.same sG) (t.suH sG) (.inl rfl) (.inl rfl) ⟨vw, by rw [upd_ne t.n2]; exact hw, mw.same sG⟩
theorem sh0 (n : Nat) : (0 : Int) ≤ (n : Int) := Int.natCast_nonneg n
theorem p16i {n : Nat} (h : n ≤ 16) : -(2 ^ 64) < (n : Int) ∧ (n : Int) < 2 ^ 64 := by omega
theorem shlLt {a n : Nat} : decide ((a : Int) < 1 * 2 ^ ((n : Int)).toNat) = decide (a < 2 ^ n) := by
  rw [shl1, dLt]
theorem asked_lt {g : Abs} {x : List Nat} (ok : Mx.GOk g) (h : g.asked x = true) : Su175.code g.q x < g.q ^ g.k ∧ x.length = g.k ∧ ∀ a ∈ x, a < g.q := by
  obtain ⟨h1, h2⟩ := Mx.okRow_iff.mp h
  have := Mx.code_lt h2
  rw [h1] at this
  exact ⟨this, h1, h2⟩
theorem bT {b : Bool} (h : ¬ b = false) : b = true := by
  cases b with
  | true => rfl
  | false => exact absurd rfl h
theorem nF {b : Bool} (h : b = true) : ¬ b = false := by rw [h]; exact Bool.noConfusion
end
section
variable {P : Program} {w : World} {K : PySem.W.Frag} {mg : Str → Option Value} {base : Heap} {CR CG CS CD aON aSH aDE : Addr}
theorem c_wins (T : Top K mg CR CG CS CD aON aSH aDE) : CalG (L2.CX P w) P w K mg base 5 "wins" (sp_deed K CR CG CS CD 1 (fun ns x => .wins (ns.getD 0 0) x)) := by
  obtain ⟨f, fd, hg, hk, F, b⟩ := T.d_wins.ex
  refine ⟨f, fd, _, F.okX sc_wins (fun vs H Q E h => by obtain ⟨dk, a, b', N, G, y, g, nums, row, rfl, _⟩ := h; rfl) (fun cdv A outer s H vs Q E hr h => ⟨_, (pss_cons (ps_set (i := 3) sc_wins.nd rfl (Or.inl rfl) (pe_mg (c_Game_place_asked T) hr (by decide) (passes_call (takes_of rfl rfl rfl rfl) (fun _ _ _ _ h => h)) (pe_fld (pv 0) rfl) (pa_cons (pv 2) pa_nil)))
    (pss_cons (ps_expr (pe_cg (c_need T) hr (by decide) rfl (passes_call (takes_of rfl rfl rfl rfl) (fun _ _ _ _ h => h)) (pa_cons (pe_cmpR op_lt (pe_ix ix_list (pv 1) pe_int (fun _ _ => rfl)) (pe_op op_shl pe_int (pe_mg0 (c_Game_answer_rows T) hr (by decide) pass0 (pe_fld (pv 0) rfl))) (nomark _)) (pa_cons (pe_gk rfl T.k_NOT_AS_TOLD) pa_nil))))
    (pss_cons (ps_set (i := 4) sc_wins.nd rfl (Or.inl rfl) (pe_ix ix_list (pe_fld (pe_fld (pv 0) rfl) rfl) (pv 3) (fun _ _ => rfl)))
    (pss_cons (ps_expr (pe_mg (c_Game_set_winning T) hr (by decide) pass0 (pe_fld (pv 0) rfl) (pa_cons (pv 3) (pa_cons (pe_ix ix_list (pv 1) pe_int (fun _ _ => rfl)) pa_nil))))
    (pss_one (ps_ret (pe_lst (pa_cons (pv 4) pa_nil)))))))), ?_⟩), hg, hk, b⟩
  obtain ⟨dk, a, b', N, G, y, g, nums, row, rfl, h⟩ := h
  obtain ⟨t, ar, hd⟩ := h
  have h16 := t.ok.game.k16
  have no : (g.asked row = false ∨ 2 ^ 2 ^ g.k ≤ nums.getD 0 0) → Refuse CR E H (-22) := fun c => hd.no (if_pos c) (by decide)
  have yes := fun (c : ¬ (g.asked row = false ∨ 2 ^ 2 ^ g.k ≤ nums.getD 0 0)) => hd.num (if_neg c)
  have n0 : 0 < nums.length := by rw [ar.len]; decide
  refine ⟨_, rfl, dk, CD, y.dd, _, _, rfl, t.hdk, T.cl_Desk, T.n_Desk_game, dF_game, y.gp, y.dg, _, rfl, t.gp1, gF_not (by decide +kernel), _, rfl, y.gp, b', g, row, rfl, t.game, t.ok.game, SqL.of ar.hb, ar.rl, fun c H1 s1 => ?_, fun c => no (.inl c)⟩
  have t1 := t.same s1
  have a1 := s1 _ _ ar.ha
  have cl := (asked_lt t.ok.game c).1
  refine ⟨_, rfl, a, _, 0, _, rfl, rfl, SqL.of a1, nL_ix (i := 0) n0, _, rfl, dk, CD, y.dd, _, _, rfl, t1.hdk, T.cl_Desk, T.n_Desk_game, dF_game, y.gp, y.dg, _, rfl, t1.gp1, gF_not (by decide +kernel), y.gp, g, rfl, t1.game, t.ok.game, _, _, rfl, rfl, ⟨sh0 _, by omega, by decide⟩, _, _, rfl, rfl, _, _, rfl, fun d => ?_, fun d => (no (.inr ?_)).of s1⟩
  · rw [shlLt] at d
    have d' := of_decide_eq_true d
    refine ⟨_, rfl, dk, CD, y.dd, _, _, rfl, t1.hdk, T.cl_Desk, T.n_Desk_game, dF_game, y.gp, CG, y.dg, _, _, rfl, t1.gp1, T.cl_Game, T.n_Game_winning, gF_winning, _, rfl, y.wn, _, _, _, rfl, rfl, SqL.of t1.hwn, nL_ix (by rw [t.ok.game.wl]; exact cl), ?_⟩
    refine ⟨_, rfl, dk, CD, y.dd, _, _, rfl, t1.hdk, T.cl_Desk, T.n_Desk_game, dF_game, y.gp, y.dg, _, rfl, t1.gp1, gF_not (by decide +kernel), _, rfl, _, rfl, a, _, 0, _, rfl, rfl, SqL.of a1, nL_ix (i := 0) n0, y.gp, _, _, g.k, g.q, y.dg, y.rw, y.mu, y.wn, g.wins, rfl, t1.gp1, t1.hwn, by rw [t.ok.game.wl]; exact cl, ?_⟩
    refine ⟨_, rfl, (by show 1 ≤ sizeLine; decide), fun r hr => ?_⟩
    exact out_fin (yes (fun z => z.elim (fun z => nF c z) (fun z => by omega))) (t1.setWins _ _) ((Keep.of s1).trans (t1.keep (Most.wn SameX.upd))) hr rfl
  · rw [shlLt] at d
    have d' := of_decide_eq_false d
    omega
theorem c_odd (T : Top K mg CR CG CS CD aON aSH aDE) : CalG (L2.CX P w) P w K mg base 5 "odd" (sp_deed K CR CG CS CD 1 (fun ns x => .odd (ns.getD 0 0) x)) := by
  obtain ⟨f, fd, hg, hk, F, b⟩ := T.d_odd.ex
  refine ⟨f, fd, _, F.okX sc_odd (fun vs H Q E h => by obtain ⟨dk, a, b', N, G, y, g, nums, row, rfl, _⟩ := h; rfl) (fun cdv A outer s H vs Q E hr h => ⟨_, (pss_cons (ps_set (i := 3) sc_odd.nd rfl (Or.inl rfl) (pe_mg (c_Game_place_asked T) hr (by decide) (passes_call (takes_of rfl rfl rfl rfl) (fun _ _ _ _ h => h)) (pe_fld (pv 0) rfl) (pa_cons (pv 2) pa_nil)))
    (pss_cons (ps_expr (pe_cg (c_need T) hr (by decide) rfl (passes_call (takes_of rfl rfl rfl rfl) (fun _ _ _ _ h => h)) (pa_cons (pe_cmpR op_le (pe_ix ix_list (pv 1) pe_int (fun _ _ => rfl)) pe_int (nomark _)) (pa_cons (pe_gk rfl T.k_NOT_AS_TOLD) pa_nil))))
    (pss_cons (ps_set (i := 4) sc_odd.nd rfl (Or.inl rfl) (pe_mg (c_Game_which_with T) hr (by decide) pass0 (pe_fld (pv 0) rfl) (pa_cons (pe_ix ix_list (pv 1) pe_int (fun _ _ => rfl)) pa_nil)))
    (pss_cons (ps_expr (pe_mg (c_Game_set_winning T) hr (by decide) pass0 (pe_fld (pv 0) rfl) (pa_cons (pv 3) (pa_cons (pv 4) pa_nil))))
    (pss_one (ps_ret (pe_lst (pa_cons (pv 4) pa_nil)))))))), ?_⟩), hg, hk, b⟩
  obtain ⟨dk, a, b', N, G, y, g, nums, row, rfl, h⟩ := h
  obtain ⟨t, ar, hd⟩ := h
  have no : (g.asked row = false ∨ 1 < nums.getD 0 0) → Refuse CR E H (-22) := fun c => hd.no (if_pos c) (by decide)
  have yes := fun (c : ¬ (g.asked row = false ∨ 1 < nums.getD 0 0)) => hd.num (if_neg c)
  have n0 : 0 < nums.length := by rw [ar.len]; decide
  refine ⟨_, rfl, dk, CD, y.dd, _, _, rfl, t.hdk, T.cl_Desk, T.n_Desk_game, dF_game, y.gp, y.dg, _, rfl, t.gp1, gF_not (by decide +kernel), _, rfl, y.gp, b', g, row, rfl, t.game, t.ok.game, SqL.of ar.hb, ar.rl, fun c H1 s1 => ?_, fun c => no (.inl c)⟩
  have t1 := t.same s1
  have a1 := s1 _ _ ar.ha
  have cl := (asked_lt t.ok.game c).1
  refine ⟨_, rfl, a, _, 0, _, rfl, rfl, SqL.of a1, nL_ix (i := 0) n0, _, _, rfl, rfl, _, _, rfl, fun d => ?_, fun d => (no (.inr ?_)).of s1⟩
  · have d' := of_decide_eq_true d
    refine ⟨_, rfl, dk, CD, y.dd, _, _, rfl, t1.hdk, T.cl_Desk, T.n_Desk_game, dF_game, y.gp, y.dg, _, rfl, t1.gp1, gF_not (by decide +kernel), _, rfl, a, _, 0, _, rfl, rfl, SqL.of a1, nL_ix (i := 0) n0, y.gp, g, _, rfl, t1.game, t.ok.game, fun H2 s2 => ?_⟩
    have t2 := t1.same s2
    refine ⟨_, rfl, dk, CD, y.dd, _, _, rfl, t2.hdk, T.cl_Desk, T.n_Desk_game, dF_game, y.gp, y.dg, _, rfl, t2.gp1, gF_not (by decide +kernel), _, rfl, _, rfl, y.gp, _, _, g.k, g.q, y.dg, y.rw, y.mu, y.wn, g.wins, rfl, t2.gp1, t2.hwn, by rw [t.ok.game.wl]; exact cl, ?_⟩
    refine ⟨_, rfl, (by show 1 ≤ sizeLine; decide), fun r hr => ?_⟩
    exact out_fin (yes (fun z => z.elim (fun z => nF c z) (fun z => by omega))) (t2.setWins _ _) ((Keep.of (Same.trans s1 s2)).trans (t2.keep (Most.wn SameX.upd))) hr rfl
  · have d' := of_decide_eq_false d
    omega
theorem c_counts (T : Top K mg CR CG CS CD aON aSH aDE) : CalG (L2.CX P w) P w K mg base 5 "counts" (sp_deed K CR CG CS CD 1 (fun ns x => .counts (ns.getD 0 0) x)) := by
  obtain ⟨f, fd, hg, hk, F, b⟩ := T.d_counts.ex
  refine ⟨f, fd, _, F.okX sc_counts (fun vs H Q E h => by obtain ⟨dk, a, b', N, G, y, g, nums, row, rfl, _⟩ := h; rfl) (fun cdv A outer s H vs Q E hr h => ⟨_, (pss_cons (ps_set (i := 3) sc_counts.nd rfl (Or.inl rfl) (pe_mg (c_Game_place_asked T) hr (by decide) (passes_call (takes_of rfl rfl rfl rfl) (fun _ _ _ _ h => h)) (pe_fld (pv 0) rfl) (pa_cons (pv 2) pa_nil)))
    (pss_cons (ps_expr (pe_cg (c_need T) hr (by decide) rfl (passes_call (takes_of rfl rfl rfl rfl) (fun _ _ _ _ h => h)) (pa_cons (pe_cmpR op_le (pe_ix ix_list (pv 1) pe_int (fun _ _ => rfl)) (pe_gk rfl T.k_MOST_MUCH) (nomark _)) (pa_cons (pe_gk rfl T.k_NOT_AS_TOLD) pa_nil))))
    (pss_cons (ps_set (i := 4) sc_counts.nd rfl (Or.inl rfl) (pe_ix ix_list (pe_fld (pe_fld (pv 0) rfl) rfl) (pv 3) (fun _ _ => rfl)))
    (pss_cons (ps_expr (pe_mg (c_Game_set_much T) hr (by decide) pass0 (pe_fld (pv 0) rfl) (pa_cons (pv 3) (pa_cons (pe_ix ix_list (pv 1) pe_int (fun _ _ => rfl)) pa_nil))))
    (pss_one (ps_ret (pe_lst (pa_cons (pv 4) pa_nil)))))))), ?_⟩), hg, hk, b⟩
  obtain ⟨dk, a, b', N, G, y, g, nums, row, rfl, h⟩ := h
  obtain ⟨t, ar, hd⟩ := h
  have no : (g.asked row = false ∨ 99 < nums.getD 0 0) → Refuse CR E H (-22) := fun c => hd.no (if_pos c) (by decide)
  have yes := fun (c : ¬ (g.asked row = false ∨ 99 < nums.getD 0 0)) => hd.num (if_neg c)
  have n0 : 0 < nums.length := by rw [ar.len]; decide
  refine ⟨_, rfl, dk, CD, y.dd, _, _, rfl, t.hdk, T.cl_Desk, T.n_Desk_game, dF_game, y.gp, y.dg, _, rfl, t.gp1, gF_not (by decide +kernel), _, rfl, y.gp, b', g, row, rfl, t.game, t.ok.game, SqL.of ar.hb, ar.rl, fun c H1 s1 => ?_, fun c => no (.inl c)⟩
  have t1 := t.same s1
  have a1 := s1 _ _ ar.ha
  have cl := (asked_lt t.ok.game c).1
  refine ⟨_, rfl, a, _, 0, _, rfl, rfl, SqL.of a1, nL_ix (i := 0) n0, _, _, rfl, rfl, _, _, rfl, fun d => ?_, fun d => (no (.inr ?_)).of s1⟩
  · have d' := of_decide_eq_true d
    refine ⟨_, rfl, dk, CD, y.dd, _, _, rfl, t1.hdk, T.cl_Desk, T.n_Desk_game, dF_game, y.gp, CG, y.dg, _, _, rfl, t1.gp1, T.cl_Game, T.n_Game_much, gF_much, _, rfl, y.mu, _, _, _, rfl, rfl, SqL.of t1.hmu, nL_ix (by rw [t.ok.game.cl]; exact cl), ?_⟩
    refine ⟨_, rfl, dk, CD, y.dd, _, _, rfl, t1.hdk, T.cl_Desk, T.n_Desk_game, dF_game, y.gp, y.dg, _, rfl, t1.gp1, gF_not (by decide +kernel), _, rfl, _, rfl, a, _, 0, _, rfl, rfl, SqL.of a1, nL_ix (i := 0) n0, y.gp, _, _, g.k, g.q, y.dg, y.rw, y.mu, y.wn, g.counts, rfl, t1.gp1, t1.hmu, by rw [t.ok.game.cl]; exact cl, ?_⟩
    refine ⟨_, rfl, (by show 1 ≤ sizeLine; decide), fun r hr => ?_⟩
    exact out_fin (yes (fun z => z.elim (fun z => nF c z) (fun z => by omega))) (t1.setCounts _ (by omega)) ((Keep.of s1).trans (t1.keep (Most.mu SameX.upd))) hr rfl
  · have d' := of_decide_eq_false d
    omega
theorem c_plan (T : Top K mg CR CG CS CD aON aSH aDE) : CalG (L2.CX P w) P w K mg base 4 "plan" (sp_deed K CR CG CS CD 0 (fun _ x => .plan x)) := by
  obtain ⟨f, fd, hg, hk, F, b⟩ := T.d_plan.ex
  refine ⟨f, fd, _, F.okX sc_plan (fun vs H Q E h => by obtain ⟨dk, a, b', N, G, y, g, nums, row, rfl, _⟩ := h; rfl) (fun cdv A outer s H vs Q E hr h => ⟨_, (pss_cons (ps_expr (pe_cg (c_need T) hr (by decide) rfl (passes_call (takes_of rfl rfl rfl rfl) (fun _ _ _ _ h => h)) (pa_cons (pe_cg (c_is_plan T) hr (by decide) rfl pass0 (pa_cons (pe_fld (pv 0) rfl) (pa_cons (pv 2) pa_nil))) (pa_cons (pe_gk rfl T.k_NOT_AS_TOLD) pa_nil))))
    (pss_one (ps_ret (pe_lst (pa_cons (pe_cg (c_won_by T) hr (by decide) rfl pass0 (pa_cons (pe_fld (pv 0) rfl) (pa_cons (pv 2) pa_nil))) (pa_cons (pe_mg0 (c_Game_all_much T) hr (by decide) pass0 (pe_fld (pv 0) rfl)) pa_nil)))))), ?_⟩), hg, hk, b⟩
  obtain ⟨dk, a, b', N, G, y, g, nums, row, rfl, h⟩ := h
  obtain ⟨t, ar, hd⟩ := h
  have no : Su175.okRow (g.k * g.q) 2 row = false → Refuse CR E H (-22) := fun c => hd.no (if_pos c) (by decide)
  have yes := fun (c : ¬ Su175.okRow (g.k * g.q) 2 row = false) => hd.num (if_neg c)
  refine ⟨_, rfl, dk, CD, y.dd, _, _, rfl, t.hdk, T.cl_Desk, T.n_Desk_game, dF_game, _, rfl, y.gp, b', g, row, rfl, t.game, t.ok.game, SqL.of ar.hb, ar.rl, fun H1 s1 => ⟨_, _, rfl, fun c => ?_, fun c => (no c).of s1⟩⟩
  have t1 := t.same s1
  have cf : Mx.Cf (g.k * g.q) row := ⟨(Mx.okRow_iff.mp c).1, fun x hx => by have := (Mx.okRow_iff.mp c).2 x hx; omega⟩
  refine ⟨_, rfl, dk, CD, y.dd, _, _, rfl, t1.hdk, T.cl_Desk, T.n_Desk_game, dF_game, _, rfl, y.gp, b', g, row, rfl, t1.game, t.ok.game, SqL.of (s1 _ _ ar.hb), cf, fun H2 s2 => ?_⟩
  have t2 := t1.same s2
  refine ⟨_, rfl, dk, CD, y.dd, _, _, rfl, t2.hdk, T.cl_Desk, T.n_Desk_game, dF_game, y.gp, y.dg, _, rfl, t2.gp1, gF_not (by decide +kernel), y.gp, g, rfl, t2.game, (by show 2 ≤ sizeLine; decide), fun r hr => ?_⟩
  exact out_fin (yes (nF c)) ⟨G, y, t2⟩ (Keep.of (Same.trans s1 s2)) hr rfl
theorem c_best (T : Top K mg CR CG CS CD aON aSH aDE) : CalG CX0 P w K mg base 5 "best" (sp_deed K CR CG CS CD 0 (fun _ _ => .best)) := by
  obtain ⟨f, fd, hg, hk, F, b⟩ := T.d_best.ex
  refine ⟨f, fd, _, F.ok sc_best (fun vs H Q E h => by obtain ⟨dk, a, b', N, G, y, g, nums, row, rfl, _⟩ := h; rfl) (fun cdv A outer s H vs Q E hr h => ⟨_, (pss_cons (ps_asg (pe_cg (c_best_plan T) hr (by decide) rfl pass0 (pa_cons (pe_fld (pv 0) rfl) pa_nil)) (pg_tup rfl (pgs_cons (pg_name (i := 3) sc_best.nd rfl (Or.inl rfl)) (pgs_cons (pg_name (i := 4) sc_best.nd rfl (Or.inl rfl)) pgs_nil))))
    (pss_one (ps_ret (pe_op op_cat (pe_lst (pa_cons (pv 3) (pa_cons (pe_mg0 (c_Game_all_much T) hr (by decide) pass0 (pe_fld (pv 0) rfl)) pa_nil))) (pv 4))))), ?_⟩), hg, hk, b⟩
  obtain ⟨dk, a, b', N, G, y, g, nums, row, rfl, h⟩ := h
  obtain ⟨t, ar, hd⟩ := h
  refine ⟨_, rfl, dk, CD, y.dd, _, _, rfl, t.hdk, T.cl_Desk, T.n_Desk_game, dF_game, y.gp, g, rfl, t.game, t.ok.game, fun tt al H1 s1 ht hal => ?_⟩
  have t1 := t.same s1
  refine ⟨tt, _, rfl, SqT.of ht, rfl, _, _, rfl, _, _, rfl, rfl, ?_⟩
  refine ⟨_, rfl, _, rfl, dk, CD, y.dd, _, _, rfl, t1.hdk, T.cl_Desk, T.n_Desk_game, dF_game, y.gp, y.dg, _, rfl, t1.gp1, gF_not (by decide +kernel), y.gp, g, rfl, t1.game, (by show 2 ≤ sizeLine; decide), fun e he => ?_⟩
  have se : Same H1 (upd H1 e (.lst [.int (g.value g.best), .int g.total])) := Same.new he
  have hlen : g.best.length ≤ 100 := by
    obtain ⟨j, hj, _⟩ := Mx.best_fold g.value g.plans (List.replicate (g.k * g.q) 0)
    have : g.best.length = g.k * g.q := by
      have hm := List.mem_of_getElem? hj
      rcases List.mem_cons.mp hm with z | z
      · have : g.best = List.replicate (g.k * g.q) 0 := z
        rw [this]
        simp
      · exact (Mx.mem_rows.mp z).1
    have := t.ok.game.kq
    omega
  refine ⟨_, rfl, e, al, _, _, rfl, rfl, upd_same, se _ _ hal, by rw [sizeLine_eq, nL_len]; show 2 + _ ≤ _; omega, fun r hr => ?_⟩
  exact out_fin (hd.num rfl) ⟨G, y, t1.same se⟩ (Keep.of (Same.trans s1 se)) hr rfl
theorem c_plans (T : Top K mg CR CG CS CD aON aSH aDE) : CalG CX0 P w K mg base 5 "plans" (sp_deed K CR CG CS CD 1 (fun ns _ => .plans (ns.getD 0 0))) := by
  obtain ⟨f, fd, hg, hk, F, b⟩ := T.d_plans.ex
  refine ⟨f, fd, _, F.ok sc_plans (fun vs H Q E h => by obtain ⟨dk, a, b', N, G, y, g, nums, row, rfl, _⟩ := h; rfl) (fun cdv A outer s H vs Q E hr h => ⟨_, (pss_one (ps_ret (pe_lst (pa_cons (pe_cg (c_plans_that_win T) hr (by decide) rfl pass0 (pa_cons (pe_fld (pv 0) rfl) (pa_cons (pe_ix ix_list (pv 1) pe_int (fun _ _ => rfl)) pa_nil))) (pa_cons (pe_cg (c_plan_count T) hr (by decide) rfl pass0 (pa_cons (pe_fld (pv 0) rfl) pa_nil)) pa_nil))))), ?_⟩), hg, hk, b⟩
  obtain ⟨dk, a, b', N, G, y, g, nums, row, rfl, h⟩ := h
  obtain ⟨t, ar, hd⟩ := h
  have n0 : 0 < nums.length := by rw [ar.len]; decide
  refine ⟨_, rfl, dk, CD, y.dd, _, _, rfl, t.hdk, T.cl_Desk, T.n_Desk_game, dF_game, _, rfl, a, _, 0, _, rfl, rfl, SqL.of ar.ha, nL_ix (i := 0) n0, y.gp, g, _, rfl, t.game, t.ok.game, fun H1 s1 => ?_⟩
  have t1 := t.same s1
  refine ⟨_, rfl, dk, CD, y.dd, _, _, rfl, t1.hdk, T.cl_Desk, T.n_Desk_game, dF_game, y.gp, g, rfl, t1.game, t.ok.game, (by show 2 ≤ sizeLine; decide), fun r hr => ?_⟩
  exact out_fin (hd.num rfl) ⟨G, y, t1⟩ (Keep.of s1) hr (by rw [Mx.plans_len]; rfl)
theorem c_row_told (T : Top K mg CR CG CS CD aON aSH aDE) : CalG (L2.CX P w) P w K mg base 5 "row_told" (sp_deed K CR CG CS CD 0 (fun _ x => .row x)) := by
  obtain ⟨f, fd, hg, hk, F, b⟩ := T.d_row_told.ex
  refine ⟨f, fd, _, F.okX sc_row_told (fun vs H Q E h => by obtain ⟨dk, a, b', N, G, y, g, nums, row, rfl, _⟩ := h; rfl) (fun cdv A outer s H vs Q E hr h => ⟨_, (pss_cons (ps_set (i := 3) sc_row_told.nd rfl (Or.inl rfl) (pe_mg (c_Game_place_asked T) hr (by decide) (passes_call (takes_of rfl rfl rfl rfl) (fun _ _ _ _ h => h)) (pe_fld (pv 0) rfl) (pa_cons (pv 2) pa_nil)))
    (pss_one (ps_ret (pe_lst (pa_cons (pe_ix ix_list (pe_fld (pe_fld (pv 0) rfl) rfl) (pv 3) (fun _ _ => rfl)) (pa_cons (pe_ix ix_list (pe_fld (pe_fld (pv 0) rfl) rfl) (pv 3) (fun _ _ => rfl)) pa_nil)))))), ?_⟩), hg, hk, b⟩
  obtain ⟨dk, a, b', N, G, y, g, nums, row, rfl, h⟩ := h
  obtain ⟨t, ar, hd⟩ := h
  have no : g.asked row = false → Refuse CR E H (-22) := fun c => hd.no (if_pos c) (by decide)
  have yes := fun (c : ¬ g.asked row = false) => hd.num (if_neg c)
  refine ⟨_, rfl, dk, CD, y.dd, _, _, rfl, t.hdk, T.cl_Desk, T.n_Desk_game, dF_game, y.gp, y.dg, _, rfl, t.gp1, gF_not (by decide +kernel), _, rfl, y.gp, b', g, row, rfl, t.game, t.ok.game, SqL.of ar.hb, ar.rl, fun c H1 s1 => ?_, fun c => no c⟩
  have t1 := t.same s1
  have cl := (asked_lt t.ok.game c).1
  refine ⟨_, rfl, dk, CD, y.dd, _, _, rfl, t1.hdk, T.cl_Desk, T.n_Desk_game, dF_game, y.gp, CG, y.dg, _, _, rfl, t1.gp1, T.cl_Game, T.n_Game_much, gF_much, _, rfl, y.mu, _, _, _, rfl, rfl, SqL.of t1.hmu, nL_ix (by rw [t.ok.game.cl]; exact cl),
    _, rfl, dk, CD, y.dd, _, _, rfl, t1.hdk, T.cl_Desk, T.n_Desk_game, dF_game, y.gp, CG, y.dg, _, _, rfl, t1.gp1, T.cl_Game, T.n_Game_winning, gF_winning, _, rfl, y.wn, _, _, _, rfl, rfl, SqL.of t1.hwn, nL_ix (by rw [t.ok.game.wl]; exact cl), (by show 2 ≤ sizeLine; decide), fun r hr => ?_⟩
  exact out_fin (yes (nF c)) ⟨G, y, t1⟩ (Keep.of s1) hr rfl
theorem c_value (T : Top K mg CR CG CS CD aON aSH aDE) : CalG CX0 P w K mg base 8 "value" (sp_deed K CR CG CS CD 0 (fun _ _ => .value)) := by
  obtain ⟨f, fd, hg, hk, F, b⟩ := T.d_value.ex
  refine ⟨f, fd, _, F.ok sc_value (fun vs H Q E h => by obtain ⟨dk, a, b', N, G, y, g, nums, row, rfl, _⟩ := h; rfl) (fun cdv A outer s H vs Q E hr h => ⟨_, (pss_cons (ps_set (i := 3) sc_value.nd rfl (Or.inl rfl) (pe_fld (pv 0) rfl))
    (pss_cons (ps_set (i := 4) sc_value.nd rfl (Or.inl rfl) (pe_cg (c_won_by_spins T) hr (by decide) rfl pass0 (pa_cons (pv 3) (pa_cons (pe_fld (pv 0) rfl) (pa_cons (pe_fld (pv 0) rfl) pa_nil)))))
    (pss_one (ps_ret (pe_lst (pa_cons (pv 4) (pa_cons (pe_op op_mul (pe_mg0 (c_Game_all_much T) hr (by decide) pass0 (pv 3)) (pe_mg0 (c_Game_answer_rows T) hr (by decide) pass0 (pv 3))) (pa_cons (pe_op op_mul (pe_cg (c_most_won T) hr (by decide) rfl pass0 (pa_cons (pv 3) pa_nil)) (pe_mg0 (c_Game_answer_rows T) hr (by decide) pass0 (pv 3))) pa_nil)))))))), ?_⟩), hg, hk, b⟩
  obtain ⟨dk, a, b', N, G, y, g, nums, row, rfl, h⟩ := h
  obtain ⟨t, ar, hd⟩ := h
  refine ⟨_, rfl, dk, CD, y.dd, _, _, rfl, t.hdk, T.cl_Desk, T.n_Desk_game, dF_game, ?_⟩
  refine ⟨_, rfl, _, rfl, dk, CD, y.dd, _, _, rfl, t.hdk, T.cl_Desk, T.n_Desk_shared, dF_shared, _, rfl, dk, CD, y.dd, _, _, rfl, t.hdk, T.cl_Desk, T.n_Desk_own, dF_own, y.gp, y.sp, y.w, g, rfl, t.game, t.ok, t.spin, t.mine, fun H1 s1 => ?_⟩
  have t1 := t.same s1
  have h16 := t.ok.game.k16
  refine ⟨_, rfl, _, rfl, y.gp, y.dg, _, rfl, t1.gp1, gF_not (by decide +kernel), y.gp, g, rfl, t1.game, _, rfl, y.gp, y.dg, _, rfl, t1.gp1, gF_not (by decide +kernel), y.gp, g, rfl, t1.game, t.ok.game, _, _, rfl, rfl, .inr (p16i h16), _, rfl, y.gp, g, rfl, t1.game, t.ok.game, fun H2 s2 => ?_⟩
  have t2 := t1.same s2
  refine ⟨_, rfl, y.gp, y.dg, _, rfl, t2.gp1, gF_not (by decide +kernel), y.gp, g, rfl, t2.game, t.ok.game, _, _, rfl, rfl, .inr (p16i h16), (by show 3 ≤ sizeLine; decide), fun r hr => ?_⟩
  refine out_fin (hd.num rfl) ⟨G, y, t2⟩ (Keep.of (Same.trans s1 s2)) hr ?_
  show [V.int (g.spinValue : Nat), V.int ((g.total : Int) * ((2 ^ g.k : Nat) : Int)), V.int ((g.value g.best : Int) * ((2 ^ g.k : Nat) : Int))] = _
  rw [← Int.natCast_mul, ← Int.natCast_mul]
  rfl
theorem c_state (T : Top K mg CR CG CS CD aON aSH aDE) : CalG CX0 P w K mg base 2 "state" (sp_deed K CR CG CS CD 0 (fun _ _ => .state)) := by
  obtain ⟨f, fd, hg, hk, F, b⟩ := T.d_state.ex
  refine ⟨f, fd, _, F.ok sc_state (fun vs H Q E h => by obtain ⟨dk, a, b', N, G, y, g, nums, row, rfl, _⟩ := h; rfl) (fun cdv A outer s H vs Q E hr h => ⟨_, (pss_cons (ps_set (i := 3) sc_state.nd rfl (Or.inl rfl) (pe_fld (pv 0) rfl))
    (pss_cons (ps_set (i := 4) sc_state.nd rfl (Or.inl rfl) (pe_lst (pa_cons (pe_fld (pe_fld (pv 0) rfl) rfl) (pa_cons (pe_fld (pe_fld (pv 0) rfl) rfl) (pa_cons (pe_mg0 (c_Spins_many T) hr (by decide) pass0 (pv 3)) (pa_cons (pe_callB call_len_seq (by rfl) T.b_len boot_flen (pa_cons (pe_fld (pv 3) rfl) pa_nil)) (pa_cons (pe_callTy call_int1 (by rfl) T.b_int boot_fint (pa_cons (pe_fld (pv 3) rfl) pa_nil)) pa_nil)))))))
    (pss_one (ps_ret (pe_op op_cat (pv 4) (pe_callTy call_list_of (by rfl) T.b_list boot_flist (pa_cons (pe_fld (pv 3) rfl) pa_nil))))))), ?_⟩), hg, hk, b⟩
  obtain ⟨dk, a, b', N, G, y, g, nums, row, rfl, h⟩ := h
  obtain ⟨t, ar, hd⟩ := h
  obtain ⟨ho, vl, hl, hv⟩ := t.ownH
  have h6 : g.owner.length ≤ 6 := t.ok.m6
  refine ⟨_, rfl, dk, CD, y.dd, _, _, rfl, t.hdk, T.cl_Desk, T.n_Desk_shared, dF_shared, ?_⟩
  refine ⟨_, rfl, dk, CD, y.dd, _, _, rfl, t.hdk, T.cl_Desk, T.n_Desk_game, dF_game, y.gp, CG, y.dg, _, _, rfl, t.gp1, T.cl_Game, T.n_Game_persons, gF_persons, _, rfl, dk, CD, y.dd, _, _, rfl, t.hdk, T.cl_Desk, T.n_Desk_game, dF_game, y.gp, CG, y.dg, _, _, rfl, t.gp1, T.cl_Game, T.n_Game_questions, gF_questions,
    _, rfl, y.sp, y.ds, _, rfl, t.hsp, sF_not (by decide +kernel), y.sp, y.ds, y.o, y.l, y.u, g.touched, g.owner, rfl, t.hsp, ho, _, rfl, y.sp, CS, y.ds, _, _, rfl, t.hsp, T.cl_Spins, T.n_Spins_links, sF_links, y.l, _, rfl, .inl (SqL.of hl), _, rfl, y.sp, CS, y.ds, _, _, rfl, t.hsp, T.cl_Spins, T.n_Spins_was_measured, sF_was, .inr ⟨g.touched, rfl, (by show 5 ≤ sizeLine; decide), fun e he => ?_⟩⟩
  have se : Same H (upd H e (.lst [.int g.k, .int g.q, .int g.owner.length, .int vl.length, .int (if g.touched then 1 else 0)])) := Same.new he
  refine ⟨_, rfl, _, rfl, y.sp, CS, y.ds, _, _, rfl, se _ _ t.hsp, T.cl_Spins, T.n_Spins_owners, sF_owners, y.o, _, rfl, .inr (SqT.of (se _ _ ho)), fun f' hf' => ?_⟩
  have s2 := Same.then (o := HO.lst (nL g.owner)) se hf'
  refine ⟨e, f', _, _, rfl, rfl, (Same.new hf') _ _ upd_same, upd_same, by rw [sizeLine_eq, nL_len]; show 5 + _ ≤ _; omega, fun r hr => ?_⟩
  refine out_fin (hd.num rfl) ⟨G, y, t.same s2⟩ (Keep.of s2) hr ?_
  have e1 : vl.length = g.links.length := by rw [hv.1, List.length_map]
  rw [e1]
  cases g.touched <;> rfl
end
end Ss
namespace Ss
open PySem PySem.Spec PyProof.Rows L2
open Su173 (Spin)
open Su175 (Abs)
section
variable {K : PySem.W.Frag} {CG CS CD CR : Addr} {N : Addr → Prop} {G H H' : Hp} {dk : Addr} {y : Lay} {g : Abs}
theorem St.dk_ne (t : St K CG CS CD N G H dk y g) : dk ≠ y.sp ∧ dk ≠ y.w ∧ dk ≠ y.mu ∧ dk ≠ y.wn := by
  obtain ⟨vw, hw0, _⟩ := t.hw
  refine ⟨fun z => ?_, fun z => ?_, fun z => ?_, fun z => ?_⟩
  · have h1 := t.hdk
    rw [z, t.hsp] at h1
    have h2 := (HO.ins.inj (Option.some.inj h1)).2.2
    simp [dF, sF] at h2
  · have h1 := t.hdk
    rw [z, hw0] at h1
    cases h1
  · have h1 := t.hdk
    rw [z, t.hmu] at h1
    cases h1
  · have h1 := t.hdk
    rw [z, t.hwn] at h1
    cases h1
/-- the spins are others -/
theorem St.setSpins {lk : List (Nat × Nat)} {S : List Spin} {tc : Bool} {l' u' : Addr} (t : St K CG CS CD N G H dk y g) (s : SameX y.sp H H') (ok : Mx.Ok { g with links := lk, sure := S, touched := tc }) (hsp : H' y.sp = some (.ins CS y.ds (sF y.o l' u' tc)))
    (own : OwnL K H' y.o l' g.owner lk) (su : MeH K H' u' S) (hl : l' = y.l ∨ H l' = none) (hu : u' = y.u ∨ H u' = none) : Sta K CG CS CD N H' dk { g with links := lk, sure := S, touched := tc } := by
  obtain ⟨vw, hw, mw⟩ := t.hw
  obtain ⟨e1, e2, e3⟩ := t.ne_sp
  exact t.next (Most.sp s) ok rfl rfl (s _ _ e1 t.hmu) (s _ _ e2 t.hwn) hsp own su hl hu ⟨vw, s _ _ e3 hw, mw.same (t.through (Most.sp s))⟩
theorem St.hdkX (t : St K CG CS CD N G H dk y g) (s : SameX y.sp H H') : H' dk = some (.ins CD y.dd (dF (.ref y.gp) (.ref y.sp) (.ref y.w))) := s _ _ t.dk_ne.1 t.hdk
/-- the measurements are others -/
theorem St.setMine {mn : List (List Spin)} (t : St K CG CS CD N G H dk y g) (s : SameX y.w H H') (ok : Mx.Ok { g with mine := mn }) (hw : MeH K H' y.w mn.flatten) : Sta K CG CS CD N H' dk { g with mine := mn } := by
  obtain ⟨e1, e2, e3⟩ := t.ne_sp
  have sG := t.through (Most.w s)
  exact t.next (Most.w s) ok rfl rfl (s _ _ (Ne.symm t.n2) t.hmu) (s _ _ (Ne.symm t.n3) t.hwn) (s _ _ (Ne.symm e3) t.hsp) (t.own.same sG) (t.suH sG) (.inl rfl) (.inl rfl) hw
end
section
variable {P : Program} {w : World} {K : PySem.W.Frag} {mg : Str → Option Value} {base : Heap} {CR CG CS CD aON aSH aDE : Addr}
theorem c_fresh (T : Top K mg CR CG CS CD aON aSH aDE) : CalG CX0 P w K mg base 5 "fresh" (sp_deed K CR CG CS CD 0 (fun _ _ => .fresh)) := by
  obtain ⟨f, fd, hg, hk, F, b⟩ := T.d_fresh.ex
  refine ⟨f, fd, _, F.ok sc_fresh (fun vs H Q E h => by obtain ⟨dk, a, b', N, G, y, g, nums, row, rfl, _⟩ := h; rfl) (fun cdv A outer s H vs Q E hr h => ⟨_, (pss_cons (ps_expr (pe_mg0 (c_Spins_refresh T) hr (by decide) pass0 (pe_fld (pv 0) rfl)))
    (pss_one (ps_ret (pe_lst (pa_cons (pe_mg0 (c_Spins_many T) hr (by decide) pass0 (pe_fld (pv 0) rfl)) pa_nil))))), ?_⟩), hg, hk, b⟩
  obtain ⟨dk, a, b', N, G, y, g, nums, row, rfl, h⟩ := h
  obtain ⟨t, ar, hd⟩ := h
  have m6 := t.ok.m6
  refine ⟨_, rfl, dk, CD, y.dd, _, _, rfl, t.hdk, T.cl_Desk, T.n_Desk_shared, dF_shared, y.sp, y.ds, _, rfl, t.hsp, sF_not (by decide +kernel), y.sp, y.ds, y.o, y.l, y.u, g.touched, g.owner, g.links, rfl, t.hsp, t.ownH, Nat.le_trans m6 (by decide), fun H' u' vu hu hp' hu' mv sx => ?_⟩
  have sG := t.through (Most.sp sx)
  have o' := sG _ _ t.own.1
  refine ⟨_, rfl, dk, CD, y.dd, _, _, rfl, t.hdkX sx, T.cl_Desk, T.n_Desk_shared, dF_shared, y.sp, y.ds, _, rfl, hp', sF_not (by decide +kernel), y.sp, y.ds, y.o, y.l, u', false, g.owner, rfl, hp', o', (by show 1 ≤ sizeLine; decide), fun r hr => ?_⟩
  exact out_fin (hd.num rfl) (t.setSpins sx (Mx.ok_fresh t.ok) hp' (t.own.same sG) ⟨vu, hu', mv⟩ (.inl rfl) (.inr hu)) (t.keep (Most.sp sx)) hr rfl
theorem max_lt {i j m : Nat} : max i j < m ↔ ¬ (m ≤ i ∨ m ≤ j) := by omega
theorem c_link (T : Top K mg CR CG CS CD aON aSH aDE) : CalG (L2.CX P w) P w K mg base 6 "link" (sp_deed K CR CG CS CD 2 (fun ns _ => .link (ns.getD 0 0) (ns.getD 1 0))) := by
  obtain ⟨f, fd, hg, hk, F, b⟩ := T.d_link.ex
  refine ⟨f, fd, _, F.okX sc_link (fun vs H Q E h => by obtain ⟨dk, a, b', N, G, y, g, nums, row, rfl, _⟩ := h; rfl) (fun cdv A outer s H vs Q E hr h => ⟨_, (pss_cons (ps_set (i := 3) sc_link.nd rfl (Or.inl rfl) (pe_ix ix_list (pv 1) pe_int (fun _ _ => rfl)))
    (pss_cons (ps_set (i := 4) sc_link.nd rfl (Or.inl rfl) (pe_ix ix_list (pv 1) pe_int (fun _ _ => rfl)))
    (pss_cons (ps_expr (pe_cg (c_need T) hr (by decide) rfl (passes_call (takes_of rfl rfl rfl rfl) (fun _ _ _ _ h => h)) (pa_cons (pe_cmpR op_lt (pe_callB (call_max2 rfl) (by rfl) T.b_max boot_fmax (pa_cons (pv 3) (pa_cons (pv 4) pa_nil))) (pe_mg0 (c_Spins_many T) hr (by decide) pass0 (pe_fld (pv 0) rfl)) (nomark _)) (pa_cons (pe_gk rfl T.k_NONE_SUCH) pa_nil))))
    (pss_cons (ps_expr (pe_cg (c_need T) hr (by decide) rfl (passes_call (takes_of rfl rfl rfl rfl) (fun _ _ _ _ h => h)) (pa_cons (pe_cmpR op_ne (pv 3) (pv 4) (nomark _)) (pa_cons (pe_gk rfl T.k_NOT_AS_TOLD) pa_nil))))
    (pss_cons (ps_expr (pe_cg (c_need T) hr (by decide) rfl (passes_call (takes_of rfl rfl rfl rfl) (fun _ _ _ _ h => h)) (pa_cons (pe_not (pe_fld (pe_fld (pv 0) rfl) rfl)) (pa_cons (pe_gk rfl T.k_WAS_MEASURED) pa_nil))))
    (pss_cons (ps_expr (pe_mg (c_Spins_turn_link T) hr (by decide) pass0 (pe_fld (pv 0) rfl) (pa_cons (pv 3) (pa_cons (pv 4) pa_nil))))
    (pss_one (ps_ret (pe_lst (pa_cons (pe_callB call_len_seq (by rfl) T.b_len boot_flen (pa_cons (pe_fld (pe_fld (pv 0) rfl) rfl) pa_nil)) pa_nil)))))))))), ?_⟩), hg, hk, b⟩
  obtain ⟨dk, a, b', N, G, y, g, nums, row, rfl, h⟩ := h
  obtain ⟨t, ar, hd⟩ := h
  have m6 := t.ok.m6
  have n0 : 0 < nums.length := by rw [ar.len]; decide
  have n1 : 1 < nums.length := by rw [ar.len]; decide
  refine ⟨_, rfl, a, _, 0, _, rfl, rfl, SqL.of ar.ha, nL_ix (i := 0) n0, _, rfl, a, _, 1, _, rfl, rfl, SqL.of ar.ha, nL_ix (i := 1) n1, ?_⟩
  have hd : Due K CR CG CS CD N H dk Q E (Su175.does g (.link (nums.getD 0 0) (nums.getD 1 0))) := hd
  generalize nums.getD 0 0 = i at hd ⊢
  generalize nums.getD 1 0 = j at hd ⊢
  refine ⟨_, rfl, _, rfl, _, _, rfl, ?_⟩
  rw [max2]
  refine ⟨_, rfl, dk, CD, y.dd, _, _, rfl, t.hdk, T.cl_Desk, T.n_Desk_shared, dF_shared, y.sp, y.ds, _, rfl, t.hsp, sF_not (by decide +kernel), y.sp, y.ds, y.o, y.l, y.u, g.touched, g.owner, rfl, t.hsp, t.ownH.1, _, _, rfl, rfl, _, _, rfl, fun c => ?_, fun c => ?_⟩
  case refine_2 =>
    have c' : ¬ max i j < g.m := by rw [dLt] at c; exact of_decide_eq_false c
    have c2 : g.m ≤ i ∨ g.m ≤ j := Classical.byContradiction fun z => c' (max_lt.mpr z)
    exact hd.no (if_pos c2) (by decide)
  have c' : max i j < g.m := by rw [dLt] at c; exact of_decide_eq_true c
  have c2 : ¬ (g.m ≤ i ∨ g.m ≤ j) := max_lt.mp c'
  refine ⟨_, rfl, _, rfl, rfl, _, _, rfl, fun d => ?_, fun d => ?_⟩
  case refine_2 =>
    have d' := vnF d
    exact hd.no ((if_neg c2).trans (if_pos d')) (by decide)
  have d' := vnT d
  refine ⟨_, rfl, dk, CD, y.dd, _, _, rfl, t.hdk, T.cl_Desk, T.n_Desk_shared, dF_shared, y.sp, CS, y.ds, _, _, rfl, t.hsp, T.cl_Spins, T.n_Spins_was_measured, sF_was, _, rfl, _, _, rfl, fun e => ?_, fun e => ?_⟩
  case refine_2 =>
    have e' : g.touched = true := by simpa using e
    exact hd.no ((if_neg c2).trans ((if_neg d').trans (if_pos e'))) (by decide)
  have e' : ¬ g.touched = true := by simpa using e
  refine ⟨_, rfl, dk, CD, y.dd, _, _, rfl, t.hdk, T.cl_Desk, T.n_Desk_shared, dF_shared, y.sp, y.ds, _, rfl, t.hsp, sF_not (by decide +kernel), _, rfl, _, rfl, y.sp, i, j, y.ds, y.o, y.l, y.u, g.touched, g.owner, g.links, rfl, t.hsp, t.ownH, Nat.le_trans m6 (by decide), Nat.le_trans (Mx.links_len t.ok) (by decide), fun H' l' u' vu hl hu hp' own' hu' mv sx => ?_⟩
  obtain ⟨o', vl, hl', hv⟩ := id own'
  refine ⟨_, rfl, dk, CD, y.dd, _, _, rfl, t.hdkX sx, T.cl_Desk, T.n_Desk_shared, dF_shared, y.sp, CS, y.ds, _, _, rfl, hp', T.cl_Spins, T.n_Spins_links, sF_links, l', _, rfl, .inl (SqL.of hl'), (by show 1 ≤ sizeLine; decide), fun r hr => ?_⟩
  have e0 : Su175.does g (.link i j) = (Su175.restart g g.owner (Mx.turnL g.links i j), Su175.num (Mx.turnL g.links i j).length []) := (if_neg c2).trans ((if_neg d').trans (if_neg e'))
  refine out_fin (hd.num e0) (t.setSpins sx (Mx.ok_turned t.ok (by omega) (by omega) d') hp' own' ⟨vu, hu', mv⟩ (.inr hl) (.inr hu)) (t.keep (Most.sp sx)) hr ?_
  rw [hv.1, List.length_map]
  rfl
theorem oV_non {o : Option Nat} : decide (oV o = V.non) = o.isNone := by cases o <;> rfl
theorem c_sure (T : Top K mg CR CG CS CD aON aSH aDE) : CalG (L2.CX P w) P w K mg base 5 "sure" (sp_deed K CR CG CS CD 0 (fun _ x => .sure x)) := by
  obtain ⟨f, fd, hg, hk, F, b⟩ := T.d_sure.ex
  refine ⟨f, fd, _, F.okX sc_sure (fun vs H Q E h => by obtain ⟨dk, a, b', N, G, y, g, nums, row, rfl, _⟩ := h; rfl) (fun cdv A outer s H vs Q E hr h => ⟨_, (pss_cons (ps_expr (pe_cg (c_need T) hr (by decide) rfl (passes_call (takes_of rfl rfl rfl rfl) (fun _ _ _ _ h => h)) (pa_cons (pe_cg (c_are_letters T) hr (by decide) rfl pass0 (pa_cons (pv 2) (pa_cons (pe_mg0 (c_Spins_many T) hr (by decide) pass0 (pe_fld (pv 0) rfl)) pa_nil))) (pa_cons (pe_gk rfl T.k_NOT_AS_TOLD) pa_nil))))
    (pss_cons (ps_set (i := 3) sc_sure.nd rfl (Or.inl rfl) (pe_mg (c_Spins_sign_of T) hr (by decide) pass0 (pe_fld (pv 0) rfl) (pa_cons (pe_callTy call_tuple_of (by rfl) T.b_tuple boot_ftuple (pa_cons (pv 2) pa_nil)) pa_nil)))
    (pss_cons (ps_expr (pe_cg (c_need T) hr (by decide) rfl (passes_call (takes_of rfl rfl rfl rfl) (fun _ _ _ _ h => h)) (pa_cons (pe_cmpR op_notN (pv 3) pe_non (nomark _)) (pa_cons (pe_gk rfl T.k_NOT_SURE_SO) pa_nil))))
    (pss_one (ps_ret (pe_lst (pa_cons (pv 3) pa_nil))))))), ?_⟩), hg, hk, b⟩
  obtain ⟨dk, a, b', N, G, y, g, nums, row, rfl, h⟩ := h
  obtain ⟨t, ar, hd⟩ := h
  have m6 := t.ok.m6
  refine ⟨_, rfl, _, rfl, dk, CD, y.dd, _, _, rfl, t.hdk, T.cl_Desk, T.n_Desk_shared, dF_shared, y.sp, y.ds, _, rfl, t.hsp, sF_not (by decide +kernel), y.sp, y.ds, y.o, y.l, y.u, g.touched, g.owner, rfl, t.hsp, t.ownH.1, b', row, g.m, rfl, SqL.of ar.hb, ar.rl, fun H1 s1 => ⟨_, _, rfl, fun c => ?_, fun c => (hd.no (if_pos c) (by decide)).of s1⟩⟩
  have t1 := t.same s1
  refine ⟨_, rfl, dk, CD, y.dd, _, _, rfl, t1.hdk, T.cl_Desk, T.n_Desk_shared, dF_shared, y.sp, y.ds, _, rfl, t1.hsp, sF_not (by decide +kernel), _, rfl, b', _, rfl, .inl ⟨SqL.of (s1 _ _ ar.hb), fun tp htp => ?_⟩⟩
  have st : Same H1 (upd H1 tp (.tup (nL row))) := Same.new htp
  refine ⟨y.sp, tp, g.owner, g.sure, row, rfl, t1.spin.same st, t.ok.st, m6, upd_same, fun H2 s2 => ?_⟩
  have s12 := Same.trans st s2
  have s02 := Same.trans s1 s12
  have e0 : Su175.does g (.sure row) = match g.sign row with
    | some s => (g, Su175.num s [])
    | none => (g, Su175.no (-33)) := if_neg (nF c)
  rw [Mx.sgn_abs] at e0
  show _
  have hm : g.m = g.owner.length := rfl
  rw [hm] at e0
  refine ⟨_, rfl, rfl, _, _, rfl, ?_⟩
  rw [oV_non]
  cases q : Mx.sgn g.owner.length g.sure row with
  | none =>
    rw [q] at e0
    exact ⟨fun z => absurd z (by decide), fun _ => (hd.no e0 (by decide)).of s02⟩
  | some z =>
    rw [q] at e0
    refine ⟨fun _ => ⟨_, rfl, (by show 1 ≤ sizeLine; decide), fun r hr => ?_⟩, fun z => absurd z (by simp)⟩
    exact out_fin (hd.num e0) ⟨G, y, t1.same s12⟩ (Keep.of s02) hr rfl
theorem c_measure (T : Top K mg CR CG CS CD aON aSH aDE) : CalG (L2.CX P w) P w K mg base 5 "measure" (sp_deed K CR CG CS CD 1 (fun ns x => .measure (ns.getD 0 0) x)) := by
  obtain ⟨f, fd, hg, hk, F, b⟩ := T.d_measure.ex
  refine ⟨f, fd, _, F.okX sc_measure (fun vs H Q E h => by obtain ⟨dk, a, b', N, G, y, g, nums, row, rfl, _⟩ := h; rfl) (fun cdv A outer s H vs Q E hr h => ⟨_, (pss_cons (ps_set (i := 3) sc_measure.nd rfl (Or.inl rfl) (pe_ix ix_list (pv 1) pe_int (fun _ _ => rfl)))
    (pss_cons (ps_expr (pe_cg (c_need T) hr (by decide) rfl (passes_call (takes_of rfl rfl rfl rfl) (fun _ _ _ _ h => h)) (pa_cons (pe_and (pe_cg (c_are_letters T) hr (by decide) rfl pass0 (pa_cons (pv 2) (pa_cons (pe_mg0 (c_Spins_many T) hr (by decide) pass0 (pe_fld (pv 0) rfl)) pa_nil))) (pe_one (pe_cmpR op_le (pv 3) pe_int (nomark _)))) (pa_cons (pe_gk rfl T.k_NOT_AS_TOLD) pa_nil))))
    (pss_cons (ps_set (i := 4) sc_measure.nd rfl (Or.inl rfl) (pe_callTy call_tuple_of (by rfl) T.b_tuple boot_ftuple (pa_cons (pv 2) pa_nil)))
    (pss_cons (ps_set (i := 5) sc_measure.nd rfl (Or.inl rfl) (pe_mg (c_Spins_sign_of T) hr (by decide) pass0 (pe_fld (pv 0) rfl) (pa_cons (pv 4) pa_nil)))
    (pss_cons (ps_expr (pe_cg (c_need T) hr (by decide) rfl (passes_call (takes_of rfl rfl rfl rfl) (fun _ _ _ _ h => h)) (pa_cons (pe_or (pe_cmpR op_isN (pv 5) pe_non (nomark _)) (pe_one (pe_cmpR op_eq (pv 5) (pv 3) (nomark _)))) (pa_cons (pe_gk rfl T.k_NOT_SURE_SO) pa_nil))))
    (pss_cons (ps_if (pt_cmpR op_notN (pv 5) pe_non (nomark _)) (pss_one (ps_ret (pe_lst (pa_cons pe_int pa_nil)))) pss_nil)
    (pss_cons (ps_expr (pe_mg0 (c_Spins_note_measured T) hr (by decide) pass0 (pe_fld (pv 0) rfl)))
    (pss_cons (ps_expr (pe_mg (c_Spins_become_sure T) hr (by decide) pass0 (pe_fld (pv 0) rfl) (pa_cons (pv 3) (pa_cons (pv 4) pa_nil))))
    (pss_one (ps_ret (pe_lst (pa_cons pe_int pa_nil)))))))))))), ?_⟩), hg, hk, b⟩
  obtain ⟨dk, a, b', N, G, y, g, nums, row, rfl, h⟩ := h
  obtain ⟨t, ar, hd⟩ := h
  have m6 := t.ok.m6
  have n0 : 0 < nums.length := by rw [ar.len]; decide
  refine ⟨_, rfl, a, _, 0, _, rfl, rfl, SqL.of ar.ha, nL_ix (i := 0) n0, ?_⟩
  have hd : Due K CR CG CS CD N H dk Q E (Su175.does g (.measure (nums.getD 0 0) row)) := hd
  generalize nums.getD 0 0 = oc at hd ⊢
  have no : (1 < oc ∨ Su175.okRow g.m 4 row = false) → Refuse CR E H (-22) := fun c => hd.no (if_pos c) (by decide)
  refine ⟨_, rfl, _, rfl, dk, CD, y.dd, _, _, rfl, t.hdk, T.cl_Desk, T.n_Desk_shared, dF_shared, y.sp, y.ds, _, rfl, t.hsp, sF_not (by decide +kernel), y.sp, y.ds, y.o, y.l, y.u, g.touched, g.owner, rfl, t.hsp, t.ownH.1, b', row, g.m, rfl, SqL.of ar.hb, ar.rl, fun H1 s1 => ⟨_, rfl, if2 (fun c => ⟨_, rfl, _, _, rfl, rfl, _, _, rfl, fun d => ?_, fun d => ?_⟩) (fun c => ⟨_, _, rfl, fun z => Bool.noConfusion z, fun _ => (no (.inr c)).of s1⟩)⟩⟩
  case refine_2 =>
    have d' : ¬ (oc : Int) ≤ 1 := of_decide_eq_false d
    exact (no (.inl (by omega))).of s1
  have d' : (oc : Int) ≤ 1 := of_decide_eq_true d
  have oc1 : oc ≤ 1 := by omega
  have lt : Mx.Lt g.m row := Mx.okRow_lt.mp c
  have t1 := t.same s1
  refine ⟨_, rfl, b', _, rfl, .inl ⟨SqL.of (s1 _ _ ar.hb), fun tp htp => ?_⟩⟩
  have st : Same H1 (upd H1 tp (.tup (nL row))) := Same.new htp
  have t1' := t1.same st
  refine ⟨_, rfl, dk, CD, y.dd, _, _, rfl, t1'.hdk, T.cl_Desk, T.n_Desk_shared, dF_shared, y.sp, y.ds, _, rfl, t1'.hsp, sF_not (by decide +kernel), _, rfl, y.sp, tp, g.owner, g.sure, row, rfl, t1'.spin, t.ok.st, m6, upd_same, fun H2 s2 => ?_⟩
  have s02 : Same H H2 := Same.trans s1 (Same.trans st s2)
  have t2 := t1'.same s2
  have e0 : Su175.does g (.measure oc row) = match g.sign row with
    | some s => if s = oc then (g.after row oc, Su175.num 2 []) else (g, Su175.no (-33))
    | none => (g.after row oc, Su175.num 1 []) := if_neg (fun z => z.elim (fun z => by omega) (nF c))
  have es : g.sign row = Mx.sgn g.owner.length g.sure row := Mx.sgn_abs g row
  cases q : Mx.sgn g.owner.length g.sure row with
  | some z =>
    rw [es, q] at e0
    have e0' : Su175.does g (.measure oc row) = if z = oc then (g.after row oc, Su175.num 2 []) else (g, Su175.no (-33)) := e0
    refine ⟨_, rfl, rfl, _, rfl, ifF (by rw [oV_non]; rfl) ⟨_, rfl, _, rfl, rfl, _, _, rfl, fun k1 => ?_, fun k1 => ?_⟩⟩
    · have k2 : z = oc := viT k1
      rw [if_pos k2, Mx.after_same t.ok.st lt (by rw [es, q])] at e0'
      refine ⟨_, rfl, rfl, _, rfl, ifT (by rw [oV_non]; rfl) ⟨(by show 1 ≤ sizeLine; decide), fun r hr => ?_⟩⟩
      exact out_fin (hd.num e0') ⟨G, y, t2⟩ (Keep.of s02) hr rfl
    · have k2 : z ≠ oc := viF k1
      rw [if_neg k2] at e0'
      exact (hd.no e0' (by decide)).of s02
  | none =>
    rw [es, q] at e0
    have e0' : Su175.does g (.measure oc row) = (g.after row oc, Su175.num 1 []) := e0
    obtain ⟨X, p, Y, eS, hX, hA, hf⟩ := Mx.aft_split t.ok.st lt q
    have ea := Mx.after_eq (c := oc) t.ok.st eS hX hA hf
    have ok' := Mx.ok_after t.ok lt oc1 (by rw [es, q])
    rw [ea] at e0' ok'
    refine ⟨_, rfl, rfl, _, rfl, ifT (by rw [oV_non]; rfl) ⟨_, _, rfl, fun _ => ?_, fun z => Bool.noConfusion z⟩⟩
    refine ⟨_, rfl, rfl, _, rfl, ifF (by rw [oV_non]; rfl) ?_⟩
    refine ⟨_, rfl, dk, CD, y.dd, _, _, rfl, t2.hdk, T.cl_Desk, T.n_Desk_shared, dF_shared, y.sp, y.ds, _, rfl, t2.hsp, sF_not (by decide +kernel), y.sp, y.ds, y.o, y.l, y.u, g.touched, rfl, t2.hsp, ?_⟩
    have sx1 : SameX y.sp H2 (upd H2 y.sp (.ins CS y.ds (sF y.o y.l y.u true))) := SameX.upd
    have sG1 := t2.through (Most.sp sx1)
    obtain ⟨vu, hu0, mu0⟩ := t.su
    have tpsp : tp ≠ y.sp := fun z => by
      have := t1'.hsp
      rw [← z, upd_same] at this
      cases this
    have mu1 := mu0.same sG1
    rw [eS] at mu1
    have stb := t.ok.st
    rw [eS] at stb
    refine ⟨_, rfl, dk, CD, y.dd, _, _, rfl, t2.hdkX sx1, T.cl_Desk, T.n_Desk_shared, dF_shared, y.sp, y.ds, _, rfl, upd_same, sF_not (by decide +kernel), _, rfl, _, rfl, y.sp, oc, tp, y.ds, y.o, y.l, y.u, true, vu, g.owner, X, p, Y, row, rfl, upd_same, sG1 _ _ t.own.1, sG1 _ _ hu0, mu1, stb, m6, sx1 _ _ tpsp (s2 _ _ upd_same), lt, hX, hA, fun H' u' vu' hu' hp' hu'' mv' sx => ?_⟩
    have u'sp : u' ≠ y.sp := fun z => by rw [z, upd_same] at hu'; cases hu'
    rw [upd_ne u'sp] at hu'
    have sx2 : SameX y.sp H2 H' := SameX.trans sx1 sx
    have sG2 := t2.through (Most.sp sx2)
    refine ⟨(by show 1 ≤ sizeLine; decide), fun r hr => ?_⟩
    exact out_fin (hd.num e0') (t2.setSpins sx2 ok' hp' (t.own.same sG2) ⟨vu', hu'', mv'⟩ (.inl rfl) (.inr hu')) ((Keep.of s02).trans (t2.keep (Most.sp sx2))) hr rfl
end
end Ss
namespace Ss
open PySem PySem.Spec PyProof.Rows L2
open Su173 (Spin)
open Su175 (Abs)
section
variable {P : Program} {w : World} {K : PySem.W.Frag} {mg : Str → Option Value} {base : Heap} {CR CG CS CD aON aSH aDE : Addr}
/-- a place where letters stand on another's spin -/
def offs (ow row : List Nat) (i : Nat) : Bool := (List.range ow.length).any fun j => row.getD j 0 != 0 && ow.getD j 0 != i
def sp_is_on_own (CS CD : Addr) (K : PySem.W.Frag) : Sp := fun vs H Q _ => ∃ (p : Addr) (i : Nat) (b dx sp ds o l u : Addr) (t : Bool) (v0 v2 : V) (ow row : List Nat), vs = [.ref p, .int i, .ref b] ∧ H p = some (.ins CD dx (dF v0 (.ref sp) v2)) ∧ H sp = some (.ins CS ds (sF o l u t)) ∧ H o = some (.tup (nL ow)) ∧ SqL K H b (nL row) ∧ row.length = ow.length ∧ ow.length ≤ 100 ∧
  ∀ H', Same H H' → Q (.bl (!offs ow row i)) H'
theorem c_is_on_own (T : Top K mg CR CG CS CD aON aSH aDE) : CalG CX0 P w K mg base 1 "is_on_own" (sp_is_on_own CS CD K) := by
  obtain ⟨f, fd, hg, hk, F, b⟩ := T.d_is_on_own.ex
  refine ⟨f, fd, _, F.ok sc_is_on_own (fun vs H Q E h => by obtain ⟨p, i, b', dx, sp, ds, o, l, u, t, v0, v2, ow, row, rfl, _⟩ := h; rfl) (fun cdv A outer s H vs Q E hr h => ⟨_, (pss_cons (ps_setLc (i := 3) (own := [("at", 4), ("whose", 5)]) (g := gTup K 2 (gCons (gName 4) (gCons (gName 5) gNil))) rfl sc_is_on_own.nd rfl rfl (sw_true rfl rfl rfl (by decide +kernel)) (pi_enumT (by rfl) T.b_enumerate (pa_cons (pe_fld (pe_fld (pv 0) rfl) rfl) pa_nil)) (blkOk_by (N := N_is_on_own) (sc := defScope s_is_on_own) (by decide +kernel)) (fun _ _ _ _ _ => (pg_tup rfl (pgs_cons (pg_name (i := 4) sc_is_on_own.nd rfl (Or.inl rfl)) (pgs_cons (pg_name (i := 5) sc_is_on_own.nd rfl (Or.inl rfl)) pgs_nil)))) (fun _ _ _ _ _ => (pts_one (pt_cmpR op_ne (pv 5) (pv 1) (nomark _)))) (fun _ _ _ _ _ => (pv 4)))
    (pss_one (ps_ret (pe_callB (cr_all rfl) (by rfl) T.b_all boot_fall (pa_cons (pe_lc (own := [("at", 4)]) (g := gName 4) rfl sc_is_on_own.nd (pi_list (pv 3)) (blkOk_by (N := N_is_on_own) (sc := defScope s_is_on_own) (by decide +kernel)) (fun _ _ _ _ _ => (pg_name (i := 4) sc_is_on_own.nd rfl (Or.inl rfl))) (fun _ _ _ _ _ => pts_nil) (fun _ _ _ _ _ => (pe_cmpR op_eq (pe_ix (ix_listK (K := K) rfl) (pv 2) (pv 4) (fun _ _ => rfl)) (pe_gk rfl T.k_NONE) (nomark _)))) pa_nil))))), ?_⟩), hg, hk, b⟩
  obtain ⟨p, i, b', dx, sp, ds, o, l, u, t, v0, v2, ow, row, rfl, h⟩ := h
  obtain ⟨hp, hsp, ho, hb, hl, hz, k⟩ := h
  refine ⟨_, rfl, p, CD, dx, _, _, rfl, hp, T.cl_Desk, T.n_Desk_shared, dF_shared, sp, CS, ds, _, _, rfl, hsp, T.cl_Spins, T.n_Spins_owners, sF_owners, o, _, rfl, SqT.of ho, fun D hD => lc_filt walk_enumT (fun j => decide (ow.getD j 0 ≠ i)) (fun j => .int (j : Nat)) (by rw [nL_len]; omega) hD (fun H' s' => SqT.of (s' _ _ ho)) ?_ ?_⟩
  · rintro j v H1 H1' Q' N' hj s1 _ ⟨T', x, z, rfl, hT, rfl, hx, hz'⟩ k1 k2
    cases hx
    obtain ⟨n, hn, rfl⟩ := nL_at' hz'
    refine ⟨T', _, rfl, SqT.of upd_same, rfl, _, _, rfl, _, _, rfl, rfl, rfl, _, rfl, _, rfl, rfl, _, rfl, ?_⟩
    refine if2 (fun c => ⟨_, rfl, k1 _ (Same.new hT) ?_⟩) (fun c => k2 _ (Same.new hT) ?_)
    · rw [getD_of hn]
      exact decide_eq_true (vnT c)
    · rw [getD_of hn]
      exact decide_eq_false (fun z => z (vnF c))
  · intro H1 s1 hy
    rw [nL_len, intsN] at hy
    generalize hot : (List.range ow.length).filter (fun j => decide (ow.getD j 0 ≠ i)) = ot at hy
    have hmem : ∀ j ∈ ot, j < row.length := fun j hj => by
      rw [← hot] at hj
      have := List.mem_range.mp (List.mem_filter.mp hj).1
      omega
    have hol : ot.length ≤ 100 := by
      rw [← hot]
      exact Nat.le_trans (List.length_filter_le _ _) (by rw [List.length_range]; exact hz)
    refine ⟨_, rfl, D, rfl, ⟨_, SqL.of hy⟩, fun D2 hD2 => lc_val walk_list (fun n => .bl (decide (row.getD (ot.getD n 0) 0 = 0))) (by rw [nL_len]; omega) hD2 (fun H' s' => SqL.of (s' _ _ hy)) ?_ ?_⟩
    · rintro n x H2 H2' Q' hn s2 _ ⟨rfl, hx⟩ hk
      obtain ⟨j, hj, rfl⟩ := nL_at' hx
      have hj2 := hmem j (List.mem_of_getElem? hj)
      refine ⟨rfl, _, rfl, _, rfl, b', _, _, _, rfl, rfl, Same.seq (Same.trans s1 s2) hb, nL_ix hj2, rfl, qe (hk _ (Same.refl _)) (be ?_)⟩
      rw [getD_of hj]
      exact dVI (b := 0)
    · intro H2 s2 hy2
      rw [nL_len, blR (fun j => decide (row.getD j 0 = 0))] at hy2
      refine ⟨D2, _, rfl, SqL.of hy2, qe (k H2 (Same.trans s1 s2)) (be ?_)⟩
      rw [all_id, ← hot, List.all_filter]
      unfold offs
      rw [List.not_any_eq_all_not]
      refine List.all_congr rfl fun j => ?_
      have e : ∀ (aa bb : Nat), (!decide (bb ≠ i) || decide (aa = 0)) = !(aa != 0 && bb != i) := fun aa bb => by
        by_cases h1 : aa = 0
        · simp [h1]
        · by_cases h2 : bb = i
          · simp [h2]
          · simp [h1, h2]
      exact e _ _
theorem c_mine (T : Top K mg CR CG CS CD aON aSH aDE) : CalG (L2.CX P w) P w K mg base 4 "mine" (sp_deed K CR CG CS CD 3 (fun ns x => .mine (ns.getD 0 0) (ns.getD 1 0) (ns.getD 2 0) x)) := by
  obtain ⟨f, fd, hg, hk, F, b⟩ := T.d_mine.ex
  refine ⟨f, fd, _, F.okX sc_mine (fun vs H Q E h => by obtain ⟨dk, a, b', N, G, y, g, nums, row, rfl, _⟩ := h; rfl) (fun cdv A outer s H vs Q E hr h => ⟨_, (pss_cons (ps_set (i := 3) sc_mine.nd rfl (Or.inl rfl) (pe_ix ix_list (pv 1) pe_int (fun _ _ => rfl)))
    (pss_cons (ps_set (i := 4) sc_mine.nd rfl (Or.inl rfl) (pe_ix ix_list (pv 1) pe_int (fun _ _ => rfl)))
    (pss_cons (ps_set (i := 5) sc_mine.nd rfl (Or.inl rfl) (pe_ix ix_list (pv 1) pe_int (fun _ _ => rfl)))
    (pss_cons (ps_expr (pe_cg (c_need T) hr (by decide) rfl (passes_call (takes_of rfl rfl rfl rfl) (fun _ _ _ _ h => h)) (pa_cons (pe_and (pe_cmpR op_lt (pv 3) (pe_fld (pe_fld (pv 0) rfl) rfl) (nomark _)) (pe_one (pe_cmpR op_lt (pv 4) (pe_fld (pe_fld (pv 0) rfl) rfl) (nomark _)))) (pa_cons (pe_gk rfl T.k_NONE_SUCH) pa_nil))))
    (pss_cons (ps_expr (pe_cg (c_need T) hr (by decide) rfl (passes_call (takes_of rfl rfl rfl rfl) (fun _ _ _ _ h => h)) (pa_cons (pe_and (pe_cg (c_are_letters T) hr (by decide) rfl pass0 (pa_cons (pv 2) (pa_cons (pe_mg0 (c_Spins_many T) hr (by decide) pass0 (pe_fld (pv 0) rfl)) pa_nil))) (pe_one (pe_cmpR op_le (pv 5) pe_int (nomark _)))) (pa_cons (pe_gk rfl T.k_NOT_AS_TOLD) pa_nil))))
    (pss_cons (ps_expr (pe_cg (c_need T) hr (by decide) rfl (passes_call (takes_of rfl rfl rfl rfl) (fun _ _ _ _ h => h)) (pa_cons (pe_cg (c_is_on_own T) hr (by decide) rfl pass0 (pa_cons (pv 0) (pa_cons (pv 3) (pa_cons (pv 2) pa_nil)))) (pa_cons (pe_gk rfl T.k_NOT_AS_TOLD) pa_nil))))
    (pss_cons (ps_expr (pe_mg (c_Desk_set_own T) hr (by decide) pass0 (pv 0) (pa_cons (pv 3) (pa_cons (pv 4) (pa_cons (pe_tup (pa_cons (pv 5) (pa_cons (pe_callTy call_tuple_of (by rfl) T.b_tuple boot_ftuple (pa_cons (pv 2) pa_nil)) pa_nil))) pa_nil)))))
    (pss_one (ps_ret (pe_lst (pa_cons pe_int pa_nil))))))))))), ?_⟩), hg, hk, b⟩
  obtain ⟨dk, a, b', N, G, y, g, nums, row, rfl, h⟩ := h
  obtain ⟨t, ar, hd⟩ := h
  have m6 := t.ok.m6
  have n0 : 0 < nums.length := by rw [ar.len]; decide
  have n1 : 1 < nums.length := by rw [ar.len]; decide
  have n2 : 2 < nums.length := by rw [ar.len]; decide
  refine ⟨_, rfl, a, _, 0, _, rfl, rfl, SqL.of ar.ha, nL_ix (i := 0) n0, _, rfl, a, _, 1, _, rfl, rfl, SqL.of ar.ha, nL_ix (i := 1) n1, _, rfl, a, _, 2, _, rfl, rfl, SqL.of ar.ha, nL_ix (i := 2) n2, ?_⟩
  have hd : Due K CR CG CS CD N H dk Q E (Su175.does g (.mine (nums.getD 0 0) (nums.getD 1 0) (nums.getD 2 0) row)) := hd
  generalize nums.getD 0 0 = i at hd ⊢
  generalize nums.getD 1 0 = x at hd ⊢
  generalize nums.getD 2 0 = sg at hd ⊢
  have no2 : (g.k ≤ i ∨ g.q ≤ x) → Refuse CR E H (-2) := fun c => hd.no (if_pos c) (by decide)
  refine ⟨_, rfl, _, rfl, dk, CD, y.dd, _, _, rfl, t.hdk, T.cl_Desk, T.n_Desk_game, dF_game, y.gp, CG, y.dg, _, _, rfl, t.gp1, T.cl_Game, T.n_Game_persons, gF_persons, _, _, rfl, rfl, _, rfl, if2 (fun c => ⟨_, rfl, _, rfl, dk, CD, y.dd, _, _, rfl, t.hdk, T.cl_Desk, T.n_Desk_game, dF_game, y.gp, CG, y.dg, _, _, rfl, t.gp1, T.cl_Game, T.n_Game_questions, gF_questions, _, _, rfl, rfl, _, _, rfl, fun d => ?_, fun d => ?_⟩) (fun c => ⟨_, _, rfl, fun z => Bool.noConfusion z, fun _ => ?_⟩)⟩
  case refine_2 =>
    rw [dLt] at d
    have := of_decide_eq_false d
    exact no2 (.inr (by omega))
  case refine_3 =>
    rw [dLt] at c
    have := of_decide_eq_false c
    exact no2 (.inl (by omega))
  rw [dLt] at c d
  have hi := of_decide_eq_true c
  have hx := of_decide_eq_true d
  have c2 : ¬ (g.k ≤ i ∨ g.q ≤ x) := by omega
  have no22 : (1 < sg ∨ Su175.okRow g.m 4 row = false ∨ offs g.owner row i = true) → Refuse CR E H (-22) := fun c => hd.no ((if_neg c2).trans (if_pos c)) (by decide)
  refine ⟨_, rfl, _, rfl, dk, CD, y.dd, _, _, rfl, t.hdk, T.cl_Desk, T.n_Desk_shared, dF_shared, y.sp, y.ds, _, rfl, t.hsp, sF_not (by decide +kernel), y.sp, y.ds, y.o, y.l, y.u, g.touched, g.owner, rfl, t.hsp, t.ownH.1, b', row, g.m, rfl, SqL.of ar.hb, ar.rl, fun H1 s1 => ⟨_, rfl, if2 (fun c => ⟨_, rfl, _, _, rfl, rfl, _, _, rfl, fun d => ?_, fun d => ?_⟩) (fun c => ⟨_, _, rfl, fun z => Bool.noConfusion z, fun _ => (no22 (.inr (.inl c))).of s1⟩)⟩⟩
  case refine_2 =>
    have d' : ¬ (sg : Int) ≤ 1 := of_decide_eq_false d
    exact (no22 (.inl (by omega))).of s1
  have d' : (sg : Int) ≤ 1 := of_decide_eq_true d
  have lt : Mx.Lt g.m row := Mx.okRow_lt.mp c
  have t1 := t.same s1
  refine ⟨_, rfl, _, rfl, _, rfl, dk, i, b', y.dd, y.sp, y.ds, y.o, y.l, y.u, g.touched, _, _, g.owner, row, rfl, t1.hdk, t1.hsp, t1.ownH.1, SqL.of (s1 _ _ ar.hb), lt.1, Nat.le_trans m6 (by decide), fun H2 s2 => ⟨_, _, rfl, fun e => ?_, fun e => ?_⟩⟩
  case refine_2 =>
    exact (no22 (.inr (.inr (by simpa using e)))).of (Same.trans s1 s2)
  have s02 := Same.trans s1 s2
  have t2 := t.same s02
  have e' : ¬ offs g.owner row i = true := by simpa using e
  have e0 : Su175.does g (.mine i x sg row) = ({ g with mine := g.mine.set i ((g.mine.getD i []).set x ⟨sg, row⟩) }, Su175.num 0 []) := (if_neg c2).trans (if_neg fun z => z.elim (fun z => by omega) fun z => z.elim (nF c) e')
  obtain ⟨vw, hw, mw⟩ := t2.mine
  have hil : i < g.mine.length := by rw [t.ok.ml]; exact hi
  have hr := List.getElem?_eq_getElem hil
  have hgd : g.mine.getD i [] = g.mine[i] := by rw [List.getD_eq_getElem?_getD, hr]; rfl
  have hlt : i * g.q + x < vw.length := by
    rw [mw.1, Mx.flat_len t.ok.mq, t.ok.ml]
    have : (i + 1) * g.q ≤ g.k * g.q := Nat.mul_le_mul_right _ hi
    rw [Nat.succ_mul] at this
    omega
  refine ⟨_, rfl, dk, y.dd, _, rfl, t2.hdk, dF_not (by decide +kernel), _, rfl, _, rfl, _, rfl, _, rfl, b', _, rfl, .inl ⟨SqL.of (s02 _ _ ar.hb), fun tp htp => ⟨(by show 2 ≤ sizeLine; decide), fun t3 ht3 => ?_⟩⟩⟩
  have s3 : Same H2 (upd (upd H2 tp (.tup (nL row))) t3 (.tup [.int sg, .ref tp])) := Same.then (Same.new htp) ht3
  have t4 := t2.same s3
  refine ⟨dk, i, x, .ref t3, y.dd, y.gp, y.dg, g.k, g.q, y.rw, y.mu, y.wn, _, y.w, vw, rfl, t4.hdk, t4.gp1, by have := t.ok.game.k4; omega, t.ok.game.q3, s3 _ _ hw, hlt, (by show 1 ≤ sizeLine; decide), fun r hr' => ?_⟩
  have hw4 := s3 _ _ hw
  have mn : MeV K (upd (upd H2 tp (.tup (nL row))) t3 (.tup [.int sg, .ref tp])) (vw.set (i * g.q + x) (.ref t3)) (g.mine.set i ((g.mine.getD i []).set x ⟨sg, row⟩)).flatten := by
    rw [hgd, Mx.flat_set t.ok.mq hr hx]
    exact (mw.same s3).set _ ⟨t3, tp, rfl, upd_same, (Same.new ht3) _ _ upd_same⟩
  have hof : ∀ j, j < g.m → row.getD j 0 ≠ 0 → g.owner.getD j 0 = i := fun j hj h1 => Classical.byContradiction fun h2 => e' (by
    unfold offs
    rw [List.any_eq_true]
    exact ⟨j, List.mem_range.mpr hj, by rw [Bool.and_eq_true]; exact ⟨bne_iff_ne.mpr h1, bne_iff_ne.mpr h2⟩⟩)
  exact out_fin (hd.num e0) (t4.setMine SameX.upd (Mx.ok_mine t.ok hi hx (by omega) lt hof) ⟨_, upd_same, mn.samexO SameX.upd (fun xs z => by rw [hw4] at z; cases z)⟩) ((Keep.of (Same.trans s02 s3)).trans (t4.keep (Most.w SameX.upd))) hr' rfl
end
end Ss
namespace Ss
open PySem PySem.Spec PyProof.Rows L2
open Su173 (Spin)
open Su175 (Abs)
section
variable {P : Program} {w : World} {K : PySem.W.Frag} {mg : Str → Option Value} {base : Heap} {CR CG CS CD aON aSH aDE : Addr}
theorem c_spins (T : Top K mg CR CG CS CD aON aSH aDE) : CalG (L2.CX P w) P w K mg base 8 "spins" (sp_deed K CR CG CS CD 0 (fun _ x => .spins x)) := by
  obtain ⟨f, fd, hg, hk, F, b⟩ := T.d_spins.ex
  refine ⟨f, fd, _, F.okX sc_spins (fun vs H Q E h => by obtain ⟨dk, a, b', N, G, y, g, nums, row, rfl, _⟩ := h; rfl) (fun cdv A outer s H vs Q E hr h => ⟨_, (pss_cons (ps_expr (pe_cg (c_need T) hr (by decide) rfl (passes_call (takes_of rfl rfl rfl rfl) (fun _ _ _ _ h => h)) (pa_cons (pe_and (pe_cmpR op_le (pe_callB call_len_seq (by rfl) T.b_len boot_flen (pa_cons (pv 2) pa_nil)) (pe_gk rfl T.k_MOST_SPINS) (nomark _)) (pe_one (pe_callB (cr_all rfl) (by rfl) T.b_all boot_fall (pa_cons (pe_lc (own := [("one", 3)]) (g := gName 3) rfl sc_spins.nd (pi_list (pv 2)) (blkOk_by (N := N_spins) (sc := defScope s_spins) (by decide +kernel)) (fun _ _ _ _ _ => (pg_name (i := 3) sc_spins.nd rfl (Or.inl rfl))) (fun _ _ _ _ _ => pts_nil) (fun _ _ _ _ _ => (pe_cmpR op_lt (pv 3) (pe_fldK (K := K) rfl (pe_fldK (K := K) rfl (pv 0))) (nomark _)))) pa_nil)))) (pa_cons (pe_gk rfl T.k_NOT_AS_TOLD) pa_nil))))
    (pss_cons (ps_expr (pe_mg (c_Desk_take_spins T) hr (by decide) pass0 (pv 0) (pa_cons (pv 2) pa_nil)))
    (pss_one (ps_ret (pe_lst (pa_cons (pe_callB call_len_seq (by rfl) T.b_len boot_flen (pa_cons (pv 2) pa_nil)) pa_nil)))))), ?_⟩), hg, hk, b⟩
  obtain ⟨dk, a, b', N, G, y, g, nums, row, rfl, h⟩ := h
  obtain ⟨t, ar, hd⟩ := h
  have no : (6 < row.length ∨ row.any (fun i => decide (g.k ≤ i)) = true) → Refuse CR E H (-22) := fun c => hd.no (if_pos c) (by decide)
  have yes := fun (c : ¬ (6 < row.length ∨ row.any (fun i => decide (g.k ≤ i)) = true)) => hd.num (if_neg c)
  have rl := ar.rl
  refine ⟨_, rfl, b', _, rfl, .inl (SqL.of ar.hb), _, _, rfl, rfl, _, rfl, if2 (fun c => ?_) (fun c => ⟨_, _, rfl, fun z => Bool.noConfusion z, fun _ => no (.inl ?_)⟩)⟩
  case refine_2 =>
    rw [nL_len] at c
    have := of_decide_eq_false c
    omega
  rw [nL_len] at c
  have c' := of_decide_eq_true c
  have c6 : row.length ≤ 6 := by omega
  refine ⟨_, rfl, b', rfl, ⟨_, SqL.of ar.hb⟩, fun D hD => lc_val walk_list (fun i => .bl (decide (row.getD i 0 < g.k))) (by rw [nL_len]; omega) hD (fun H s => SqL.of (s _ _ ar.hb)) ?_ ?_⟩
  · rintro i x H1 H' Q' hi s1 _ ⟨rfl, hx⟩ hk
    obtain ⟨n, hn, rfl⟩ := nL_at' hx
    refine ⟨rfl, _, rfl, _, rfl, dk, CD, y.dd, _, _, rfl, s1 _ _ t.hdk, T.cl_Desk, T.n_Desk_game, dF_game, y.gp, CG, y.dg, _, _, rfl, s1 _ _ t.gp1, T.cl_Game, T.n_Game_persons, gF_persons, _, _, rfl, rfl, qe (hk _ (Same.refl _)) (be ?_)⟩
    rw [getD_of hn]
    exact dLt
  · intro H1 s1 hy
    rw [nL_len, blR (fun n => decide (n < g.k))] at hy
    refine ⟨D, _, rfl, SqL.of hy, _, _, rfl, fun d => ?_, fun d => (no (.inr ?_)).of s1⟩
    case refine_2 =>
      rw [all_id] at d
      rw [List.any_eq_true]
      obtain ⟨x, hx, hx2⟩ := List.all_eq_false.mp d
      exact ⟨x, hx, decide_eq_true (by simpa using hx2)⟩
    rw [all_id] at d
    have hlt : ∀ o ∈ row, o < g.k := fun o ho => of_decide_eq_true (List.all_eq_true.mp d o ho)
    have hany : ¬ row.any (fun i => decide (g.k ≤ i)) = true := fun z => by
      obtain ⟨x, hx, hx2⟩ := List.any_eq_true.mp z
      have := hlt x hx
      have := of_decide_eq_true hx2
      omega
    have t1 := t.same s1
    have hb1 := s1 _ _ ar.hb
    have gpdk : y.gp ≠ dk := fun z => by have := t.hgp; rw [z, t.gdk] at this; cases this
    obtain ⟨rb0, rb1, rb2, rb3, rb4, rb5, _⟩ := t.res b' ar.nb
    refine ⟨_, rfl, dk, y.dd, _, rfl, t1.hdk, dF_not (by decide +kernel), _, rfl, dk, b', y.dd, y.gp, y.dg, g.k, g.q, y.rw, y.mu, y.wn, _, _, row, rfl, t1.hdk, t1.gp1, SqL.of hb1, rl, t.ok.game.k4, t.ok.game.q3, gpdk, fun H' sp ds o l u W vu vw hsp ho hl hu hw wl wu hp' hsp' ho' hl' hu' mv hw' mw sx => ?_⟩
    refine ⟨_, rfl, b', _, rfl, .inl (SqL.of (sx _ _ rb4 hb1)), (by show 1 ≤ sizeLine; decide), fun r hr => ?_⟩
    have ne : ∀ {b c : Addr} {o : HO}, H1 b = some o → H1 c = none → b ≠ c := fun e1 e2 z => by rw [z, e2] at e1; cases e1
    have neG : ∀ {b : Addr} {o : HO}, G b = some o → b ≠ dk := fun e z => by rw [z, t.gdk] at e; cases e
    have gN : ∀ {b : Addr} {o : HO}, G b = some o → ¬ N b := fun e z => by rw [(t.res _ z).1] at e; cases e
    have fN : ∀ {b : Addr}, H1 b = none → ¬ N b := fun e z => by
      obtain ⟨_, _, _, _, _, _, o, h, _⟩ := t1.res _ z
      rw [h] at e
      cases e
    let y2 : Lay := { y with sp := sp, w := W, o := o, l := l, u := u, ds := ds }
    have nA : ∀ {b : Addr} {ob : HO}, G b = some ob → ¬ Aset N dk y2 b := fun {b ob} e z => by
      have e1 := t1.s _ _ e
      rcases z with z | z | z | z | z | z
      · exact neG e z
      · exact ne e1 hsp z
      · exact ne e1 hw z
      · rw [show b = y.mu from z, t.gmu] at e; cases e
      · rw [show b = y.wn from z, t.gwn] at e; cases e
      · exact gN e z
    have nF : ∀ {b : Addr}, H1 b = none → b ≠ sp → b ≠ W → ¬ Aset N dk y2 b := fun {b} e h1 h2 z => by
      rcases z with z | z | z | z | z | z
      · rw [z, t1.hdk] at e; cases e
      · exact h1 z
      · exact h2 z
      · rw [show b = y.mu from z, t1.hmu] at e; cases e
      · rw [show b = y.wn from z, t1.hwn] at e; cases e
      · exact fN e z
    obtain ⟨ys, hr1, hrl, hra⟩ := t.rows
    have gH : ∀ {b : Addr} {ob : HO}, G b = some ob → H' b = some ob := fun e => sx _ _ (neG e) (t1.s _ _ e)
    have lsp : l ≠ sp := fun z => by rw [z, hsp'] at hl'; cases hl'
    have usp : u ≠ sp := fun z => by rw [z, hsp'] at hu'; cases hu'
    have st2 : St K CG CS CD N (cutH H' (Aset N dk y2)) H' dk y2 { Su175.restart g row [] with mine := List.replicate g.k (List.replicate g.q (Su175.blank row.length)) } := by
      refine st_cut (y := y2) (Mx.ok_spins t.ok c6 hlt) hp' (gH t.hgp) (nA t.hgp) (sx _ _ (Ne.symm t.dk_ne.2.2.1) t1.hmu) (sx _ _ (Ne.symm t.dk_ne.2.2.2) t1.hwn) ⟨ys, gH hr1, hrl, fun i v hv => ?_⟩ (nA hr1) hsp' ⟨ho', [], hl', ⟨rfl, fun i v q hh => by simp at hh⟩⟩ (nF hl lsp (Ne.symm wl)) (nF hu usp (Ne.symm wu)) ⟨vu, hu', mv⟩ ⟨vw, hw', ?_⟩ t.n1 (Ne.symm (ne t1.hmu hw)) (Ne.symm (ne t1.hwn hw)) fun b n => ?_
      · obtain ⟨a, e, ha⟩ := hra i v hv
        exact ⟨a, e, gH ha, nA ha⟩
      · rw [Mx.flat_rep]
        exact mw
      · obtain ⟨_, _, h2, h3, h4, _, o, h6, h7⟩ := t1.res b n
        exact ⟨ne h6 hw, h2, h3, h4, ne h6 hsp, o, sx _ _ h4 h6, h7⟩
    refine out_fin (yes (fun z => z.elim (fun z => by omega) hany)) ⟨_, y2, st2⟩ (fun b ob n e => sx _ _ ?_ (s1 _ _ e)) hr ?_
    · exact (t.res b n).2.2.2.2.1
    · rw [nL_len]
      rfl
theorem cut_take {xs : List Nat} (k : Nat) : cutV (nL xs) none (some (k : Int)) = nL (xs.take k) := by
  unfold cutV
  rw [HT.sIx_nat, HT.sIx_none, List.drop_zero, Nat.sub_zero, nL_len]
  unfold nL
  rw [← List.map_take, ← List.map_take]
  congr 2
  by_cases h : k ≤ xs.length
  · rw [Nat.min_eq_left h]
  · rw [Nat.min_eq_right (by omega), List.take_length, List.take_of_length_le (by omega)]
theorem cut_drop {xs : List Nat} (k : Nat) : cutV (nL xs) (some (k : Int)) none = nL (xs.drop k) := by
  unfold cutV
  rw [HT.sIx_nat, HT.sIx_none, nL_len, List.take_of_length_le (by rw [List.length_drop, nL_len]; exact Nat.le_refl _)]
  unfold nL
  rw [← List.map_drop, ← List.map_drop]
  congr 2
  by_cases h : k ≤ xs.length
  · rw [Nat.min_eq_left h]
  · rw [Nat.min_eq_right (by omega), List.drop_length, List.drop_eq_nil_of_le (by omega)]
def Parts (g : Abs) (row : List Nat) : Prop := g.asked (row.take g.k) = true ∧ (row.drop g.k).length = g.k ∧ ∀ x ∈ row.drop g.k, x < 2
def sp_parted (K : PySem.W.Frag) (CR CG CS CD : Addr) : Sp := fun vs H Q E => ∃ (dk b : Addr) (N : Addr → Prop) (G : Hp) (y : Lay) (g : Abs) (row : List Nat), vs = [.ref dk, .ref b] ∧ St K CG CS CD N G H dk y g ∧ H b = some (.lst (nL row)) ∧ row.length ≤ 100 ∧
  (Parts g row → ∀ t a1 a2 H', Same H H' → H' t = some (.tup [.ref a1, .ref a2]) → H' a1 = some (.lst (nL (row.take g.k))) → H' a2 = some (.lst (nL (row.drop g.k))) → Q (.ref t) H') ∧ (¬ Parts g row → Refuse CR E H (-22))
theorem c_parted (T : Top K mg CR CG CS CD aON aSH aDE) : CalG (L2.CX P w) P w K mg base 4 "parted" (sp_parted K CR CG CS CD) := by
  obtain ⟨f, fd, hg, hk, F, b⟩ := T.d_parted.ex
  refine ⟨f, fd, _, F.okX sc_parted (fun vs H Q E h => by obtain ⟨dk, b', N, G, y, g, row, rfl, _⟩ := h; rfl) (fun cdv A outer s H vs Q E hr h => ⟨_, (pss_cons (ps_set (i := 2) sc_parted.nd rfl (Or.inl rfl) (pe_fld (pe_fld (pv 0) rfl) rfl))
    (pss_cons (ps_set (i := 3) sc_parted.nd rfl (Or.inl rfl) (pe_slice sl_list (pv 1) po_none (po_some (pv 2))))
    (pss_cons (ps_set (i := 4) sc_parted.nd rfl (Or.inl rfl) (pe_slice sl_list (pv 1) (po_some (pv 2)) po_none))
    (pss_cons (ps_expr (pe_cg (c_need T) hr (by decide) rfl (passes_call (takes_of rfl rfl rfl rfl) (fun _ _ _ _ h => h)) (pa_cons (pe_cg (c_is_asked T) hr (by decide) rfl pass0 (pa_cons (pv 3) (pa_cons (pv 2) (pa_cons (pe_fld (pe_fld (pv 0) rfl) rfl) pa_nil)))) (pa_cons (pe_gk rfl T.k_NOT_AS_TOLD) pa_nil))))
    (pss_cons (ps_expr (pe_cg (c_need T) hr (by decide) rfl (passes_call (takes_of rfl rfl rfl rfl) (fun _ _ _ _ h => h)) (pa_cons (pe_and (pe_cmpR op_eq (pe_callB call_len_seq (by rfl) T.b_len boot_flen (pa_cons (pv 4) pa_nil)) (pv 2) (nomark _)) (pe_one (pe_cg (c_are_bits T) hr (by decide) rfl pass0 (pa_cons (pv 4) pa_nil)))) (pa_cons (pe_gk rfl T.k_NOT_AS_TOLD) pa_nil))))
    (pss_one (ps_ret (pe_tup (pa_cons (pv 3) (pa_cons (pv 4) pa_nil)))))))))), ?_⟩), hg, hk, b⟩
  obtain ⟨dk, b', N, G, y, g, row, rfl, h⟩ := h
  obtain ⟨t, hb, hl, yes, no⟩ := h
  refine ⟨_, rfl, dk, CD, y.dd, _, _, rfl, t.hdk, T.cl_Desk, T.n_Desk_game, dF_game, y.gp, CG, y.dg, _, _, rfl, t.gp1, T.cl_Game, T.n_Game_persons, gF_persons, ?_⟩
  refine ⟨_, rfl, _, rfl, _, rfl, b', _, rfl, SqL.of hb, fun a1 h1 => ?_⟩
  rw [cut_take]
  have s1 : Same H (upd H a1 (.lst (nL (row.take g.k)))) := Same.new h1
  refine ⟨_, rfl, _, rfl, _, rfl, b', _, rfl, SqL.of (s1 _ _ hb), fun a2 h2 => ?_⟩
  rw [cut_drop]
  have s12 : Same (upd H a1 (.lst (nL (row.take g.k)))) (upd (upd H a1 (.lst (nL (row.take g.k)))) a2 (.lst (nL (row.drop g.k)))) := Same.new h2
  have s2 := Same.trans s1 s12
  have t2 := t.same s2
  have e1 := s12 _ _ (upd_same (H := H) (a := a1) (o := HO.lst (nL (row.take g.k))))
  refine ⟨_, rfl, _, rfl, _, rfl, dk, CD, y.dd, _, _, rfl, t2.hdk, T.cl_Desk, T.n_Desk_game, dF_game, y.gp, CG, y.dg, _, _, rfl, t2.gp1, T.cl_Game, T.n_Game_questions, gF_questions, a1, row.take g.k, g.k, g.q, rfl, SqL.of e1, Nat.le_trans (List.length_take_le' _ _) hl, fun H3 s3 => ⟨_, _, rfl, fun c => ?_, fun c => ?_⟩⟩
  case refine_2 =>
    refine (no fun z => ?_).of (Same.trans s2 s3)
    have : g.asked (row.take g.k) = false := c
    rw [z.1] at this
    cases this
  have hd3 : H3 a2 = some (.lst (nL (row.drop g.k))) := s3 _ _ upd_same
  have hdl : (row.drop g.k).length ≤ 100 := by rw [List.length_drop]; omega
  refine ⟨_, rfl, a2, _, rfl, .inl (SqL.of hd3), _, rfl, rfl, _, rfl, if2 (fun d => ?_) (fun d => ⟨_, _, rfl, fun z => Bool.noConfusion z, fun _ => ?_⟩)⟩
  case refine_2 =>
    refine (no fun z => ?_).of (Same.trans s2 s3)
    rw [nL_len] at d
    exact viF d z.2.1
  rw [nL_len] at d
  have d' := viT d
  refine ⟨_, rfl, a2, _, rfl, SqL.of hd3, hdl, fun H4 s4 => ⟨_, _, rfl, fun e => ?_, fun e => ?_⟩⟩
  case refine_2 =>
    refine (no fun z => ?_).of (Same.trans (Same.trans s2 s3) s4)
    obtain ⟨x, hx, hx2⟩ := List.all_eq_false.mp e
    exact hx2 (decide_eq_true (z.2.2 x hx))
  refine ⟨_, rfl, _, rfl, (by show 2 ≤ sizeLine; decide), fun tt htt => ?_⟩
  have st : Same H4 (upd H4 tt (.tup [.ref a1, .ref a2])) := Same.new htt
  exact yes ⟨c, d', fun x hx => of_decide_eq_true (List.all_eq_true.mp e x hx)⟩ tt a1 a2 _ (Same.trans (Same.trans (Same.trans s2 s3) s4) st) upd_same (st _ _ (s4 _ _ (s3 _ _ e1))) (st _ _ (s4 _ _ hd3))
theorem parts_iff {g : Abs} {row : List Nat} (ok : Mx.GOk g) : (row.length ≠ 2 * g.k ∨ g.asked (row.take g.k) = false ∨ Su175.okRow g.k 2 (row.drop g.k) = false) ↔ ¬ Parts g row := by
  have k2 := ok.k2
  constructor
  · rintro h ⟨h1, h2, h3⟩
    rcases h with h | h | h
    · rw [List.length_drop] at h2
      omega
    · rw [h1] at h; cases h
    · have := Mx.okRow_iff.mpr ⟨h2, h3⟩
      rw [this] at h
      cases h
  · intro h
    refine Classical.byContradiction fun z => h ?_
    have h2 : g.asked (row.take g.k) = true := bT fun e => z (.inr (.inl e))
    have h3 : Su175.okRow g.k 2 (row.drop g.k) = true := bT fun e => z (.inr (.inr e))
    exact ⟨h2, (Mx.okRow_iff.mp h3).1, (Mx.okRow_iff.mp h3).2⟩
theorem Parts.len {g : Abs} {row : List Nat} (p : Parts g row) : (row.take g.k).length = g.k ∧ (∀ i, i < g.k → (row.take g.k).getD i 0 < g.q) ∧ Mx.Cf g.k (row.drop g.k) := by
  obtain ⟨h1, h2⟩ := Mx.okRow_iff.mp p.1
  refine ⟨h1, fun i hi => ?_, p.2.1, fun a ha => by have := p.2.2 a ha; omega⟩
  have hi' : i < (row.take g.k).length := by rw [h1]; exact hi
  rw [List.getD_eq_getElem?_getD, List.getElem?_eq_getElem hi']
  exact h2 _ (List.getElem_mem hi')
theorem winAt_bit (g : Abs) (x a : List Nat) : Mx.winAt g (Su175.code g.q x) (Su175.code 2 a) = Su175.bit (g.won x a) := by
  have h := Mx.won_eq g x a
  have h2 : Mx.winAt g (Su175.code g.q x) (Su175.code 2 a) < 2 := Nat.mod_lt _ (by decide)
  unfold Su175.bit
  by_cases c : g.won x a = true
  · rw [if_pos c]
    exact h.mp c
  · rw [if_neg c]
    have : ¬ Mx.winAt g (Su175.code g.q x) (Su175.code 2 a) = 1 := fun z => c (h.mpr z)
    omega
theorem c_chance (T : Top K mg CR CG CS CD aON aSH aDE) : CalG (L2.CX P w) P w K mg base 6 "chance" (sp_deed K CR CG CS CD 0 (fun _ x => .chance x)) := by
  obtain ⟨f, fd, hg, hk, F, b⟩ := T.d_chance.ex
  refine ⟨f, fd, _, F.okX sc_chance (fun vs H Q E h => by obtain ⟨dk, a, b', N, G, y, g, nums, row, rfl, _⟩ := h; rfl) (fun cdv A outer s H vs Q E hr h => ⟨_, (pss_cons (ps_set (i := 3) sc_chance.nd rfl (Or.inl rfl) (pe_fld (pv 0) rfl))
    (pss_cons (ps_asg (pe_cg (c_parted T) hr (by decide) rfl (passes_call (takes_of rfl rfl rfl rfl) (fun _ _ _ _ h => h)) (pa_cons (pv 0) (pa_cons (pv 2) pa_nil))) (pg_tup rfl (pgs_cons (pg_name (i := 4) sc_chance.nd rfl (Or.inl rfl)) (pgs_cons (pg_name (i := 5) sc_chance.nd rfl (Or.inl rfl)) pgs_nil))))
    (pss_cons (ps_set (i := 6) sc_chance.nd rfl (Or.inl rfl) (pe_cg (c_number_of_bits T) hr (by decide) rfl pass0 (pa_cons (pv 5) pa_nil)))
    (pss_cons (ps_set (i := 7) sc_chance.nd rfl (Or.inl rfl) (pe_cg (c_sums_known T) hr (by decide) rfl pass0 (pa_cons (pe_mg0 (c_Spins_known_signs T) hr (by decide) pass0 (pe_fld (pv 0) rfl)) (pa_cons (pe_cg (c_measured_by T) hr (by decide) rfl pass0 (pa_cons (pv 3) (pa_cons (pe_fld (pv 0) rfl) (pa_cons (pv 4) pa_nil)))) (pa_cons (pe_mg0 (c_Spins_many T) hr (by decide) pass0 (pe_fld (pv 0) rfl)) pa_nil)))))
    (pss_cons (ps_set (i := 8) sc_chance.nd rfl (Or.inl rfl) (pe_mg (c_Game_wins_at T) hr (by decide) pass0 (pv 3) (pa_cons (pe_mg (c_Game_place_asked T) hr (by decide) (passes_call (takes_of rfl rfl rfl rfl) (fun _ _ _ _ h => h)) (pv 3) (pa_cons (pv 4) pa_nil)) (pa_cons (pv 6) pa_nil))))
    (pss_one (ps_ret (pe_lst (pa_cons (pe_cg (c_chance_of T) hr (by decide) rfl pass0 (pa_cons (pv 7) (pa_cons (pv 6) (pa_cons (pe_fld (pv 3) rfl) pa_nil)))) (pa_cons (pe_mg0 (c_Game_answer_rows T) hr (by decide) pass0 (pv 3)) (pa_cons (pv 8) pa_nil))))))))))), ?_⟩), hg, hk, b⟩
  obtain ⟨dk, a, b', N, G, y, g, nums, row, rfl, h⟩ := h
  obtain ⟨t, ar, hd⟩ := h
  have m6 := t.ok.m6
  have k4 := t.ok.game.k4
  refine ⟨_, rfl, dk, CD, y.dd, _, _, rfl, t.hdk, T.cl_Desk, T.n_Desk_game, dF_game, ?_⟩
  refine ⟨_, rfl, _, rfl, dk, b', N, G, y, g, row, rfl, t, ar.hb, ar.rl, fun pp tt a1 a2 H1 s1 htt h1 h2 => ?_, fun np => hd.no (if_pos ((parts_iff t.ok.game).mpr np)) (by decide)⟩
  obtain ⟨tl, tq, tc⟩ := pp.len
  have yes := hd.num (if_neg fun z => (parts_iff t.ok.game).mp z pp)
  refine ⟨tt, _, rfl, SqT.of htt, rfl, _, _, rfl, _, _, rfl, rfl, ?_⟩
  refine ⟨_, rfl, a2, row.drop g.k, rfl, SqL.of h2, by rw [tc.1]; omega, fun x hx => by have := pp.2.2 x hx; omega, fun H2 s2 => ?_⟩
  have s02 := Same.trans s1 s2
  have t2 := t.same s02
  refine ⟨_, rfl, dk, CD, y.dd, _, _, rfl, t2.hdk, T.cl_Desk, T.n_Desk_shared, dF_shared, y.sp, y.ds, _, rfl, t2.hsp, sF_not (by decide +kernel), y.sp, g.owner, g.sure, rfl, t2.spin, t.ok.st, m6, fun d H3 s3 hd3 Kn => ?_⟩
  have t3 := t2.same s3
  refine ⟨_, rfl, _, rfl, dk, CD, y.dd, _, _, rfl, t3.hdk, T.cl_Desk, T.n_Desk_own, dF_own, _, rfl, y.gp, y.w, a1, g, row.take g.k, rfl, t3.game, t.ok, t3.mine, SqL.of (s3 _ _ (s2 _ _ h1)), tl, tq, fun D H4 s4 hD Me => ?_⟩
  have t4 := t3.same s4
  refine ⟨_, rfl, dk, CD, y.dd, _, _, rfl, t4.hdk, T.cl_Desk, T.n_Desk_shared, dF_shared, y.sp, y.ds, _, rfl, t4.hsp, sF_not (by decide +kernel), y.sp, y.ds, y.o, y.l, y.u, g.touched, g.owner, rfl, t4.hsp, t4.ownH.1, d, D, g.m, g.taken (row.take g.k), _, rfl, Kn.same s4, Me, (Mx.taken_com t.ok tq).sp, by rw [Mx.taken_len]; exact k4, Nat.le_trans m6 (by decide), fun D2 H5 s5 hD2 hSu => ?_⟩
  rw [Mx.taken_len] at hSu
  have t5 := t4.same s5
  have h15 := s5 _ _ (s4 _ _ (s3 _ _ (s2 _ _ h1)))
  refine ⟨_, rfl, y.gp, y.dg, _, rfl, t5.gp1, gF_not (by decide +kernel), _, rfl, y.gp, y.dg, _, rfl, t5.gp1, gF_not (by decide +kernel), _, rfl, y.gp, a1, g, row.take g.k, rfl, t5.game, t.ok.game, SqL.of h15, by rw [tl]; omega, fun c H6 s6 => ?_, fun c => absurd c (nF pp.1)⟩
  have t6 := t5.same s6
  refine ⟨_, rfl, y.gp, g, _, _, rfl, t6.game, by rw [t.ok.game.wl]; exact (asked_lt t.ok.game pp.1).1, ?_⟩
  refine ⟨_, rfl, _, rfl, _, rfl, y.gp, CG, y.dg, _, _, rfl, t6.gp1, T.cl_Game, T.n_Game_persons, gF_persons, D2, _, g.k, _, rfl, s6 _ _ hSu, k4, fun H7 s7 => ?_⟩
  have t7 := t6.same s7
  refine ⟨_, rfl, y.gp, y.dg, _, rfl, t7.gp1, gF_not (by decide +kernel), y.gp, g, rfl, t7.game, t.ok.game, _, rfl, (by show 3 ≤ sizeLine; decide), fun r hr => ?_⟩
  refine out_fin yes ⟨G, y, t7⟩ (Keep.of (Same.trans s02 (Same.trans s3 (Same.trans s4 (Same.trans s5 (Same.trans s6 s7)))))) hr ?_
  have e1 := Mx.chance_law t.ok tq tc
  have e2 := winAt_bit g (row.take g.k) (row.drop g.k)
  show [V.int _, V.int _, V.int _] = [V.int ((g.chance (row.take g.k) (row.drop g.k) : Nat) : Int), V.int ((2 ^ g.k : Nat) : Int), V.int ((Su175.bit (g.won (row.take g.k) (row.drop g.k)) : Nat) : Int)]
  rw [e1, ← e2]
  rfl
theorem c_parity (T : Top K mg CR CG CS CD aON aSH aDE) : CalG (L2.CX P w) P w K mg base 5 "parity" (sp_deed K CR CG CS CD 0 (fun _ x => .parity x)) := by
  obtain ⟨f, fd, hg, hk, F, b⟩ := T.d_parity.ex
  refine ⟨f, fd, _, F.okX sc_parity (fun vs H Q E h => by obtain ⟨dk, a, b', N, G, y, g, nums, row, rfl, _⟩ := h; rfl) (fun cdv A outer s H vs Q E hr h => ⟨_, (pss_cons (ps_asg (pe_cg (c_parted T) hr (by decide) rfl (passes_call (takes_of rfl rfl rfl rfl) (fun _ _ _ _ h => h)) (pa_cons (pv 0) (pa_cons (pv 2) pa_nil))) (pg_tup rfl (pgs_cons (pg_name (i := 3) sc_parity.nd rfl (Or.inl rfl)) (pgs_cons (pg_name (i := 4) sc_parity.nd rfl (Or.inl rfl)) pgs_nil))))
    (pss_cons (ps_set (i := 5) sc_parity.nd rfl (Or.inl rfl) (pe_cg (c_measured_by T) hr (by decide) rfl pass0 (pa_cons (pe_fld (pv 0) rfl) (pa_cons (pe_fld (pv 0) rfl) (pa_cons (pv 3) pa_nil)))))
    (pss_cons (ps_set (i := 6) sc_parity.nd rfl (Or.inl rfl) (pe_mg0 (c_Spins_known_signs T) hr (by decide) pass0 (pe_fld (pv 0) rfl)))
    (pss_cons (ps_set (i := 7) sc_parity.nd rfl (Or.inl rfl) (pe_cg (c_sum_known T) hr (by decide) rfl pass0 (pa_cons (pv 6) (pa_cons (pv 5) (pa_cons (pe_cg (c_number_of_bits T) hr (by decide) rfl pass0 (pa_cons (pv 4) pa_nil)) (pa_cons (pe_mg0 (c_Spins_many T) hr (by decide) pass0 (pe_fld (pv 0) rfl)) pa_nil))))))
    (pss_cons (ps_if (pt_cmpR op_isN (pv 7) pe_non (nomark _)) (pss_one (ps_ret (pe_lst (pa_cons pe_int pa_nil)))) pss_nil)
    (pss_one (ps_ret (pe_lst (pa_cons (pe_op op_add pe_int (pv 7)) pa_nil))))))))), ?_⟩), hg, hk, b⟩
  obtain ⟨dk, a, b', N, G, y, g, nums, row, rfl, h⟩ := h
  obtain ⟨t, ar, hd⟩ := h
  have m6 := t.ok.m6
  have k4 := t.ok.game.k4
  refine ⟨_, rfl, _, rfl, dk, b', N, G, y, g, row, rfl, t, ar.hb, ar.rl, fun pp tt a1 a2 H1 s1 htt h1 h2 => ?_, fun np => hd.no (if_pos ((parts_iff t.ok.game).mpr np)) (by decide)⟩
  obtain ⟨tl, tq, tc⟩ := pp.len
  have yes := hd.num (if_neg fun z => (parts_iff t.ok.game).mp z pp)
  refine ⟨tt, _, rfl, SqT.of htt, rfl, _, _, rfl, _, _, rfl, rfl, ?_⟩
  have t1 := t.same s1
  refine ⟨_, rfl, dk, CD, y.dd, _, _, rfl, t1.hdk, T.cl_Desk, T.n_Desk_game, dF_game, _, rfl, dk, CD, y.dd, _, _, rfl, t1.hdk, T.cl_Desk, T.n_Desk_own, dF_own, _, rfl, y.gp, y.w, a1, g, row.take g.k, rfl, t1.game, t.ok, t1.mine, SqL.of h1, tl, tq, fun D H2 s2 hD Me => ?_⟩
  have t2 := t1.same s2
  refine ⟨_, rfl, dk, CD, y.dd, _, _, rfl, t2.hdk, T.cl_Desk, T.n_Desk_shared, dF_shared, y.sp, y.ds, _, rfl, t2.hsp, sF_not (by decide +kernel), y.sp, g.owner, g.sure, rfl, t2.spin, t.ok.st, m6, fun d H3 s3 hd3 Kn => ?_⟩
  have t3 := t2.same s3
  refine ⟨_, rfl, _, rfl, _, rfl, a2, row.drop g.k, rfl, SqL.of (s3 _ _ (s2 _ _ h2)), by rw [tc.1]; omega, fun x hx => by have := pp.2.2 x hx; omega, fun H4 s4 => ?_⟩
  have t4 := t3.same s4
  refine ⟨_, rfl, dk, CD, y.dd, _, _, rfl, t4.hdk, T.cl_Desk, T.n_Desk_shared, dF_shared, y.sp, y.ds, _, rfl, t4.hsp, sF_not (by decide +kernel), y.sp, y.ds, y.o, y.l, y.u, g.touched, g.owner, rfl, t4.hsp, t4.ownH.1, d, D, _, g.m, g.taken (row.take g.k), _, rfl, Kn.same s4, Me.same (Same.trans s3 s4), (Mx.taken_com t.ok tq).sp, by rw [Mx.taken_len]; omega, Nat.le_trans m6 (by decide), fun H5 s5 => ?_⟩
  have t5 := t4.same s5
  have kp : Keep N H H5 := Keep.of (Same.trans s1 (Same.trans s2 (Same.trans s3 (Same.trans s4 s5))))
  have e1 := Mx.sumK_sureOf (g := g) (x := row.take g.k) (Su175.code 2 (row.drop g.k))
  have e2 : Mx.rowAt 2 g.k (Su175.code 2 (row.drop g.k)) = row.drop g.k := by
    have := Mx.rowAt_code (q := 2) (x := row.drop g.k) pp.2.2
    rw [tc.1] at this
    exact this
  rw [e2] at e1
  show _
  have hm : g.m = g.owner.length := rfl
  rw [hm] at e1
  rw [hm]
  cases q : Mx.sumK g.owner.length (Mx.sgn g.owner.length g.sure) (g.taken (row.take g.k)) (Su175.code 2 (row.drop g.k)) with
  | none =>
    rw [q] at e1
    refine ⟨_, rfl, rfl, _, rfl, ifT (by rw [oV_non]; rfl) ⟨(by show 1 ≤ sizeLine; decide), fun r hr => ?_⟩⟩
    refine out_fin yes ⟨G, y, t5⟩ kp hr ?_
    rw [e1]
    rfl
  | some z =>
    rw [q] at e1
    refine ⟨_, rfl, rfl, _, rfl, ifF (by rw [oV_non]; rfl) ⟨_, rfl, _, _, rfl, rfl, (by show 1 ≤ sizeLine; decide), fun r hr => ?_⟩⟩
    refine out_fin yes ⟨G, y, t5⟩ kp hr ?_
    rw [e1]
    show [V.int (1 + (z : Int))] = [V.int ((z + 1 : Nat) : Int)]
    rw [Int.natCast_add, Int.add_comm]
    rfl
end
end Ss
namespace Ss
open PySem PySem.Spec PyProof.Rows L2
open Su173 (Spin)
open Su175 (Abs)
/-! ## the state of a desk, begun or not -/
def Unb (CD : Addr) (N : Addr → Prop) (H : Hp) (dk : Addr) : Prop := ∃ dd w, H dk = some (.ins CD dd (dF .non .non (.ref w))) ∧ ∀ b, N b → b ≠ dk ∧ ∃ o, H b = some o ∧ ∀ xs, o ≠ .tup xs
def StaO (K : PySem.W.Frag) (CG CS CD : Addr) (N : Addr → Prop) (H : Hp) (dk : Addr) : Option Abs → Prop
  | none => Unb CD N H dk
  | some g => Sta K CG CS CD N H dk g
def cntN : Nat → Nat
  | 0 => 2 | 1 => 1 | 2 => 1 | 3 => 1 | 6 => 1 | 8 => 2 | 11 => 1 | 12 => 3 | _ => 0
def callN : Nat → List Nat → List Nat → Su175.Call
  | 0, ns, _ => .begin_ (ns.getD 0 0) (ns.getD 1 0)
  | 1, ns, x => .wins (ns.getD 0 0) x
  | 2, ns, x => .odd (ns.getD 0 0) x
  | 3, ns, x => .counts (ns.getD 0 0) x
  | 4, _, x => .plan x
  | 5, _, _ => .best
  | 6, ns, _ => .plans (ns.getD 0 0)
  | 7, _, x => .spins x
  | 8, ns, _ => .link (ns.getD 0 0) (ns.getD 1 0)
  | 9, _, _ => .fresh
  | 10, _, x => .sure x
  | 11, ns, x => .measure (ns.getD 0 0) x
  | 12, ns, x => .mine (ns.getD 0 0) (ns.getD 1 0) (ns.getD 2 0) x
  | 13, _, x => .chance x
  | 14, _, x => .parity x
  | 15, _, _ => .value
  | 16, _, x => .row x
  | _, _, _ => .state
theorem does_neg' (g : Abs) (c : Su175.Call) : ∀ z, Su175.does g c = z → z.2.value < 0 → z.1 = g ∧ z.2.out = [] := by
  intro z e h
  have nn : ∀ (n : Nat) (l : List Nat) (s : Abs), ¬ ((s, Su175.num n l) : Abs × Su175.Ans).2.value < 0 := fun n l s z => by
    have : (Int.ofNat n) < 0 := z
    exact absurd this (by simp)
  cases c <;> unfold Su175.does at e <;> simp only at e <;> (repeat' split at e) <;> subst e <;> first | exact ⟨rfl, rfl⟩ | exact absurd h (nn _ _ _)
theorem does_neg (g : Abs) (c : Su175.Call) (h : (Su175.does g c).2.value < 0) : (Su175.does g c).1 = g ∧ (Su175.does g c).2.out = [] := does_neg' g c _ rfl h
def OutO (K : PySem.W.Frag) (CG CS CD : Addr) (N : Addr → Prop) (H : Hp) (dk : Addr) (s : Option Abs) (zs : List V) (Q : VK) : Prop := ∀ r H', StaO K CG CS CD N H' dk s → Keep N H H' → H' r = some (.lst zs) → ¬ N r → Q (.ref r) H'
def DueO (K : PySem.W.Frag) (CR CG CS CD : Addr) (N : Addr → Prop) (H : Hp) (dk : Addr) (Q : VK) (E : XK) (z : Option Abs × Su175.Ans) : Prop :=
  (z.2.value < 0 → Refuse CR E H z.2.value) ∧ (0 ≤ z.2.value → OutO K CG CS CD N H dk z.1 (nL (z.2.value.toNat :: z.2.out)) Q)
def sp_done (K : PySem.W.Frag) (CR CG CS CD : Addr) : Sp := fun vs H Q E => ∃ (dk a b : Addr) (word : Nat) (N : Addr → Prop) (s : Option Abs) (nums row : List Nat), vs = [.ref dk, .int word, .ref a, .ref b] ∧ StaO K CG CS CD N H dk s ∧ Args N H a b nums row (cntN word) ∧ word < 18 ∧
  DueO K CR CG CS CD N H dk Q E (Su175.step s (callN word nums row))
def sp_begin (K : PySem.W.Frag) (CR CG CS CD : Addr) : Sp := fun vs H Q E => ∃ (dk a b : Addr) (N : Addr → Prop) (dd : Addr) (v0 v1 v2 : V) (nums row : List Nat), vs = [.ref dk, .ref a, .ref b] ∧ H dk = some (.ins CD dd (dF v0 v1 v2)) ∧ (∀ b, N b → b ≠ dk ∧ ∃ o, H b = some o ∧ ∀ xs, o ≠ .tup xs) ∧ Args N H a b nums row 2 ∧
  ((nums.getD 0 0 < 2 ∨ 4 < nums.getD 0 0 ∨ nums.getD 1 0 = 0 ∨ 3 < nums.getD 1 0 ∨ 8 < nums.getD 0 0 * nums.getD 1 0) → Refuse CR E H (-22)) ∧
  (¬ (nums.getD 0 0 < 2 ∨ 4 < nums.getD 0 0 ∨ nums.getD 1 0 = 0 ∨ 3 < nums.getD 1 0 ∨ 8 < nums.getD 0 0 * nums.getD 1 0) → OutOk K CG CS CD N H dk (Su175.new (nums.getD 0 0) (nums.getD 1 0)) [0] Q)
section
variable {P : Program} {w : World} {K : PySem.W.Frag} {mg : Str → Option Value} {base : Heap} {CR CG CS CD aON aSH aDE : Addr}
theorem c_begin (T : Top K mg CR CG CS CD aON aSH aDE) : CalG (L2.CX P w) P w K mg base 9 "begin" (sp_begin K CR CG CS CD) := by
  obtain ⟨f, fd, hg, hk, F, b⟩ := T.d_begin.ex
  refine ⟨f, fd, _, F.okX sc_begin (fun vs H Q E h => by obtain ⟨dk, a, b', N, dd, v0, v1, v2, nums, row, rfl, _⟩ := h; rfl) (fun cdv A outer s H vs Q E hr h => ⟨_, (pss_cons (ps_set (i := 3) sc_begin.nd rfl (Or.inl rfl) (pe_ix ix_list (pv 1) pe_int (fun _ _ => rfl)))
    (pss_cons (ps_set (i := 4) sc_begin.nd rfl (Or.inl rfl) (pe_ix ix_list (pv 1) pe_int (fun _ _ => rfl)))
    (pss_cons (ps_expr (pe_cg (c_need T) hr (by decide) rfl (passes_call (takes_of rfl rfl rfl rfl) (fun _ _ _ _ h => h)) (pa_cons (pe_and (pe_chain op_le op_le pe_int (pv 3) (pe_gk rfl T.k_MOST_PERSONS)) (pe_one (pe_chain op_le op_le pe_int (pv 4) (pe_gk rfl T.k_MOST_QUESTIONS)))) (pa_cons (pe_gk rfl T.k_NOT_AS_TOLD) pa_nil))))
    (pss_cons (ps_expr (pe_cg (c_need T) hr (by decide) rfl (passes_call (takes_of rfl rfl rfl rfl) (fun _ _ _ _ h => h)) (pa_cons (pe_cmpR op_le (pe_op op_mul (pv 3) (pv 4)) (pe_gk rfl T.k_MOST_IN_ALL) (nomark _)) (pa_cons (pe_gk rfl T.k_NOT_AS_TOLD) pa_nil))))
    (pss_cons (ps_expr (pe_mg (c_Desk_begin T) hr (by decide) pass0 (pv 0) (pa_cons (pv 3) (pa_cons (pv 4) pa_nil))))
    (pss_one (ps_ret (pe_lst (pa_cons pe_int pa_nil))))))))), ?_⟩), hg, hk, b⟩
  obtain ⟨dk, a, b', N, dd, v0, v1, v2, nums, row, rfl, h⟩ := h
  obtain ⟨hdk, res, ar, no, yes⟩ := h
  have n0 : 0 < nums.length := by rw [ar.len]; decide
  have n1 : 1 < nums.length := by rw [ar.len]; decide
  refine ⟨_, rfl, a, _, 0, _, rfl, rfl, SqL.of ar.ha, nL_ix (i := 0) n0, _, rfl, a, _, 1, _, rfl, rfl, SqL.of ar.ha, nL_ix (i := 1) n1, ?_⟩
  generalize nums.getD 0 0 = k at no yes ⊢
  generalize nums.getD 1 0 = q at no yes ⊢
  refine ⟨_, rfl, _, _, rfl, rfl, _, rfl, if2 (fun c1 => ⟨_, _, rfl, rfl, _, rfl, if2 (fun c2 => ⟨_, rfl, _, _, rfl, rfl, _, rfl, if2 (fun c3 => ⟨_, _, rfl, rfl, _, _, rfl, fun c4 => ?_, fun c4 => ?_⟩) (fun c3 => ⟨_, _, rfl, fun z => Bool.noConfusion z, fun _ => ?_⟩)⟩) (fun c2 => ⟨_, _, rfl, fun z => Bool.noConfusion z, fun _ => ?_⟩)⟩) (fun c1 => ⟨_, rfl, ifF rfl ⟨_, _, rfl, fun z => Bool.noConfusion z, fun _ => ?_⟩⟩)⟩
  case refine_2 => have := of_decide_eq_false c4; exact no (by omega)
  case refine_3 => have := of_decide_eq_false c3; exact no (by omega)
  case refine_4 => have := of_decide_eq_false c2; exact no (by omega)
  case refine_5 => have := of_decide_eq_false c1; exact no (by omega)
  have k2 : 2 ≤ k := by have := of_decide_eq_true c1; omega
  have k4 : k ≤ 4 := by have := of_decide_eq_true c2; omega
  have q1 : 1 ≤ q := by have := of_decide_eq_true c3; omega
  have q3 : q ≤ 3 := by have := of_decide_eq_true c4; omega
  refine ⟨_, rfl, _, rfl, _, _, rfl, rfl, .inl ⟨by omega, by omega⟩, _, _, rfl, rfl, _, _, rfl, fun c5 => ?_, fun c5 => ?_⟩
  case refine_2 =>
    have := of_decide_eq_false c5
    rw [← Int.natCast_mul] at this
    exact no (.inr (.inr (.inr (.inr (by omega)))))
  have kq : k * q ≤ 8 := by
    have := of_decide_eq_true c5
    rw [← Int.natCast_mul] at this
    omega
  refine ⟨_, rfl, dk, dd, _, rfl, hdk, dF_not (by decide +kernel), _, rfl, _, rfl, dk, k, q, dd, v0, v1, v2, rfl, hdk, k4, q1, q3, fun H' gp dg rw' mu wn sp ds o l u W vu vw hgp hmu hwn hsp ho hl hu hw n1' n2 n3 wl wu lmu lwn umu uwn hgp' hmu' hwn' hR gpsp hdk' hsp' ho' hl' hu' mv hw' mw sx => ?_⟩
  refine ⟨(by show 1 ≤ sizeLine; decide), fun r hr => ?_⟩
  let y : Lay := { gp := gp, sp := sp, w := W, mu := mu, wn := wn, rw := rw', o := o, l := l, u := u, dd := dd, dg := dg, ds := ds }
  have fd : ∀ {b}, H b = none → b ≠ dk := fun e z => by rw [z, hdk] at e; cases e
  have fN : ∀ {b}, H b = none → ¬ N b := fun e z => by
    obtain ⟨_, o, h, _⟩ := res _ z
    rw [h] at e
    cases e
  have nA : ∀ {b}, H b = none → b ≠ sp → b ≠ W → b ≠ mu → b ≠ wn → ¬ Aset N dk y b := fun e h1 h2 h3 h4 z => by
    rcases z with z | z | z | z | z | z
    · exact fd e z
    · exact h1 z
    · exact h2 z
    · exact h3 z
    · exact h4 z
    · exact fN e z
  have ne : ∀ {b c : Addr} {o1 o2 : HO}, H' b = some o1 → H' c = some o2 → o1 ≠ o2 → b ≠ c := fun e1 e2 h z => h (by rw [z, e2] at e1; exact (Option.some.inj e1).symm)
  obtain ⟨hr0, hrA, ys, hy, hyl, hyr⟩ := hR
  simp only [List.mem_cons, List.not_mem_nil, or_false, not_or] at hrA
  have st : St K CG CS CD N (cutH H' (Aset N dk y)) H' dk y (Su175.new k q) := by
    refine st_cut (y := y) (Mx.ok_new k2 k4 q1 q3 kq) hdk' hgp' (nA hgp gpsp (ne hgp' hw' (by intro z; cases z)) (ne hgp' hmu' (by intro z; cases z)) (ne hgp' hwn' (by intro z; cases z))) hmu' hwn' ⟨ys, hy, hyl, fun i v hv => ?_⟩ (nA hr0 hrA.2.2.2.2 hrA.2.2.2.1 hrA.2.1 hrA.2.2.1) hsp' ⟨ho', [], hl', ⟨rfl, fun i v q hh => by simp at hh⟩⟩
      (nA hl (ne hl' hsp' (by intro z; cases z)) (Ne.symm wl) lmu lwn) (nA hu (ne hu' hsp' (by intro z; cases z)) (Ne.symm wu) umu uwn) ⟨vu, hu', mv⟩ ⟨vw, hw', ?_⟩ n1' n2 n3 fun b n => ?_
    · obtain ⟨a1, e, ha, haA, hav⟩ := hyr i v hv
      simp only [List.mem_cons, List.not_mem_nil, or_false, not_or] at haA
      exact ⟨a1, e, hav, nA ha haA.2.2.2.2 haA.2.2.2.1 haA.2.1 haA.2.2.1⟩
    · show MeV K H' vw (List.replicate k (List.replicate q (Su175.blank 0))).flatten
      rw [Mx.flat_rep]
      exact mw
    · obtain ⟨h1, o1, h2, h3⟩ := res b n
      have nf : ∀ {c : Addr}, H c = none → b ≠ c := fun e z => by rw [z, e] at h2; cases h2
      exact ⟨nf hw, nf hmu, nf hwn, h1, nf hsp, o1, sx _ _ h1 h2, h3⟩
  exact out_fin (yes (by omega)) ⟨_, y, st⟩ (fun b ob n e => sx _ _ (res b n).1 e) hr rfl
theorem held_of {CX : CXT} {k : Nat} {x : Str} {sp sp' : Sp} {f' : Addr} (c : CalG CX P w K mg base k x sp) (h : mg x = some (.ref f')) (hk : k ≤ 9) (hs : ∀ vs H Q E, sp' vs H Q E → sp vs H Q E) : HeldG CX P w K mg base 9 f' sp' := by
  obtain ⟨f1, fd, ps, F, hm, kp, b⟩ := c.ex
  rw [hm] at h
  cases h
  exact ⟨fd, ps, (F.mono hk).imp hs, kp, b⟩
theorem held_of0 {CX : CXT} {k : Nat} {x : Str} {sp sp' : Sp} {f' : Addr} (c : CalG CX0 P w K mg base k x sp) (h : mg x = some (.ref f')) (hk : k ≤ 9) (hs : ∀ vs H Q E, sp' vs H Q E → sp vs H Q E) : HeldG CX P w K mg base 9 f' sp' := by
  obtain ⟨f1, fd, ps, F, hm, kp, b⟩ := c.ex
  rw [hm] at h
  cases h
  exact ⟨fd, ps, (fn_any (F.mono hk)).imp hs, kp, b⟩
end
end Ss
namespace Ss
open PySem PySem.Spec PyProof.Rows L2
open Su173 (Spin)
open Su175 (Abs)
theorem step_some (g : Abs) (c : Su175.Call) : Su175.step (some g) c = (some (Su175.does g c).1, (Su175.does g c).2) := by cases c <;> rfl
theorem step_none {n : Nat} (h : n ≠ 0) (ns x : List Nat) : Su175.step none (callN n ns x) = (none, Su175.no (-11)) := by
  unfold callN
  split <;> first | rfl | exact absurd rfl h
theorem step_beg (k q : Nat) : Su175.step none (.begin_ k q) = if k < 2 ∨ 4 < k ∨ q = 0 ∨ 3 < q ∨ 8 < k * q then (none, Su175.no (-22)) else (some (Su175.new k q), Su175.num 0 []) := by
  by_cases c : k < 2 ∨ 4 < k ∨ q = 0 ∨ 3 < q ∨ 8 < k * q
  · rw [if_pos c]
    have e : Su175.does (Su175.new 2 1) (.begin_ k q) = (Su175.new 2 1, Su175.no (-22)) := if_pos c
    show (if (Su175.does (Su175.new 2 1) (.begin_ k q)).2.value < 0 then none else some (Su175.does (Su175.new 2 1) (.begin_ k q)).1, (Su175.does (Su175.new 2 1) (.begin_ k q)).2) = _
    rw [e]
    rfl
  · rw [if_neg c]
    have e : Su175.does (Su175.new 2 1) (.begin_ k q) = (Su175.new k q, Su175.num 0 []) := if_neg c
    show (if (Su175.does (Su175.new 2 1) (.begin_ k q)).2.value < 0 then none else some (Su175.does (Su175.new 2 1) (.begin_ k q)).1, (Su175.does (Su175.new 2 1) (.begin_ k q)).2) = _
    rw [e]
    rfl
theorem step_neg (s : Option Abs) (n : Nat) (ns x : List Nat) (h : (Su175.step s (callN n ns x)).2.value < 0) : (Su175.step s (callN n ns x)).1 = s ∧ (Su175.step s (callN n ns x)).2.out = [] := by
  cases s with
  | some g =>
    rw [step_some] at h ⊢
    have := does_neg g _ h
    exact ⟨congrArg some this.1, this.2⟩
  | none =>
    by_cases c : n = 0
    · subst c
      have e : callN 0 ns x = .begin_ (ns.getD 0 0) (ns.getD 1 0) := rfl
      rw [e] at h ⊢
      rw [step_beg] at h ⊢
      by_cases d : ns.getD 0 0 < 2 ∨ 4 < ns.getD 0 0 ∨ ns.getD 1 0 = 0 ∨ 3 < ns.getD 1 0 ∨ 8 < ns.getD 0 0 * ns.getD 1 0
      · rw [if_pos d]
        exact ⟨rfl, rfl⟩
      · rw [if_neg d] at h
        exact absurd h (by show ¬ (Int.ofNat 0) < 0; decide)
    · rw [step_none c]
      exact ⟨rfl, rfl⟩
section
variable {P : Program} {w : World} {K : PySem.W.Frag} {mg : Str → Option Value} {base : Heap} {CR CG CS CD aON aSH aDE : Addr}
theorem StaO.same {N : Addr → Prop} {H H' : Hp} {dk : Addr} {s : Option Abs} (h : StaO K CG CS CD N H dk s) (e : Same H H') : StaO K CG CS CD N H' dk s := by
  cases s with
  | some g =>
    obtain ⟨G, y, t⟩ := h
    exact ⟨G, y, t.same e⟩
  | none =>
    obtain ⟨dd, w, h1, h2⟩ := h
    exact ⟨dd, w, e _ _ h1, fun b n => let ⟨h3, o, h4, h5⟩ := h2 b n; ⟨h3, o, e _ _ h4, h5⟩⟩
theorem StaO.dk {N : Addr → Prop} {H : Hp} {dk : Addr} {s : Option Abs} (h : StaO K CG CS CD N H dk s) : (∃ dd v0 v1 v2, H dk = some (.ins CD dd (dF v0 v1 v2)) ∧ (s = none → v0 = .non) ∧ (∀ g, s = some g → ∃ a, v0 = .ref a)) ∧ ∀ b, N b → b ≠ dk ∧ ∃ o, H b = some o ∧ ∀ xs, o ≠ .tup xs := by
  cases s with
  | some g =>
    obtain ⟨G, y, t⟩ := h
    exact ⟨⟨_, _, _, _, t.hdk, fun e => (nomatch e), fun _ _ => ⟨_, rfl⟩⟩, fun b n => let ⟨_, _, _, _, h4, _, o, h6, h7⟩ := t.res b n; ⟨h4, o, h6, h7⟩⟩
  | none =>
    obtain ⟨dd, w, h1, h2⟩ := h
    exact ⟨⟨_, _, _, _, h1, fun _ => rfl, fun _ e => (nomatch e)⟩, h2⟩
theorem deeds_held (T : Top K mg CR CG CS CD aON aSH aDE) : ∃ fs : List V, KTup K aDE fs ∧ (∃ f', fs[0]? = some (.ref f') ∧ HeldG (L2.CX P w) P w K mg base 9 f' (sp_begin K CR CG CS CD)) ∧
    ∀ n, 0 < n → n < 18 → ∃ f', fs[n]? = some (.ref f') ∧ HeldG (L2.CX P w) P w K mg base 9 f' (sp_deed K CR CG CS CD (cntN n) (callN n)) := by
  obtain ⟨f0, f1, f2, f3, f4, f5, f6, f7, f8, f9, f10, f11, f12, f13, f14, f15, f16, f17, hT, m0, m1, m2, m3, m4, m5, m6, m7, m8, m9, m10, m11, m12, m13, m14, m15, m16, m17⟩ := T.dee
  refine ⟨_, hT, ⟨f0, rfl, held_of (c_begin T) m0 (by decide) fun _ _ _ _ h => h⟩, fun n h0 h18 => ?_⟩
  match n, h0, h18 with
  | 0, h0, _ => exact absurd h0 (by decide)
  | 1, _, _ => exact ⟨f1, rfl, held_of (c_wins T) m1 (by decide) fun _ _ _ _ h => h⟩
  | 2, _, _ => exact ⟨f2, rfl, held_of (c_odd T) m2 (by decide) fun _ _ _ _ h => h⟩
  | 3, _, _ => exact ⟨f3, rfl, held_of (c_counts T) m3 (by decide) fun _ _ _ _ h => h⟩
  | 4, _, _ => exact ⟨f4, rfl, held_of (c_plan T) m4 (by decide) fun _ _ _ _ h => h⟩
  | 5, _, _ => exact ⟨f5, rfl, held_of0 (c_best T) m5 (by decide) fun _ _ _ _ h => h⟩
  | 6, _, _ => exact ⟨f6, rfl, held_of0 (c_plans T) m6 (by decide) fun _ _ _ _ h => h⟩
  | 7, _, _ => exact ⟨f7, rfl, held_of (c_spins T) m7 (by decide) fun _ _ _ _ h => h⟩
  | 8, _, _ => exact ⟨f8, rfl, held_of (c_link T) m8 (by decide) fun _ _ _ _ h => h⟩
  | 9, _, _ => exact ⟨f9, rfl, held_of0 (c_fresh T) m9 (by decide) fun _ _ _ _ h => h⟩
  | 10, _, _ => exact ⟨f10, rfl, held_of (c_sure T) m10 (by decide) fun _ _ _ _ h => h⟩
  | 11, _, _ => exact ⟨f11, rfl, held_of (c_measure T) m11 (by decide) fun _ _ _ _ h => h⟩
  | 12, _, _ => exact ⟨f12, rfl, held_of (c_mine T) m12 (by decide) fun _ _ _ _ h => h⟩
  | 13, _, _ => exact ⟨f13, rfl, held_of (c_chance T) m13 (by decide) fun _ _ _ _ h => h⟩
  | 14, _, _ => exact ⟨f14, rfl, held_of (c_parity T) m14 (by decide) fun _ _ _ _ h => h⟩
  | 15, _, _ => exact ⟨f15, rfl, held_of0 (c_value T) m15 (by decide) fun _ _ _ _ h => h⟩
  | 16, _, _ => exact ⟨f16, rfl, held_of (c_row_told T) m16 (by decide) fun _ _ _ _ h => h⟩
  | 17, _, _ => exact ⟨f17, rfl, held_of0 (c_state T) m17 (by decide) fun _ _ _ _ h => h⟩
  | n + 18, _, h => exact absurd h (by omega)
theorem c_done (T : Top K mg CR CG CS CD aON aSH aDE) : CalG (L2.CX P w) P w K mg base 10 "done" (sp_done K CR CG CS CD) := by
  obtain ⟨f, fd, hg, hk, F, b⟩ := T.d_done.ex
  refine ⟨f, fd, _, F.okX sc_done (fun vs H Q E h => by obtain ⟨dk, a, b', word, N, s', nums, row, rfl, _⟩ := h; rfl) (fun cdv A outer s H vs Q E hr h => ⟨_, (pss_cons (ps_expr (pe_cg (c_need T) hr (by decide) rfl (passes_call (takes_of rfl rfl rfl rfl) (fun _ _ _ _ h => h)) (pa_cons (pe_or (pe_cmpR op_eq (pv 1) (pe_gk rfl T.k_BEGIN) (nomark _)) (pe_one (pe_mg0 (c_Desk_is_begun T) hr (by decide) pass0 (pv 0)))) (pa_cons (pe_gk rfl T.k_NOT_BEGUN) pa_nil))))
    (pss_cons (ps_set (i := 4) sc_done.nd rfl (Or.inl rfl) (pe_ix ix_tup (pe_gk rfl T.k_DEEDS) (pv 1) (fun _ _ => rfl)))
    (pss_one (ps_ret (pe_held (i := 4) (S := fun f sp => HeldG (L2.CX P w) P w K mg base 9 f sp) (fun f sp h => h) hr (by decide) (passes_call (takes_of rfl rfl rfl rfl) (fun _ _ _ _ h => h)) rfl (Or.inl rfl) (pa_cons (pv 0) (pa_cons (pv 2) (pa_cons (pv 3) pa_nil)))))))), ?_⟩), hg, hk, b⟩
  obtain ⟨dk, a, b', word, N, s', nums, row, rfl, h⟩ := h
  obtain ⟨sta, ar, hw, hd⟩ := h
  obtain ⟨⟨dd, v0, v1, v2, hdk, hn, hs⟩, res⟩ := sta.dk
  obtain ⟨fs, hT, ⟨f0, hf0, hB⟩, hD⟩ := deeds_held (P := P) (w := w) (base := base) T
  by_cases c : word = 0
  · subst c
    refine ⟨_, rfl, rfl, _, rfl, ifT (by decide) ⟨_, _, rfl, fun _ => ?_, fun z => Bool.noConfusion z⟩⟩
    refine ⟨_, rfl, aDE, _, 0, _, rfl, rfl, hT.sq, atV (i := 0) hf0, ?_⟩
    refine ⟨f0, _, rfl, hB, _, rfl, _, rfl, _, rfl, dk, a, b', N, dd, v0, v1, v2, nums, row, rfl, hdk, res, ar, fun c => ?_, fun c => ?_⟩
    · cases s' with
      | some g =>
        have e : Su175.step (some g) (callN 0 nums row) = (some g, Su175.no (-22)) := by
          rw [step_some]
          have e : Su175.does g (callN 0 nums row) = (g, Su175.no (-22)) := if_pos c
          rw [e]
        rw [e] at hd
        exact hd.1 (by show (Int.negSucc _) < 0; exact Int.negSucc_lt_zero _)
      | none =>
        have e : Su175.step none (callN 0 nums row) = (none, Su175.no (-22)) := (step_beg _ _).trans (if_pos c)
        rw [e] at hd
        exact hd.1 (by show (Int.negSucc _) < 0; exact Int.negSucc_lt_zero _)
    · cases s' with
      | some g =>
        have e : Su175.step (some g) (callN 0 nums row) = (some (Su175.new (nums.getD 0 0) (nums.getD 1 0)), Su175.num 0 []) := by
          rw [step_some]
          have e : Su175.does g (callN 0 nums row) = (Su175.new (nums.getD 0 0) (nums.getD 1 0), Su175.num 0 []) := if_neg c
          rw [e]
        rw [e] at hd
        exact hd.2 (by show (0 : Int) ≤ Int.ofNat 0; decide)
      | none =>
        have e : Su175.step none (callN 0 nums row) = (some (Su175.new (nums.getD 0 0) (nums.getD 1 0)), Su175.num 0 []) := (step_beg _ _).trans (if_neg c)
        rw [e] at hd
        exact hd.2 (by show (0 : Int) ≤ Int.ofNat 0; decide)
  · refine ⟨_, rfl, rfl, _, rfl, ifF ((dVI (b := 0)).trans (decide_eq_false c)) ⟨_, rfl, dk, dd, _, rfl, hdk, dF_not (by decide +kernel), dk, dd, v0, v1, v2, rfl, hdk, _, _, rfl, fun z => ?_, fun z => ?_⟩⟩
    · cases s' with
      | none =>
        rw [hn rfl] at z
        exact absurd z (by decide)
      | some g =>
        obtain ⟨G, y, t⟩ := sta
        obtain ⟨f', hf, hH⟩ := hD word (by omega) hw
        refine ⟨_, rfl, aDE, _, word, _, rfl, rfl, hT.sq, atV hf, ?_⟩
        refine ⟨f', _, rfl, hH, _, rfl, _, rfl, _, rfl, dk, a, b', N, G, y, g, nums, row, rfl, t, ar, ?_⟩
        rw [step_some] at hd
        exact hd
    · cases s' with
      | none =>
        rw [step_none c] at hd
        exact hd.1 (by show (Int.negSucc _) < 0; exact Int.negSucc_lt_zero _)
      | some g =>
        obtain ⟨a0, e⟩ := hs g rfl
        rw [e] at z
        exact absurd z (by simp)
theorem pe_cgT {X : Cx} {CX : CXT} {k j : Nat} {x : Str} {sp : Sp} {p pos : Pos} {e : Expr} {es : List Expr} {t : TA} {E : L2.St → XK} (c : CalG CX X.prog X.w X.K X.mg X.base k x sp) (hr : Room j X.A) (hk : k ≤ j) (hg : Gl X x) (hx : ∀ σ, PassesAt CX X σ (E σ)) (ha : PA X (e :: es) t)
    (hdb : (x == ("__debug__" : Str)) = false := by decide) (he : starEach (e :: es) X.env = (false, eval e X.env) :: starEach es X.env := by rfl) (hpl : (backTo pos (starEach es X.env)).any (·.1) = false := by rfl) :
    PE X (.Call (.Name x p) (e :: es) [] pos) (tCallS sp E t) := pe_cgS c hr hk hg hx ha hdb he hpl
def sp_answered (K : PySem.W.Frag) (CG CS CD : Addr) : Sp := fun vs H Q _ => ∃ (dk a b : Addr) (word : Nat) (N : Addr → Prop) (s : Option Abs) (nums row : List Nat), vs = [.ref dk, .int word, .ref a, .ref b] ∧ StaO K CG CS CD N H dk s ∧ Args N H a b nums row (cntN word) ∧ word < 18 ∧
  OutO K CG CS CD N H dk (Su175.step s (callN word nums row)).1 (V.int (Su175.step s (callN word nums row)).2.value :: nL (Su175.step s (callN word nums row)).2.out) Q
theorem c_answered (T : Top K mg CR CG CS CD aON aSH aDE) : CalG CX0 P w K mg base 11 "answered" (sp_answered K CG CS CD) := by
  obtain ⟨f, fd, hg, hk, F, b⟩ := T.d_answered.ex
  refine ⟨f, fd, _, F.ok sc_answered (fun vs H Q E h => by obtain ⟨dk, a, b', word, N, s', nums, row, rfl, _⟩ := h; rfl) (fun cdv A outer s H vs Q E hr h => ⟨_, (pss_one (ps_try_as (i := 4) (tb := fun W => tRet (tCallS (sp_done K CR CG CS CD) (WE W) (tCons (tVar 0) (tCons (tVar 1) (tCons (tVar 2) (tCons (tVar 3) tNil)))))) (ts := fun a cls d => tRet (tLst (tCons (tXf a cls d CR "code" (tVar 4)) tNil))) (Wout := fun _ _ _ _ => False) rfl rfl sc_answered.nd rfl rfl ⟨rfl, by decide, Or.inl T.g_Refused⟩ takes0 (fun W pn xe tk _ => pss_one (ps_ret (by exact (pe_cgT (c_done T) hr (by decide) rfl (fun σ => passAt tk σ) (by exact (pa_cons (pv 0) (pa_cons (pv 1) (pa_cons (pv 2) (pa_cons (pv 3) pa_nil))))))))) (fun a oe cls d pn hz hf => pss_one (ps_ret (by exact (pe_lst (pa_cons (pe_xf T.xf T.noCode hz hf (pv 4)) pa_nil))))))), ?_⟩), hg, hk, b⟩
  obtain ⟨dk, a, b', word, N, s', nums, row, rfl, h⟩ := h
  obtain ⟨sta, ar, hw, k⟩ := h
  refine ⟨_, rfl, _, rfl, _, rfl, _, rfl, dk, a, b', word, N, s', nums, row, rfl, sta, ar, hw, fun hneg d H' s1 hd0 hd1 => ?_, fun hpos => ?_⟩
  · obtain ⟨e1, e2⟩ := step_neg s' word nums row hneg
    refine ⟨true, T.te, fun _ x hx => ⟨_, rfl, rfl, rfl, d, _, _, rfl, hd1, rfl, (by show 1 ≤ sizeLine; decide), fun r hr => ?_⟩, fun z => Bool.noConfusion z⟩
    have s2 := Same.then (o := HO.lst [V.int (Su175.step s' (callN word nums row)).2.value]) s1 hr
    rw [e1, e2] at k
    refine k r _ (sta.same s2) (Keep.of s2) upd_same fun n => ?_
    obtain ⟨_, o, h1, _⟩ := sta.dk.2 r n
    have := s1 _ _ h1
    rw [hr] at this
    cases this
  · have e : ((Su175.step s' (callN word nums row)).2.value.toNat : Int) = (Su175.step s' (callN word nums row)).2.value := by omega
    have e2 : nL ((Su175.step s' (callN word nums row)).2.value.toNat :: (Su175.step s' (callN word nums row)).2.out) = V.int (Su175.step s' (callN word nums row)).2.value :: nL (Su175.step s' (callN word nums row)).2.out := by
      rw [← e]
      rfl
    rw [e2]
    exact k
end
end Ss
namespace Ss
open Su175 (Abs)
/-! ## the line of calls -/
def hasN : Nat → Bool
  | 1 | 2 | 3 | 4 | 7 | 10 | 11 | 12 | 13 | 14 | 16 => true
  | _ => false
/-- natural numbers as whole numbers -/
abbrev iL (xs : List Nat) : List Int := xs.map fun (n : Nat) => (n : Int)
theorem iL_take (xs : List Nat) (n : Nat) : (iL xs).take n = iL (xs.take n) := List.map_take.symm
theorem iL_drop (xs : List Nat) (n : Nat) : (iL xs).drop n = iL (xs.drop n) := List.map_drop.symm
theorem iL_app (xs ys : List Nat) : iL (xs ++ ys) = iL xs ++ iL ys := List.map_append
theorem iL_len (xs : List Nat) : (iL xs).length = xs.length := List.length_map _
theorem iL_nat : ∀ xs : List Nat, (iL xs).map Int.toNat = xs
  | [] => rfl
  | x :: xs => by
    show Int.toNat (x : Int) :: (iL xs).map Int.toNat = _
    rw [iL_nat xs, Int.toNat_natCast]
theorem nat_iL : ∀ {xs : List Int}, (∀ x ∈ xs, 0 ≤ x) → xs = iL (xs.map Int.toNat)
  | [], _ => rfl
  | x :: xs, h => by
    have h1 := h x (by simp)
    show x :: xs = ((x.toNat : Nat) : Int) :: iL (xs.map Int.toNat)
    rw [← nat_iL fun y hy => h y (by simp [hy])]
    congr 1
    omega
theorem shape_word {w n k : Nat} (h : PySu175.shape (w : Int) = some (n, k)) : w < 18 ∧ n = cntN w ∧ k = if hasN w = true then 1 else 0 := by
  have hw : w < 18 := by
    refine Classical.byContradiction fun c => ?_
    unfold PySu175.shape at h
    repeat rw [if_neg (by omega)] at h
    cases h
  match w, hw, h with
  | 0, _, h | 1, _, h | 2, _, h | 3, _, h | 4, _, h | 5, _, h | 6, _, h | 7, _, h | 8, _, h | 9, _, h | 10, _, h | 11, _, h | 12, _, h | 13, _, h | 14, _, h | 15, _, h | 16, _, h | 17, _, h => cases h; exact ⟨by decide, rfl, rfl⟩
  | n + 18, hw, _ => exact absurd hw (by omega)
/-- how a call stands: its numbers, its row, the rest -/
def Stands (w : Nat) (r row t : List Nat) : Prop := cntN w ≤ r.length ∧ ((hasN w = false ∧ row = [] ∧ t = r.drop (cntN w)) ∨ (hasN w = true ∧ ∃ m r2, r.drop (cntN w) = m :: r2 ∧ m ≤ r2.length ∧ row = r2.take m ∧ t = r2.drop m))
def rawOf (w : Nat) (ns row : List Nat) : List (List Int) := ((w : Int) :: iL ns) :: if hasN w = true then [iL row] else []
theorem call_turn {w : Nat} {r : List Nat} {c : List (List Int)} {t : List Int} (h : PyFlat.call PySu175.shape (iL (w :: r)) = some (c, t)) : w < 18 ∧ ∃ row t', Stands w r row t' ∧ t = iL t' ∧ c = rawOf w (r.take (cntN w)) row := by
  unfold PyFlat.call at h
  simp only [List.map_cons] at h
  cases e : PySu175.shape (w : Int) with
  | none => rw [e] at h; cases h
  | some nk =>
    obtain ⟨n, k⟩ := nk
    rw [e] at h
    simp only at h
    obtain ⟨hw, rfl, hk⟩ := shape_word e
    refine ⟨hw, ?_⟩
    by_cases hl : (iL r).length < cntN w
    · rw [if_pos hl] at h
      cases h
    rw [if_neg hl, iL_drop, iL_take] at h
    rw [iL_len] at hl
    cases hh : hasN w with
    | false =>
      rw [hh, if_neg Bool.false_ne_true] at hk
      subst hk
      unfold PyFlat.rows at h
      simp only [Option.some.injEq, Prod.mk.injEq] at h
      obtain ⟨rfl, rfl⟩ := h
      refine ⟨[], r.drop (cntN w), ⟨by omega, .inl ⟨hh, rfl, rfl⟩⟩, rfl, ?_⟩
      unfold rawOf
      rw [hh, if_neg Bool.false_ne_true]
    | true =>
      rw [hh, if_pos rfl] at hk
      subst hk
      unfold PyFlat.rows at h
      cases hd : r.drop (cntN w) with
      | nil =>
        rw [hd] at h
        simp only [List.map_nil, PyFlat.row] at h
        cases h
      | cons m r2 =>
        rw [hd] at h
        simp only [List.map_cons, PyFlat.row, Int.toNat_natCast] at h
        by_cases hm : (0 : Int) ≤ (m : Int) ∧ m ≤ (iL r2).length
        · rw [if_pos hm] at h
          simp only [PyFlat.rows, Option.some.injEq, Prod.mk.injEq] at h
          obtain ⟨rfl, rfl⟩ := h
          rw [iL_len] at hm
          refine ⟨r2.take m, r2.drop m, ⟨by omega, .inr ⟨hh, m, r2, hd, hm.2, rfl, rfl⟩⟩, iL_drop _ _, ?_⟩
          unfold rawOf
          rw [hh, if_pos rfl]
          show [_, (iL r2).take m] = _
          rw [iL_take]
        · rw [if_neg hm] at h
          cases h
theorem calls_turn {f : Nat} {w : Nat} {r : List Nat} {cs : List (List (List Int))} (h : PyFlat.calls PySu175.shape f (iL (w :: r)) = some cs) :
    ∃ f' cs' row t, cs = rawOf w (r.take (cntN w)) row :: cs' ∧ PyFlat.calls PySu175.shape f' (iL t) = some cs' ∧ w < 18 ∧ Stands w r row t := by
  cases f with
  | zero =>
    unfold PyFlat.calls at h
    simp at h
  | succ f =>
    unfold PyFlat.calls at h
    simp only [List.map_cons] at h
    cases e : PyFlat.call PySu175.shape ((w : Int) :: iL r) with
    | none => rw [e] at h; cases h
    | some ct =>
      obtain ⟨c, t⟩ := ct
      rw [e] at h
      simp only at h
      obtain ⟨hw, row, t', hst, rfl, rfl⟩ := call_turn (w := w) (r := r) e
      cases e2 : PyFlat.calls PySu175.shape f (iL t') with
      | none => rw [e2] at h; cases h
      | some cs' =>
        rw [e2] at h
        simp only [Option.some.injEq] at h
        exact ⟨f, cs', row, t', h.symm, e2, hw, hst⟩
theorem calls_nil {f : Nat} {cs : List (List (List Int))} (h : PyFlat.calls PySu175.shape f [] = some cs) : cs = [] := by
  cases f <;> (unfold PyFlat.calls at h; simp at h; exact h)
theorem len1 {ns : List Nat} (h : ns.length = 1) : ∃ a, ns = [a] := by
  match ns, h with
  | [a], _ => exact ⟨a, rfl⟩
theorem len2 {ns : List Nat} (h : ns.length = 2) : ∃ a b, ns = [a, b] := by
  match ns, h with
  | [a, b], _ => exact ⟨a, b, rfl⟩
theorem len3 {ns : List Nat} (h : ns.length = 3) : ∃ a b c, ns = [a, b, c] := by
  match ns, h with
  | [a, b, c], _ => exact ⟨a, b, c, rfl⟩
theorem len0 {ns : List Nat} (h : ns.length = 0) : ns = [] := List.length_eq_zero_iff.mp h
/-- the call as the document has it -/
theorem whole_of {w : Nat} {ns row : List Nat} (hw : w < 18) (hn : ns.length = cntN w) (hr : hasN w = false → row = []) : PySu175.whole (rawOf w ns row) = [(w : Int) :: (iL ns ++ iL row)] := by
  match w, hw, hn, hr with
  | 0, _, hn, hr => obtain ⟨a, b, rfl⟩ := len2 hn; obtain rfl := hr rfl; rfl
  | 1, _, hn, hr => obtain ⟨a, rfl⟩ := len1 hn; rfl
  | 2, _, hn, hr => obtain ⟨a, rfl⟩ := len1 hn; rfl
  | 3, _, hn, hr => obtain ⟨a, rfl⟩ := len1 hn; rfl
  | 4, _, hn, hr => obtain rfl := len0 hn; rfl
  | 5, _, hn, hr => obtain rfl := len0 hn; obtain rfl := hr rfl; rfl
  | 6, _, hn, hr => obtain ⟨a, rfl⟩ := len1 hn; obtain rfl := hr rfl; rfl
  | 7, _, hn, hr => obtain rfl := len0 hn; rfl
  | 8, _, hn, hr => obtain ⟨a, b, rfl⟩ := len2 hn; obtain rfl := hr rfl; rfl
  | 9, _, hn, hr => obtain rfl := len0 hn; obtain rfl := hr rfl; rfl
  | 10, _, hn, hr => obtain rfl := len0 hn; rfl
  | 11, _, hn, hr => obtain ⟨a, rfl⟩ := len1 hn; rfl
  | 12, _, hn, hr => obtain ⟨a, b, c, rfl⟩ := len3 hn; rfl
  | 13, _, hn, hr => obtain rfl := len0 hn; rfl
  | 14, _, hn, hr => obtain rfl := len0 hn; rfl
  | 15, _, hn, hr => obtain rfl := len0 hn; obtain rfl := hr rfl; rfl
  | 16, _, hn, hr => obtain rfl := len0 hn; rfl
  | 17, _, hn, hr => obtain rfl := len0 hn; obtain rfl := hr rfl; rfl
  | n + 18, hw, _, _ => exact absurd hw (by omega)
theorem callOf_of {w : Nat} {ns row : List Nat} (hw : w < 18) (hn : ns.length = cntN w) (hr : hasN w = false → row = []) : Su175Neutral.callOf ((w : Int) :: (iL ns ++ iL row)) = some (callN w ns row) := by
  have e := iL_nat row
  match w, hw, hn, hr with
  | 0, _, hn, hr => obtain ⟨a, b, rfl⟩ := len2 hn; obtain rfl := hr rfl; rfl
  | 1, _, hn, hr => obtain ⟨a, rfl⟩ := len1 hn; show some (Su175.Call.wins _ ((iL row).map Int.toNat)) = _; rw [e]; rfl
  | 2, _, hn, hr => obtain ⟨a, rfl⟩ := len1 hn; show some (Su175.Call.odd _ ((iL row).map Int.toNat)) = _; rw [e]; rfl
  | 3, _, hn, hr => obtain ⟨a, rfl⟩ := len1 hn; show some (Su175.Call.counts _ ((iL row).map Int.toNat)) = _; rw [e]; rfl
  | 4, _, hn, hr => obtain rfl := len0 hn; show some (Su175.Call.plan ((iL row).map Int.toNat)) = _; rw [e]; rfl
  | 5, _, hn, hr => obtain rfl := len0 hn; obtain rfl := hr rfl; rfl
  | 6, _, hn, hr => obtain ⟨a, rfl⟩ := len1 hn; obtain rfl := hr rfl; rfl
  | 7, _, hn, hr => obtain rfl := len0 hn; show some (Su175.Call.spins ((iL row).map Int.toNat)) = _; rw [e]; rfl
  | 8, _, hn, hr => obtain ⟨a, b, rfl⟩ := len2 hn; obtain rfl := hr rfl; rfl
  | 9, _, hn, hr => obtain rfl := len0 hn; obtain rfl := hr rfl; rfl
  | 10, _, hn, hr => obtain rfl := len0 hn; show some (Su175.Call.sure ((iL row).map Int.toNat)) = _; rw [e]; rfl
  | 11, _, hn, hr => obtain ⟨a, rfl⟩ := len1 hn; show some (Su175.Call.measure _ ((iL row).map Int.toNat)) = _; rw [e]; rfl
  | 12, _, hn, hr => obtain ⟨a, b, c, rfl⟩ := len3 hn; show some (Su175.Call.mine _ _ _ ((iL row).map Int.toNat)) = _; rw [e]; rfl
  | 13, _, hn, hr => obtain rfl := len0 hn; show some (Su175.Call.chance ((iL row).map Int.toNat)) = _; rw [e]; rfl
  | 14, _, hn, hr => obtain rfl := len0 hn; show some (Su175.Call.parity ((iL row).map Int.toNat)) = _; rw [e]; rfl
  | 15, _, hn, hr => obtain rfl := len0 hn; obtain rfl := hr rfl; rfl
  | 16, _, hn, hr => obtain rfl := len0 hn; show some (Su175.Call.row ((iL row).map Int.toNat)) = _; rw [e]; rfl
  | 17, _, hn, hr => obtain rfl := len0 hn; obtain rfl := hr rfl; rfl
  | n + 18, hw, _, _ => exact absurd hw (by omega)
theorem asked_row {w : Nat} {ns row : List Nat} (hw : w < 18) (hn : ns.length = cntN w) (hr : hasN w = false → row = []) (h : Su175Neutral.asked1 ((w : Int) :: (iL ns ++ iL row)) = true) : row.length ≤ 100 := by
  have nil : row = [] → row.length ≤ 100 := fun e => by rw [e]; decide
  have fin : ∀ {n : Nat}, n ≤ 100 → (iL row).length ≤ n → row.length ≤ 100 := fun h1 h2 => by rw [iL_len] at h2; omega
  match w, hw, hn, hr, h with
  | 0, _, hn, hr, h => exact nil (hr rfl)
  | 1, _, hn, hr, h | 2, _, hn, hr, h | 3, _, hn, hr, h | 11, _, hn, hr, h =>
    obtain ⟨a, rfl⟩ := len1 hn
    have h2 : (Su175Neutral.natural (a : Int) 32 && (decide ((iL row).length ≤ 10) && (iL row).all fun z => Su175Neutral.natural z 32)) = true := h
    simp only [Bool.and_eq_true] at h2
    exact fin (by decide) (of_decide_eq_true h2.2.1)
  | 4, _, hn, hr, h | 7, _, hn, hr, h | 10, _, hn, hr, h | 13, _, hn, hr, h | 14, _, hn, hr, h | 16, _, hn, hr, h =>
    obtain rfl := len0 hn
    have h2 : (decide ((iL row).length ≤ 12) && (iL row).all fun z => Su175Neutral.natural z 32) = true := h
    simp only [Bool.and_eq_true] at h2
    exact fin (by decide) (of_decide_eq_true h2.1)
  | 5, _, hn, hr, h => exact nil (hr rfl)
  | 6, _, hn, hr, h => exact nil (hr rfl)
  | 8, _, hn, hr, h => exact nil (hr rfl)
  | 9, _, hn, hr, h => exact nil (hr rfl)
  | 12, _, hn, hr, h =>
    obtain ⟨a, b, c, rfl⟩ := len3 hn
    have h2 : (Su175Neutral.natural (a : Int) 32 && (Su175Neutral.natural (b : Int) 32 && (Su175Neutral.natural (c : Int) 32 && (decide ((iL row).length ≤ 10) && (iL row).all fun z => Su175Neutral.natural z 32)))) = true := h
    simp only [Bool.and_eq_true] at h2
    exact fin (by decide) (of_decide_eq_true h2.2.2.2.1)
  | 15, _, hn, hr, h => exact nil (hr rfl)
  | 17, _, hn, hr, h => exact nil (hr rfl)
  | n + 18, hw, _, _, _ => exact absurd hw (by omega)
/-- what's answered behind a state -/
def behindS (s : Option Abs) (cs : List (List (List Int))) : List Int := PyFlat.told (PyFlat.played (fun s c => Su175Neutral.step s (c.headD [])) s (cs.map PySu175.whole))
def ansN (s : Option Abs) (w : Nat) (ns row : List Nat) : List Int := (Su175.step s (callN w ns row)).2.value :: iL (Su175.step s (callN w ns row)).2.out
theorem behind_nil (s : Option Abs) : behindS s [] = [] := rfl
theorem behind_cons {s : Option Abs} {w : Nat} {ns row : List Nat} {cs : List (List (List Int))} (hw : w < 18) (hn : ns.length = cntN w) (hr : hasN w = false → row = []) :
    behindS s (rawOf w ns row :: cs) = ((ansN s w ns row).length : Int) :: (ansN s w ns row ++ behindS (Su175.step s (callN w ns row)).1 cs) := by
  have e : Su175Neutral.step s (((w : Int) :: (iL ns ++ iL row))) = ((Su175.step s (callN w ns row)).1, ansN s w ns row) := by
    unfold Su175Neutral.step
    rw [callOf_of hw hn hr]
    rfl
  have e2 : Su175Neutral.step s ((PySu175.whole (rawOf w ns row)).headD []) = ((Su175.step s (callN w ns row)).1, ansN s w ns row) := by
    rw [whole_of hw hn hr]
    exact e
  show PyFlat.told ((Su175Neutral.step s ((PySu175.whole (rawOf w ns row)).headD [])).2 :: PyFlat.played (fun s c => Su175Neutral.step s (c.headD [])) (Su175Neutral.step s ((PySu175.whole (rawOf w ns row)).headD [])).1 (cs.map PySu175.whole)) = _
  rw [e2]
  rfl
theorem parse {ns : List Int} (h : PySu175.answers_asked ns = true) : ∃ raw, PyFlat.calls PySu175.shape ns.length ns = some raw ∧ (∀ c ∈ raw, Su175Neutral.asked1 ((PySu175.whole c).headD []) = true) ∧ PySu175.answers ns = behindS none raw ∧ (PySu175.answers ns).length ≤ 10000000 := by
  unfold PySu175.answers_asked at h
  cases e : PyFlat.calls PySu175.shape ns.length ns with
  | none => rw [e] at h; cases h
  | some raw =>
    rw [e] at h
    simp only [Bool.and_eq_true] at h
    obtain ⟨⟨⟨⟨h1, h2⟩, h3⟩, h4⟩, h5⟩ := h
    refine ⟨raw, rfl, fun c hc => ?_, ?_, of_decide_eq_true h5⟩
    · unfold Su175Neutral.asked at h4
      simp only [Bool.and_eq_true] at h4
      exact List.all_eq_true.mp h4.2 _ (List.mem_map.mpr ⟨_, List.mem_map.mpr ⟨c, hc, rfl⟩, rfl⟩)
    · unfold PySu175.answers PySu175.calls
      rw [e]
      rfl
end Ss
namespace Ss
open PySem PySem.Spec PyProof.Rows L2
open Su173 (Spin)
open Su175 (Abs)
section
variable {P : Program} {w : World} {K : PySem.W.Frag} {mg : Str → Option Value} {base : Heap} {CR CG CS CD aON aSH aDE : Addr}
theorem drop_head {xs : List Nat} {p n : Nat} {r : List Nat} (h : xs.drop p = n :: r) : xs[p]? = some n ∧ xs.drop (p + 1) = r ∧ xs.length = p + 1 + r.length := by
  refine ⟨?_, ?_, ?_⟩
  · have := List.getElem?_drop (xs := xs) (i := p) (j := 0)
    rw [h] at this
    simpa using this.symm
  · have := List.drop_drop (l := xs) (i := 1) (j := p)
    rw [h] at this
    rw [← this]
    rfl
  · have := congrArg List.length h
    rw [List.length_drop, List.length_cons] at this
    omega
theorem cut3 {xs : List Nat} (p n : Nat) : cutV (nL xs) (some ((p : Int) + 1)) (some ((p : Int) + 1 + (n : Int))) = nL ((xs.drop (p + 1)).take n) := by
  have e1 : (p : Int) + 1 = ((p + 1 : Nat) : Int) := by omega
  have e2 : (p : Int) + 1 + (n : Int) = ((p + 1 + n : Nat) : Int) := by omega
  rw [e2, e1]
  unfold cutV
  rw [HT.sIx_nat, HT.sIx_nat, nL_len]
  unfold nL
  rw [← List.map_drop, ← List.map_drop, ← List.map_take, ← List.map_take]
  congr 2
  by_cases h : p + 1 ≤ xs.length
  · rw [Nat.min_eq_left h]
    by_cases h2 : p + 1 + n ≤ xs.length
    · rw [Nat.min_eq_left h2, Nat.add_sub_cancel_left]
    · rw [Nat.min_eq_right (by omega), List.take_of_length_le (by rw [List.length_drop]; exact Nat.le_refl _), List.take_of_length_le (by rw [List.length_drop]; omega)]
  · rw [Nat.min_eq_right (by omega), Nat.min_eq_right (by omega), List.drop_length, List.drop_eq_nil_of_le (by omega)]
    simp
def sp_row_at (K : PySem.W.Frag) : Sp := fun vs H Q _ => ∃ (a : Addr) (i : Nat) (ns : List Nat) (m : Nat) (r2 : List Nat), vs = [.ref a, .int i] ∧ SqL K H a (nL ns) ∧ ns.drop i = m :: r2 ∧ ∀ D, H D = none → Q (.ref D) (upd H D (.lst (nL (r2.take m))))
theorem c_row_at (T : Top K mg CR CG CS CD aON aSH aDE) : CalG CX0 P w K mg base 1 "row_at" (sp_row_at K) := by
  obtain ⟨f, fd, hg, hk, F, b⟩ := T.d_row_at.ex
  refine ⟨f, fd, _, F.ok sc_row_at (fun vs H Q E h => by obtain ⟨a, i, ns, m, r2, rfl, _⟩ := h; rfl) (fun cdv A outer s H vs Q E hr h => ⟨_, (pss_cons (ps_set (i := 2) sc_row_at.nd rfl (Or.inl rfl) (pe_ix ix_list (pv 0) (pv 1) (fun _ _ => rfl)))
    (pss_one (ps_ret (pe_slice sl_list (pv 0) (po_some (pe_op op_add (pv 1) pe_int)) (po_some (pe_op op_add (pe_op op_add (pv 1) pe_int) (pv 2))))))), ?_⟩), hg, hk, b⟩
  obtain ⟨a, i, ns, m, r2, rfl, h⟩ := h
  obtain ⟨hS, hdr, k⟩ := h
  obtain ⟨h1, h2, h3⟩ := drop_head hdr
  refine ⟨_, rfl, _, rfl, a, _, _, _, rfl, rfl, hS, atV (nL_at h1), ?_⟩
  refine ⟨_, rfl, _, rfl, _, _, rfl, rfl, _, rfl, _, rfl, _, _, rfl, rfl, _, rfl, _, _, rfl, rfl, _, rfl, a, _, rfl, hS, fun D hD => ?_⟩
  have := k D hD
  rw [← h2, ← cut3] at this
  exact this
theorem shapes (T : Top K mg CR CG CS CD aON aSH aDE) : ∃ fs : List V, KTup K aSH fs ∧ ∀ n, n < 18 → ∃ b, fs[n]? = some (.ref b) ∧ KTup K b [.int (cntN n : Nat), .bl (hasN n)] := by
  obtain ⟨b0, b1, b2, b3, b4, b5, b6, b7, b8, b9, b10, b11, b12, b13, b14, b15, b16, b17, hT, m0, m1, m2, m3, m4, m5, m6, m7, m8, m9, m10, m11, m12, m13, m14, m15, m16, m17⟩ := T.shp
  refine ⟨_, hT, fun n h18 => ?_⟩
  match n, h18 with
  | 0, _ => exact ⟨b0, rfl, m0⟩
  | 1, _ => exact ⟨b1, rfl, m1⟩
  | 2, _ => exact ⟨b2, rfl, m2⟩
  | 3, _ => exact ⟨b3, rfl, m3⟩
  | 4, _ => exact ⟨b4, rfl, m4⟩
  | 5, _ => exact ⟨b5, rfl, m5⟩
  | 6, _ => exact ⟨b6, rfl, m6⟩
  | 7, _ => exact ⟨b7, rfl, m7⟩
  | 8, _ => exact ⟨b8, rfl, m8⟩
  | 9, _ => exact ⟨b9, rfl, m9⟩
  | 10, _ => exact ⟨b10, rfl, m10⟩
  | 11, _ => exact ⟨b11, rfl, m11⟩
  | 12, _ => exact ⟨b12, rfl, m12⟩
  | 13, _ => exact ⟨b13, rfl, m13⟩
  | 14, _ => exact ⟨b14, rfl, m14⟩
  | 15, _ => exact ⟨b15, rfl, m15⟩
  | 16, _ => exact ⟨b16, rfl, m16⟩
  | 17, _ => exact ⟨b17, rfl, m17⟩
  | n + 18, h => exact absurd h (by omega)
def sp_call_at (K : PySem.W.Frag) : Sp := fun vs H Q _ => ∃ (a : Addr) (p : Nat) (ns : List Nat) (n : Nat) (r row t : List Nat), vs = [.ref a, .int p] ∧ SqL K H a (nL ns) ∧ ns.drop p = n :: r ∧ n < 18 ∧ Stands n r row t ∧
  ∀ tt b1 b2 (p' : Nat) H', Same H H' → ns.drop p' = t → p < p' → p' ≤ ns.length → H' tt = some (.tup [.int n, .ref b1, .ref b2, .int p']) → H b1 = none → H b2 = none → H' b1 = some (.lst (nL (r.take (cntN n)))) → H' b2 = some (.lst (nL row)) → Q (.ref tt) H'
theorem c_call_at (T : Top K mg CR CG CS CD aON aSH aDE) : CalG CX0 P w K mg base 2 "call_at" (sp_call_at K) := by
  obtain ⟨f, fd, hg, hk, F, b⟩ := T.d_call_at.ex
  refine ⟨f, fd, _, F.ok sc_call_at (fun vs H Q E h => by obtain ⟨a, p, ns, n, r, row, t, rfl, _⟩ := h; rfl) (fun cdv A outer s H vs Q E hr h => ⟨_, (pss_cons (ps_set (i := 2) sc_call_at.nd rfl (Or.inl rfl) (pe_ix ix_list (pv 0) (pv 1) (fun _ _ => rfl)))
    (pss_cons (ps_asg (pe_ix ix_tup (pe_gk rfl T.k_SHAPES) (pv 2) (fun _ _ => rfl)) (pg_tup rfl (pgs_cons (pg_name (i := 3) sc_call_at.nd rfl (Or.inl rfl)) (pgs_cons (pg_name (i := 4) sc_call_at.nd rfl (Or.inl rfl)) pgs_nil))))
    (pss_cons (ps_set (i := 5) sc_call_at.nd rfl (Or.inl rfl) (pe_op op_add (pe_op op_add (pv 1) pe_int) (pv 3)))
    (pss_cons (ps_set (i := 6) sc_call_at.nd rfl (Or.inl rfl) (pe_slice sl_list (pv 0) (po_some (pe_op op_add (pv 1) pe_int)) (po_some (pv 5))))
    (pss_cons (ps_if (pt_not (pt_val (pv 4))) (pss_one (ps_ret (pe_tup (pa_cons (pv 2) (pa_cons (pv 6) (pa_cons (pe_lst pa_nil) (pa_cons (pv 5) pa_nil))))))) pss_nil)
    (pss_cons (ps_set (i := 7) sc_call_at.nd rfl (Or.inl rfl) (pe_cg (c_row_at T) hr (by decide) rfl pass0 (pa_cons (pv 0) (pa_cons (pv 5) pa_nil))))
    (pss_one (ps_ret (pe_tup (pa_cons (pv 2) (pa_cons (pv 6) (pa_cons (pv 7) (pa_cons (pe_op op_add (pe_op op_add (pv 5) pe_int) (pe_callB call_len_seq (by rfl) T.b_len boot_flen (pa_cons (pv 7) pa_nil))) pa_nil))))))))))))), ?_⟩), hg, hk, b⟩
  obtain ⟨a, p, ns, n, r, row, t, rfl, h⟩ := h
  obtain ⟨hS, hdr, hn, ⟨hcl, hst⟩, k⟩ := h
  obtain ⟨h1, h2, h3⟩ := drop_head hdr
  obtain ⟨fs, hT, hsh⟩ := shapes T
  obtain ⟨bs, hb, hbs⟩ := hsh n hn
  refine ⟨_, rfl, _, rfl, a, _, _, _, rfl, rfl, hS, atV (nL_at h1), ?_⟩
  refine ⟨_, rfl, aSH, _, n, _, rfl, rfl, hT.sq, atV hb, bs, _, rfl, hbs.sq, rfl, _, _, rfl, _, _, rfl, rfl, ?_⟩
  refine ⟨_, rfl, _, _, rfl, rfl, _, rfl, _, _, rfl, rfl, ?_⟩
  refine ⟨_, rfl, _, rfl, _, _, rfl, rfl, _, rfl, _, rfl, _, rfl, a, _, rfl, hS, fun b1 hb1 => ?_⟩
  rw [cut3, h2]
  have s1 : Same H (upd H b1 (.lst (nL (r.take (cntN n))))) := Same.new hb1
  refine ⟨_, rfl, _, rfl, ?_⟩
  have ed : ns.drop (p + 1 + cntN n) = r.drop (cntN n) := by
    rw [← h2, List.drop_drop]
  rcases hst with ⟨hh, rfl, rfl⟩ | ⟨hh, m, r2, hd2, hm, rfl, rfl⟩
  · rw [hh]
    refine iteT ⟨_, rfl, _, rfl, (by show 0 ≤ sizeLine; decide), fun b2 hb2 => ⟨_, rfl, (by show 4 ≤ sizeLine; decide), fun tt htt => ?_⟩⟩
    have s2 := Same.new (o := HO.lst []) hb2
    have s3 := Same.new (o := HO.tup [.int n, .ref b1, .ref b2, .int ((p : Int) + 1 + (cntN n : Nat))]) htt
    exact k tt b1 b2 (p + 1 + cntN n) _ (Same.trans s1 (Same.trans s2 s3)) ed (by omega) (by omega) upd_same hb1 (Same.free s1 hb2) (s3 _ _ (s2 _ _ upd_same)) (s3 _ _ upd_same)
  · rw [hh]
    have e3 : (ns.drop (p + 1 + cntN n)) = m :: r2 := ed.trans hd2
    obtain ⟨g1, g2, g3⟩ := drop_head e3
    refine iteF ⟨_, rfl, _, rfl, a, p + 1 + cntN n, ns, m, r2, rfl, Same.seq s1 hS, e3, fun b2 hb2 => ?_⟩
    have s2 := Same.new (o := HO.lst (nL (r2.take m))) hb2
    refine ⟨_, rfl, _, rfl, _, rfl, _, rfl, _, _, rfl, rfl, _, rfl, b2, _, rfl, .inl (SqL.of upd_same), _, _, rfl, rfl, (by show 4 ≤ sizeLine; decide), fun tt htt => ?_⟩
    have hlen : (nL (r2.take m)).length = m := by rw [nL_len, List.length_take, Nat.min_eq_left hm]
    have s3 := Same.new (o := HO.tup [.int n, .ref b1, .ref b2, .int ((p : Int) + 1 + (cntN n : Nat) + 1 + ((nL (r2.take m)).length : Nat))]) htt
    refine k tt b1 b2 (p + 1 + cntN n + 1 + m) _ (Same.trans s1 (Same.trans s2 s3)) ?_ (by omega) (by omega) ?_ hb1 (Same.free s1 hb2) (s3 _ _ (s2 _ _ upd_same)) (s3 _ _ upd_same)
    · rw [← g2, List.drop_drop]
    · have e4 : V.int ((p : Int) + 1 + (cntN n : Nat) + 1 + ((nL (r2.take m)).length : Nat)) = V.int ((p + 1 + cntN n + 1 + m : Nat) : Int) := ve (by rw [hlen]; omega)
      rw [← e4]
      exact upd_same
/-! ## all calls -/
theorem sqlAt {H H' : Hp} {a : Addr} {xs : List V} (h : SqL K H a xs) (e : ∀ o, H a = some o → H' a = some o) : SqL K H' a xs := by
  rcases h with (h | ⟨o, h⟩) | h
  · exact .inl (.inl (e _ h))
  · exact .inl (.inr ⟨o, e _ h⟩)
  · exact .inr h
theorem StaO.fewer {N N' : Addr → Prop} {H : Hp} {dk : Addr} {s : Option Abs} (h : StaO K CG CS CD N H dk s) (e : ∀ b, N' b → N b) : StaO K CG CS CD N' H dk s := by
  cases s with
  | some g =>
    obtain ⟨G, y, t⟩ := h
    exact ⟨G, y, t.fewer e⟩
  | none =>
    obtain ⟨dd, w, h1, h2⟩ := h
    exact ⟨dd, w, h1, fun b n => h2 b (e b n)⟩
/-- new lists are kept too -/
theorem StaO.add {N : Addr → Prop} {H H' : Hp} {dk : Addr} {s : Option Abs} {B : Addr → Prop} (h : StaO K CG CS CD N H dk s) (e : Same H H') (hB : ∀ b, B b → H b = none ∧ ∃ zs, H' b = some (.lst zs)) : StaO K CG CS CD (fun b => B b ∨ N b) H' dk s := by
  cases s with
  | some g =>
    obtain ⟨G, y, t⟩ := h
    have t' := t.same e
    refine ⟨G, y, { t' with res := fun b n => ?_ }⟩
    rcases n with n | n
    · obtain ⟨h1, zs, h2⟩ := hB b n
      have nA := t.freeA h1
      unfold Aset at nA
      simp only [not_or] at nA
      exact ⟨Same.free t.s h1, nA.2.2.1, nA.2.2.2.1, nA.2.2.2.2.1, nA.1, nA.2.1, _, h2, fun xs z => by cases z⟩
    · exact t'.res b n
  | none =>
    obtain ⟨dd, w, h1, h2⟩ := h
    refine ⟨dd, w, e _ _ h1, fun b n => ?_⟩
    rcases n with n | n
    · obtain ⟨h3, zs, h4⟩ := hB b n
      exact ⟨fun z => (by rw [z, h1] at h3; cases h3), _, h4, fun xs z => by cases z⟩
    · obtain ⟨h3, o, h4, h5⟩ := h2 b n
      exact ⟨h3, o, e _ _ h4, h5⟩
/-- a kept list is changed -/
theorem StaO.poke {N : Addr → Prop} {H : Hp} {dk L : Addr} {s : Option Abs} (h : StaO K CG CS CD N H dk s) (hL : N L) (zs : List V) : StaO K CG CS CD N (upd H L (.lst zs)) dk s := by
  cases s with
  | some g =>
    obtain ⟨G, y, t⟩ := h
    obtain ⟨h0, h1, h2, h3, h4, h5, _⟩ := t.res L hL
    refine ⟨G, y, { t with s := fun b o e => ?_, hdk := ?_, hmu := ?_, hwn := ?_, hsp := ?_, hw := ?_, res := fun b n => ?_ }⟩
    · rw [upd_ne (fun z => by rw [z, h0] at e; cases e)]
      exact t.s _ _ e
    · rw [upd_ne (Ne.symm h4)]; exact t.hdk
    · rw [upd_ne (Ne.symm h2)]; exact t.hmu
    · rw [upd_ne (Ne.symm h3)]; exact t.hwn
    · rw [upd_ne (Ne.symm h5)]; exact t.hsp
    · obtain ⟨vw, hw, mw⟩ := t.hw
      exact ⟨vw, by rw [upd_ne (Ne.symm h1)]; exact hw, mw⟩
    · obtain ⟨k0, k1, k2, k3, k4, k5, o, k6, k7⟩ := t.res b n
      refine ⟨k0, k1, k2, k3, k4, k5, ?_⟩
      by_cases c : b = L
      · subst c
        exact ⟨_, upd_same, fun xs z => by cases z⟩
      · exact ⟨o, by rw [upd_ne c]; exact k6, k7⟩
  | none =>
    obtain ⟨dd, w, h1, h2⟩ := h
    refine ⟨dd, w, by rw [upd_ne (Ne.symm (h2 L hL).1)]; exact h1, fun b n => ?_⟩
    obtain ⟨h3, o, h4, h5⟩ := h2 b n
    refine ⟨h3, ?_⟩
    by_cases c : b = L
    · subst c
      exact ⟨_, upd_same, fun xs z => by cases z⟩
    · exact ⟨o, by rw [upd_ne c]; exact h4, h5⟩
def spAns (K : PySem.W.Frag) : Sp := fun vs H Q _ => ∃ (a : Addr) (ns : List Int), vs = [.ref a] ∧ SqL K H a (ns.map V.int) ∧ OnlyF H ∧ PySu175.answers_asked ns = true ∧ (∀ x ∈ ns, 0 ≤ x ∧ x ≤ 4294967295) ∧ ns.length ≤ 6000 ∧
  ∀ (H' : Hp) (p : Addr), H' p = some (.lst ((PySu175.answers ns).map V.int)) → Q (.ref p) H'
theorem Stands.row {n : Nat} {r row t : List Nat} (h : Stands n r row t) : (hasN n = false → row = []) ∧ (∀ x ∈ row, x ∈ r) := by
  obtain ⟨_, h⟩ := h
  rcases h with ⟨h1, h2, _⟩ | ⟨h1, m, r2, h2, _, h3, _⟩
  · exact ⟨fun _ => h2, fun x hx => by rw [h2] at hx; cases hx⟩
  · refine ⟨fun z => ?_, fun x hx => ?_⟩
    · rw [h1] at z
      cases z
    · rw [h3] at hx
      have : x ∈ m :: r2 := List.mem_cons_of_mem _ (List.mem_of_mem_take hx)
      rw [← h2] at this
      exact List.mem_of_mem_drop this
theorem ok_answers (T : Top K mg CR CG CS CD aON aSH aDE) {f : Addr} {fd : FuncData} (F : L2.Fun K "answers" "answers" s_answers f fd) : FnOk P w K mg base CX0 12 f fd ["calls"] (spAns K) := by
  refine F.ok sc_answers (fun vs H Q E h => by obtain ⟨a, ns, rfl, _⟩ := h; rfl) (fun cdv A outer s H vs Q E hr h => ⟨_, (pss_cons (ps_set (i := 1) sc_answers.nd rfl (Or.inl rfl) (pe_mak0 (c_Desk_init T) hr (by decide) rfl))
    (pss_cons (ps_set (i := 2) sc_answers.nd rfl (Or.inl rfl) (pe_lst pa_nil))
    (pss_cons (ps_set (i := 3) sc_answers.nd rfl (Or.inl rfl) pe_int)
    (pss_cons (ps_while PassesOwn.never (pt_cmpR op_lt (pv 3) (pe_callB call_len_seq (by rfl) T.b_len boot_flen (pa_cons (pv 0) pa_nil)) (nomark _)) (pss_cons (ps_asg (pe_cg (c_call_at T) hr (by decide) rfl pass0 (pa_cons (pv 0) (pa_cons (pv 3) pa_nil))) (pg_tup rfl (pgs_cons (pg_name (i := 4) sc_answers.nd rfl (Or.inl rfl)) (pgs_cons (pg_name (i := 5) sc_answers.nd rfl (Or.inl rfl)) (pgs_cons (pg_name (i := 6) sc_answers.nd rfl (Or.inl rfl)) (pgs_cons (pg_name (i := 3) sc_answers.nd rfl (Or.inl rfl)) pgs_nil))))))
    (pss_cons (ps_set (i := 7) sc_answers.nd rfl (Or.inl rfl) (pe_cg (c_answered T) hr (by decide) rfl pass0 (pa_cons (pv 1) (pa_cons (pv 4) (pa_cons (pv 5) (pa_cons (pv 6) pa_nil))))))
    (pss_cons (ps_expr (pe_bm PySem.F.plainAttrs_list PySem.F.slot_list_append PySem.F.type_list_append mt_append (pv 2) (pa_cons (pe_callB call_len_seq (by rfl) T.b_len boot_flen (pa_cons (pv 7) pa_nil)) pa_nil)))
    (pss_one (ps_expr (pe_bm PySem.F.plainAttrs_list PySem.F.slot_list_extend PySem.F.type_list_extend mt_extend (pv 2) (pa_cons (pv 7) pa_nil))))))))
    (pss_one (ps_ret (pv 2))))))), ?_⟩)
  obtain ⟨a, ns, rfl, h⟩ := h
  obtain ⟨hS, hF, hask, hbd, hlen, k⟩ := h
  obtain ⟨raw, hraw, hasked, hans, hsz⟩ := parse hask
  have hnn : ns = iL (ns.map Int.toNat) := nat_iL fun x hx => (hbd x hx).1
  generalize hN : ns.map Int.toNat = nn at hnn
  have hnb : ∀ x ∈ nn, x < 4294967296 := fun x hx => by
    have : ((x : Nat) : Int) ∈ ns := by rw [hnn]; exact List.mem_map.mpr ⟨x, hx, rfl⟩
    have := (hbd _ this).2
    omega
  have hSq : SqL K H a (nL nn) := by
    have e : nL nn = ns.map V.int := by rw [hnn]
    rw [e]
    exact hS
  have hl6 : nn.length ≤ 6000 := by
    rw [hnn, iL_len] at hlen
    exact hlen
  have hraw2 : PyFlat.calls PySu175.shape nn.length (iL nn) = some raw := by
    have := hraw
    rw [hnn, iL_len] at this
    exact this
  refine fun x dx hx hdx hne => ⟨x, dx, rfl, upd_same, fun H1 W hW Wx hp' hw' sx => ⟨rfl, ?_⟩⟩
  have sb : Same H (upd (upd H dx (.own x)) x (.ins CD dx [])) := Same.then (Same.new hdx) (by rw [upd_ne (Ne.symm hne)]; exact hx)
  have s1 : Same H H1 := fun b o e => sx _ _ (ne_of_none e hx) (sb _ _ e)
  refine ⟨(by show 0 ≤ sizeLine; decide), fun L hL => ?_⟩
  have hL0 : H L = none := Same.free s1 hL
  have s2 := Same.then (o := HO.lst []) s1 hL
  let NN : Addr → Prop := fun b => b = L ∨ (b = a ∧ ∃ o, H a = some o)
  have aL : ∀ o, H a = some o → a ≠ L := fun o e z => by rw [z, hL0] at e; cases e
  have sta0 : StaO K CG CS CD NN (upd H1 L (.lst [])) x none := by
    refine ⟨dx, W, by rw [upd_ne (fun z => by rw [← z, hp'] at hL; cases hL)]; exact hp', fun b n => ?_⟩
    rcases n with rfl | ⟨rfl, o, e⟩
    · exact ⟨fun z => (by rw [z, hp'] at hL; cases hL), _, upd_same, fun xs z => (by cases z)⟩
    · refine ⟨fun z => (by rw [z, hx] at e; cases e), o, s2 _ _ e, fun xs z => ?_⟩
      subst z
      rcases hF b with z | ⟨o', u, z⟩
      · rw [z] at e; cases e
      · rw [z] at e; cases e
  let Inv : Nat → L2.St → Hp → Prop := fun p σ H' => p ≤ nn.length ∧ ∃ (f0 : Nat) (cs : List (List (List Int))) (s0 : Option Abs) (out : List Int) (o4 o5 o6 o7 : Option V), σ = [some (.ref a), some (.ref x), some (.ref L), some (.int p), o4, o5, o6, o7] ∧
    PyFlat.calls PySu175.shape f0 (iL (nn.drop p)) = some cs ∧ (∀ c ∈ cs, Su175Neutral.asked1 ((PySu175.whole c).headD []) = true) ∧ out ++ behindS s0 cs = PySu175.answers ns ∧ H' L = some (.lst (out.map V.int)) ∧ StaO K CG CS CD NN H' x s0 ∧ ∀ o, H a = some o → H' a = some o
  refine ⟨fun m σ H' => ∃ p, m = nn.length - p ∧ Inv p σ H', ⟨_, 0, rfl, Nat.zero_le _, nn.length, raw, none, [], none, none, none, none, rfl, hraw2, hasked, hans.symm, upd_same, sta0, fun o e => s2 _ _ e⟩, ?_⟩
  rintro m σ H' ⟨p, rfl, hp, f0, cs, s0, out, o4, o5, o6, o7, rfl, hcs, hask', hout, hLo, hsta, hkeep⟩
  have hS' := sqlAt hSq hkeep
  refine ⟨_, rfl, _, rfl, a, _, rfl, .inl hS', _, _, rfl, rfl, _, rfl, if2 (fun c => ?_) (fun c => ?_)⟩
  case refine_2 =>
    rw [nL_len, dLt] at c
    have c' := of_decide_eq_false c
    have e : nn.drop p = [] := List.drop_eq_nil_of_le (by omega)
    rw [e] at hcs
    have := calls_nil hcs
    subst this
    rw [behind_nil, List.append_nil] at hout
    subst hout
    exact ⟨_, rfl, k H' L hLo⟩
  rw [nL_len, dLt] at c
  have c' := of_decide_eq_true c
  refine ⟨fun σ' H2 => ∃ p', p < p' ∧ Inv p' σ' H2, fun σ' H2 ⟨p', hpp, hI⟩ => ⟨nn.length - p', by have := hI.1; omega, p', rfl, hI⟩, ?_⟩
  obtain ⟨n, r, hdr⟩ : ∃ n r, nn.drop p = n :: r := by
    cases e : nn.drop p with
    | nil =>
      have := congrArg List.length e
      rw [List.length_drop, List.length_nil] at this
      omega
    | cons n r => exact ⟨n, r, rfl⟩
  rw [hdr] at hcs
  obtain ⟨f1, cs', row, t, rfl, hcs', hn18, hst⟩ := calls_turn hcs
  have hrow := hst.row
  have hcn : (r.take (cntN n)).length = cntN n := by rw [List.length_take, Nat.min_eq_left hst.1]
  have hrm : ∀ z ∈ r, z < 4294967296 := fun z hz => hnb z (List.mem_of_mem_drop (by rw [hdr]; exact List.mem_cons_of_mem _ hz))
  have hrl : row.length ≤ 100 := by
    have := hask' _ (List.mem_cons_self ..)
    rw [whole_of hn18 hcn hrow.1] at this
    exact asked_row hn18 hcn hrow.1 this
  rw [behind_cons hn18 hcn hrow.1] at hout
  generalize hzs : ansN s0 n (r.take (cntN n)) row = zs at hout
  have hol : out.length + 1 + zs.length ≤ 10000000 := by
    have := hsz
    rw [← hout, List.length_append, List.length_cons, List.length_append] at this
    omega
  refine ⟨_, rfl, _, rfl, a, p, nn, n, r, row, t, rfl, hS', hdr, hn18, hst, fun tt b1 b2 p' H2 e2 hdp hpp hpl htt hb1 hb2 hb1' hb2' => ?_⟩
  refine ⟨tt, _, rfl, SqT.of htt, rfl, _, _, rfl, _, _, rfl, _, _, rfl, _, _, rfl, rfl, ?_⟩
  have hLH2 := e2 _ _ hLo
  have sta2 : StaO K CG CS CD (fun b => (b = b1 ∨ b = b2) ∨ NN b) H2 x s0 := hsta.add e2 (by
    rintro b (rfl | rfl)
    · exact ⟨hb1, _, hb1'⟩
    · exact ⟨hb2, _, hb2'⟩)
  refine ⟨_, rfl, _, rfl, _, rfl, _, rfl, x, b1, b2, n, _, s0, r.take (cntN n), row, rfl, sta2, ⟨hb1', hb2', .inl (.inl rfl), .inl (.inr rfl), hcn, hrl, fun z hz => hrm z (hrow.2 z hz), fun z hz => hrm z (List.mem_of_mem_take hz)⟩, hn18, fun q H3 sta3 kp hq nN => ?_⟩
  have hLN : NN L := .inl rfl
  have hL3 : H3 L = some (.lst (out.map V.int)) := kp _ _ (.inr hLN) hLH2
  have qL : q ≠ L := fun z => nN (z ▸ .inr hLN)
  have hzq : H3 q = some (.lst (zs.map V.int)) := by
    rw [hq, ← hzs]
    rfl
  refine ⟨_, rfl, .inl ⟨rfl, _, SqL.of hL3⟩, _, rfl, q, _, rfl, .inl (SqL.of hzq), L, _, _, rfl, rfl, hL3, (by rw [List.length_map, sizeLine_eq]; omega), ?_⟩
  have hzq2 : upd H3 L (.lst (out.map V.int ++ [.int ((zs.map V.int).length : Nat)])) q = some (.lst (zs.map V.int)) := by
    rw [upd_ne qL]
    exact hzq
  refine ⟨_, rfl, .inl ⟨rfl, _, SqL.of upd_same⟩, _, rfl, L, q, _, _, rfl, rfl, upd_same, hzq2, (by rw [List.length_append, List.length_map, List.length_map, sizeLine_eq]; show _ + 1 + _ ≤ _; omega), ?_⟩
  rw [upd_upd]
  refine ⟨p', hpp, hpl, f1, cs', _, out ++ ((zs.length : Int) :: zs), _, _, _, _, rfl, by rw [hdp]; exact hcs', fun c hc => hask' c (List.mem_cons_of_mem _ hc), ?_, ?_, (sta3.fewer fun b nb => .inr nb).poke hLN _, fun o e => ?_⟩
  · rw [← hout]
    simp
  · rw [upd_same, List.length_map, List.map_append, List.map_cons, List.append_assoc]
    rfl
  · rw [upd_ne (aL o e)]
    exact kp _ _ (.inr (.inr ⟨rfl, o, e⟩)) (e2 _ _ (hkeep o e))
theorem end_of {fa : Addr} (T : Top K mg CR CG CS CD aON aSH aDE) (hmg : mg "answers" = some (.ref fa)) :
  ∃ fd : FuncData, (∀ (s : Shared) (us : List Value), us.length = (["calls"] : List Str).length → BindsTo s fd ⟨us, []⟩ ((["calls"] : List Str).zip us)) ∧ ∀ base : Heap, K.In base → base.Ns mainGlobals mg → FnOk P w K mg base CX0 12 fa fd ["calls"] (spAns K) := by
  obtain ⟨f', fd, hg, hk, F, b'⟩ := T.d_answers.ex
  rw [hmg] at hg
  cases hg
  obtain ⟨oc, od, kV, doc, pm, an, cdv, ct, osl, e, lk, hcd⟩ := F.ex
  refine ⟨fd, fun s us hu => ?_, fun base _ _ => ok_answers T F⟩
  subst e
  match us, hu with
  | [_], _ => exact .of_eq rfl
end
end Ss
open PySem PySem.W PyProof.Rows
set_option maxHeartbeats 0 in
theorem PySem.Challenge.cw_sharedspins_s01_answers_holds : PySem.Challenge.rw_sharedspins_s01_answers.Holds := by
  w_on; k_headS; (case hw => exact ⟨[.list [.int 17]], by decide +kernel, by decide +kernel⟩)
  k_fillS
  refine L2.walk_specK (r := PySem.Challenge.rw_sharedspins_s01_answers) (k := 12) (CX := L2.CX0) (ps := ["calls"]) (sp := Ss.spAns) (by decide +kernel) rfl rfl ⟨rfl, by decide, by decide⟩ (fun w h Y => PySem.W.kIn_of Y) ?F ?S (fun _ _ _ _ z => z)
  case F =>
    intro w mg fa h Y KX G hmg
    refine' Ss.end_of ?T hmg
    case T =>
      open Ss L2 in
        refine' Ss.Top.mk ?d_are_letters ?d_letter_made ?d_turns_made ?d_are_unlike ?d_go_together ?d_bare ?d_product ?d_are_bits ?d_bit_at ?d_number_of_bits ?d_bits_of_number ?d_odd_of ?d_row_count ?d_is_asked ?d_place_of ?d_row_of ?d_all_rows ?d_measured_by ?d_sum_known ?d_sums_known ?d_share ?d_chance_of ?d_won_at ?d_won_by_spins ?i_Refused ?d_need ?i_Game ?m_Game_place_asked ?m_Game_answer_rows ?m_Game_set_winning ?m_Game_set_much ?m_Game_all_much ?m_Game_wins_at ?m_Game_which_with ?d_plan_size ?d_plan_count ?d_is_plan ?d_plan_at ?d_answers_by ?d_won_by ?d_all_won ?d_most_won ?d_best_plan ?d_plans_that_win ?d_begin ?d_wins ?d_odd ?d_counts ?d_plan ?d_best ?d_plans ?d_spins ?d_link ?d_fresh ?d_sure ?d_measure ?d_is_on_own ?d_mine ?d_parted ?d_chance ?d_parity ?d_value ?d_row_told ?d_state ?i_Spins ?m_Spins_many ?m_Spins_are_linked ?m_Spins_letter_at_first ?m_Spins_sure_at_first ?m_Spins_refresh ?m_Spins_turn_link ?m_Spins_known_signs ?m_Spins_sign_of ?m_Spins_note_measured ?m_Spins_become_sure ?i_Desk ?m_Desk_is_begun ?m_Desk_begin ?m_Desk_take_spins ?m_Desk_place_own ?m_Desk_set_own ?d_row_at ?d_call_at ?d_done ?d_answered ?d_answers ?cl_Game ?n_Game_persons ?n_Game_questions ?n_Game_rows ?n_Game_much ?n_Game_winning ?cl_Spins ?n_Spins_owners ?n_Spins_links ?n_Spins_sures ?n_Spins_was_measured ?cl_Desk ?n_Desk_game ?n_Desk_shared ?n_Desk_own ?g_Game ?g_Spins ?g_Desk ?g_Refused ?oex ?xf ?noCode ?te ?k_NONE ?k_X ?k_Y ?k_Z ?k_NONE_SUCH ?k_NOT_BEGUN ?k_WAS_MEASURED ?k_NOT_AS_TOLD ?k_NOT_SURE_SO ?k_MOST_PERSONS ?k_MOST_QUESTIONS ?k_MOST_IN_ALL ?k_MOST_MUCH ?k_MOST_SPINS ?k_BEGIN ?k_ONWARD ?k_SHAPES ?k_DEEDS ?onw ?shp ?dee ?b_len ?b_all ?b_sum ?b_max ?b_min ?b_range ?b_tuple ?b_list ?b_int ?b_enumerate ?b_ValueError
        case g_Game =>
          refine' PySem.W.mg_of KX G ?a_g_Game
          (case a_g_Game => k_is)
        case g_Spins =>
          refine' PySem.W.mg_of KX G ?a_g_Spins
          (case a_g_Spins => k_is)
        case g_Desk =>
          refine' PySem.W.mg_of KX G ?a_g_Desk
          (case a_g_Desk => k_is)
        case g_Refused =>
          refine' PySem.W.mg_of KX G ?a_g_Refused
          (case a_g_Refused => k_is)
        case k_ONWARD =>
          refine' gk_ref KX G ?a_k_ONWARD
          (case a_k_ONWARD => k_is)
        case k_SHAPES =>
          refine' gk_ref KX G ?a_k_SHAPES
          (case a_k_SHAPES => k_is)
        case k_DEEDS =>
          refine' gk_ref KX G ?a_k_DEEDS
          (case a_k_DEEDS => k_is)
        case d_are_letters =>
          refine' gdef_mk (st := s_are_letters) KX G ?a_d_are_letters ?l_d_are_letters ?c_d_are_letters ?k_d_are_letters (fun _ _ _ _ _ _ us hl => match us, hl with | [_, _], _ => rfl)
          (case a_d_are_letters => k_is); (case l_d_are_letters => k_is); (case c_d_are_letters => k_is); (case k_d_are_letters => k_is)
        case d_letter_made =>
          refine' gdef_mk (st := s_letter_made) KX G ?a_d_letter_made ?l_d_letter_made ?c_d_letter_made ?k_d_letter_made (fun _ _ _ _ _ _ us hl => match us, hl with | [_, _], _ => rfl)
          (case a_d_letter_made => k_is); (case l_d_letter_made => k_is); (case c_d_letter_made => k_is); (case k_d_letter_made => k_is)
        case d_turns_made =>
          refine' gdef_mk (st := s_turns_made) KX G ?a_d_turns_made ?l_d_turns_made ?c_d_turns_made ?k_d_turns_made (fun _ _ _ _ _ _ us hl => match us, hl with | [_, _], _ => rfl)
          (case a_d_turns_made => k_is); (case l_d_turns_made => k_is); (case c_d_turns_made => k_is); (case k_d_turns_made => k_is)
        case d_are_unlike =>
          refine' gdef_mk (st := s_are_unlike) KX G ?a_d_are_unlike ?l_d_are_unlike ?c_d_are_unlike ?k_d_are_unlike (fun _ _ _ _ _ _ us hl => match us, hl with | [_, _], _ => rfl)
          (case a_d_are_unlike => k_is); (case l_d_are_unlike => k_is); (case c_d_are_unlike => k_is); (case k_d_are_unlike => k_is)
        case d_go_together =>
          refine' gdef_mk (st := s_go_together) KX G ?a_d_go_together ?l_d_go_together ?c_d_go_together ?k_d_go_together (fun _ _ _ _ _ _ us hl => match us, hl with | [_, _], _ => rfl)
          (case a_d_go_together => k_is); (case l_d_go_together => k_is); (case c_d_go_together => k_is); (case k_d_go_together => k_is)
        case d_bare =>
          refine' gdef_mk (st := s_bare) KX G ?a_d_bare ?l_d_bare ?c_d_bare ?k_d_bare (fun _ _ _ _ _ _ us hl => match us, hl with | [_], _ => rfl)
          (case a_d_bare => k_is); (case l_d_bare => k_is); (case c_d_bare => k_is); (case k_d_bare => k_is)
        case d_product =>
          refine' gdef_mk (st := s_product) KX G ?a_d_product ?l_d_product ?c_d_product ?k_d_product (fun _ _ _ _ _ _ us hl => match us, hl with | [_, _], _ => rfl)
          (case a_d_product => k_is); (case l_d_product => k_is); (case c_d_product => k_is); (case k_d_product => k_is)
        case d_are_bits =>
          refine' gdef_mk (st := s_are_bits) KX G ?a_d_are_bits ?l_d_are_bits ?c_d_are_bits ?k_d_are_bits (fun _ _ _ _ _ _ us hl => match us, hl with | [_], _ => rfl)
          (case a_d_are_bits => k_is); (case l_d_are_bits => k_is); (case c_d_are_bits => k_is); (case k_d_are_bits => k_is)
        case d_bit_at =>
          refine' gdef_mk (st := s_bit_at) KX G ?a_d_bit_at ?l_d_bit_at ?c_d_bit_at ?k_d_bit_at (fun _ _ _ _ _ _ us hl => match us, hl with | [_, _], _ => rfl)
          (case a_d_bit_at => k_is); (case l_d_bit_at => k_is); (case c_d_bit_at => k_is); (case k_d_bit_at => k_is)
        case d_number_of_bits =>
          refine' gdef_mk (st := s_number_of_bits) KX G ?a_d_number_of_bits ?l_d_number_of_bits ?c_d_number_of_bits ?k_d_number_of_bits (fun _ _ _ _ _ _ us hl => match us, hl with | [_], _ => rfl)
          (case a_d_number_of_bits => k_is); (case l_d_number_of_bits => k_is); (case c_d_number_of_bits => k_is); (case k_d_number_of_bits => k_is)
        case d_bits_of_number =>
          refine' gdef_mk (st := s_bits_of_number) KX G ?a_d_bits_of_number ?l_d_bits_of_number ?c_d_bits_of_number ?k_d_bits_of_number (fun _ _ _ _ _ _ us hl => match us, hl with | [_, _], _ => rfl)
          (case a_d_bits_of_number => k_is); (case l_d_bits_of_number => k_is); (case c_d_bits_of_number => k_is); (case k_d_bits_of_number => k_is)
        case d_odd_of =>
          refine' gdef_mk (st := s_odd_of) KX G ?a_d_odd_of ?l_d_odd_of ?c_d_odd_of ?k_d_odd_of (fun _ _ _ _ _ _ us hl => match us, hl with | [_, _], _ => rfl)
          (case a_d_odd_of => k_is); (case l_d_odd_of => k_is); (case c_d_odd_of => k_is); (case k_d_odd_of => k_is)
        case d_row_count =>
          refine' gdef_mk (st := s_row_count) KX G ?a_d_row_count ?l_d_row_count ?c_d_row_count ?k_d_row_count (fun _ _ _ _ _ _ us hl => match us, hl with | [_, _], _ => rfl)
          (case a_d_row_count => k_is); (case l_d_row_count => k_is); (case c_d_row_count => k_is); (case k_d_row_count => k_is)
        case d_is_asked =>
          refine' gdef_mk (st := s_is_asked) KX G ?a_d_is_asked ?l_d_is_asked ?c_d_is_asked ?k_d_is_asked (fun _ _ _ _ _ _ us hl => match us, hl with | [_, _, _], _ => rfl)
          (case a_d_is_asked => k_is); (case l_d_is_asked => k_is); (case c_d_is_asked => k_is); (case k_d_is_asked => k_is)
        case d_place_of =>
          refine' gdef_mk (st := s_place_of) KX G ?a_d_place_of ?l_d_place_of ?c_d_place_of ?k_d_place_of (fun _ _ _ _ _ _ us hl => match us, hl with | [_, _], _ => rfl)
          (case a_d_place_of => k_is); (case l_d_place_of => k_is); (case c_d_place_of => k_is); (case k_d_place_of => k_is)
        case d_row_of =>
          refine' gdef_mk (st := s_row_of) KX G ?a_d_row_of ?l_d_row_of ?c_d_row_of ?k_d_row_of (fun _ _ _ _ _ _ us hl => match us, hl with | [_, _, _], _ => rfl)
          (case a_d_row_of => k_is); (case l_d_row_of => k_is); (case c_d_row_of => k_is); (case k_d_row_of => k_is)
        case d_all_rows =>
          refine' gdef_mk (st := s_all_rows) KX G ?a_d_all_rows ?l_d_all_rows ?c_d_all_rows ?k_d_all_rows (fun _ _ _ _ _ _ us hl => match us, hl with | [_, _], _ => rfl)
          (case a_d_all_rows => k_is); (case l_d_all_rows => k_is); (case c_d_all_rows => k_is); (case k_d_all_rows => k_is)
        case d_measured_by =>
          refine' gdef_mk (st := s_measured_by) KX G ?a_d_measured_by ?l_d_measured_by ?c_d_measured_by ?k_d_measured_by (fun _ _ _ _ _ _ us hl => match us, hl with | [_, _, _], _ => rfl)
          (case a_d_measured_by => k_is); (case l_d_measured_by => k_is); (case c_d_measured_by => k_is); (case k_d_measured_by => k_is)
        case d_sum_known =>
          refine' gdef_mk (st := s_sum_known) KX G ?a_d_sum_known ?l_d_sum_known ?c_d_sum_known ?k_d_sum_known (fun _ _ _ _ _ _ us hl => match us, hl with | [_, _, _, _], _ => rfl)
          (case a_d_sum_known => k_is); (case l_d_sum_known => k_is); (case c_d_sum_known => k_is); (case k_d_sum_known => k_is)
        case d_sums_known =>
          refine' gdef_mk (st := s_sums_known) KX G ?a_d_sums_known ?l_d_sums_known ?c_d_sums_known ?k_d_sums_known (fun _ _ _ _ _ _ us hl => match us, hl with | [_, _, _], _ => rfl)
          (case a_d_sums_known => k_is); (case l_d_sums_known => k_is); (case c_d_sums_known => k_is); (case k_d_sums_known => k_is)
        case d_share =>
          refine' gdef_mk (st := s_share) KX G ?a_d_share ?l_d_share ?c_d_share ?k_d_share (fun _ _ _ _ _ _ us hl => match us, hl with | [_, _, _, _], _ => rfl)
          (case a_d_share => k_is); (case l_d_share => k_is); (case c_d_share => k_is); (case k_d_share => k_is)
        case d_chance_of =>
          refine' gdef_mk (st := s_chance_of) KX G ?a_d_chance_of ?l_d_chance_of ?c_d_chance_of ?k_d_chance_of (fun _ _ _ _ _ _ us hl => match us, hl with | [_, _, _], _ => rfl)
          (case a_d_chance_of => k_is); (case l_d_chance_of => k_is); (case c_d_chance_of => k_is); (case k_d_chance_of => k_is)
        case d_won_at =>
          refine' gdef_mk (st := s_won_at) KX G ?a_d_won_at ?l_d_won_at ?c_d_won_at ?k_d_won_at (fun _ _ _ _ _ _ us hl => match us, hl with | [_, _, _], _ => rfl)
          (case a_d_won_at => k_is); (case l_d_won_at => k_is); (case c_d_won_at => k_is); (case k_d_won_at => k_is)
        case d_won_by_spins =>
          refine' gdef_mk (st := s_won_by_spins) KX G ?a_d_won_by_spins ?l_d_won_by_spins ?c_d_won_by_spins ?k_d_won_by_spins (fun _ _ _ _ _ _ us hl => match us, hl with | [_, _, _], _ => rfl)
          (case a_d_won_by_spins => k_is); (case l_d_won_by_spins => k_is); (case c_d_won_by_spins => k_is); (case k_d_won_by_spins => k_is)
        case i_Refused =>
          refine' rdef_mk (st := s_Refused_init) ?a_i_Refused ?i_i_Refused ?l_i_Refused ?c_i_Refused ?k_i_Refused (fun _ _ _ _ _ _ us hl => match us, hl with | [_, _], _ => rfl)
          (case a_i_Refused => k_is); (case i_i_Refused => k_is); (case l_i_Refused => k_is); (case c_i_Refused => k_is); (case k_i_Refused => k_is)
        case d_need =>
          refine' gdef_mk (st := s_need) KX G ?a_d_need ?l_d_need ?c_d_need ?k_d_need (fun _ _ _ _ _ _ us hl => match us, hl with | [_, _], _ => rfl)
          (case a_d_need => k_is); (case l_d_need => k_is); (case c_d_need => k_is); (case k_d_need => k_is)
        case i_Game =>
          refine' idef_mk (st := s_Game_init) ?m_i_Game ?a_i_Game ?i_i_Game ?kc_i_Game ?l_i_Game ?c_i_Game ?k_i_Game (fun _ _ _ _ _ _ us hl => match us, hl with | [_, _, _], _ => rfl)
          (case m_i_Game => k_is); (case a_i_Game => k_is); (case i_i_Game => k_is); (case kc_i_Game => k_is); (case l_i_Game => k_is); (case c_i_Game => k_is); (case k_i_Game => k_is)
        case m_Game_place_asked =>
          refine' mdef_mk (st := s_Game_place_asked) ?a_m_Game_place_asked ?i_m_Game_place_asked ?l_m_Game_place_asked ?c_m_Game_place_asked ?k_m_Game_place_asked (fun _ _ _ _ _ _ us hl => match us, hl with | [_, _], _ => rfl)
          (case a_m_Game_place_asked => k_is); (case i_m_Game_place_asked => k_is); (case l_m_Game_place_asked => k_is); (case c_m_Game_place_asked => k_is); (case k_m_Game_place_asked => k_is)
        case m_Game_answer_rows =>
          refine' mdef_mk (st := s_Game_answer_rows) ?a_m_Game_answer_rows ?i_m_Game_answer_rows ?l_m_Game_answer_rows ?c_m_Game_answer_rows ?k_m_Game_answer_rows (fun _ _ _ _ _ _ us hl => match us, hl with | [_], _ => rfl)
          (case a_m_Game_answer_rows => k_is); (case i_m_Game_answer_rows => k_is); (case l_m_Game_answer_rows => k_is); (case c_m_Game_answer_rows => k_is); (case k_m_Game_answer_rows => k_is)
        case m_Game_set_winning =>
          refine' mdef_mk (st := s_Game_set_winning) ?a_m_Game_set_winning ?i_m_Game_set_winning ?l_m_Game_set_winning ?c_m_Game_set_winning ?k_m_Game_set_winning (fun _ _ _ _ _ _ us hl => match us, hl with | [_, _, _], _ => rfl)
          (case a_m_Game_set_winning => k_is); (case i_m_Game_set_winning => k_is); (case l_m_Game_set_winning => k_is); (case c_m_Game_set_winning => k_is); (case k_m_Game_set_winning => k_is)
        case m_Game_set_much =>
          refine' mdef_mk (st := s_Game_set_much) ?a_m_Game_set_much ?i_m_Game_set_much ?l_m_Game_set_much ?c_m_Game_set_much ?k_m_Game_set_much (fun _ _ _ _ _ _ us hl => match us, hl with | [_, _, _], _ => rfl)
          (case a_m_Game_set_much => k_is); (case i_m_Game_set_much => k_is); (case l_m_Game_set_much => k_is); (case c_m_Game_set_much => k_is); (case k_m_Game_set_much => k_is)
        case m_Game_all_much =>
          refine' mdef_mk (st := s_Game_all_much) ?a_m_Game_all_much ?i_m_Game_all_much ?l_m_Game_all_much ?c_m_Game_all_much ?k_m_Game_all_much (fun _ _ _ _ _ _ us hl => match us, hl with | [_], _ => rfl)
          (case a_m_Game_all_much => k_is); (case i_m_Game_all_much => k_is); (case l_m_Game_all_much => k_is); (case c_m_Game_all_much => k_is); (case k_m_Game_all_much => k_is)
        case m_Game_wins_at =>
          refine' mdef_mk (st := s_Game_wins_at) ?a_m_Game_wins_at ?i_m_Game_wins_at ?l_m_Game_wins_at ?c_m_Game_wins_at ?k_m_Game_wins_at (fun _ _ _ _ _ _ us hl => match us, hl with | [_, _, _], _ => rfl)
          (case a_m_Game_wins_at => k_is); (case i_m_Game_wins_at => k_is); (case l_m_Game_wins_at => k_is); (case c_m_Game_wins_at => k_is); (case k_m_Game_wins_at => k_is)
        case m_Game_which_with =>
          refine' mdef_mk (st := s_Game_which_with) ?a_m_Game_which_with ?i_m_Game_which_with ?l_m_Game_which_with ?c_m_Game_which_with ?k_m_Game_which_with (fun _ _ _ _ _ _ us hl => match us, hl with | [_, _], _ => rfl)
          (case a_m_Game_which_with => k_is); (case i_m_Game_which_with => k_is); (case l_m_Game_which_with => k_is); (case c_m_Game_which_with => k_is); (case k_m_Game_which_with => k_is)
        case d_plan_size =>
          refine' gdef_mk (st := s_plan_size) KX G ?a_d_plan_size ?l_d_plan_size ?c_d_plan_size ?k_d_plan_size (fun _ _ _ _ _ _ us hl => match us, hl with | [_], _ => rfl)
          (case a_d_plan_size => k_is); (case l_d_plan_size => k_is); (case c_d_plan_size => k_is); (case k_d_plan_size => k_is)
        case d_plan_count =>
          refine' gdef_mk (st := s_plan_count) KX G ?a_d_plan_count ?l_d_plan_count ?c_d_plan_count ?k_d_plan_count (fun _ _ _ _ _ _ us hl => match us, hl with | [_], _ => rfl)
          (case a_d_plan_count => k_is); (case l_d_plan_count => k_is); (case c_d_plan_count => k_is); (case k_d_plan_count => k_is)
        case d_is_plan =>
          refine' gdef_mk (st := s_is_plan) KX G ?a_d_is_plan ?l_d_is_plan ?c_d_is_plan ?k_d_is_plan (fun _ _ _ _ _ _ us hl => match us, hl with | [_, _], _ => rfl)
          (case a_d_is_plan => k_is); (case l_d_is_plan => k_is); (case c_d_is_plan => k_is); (case k_d_is_plan => k_is)
        case d_plan_at =>
          refine' gdef_mk (st := s_plan_at) KX G ?a_d_plan_at ?l_d_plan_at ?c_d_plan_at ?k_d_plan_at (fun _ _ _ _ _ _ us hl => match us, hl with | [_, _], _ => rfl)
          (case a_d_plan_at => k_is); (case l_d_plan_at => k_is); (case c_d_plan_at => k_is); (case k_d_plan_at => k_is)
        case d_answers_by =>
          refine' gdef_mk (st := s_answers_by) KX G ?a_d_answers_by ?l_d_answers_by ?c_d_answers_by ?k_d_answers_by (fun _ _ _ _ _ _ us hl => match us, hl with | [_, _, _], _ => rfl)
          (case a_d_answers_by => k_is); (case l_d_answers_by => k_is); (case c_d_answers_by => k_is); (case k_d_answers_by => k_is)
        case d_won_by =>
          refine' gdef_mk (st := s_won_by) KX G ?a_d_won_by ?l_d_won_by ?c_d_won_by ?k_d_won_by (fun _ _ _ _ _ _ us hl => match us, hl with | [_, _], _ => rfl)
          (case a_d_won_by => k_is); (case l_d_won_by => k_is); (case c_d_won_by => k_is); (case k_d_won_by => k_is)
        case d_all_won =>
          refine' gdef_mk (st := s_all_won) KX G ?a_d_all_won ?l_d_all_won ?c_d_all_won ?k_d_all_won (fun _ _ _ _ _ _ us hl => match us, hl with | [_], _ => rfl)
          (case a_d_all_won => k_is); (case l_d_all_won => k_is); (case c_d_all_won => k_is); (case k_d_all_won => k_is)
        case d_most_won =>
          refine' gdef_mk (st := s_most_won) KX G ?a_d_most_won ?l_d_most_won ?c_d_most_won ?k_d_most_won (fun _ _ _ _ _ _ us hl => match us, hl with | [_], _ => rfl)
          (case a_d_most_won => k_is); (case l_d_most_won => k_is); (case c_d_most_won => k_is); (case k_d_most_won => k_is)
        case d_best_plan =>
          refine' gdef_mk (st := s_best_plan) KX G ?a_d_best_plan ?l_d_best_plan ?c_d_best_plan ?k_d_best_plan (fun _ _ _ _ _ _ us hl => match us, hl with | [_], _ => rfl)
          (case a_d_best_plan => k_is); (case l_d_best_plan => k_is); (case c_d_best_plan => k_is); (case k_d_best_plan => k_is)
        case d_plans_that_win =>
          refine' gdef_mk (st := s_plans_that_win) KX G ?a_d_plans_that_win ?l_d_plans_that_win ?c_d_plans_that_win ?k_d_plans_that_win (fun _ _ _ _ _ _ us hl => match us, hl with | [_, _], _ => rfl)
          (case a_d_plans_that_win => k_is); (case l_d_plans_that_win => k_is); (case c_d_plans_that_win => k_is); (case k_d_plans_that_win => k_is)
        case d_begin =>
          refine' gdef_mk (st := s_begin) KX G ?a_d_begin ?l_d_begin ?c_d_begin ?k_d_begin (fun _ _ _ _ _ _ us hl => match us, hl with | [_, _, _], _ => rfl)
          (case a_d_begin => k_is); (case l_d_begin => k_is); (case c_d_begin => k_is); (case k_d_begin => k_is)
        case d_wins =>
          refine' gdef_mk (st := s_wins) KX G ?a_d_wins ?l_d_wins ?c_d_wins ?k_d_wins (fun _ _ _ _ _ _ us hl => match us, hl with | [_, _, _], _ => rfl)
          (case a_d_wins => k_is); (case l_d_wins => k_is); (case c_d_wins => k_is); (case k_d_wins => k_is)
        case d_odd =>
          refine' gdef_mk (st := s_odd) KX G ?a_d_odd ?l_d_odd ?c_d_odd ?k_d_odd (fun _ _ _ _ _ _ us hl => match us, hl with | [_, _, _], _ => rfl)
          (case a_d_odd => k_is); (case l_d_odd => k_is); (case c_d_odd => k_is); (case k_d_odd => k_is)
        case d_counts =>
          refine' gdef_mk (st := s_counts) KX G ?a_d_counts ?l_d_counts ?c_d_counts ?k_d_counts (fun _ _ _ _ _ _ us hl => match us, hl with | [_, _, _], _ => rfl)
          (case a_d_counts => k_is); (case l_d_counts => k_is); (case c_d_counts => k_is); (case k_d_counts => k_is)
        case d_plan =>
          refine' gdef_mk (st := s_plan) KX G ?a_d_plan ?l_d_plan ?c_d_plan ?k_d_plan (fun _ _ _ _ _ _ us hl => match us, hl with | [_, _, _], _ => rfl)
          (case a_d_plan => k_is); (case l_d_plan => k_is); (case c_d_plan => k_is); (case k_d_plan => k_is)
        case d_best =>
          refine' gdef_mk (st := s_best) KX G ?a_d_best ?l_d_best ?c_d_best ?k_d_best (fun _ _ _ _ _ _ us hl => match us, hl with | [_, _, _], _ => rfl)
          (case a_d_best => k_is); (case l_d_best => k_is); (case c_d_best => k_is); (case k_d_best => k_is)
        case d_plans =>
          refine' gdef_mk (st := s_plans) KX G ?a_d_plans ?l_d_plans ?c_d_plans ?k_d_plans (fun _ _ _ _ _ _ us hl => match us, hl with | [_, _, _], _ => rfl)
          (case a_d_plans => k_is); (case l_d_plans => k_is); (case c_d_plans => k_is); (case k_d_plans => k_is)
        case d_spins =>
          refine' gdef_mk (st := s_spins) KX G ?a_d_spins ?l_d_spins ?c_d_spins ?k_d_spins (fun _ _ _ _ _ _ us hl => match us, hl with | [_, _, _], _ => rfl)
          (case a_d_spins => k_is); (case l_d_spins => k_is); (case c_d_spins => k_is); (case k_d_spins => k_is)
        case d_link =>
          refine' gdef_mk (st := s_link) KX G ?a_d_link ?l_d_link ?c_d_link ?k_d_link (fun _ _ _ _ _ _ us hl => match us, hl with | [_, _, _], _ => rfl)
          (case a_d_link => k_is); (case l_d_link => k_is); (case c_d_link => k_is); (case k_d_link => k_is)
        case d_fresh =>
          refine' gdef_mk (st := s_fresh) KX G ?a_d_fresh ?l_d_fresh ?c_d_fresh ?k_d_fresh (fun _ _ _ _ _ _ us hl => match us, hl with | [_, _, _], _ => rfl)
          (case a_d_fresh => k_is); (case l_d_fresh => k_is); (case c_d_fresh => k_is); (case k_d_fresh => k_is)
        case d_sure =>
          refine' gdef_mk (st := s_sure) KX G ?a_d_sure ?l_d_sure ?c_d_sure ?k_d_sure (fun _ _ _ _ _ _ us hl => match us, hl with | [_, _, _], _ => rfl)
          (case a_d_sure => k_is); (case l_d_sure => k_is); (case c_d_sure => k_is); (case k_d_sure => k_is)
        case d_measure =>
          refine' gdef_mk (st := s_measure) KX G ?a_d_measure ?l_d_measure ?c_d_measure ?k_d_measure (fun _ _ _ _ _ _ us hl => match us, hl with | [_, _, _], _ => rfl)
          (case a_d_measure => k_is); (case l_d_measure => k_is); (case c_d_measure => k_is); (case k_d_measure => k_is)
        case d_is_on_own =>
          refine' gdef_mk (st := s_is_on_own) KX G ?a_d_is_on_own ?l_d_is_on_own ?c_d_is_on_own ?k_d_is_on_own (fun _ _ _ _ _ _ us hl => match us, hl with | [_, _, _], _ => rfl)
          (case a_d_is_on_own => k_is); (case l_d_is_on_own => k_is); (case c_d_is_on_own => k_is); (case k_d_is_on_own => k_is)
        case d_mine =>
          refine' gdef_mk (st := s_mine) KX G ?a_d_mine ?l_d_mine ?c_d_mine ?k_d_mine (fun _ _ _ _ _ _ us hl => match us, hl with | [_, _, _], _ => rfl)
          (case a_d_mine => k_is); (case l_d_mine => k_is); (case c_d_mine => k_is); (case k_d_mine => k_is)
        case d_parted =>
          refine' gdef_mk (st := s_parted) KX G ?a_d_parted ?l_d_parted ?c_d_parted ?k_d_parted (fun _ _ _ _ _ _ us hl => match us, hl with | [_, _], _ => rfl)
          (case a_d_parted => k_is); (case l_d_parted => k_is); (case c_d_parted => k_is); (case k_d_parted => k_is)
        case d_chance =>
          refine' gdef_mk (st := s_chance) KX G ?a_d_chance ?l_d_chance ?c_d_chance ?k_d_chance (fun _ _ _ _ _ _ us hl => match us, hl with | [_, _, _], _ => rfl)
          (case a_d_chance => k_is); (case l_d_chance => k_is); (case c_d_chance => k_is); (case k_d_chance => k_is)
        case d_parity =>
          refine' gdef_mk (st := s_parity) KX G ?a_d_parity ?l_d_parity ?c_d_parity ?k_d_parity (fun _ _ _ _ _ _ us hl => match us, hl with | [_, _, _], _ => rfl)
          (case a_d_parity => k_is); (case l_d_parity => k_is); (case c_d_parity => k_is); (case k_d_parity => k_is)
        case d_value =>
          refine' gdef_mk (st := s_value) KX G ?a_d_value ?l_d_value ?c_d_value ?k_d_value (fun _ _ _ _ _ _ us hl => match us, hl with | [_, _, _], _ => rfl)
          (case a_d_value => k_is); (case l_d_value => k_is); (case c_d_value => k_is); (case k_d_value => k_is)
        case d_row_told =>
          refine' gdef_mk (st := s_row_told) KX G ?a_d_row_told ?l_d_row_told ?c_d_row_told ?k_d_row_told (fun _ _ _ _ _ _ us hl => match us, hl with | [_, _, _], _ => rfl)
          (case a_d_row_told => k_is); (case l_d_row_told => k_is); (case c_d_row_told => k_is); (case k_d_row_told => k_is)
        case d_state =>
          refine' gdef_mk (st := s_state) KX G ?a_d_state ?l_d_state ?c_d_state ?k_d_state (fun _ _ _ _ _ _ us hl => match us, hl with | [_, _, _], _ => rfl)
          (case a_d_state => k_is); (case l_d_state => k_is); (case c_d_state => k_is); (case k_d_state => k_is)
        case i_Spins =>
          refine' idef_mk (st := s_Spins_init) ?m_i_Spins ?a_i_Spins ?i_i_Spins ?kc_i_Spins ?l_i_Spins ?c_i_Spins ?k_i_Spins (fun _ _ _ _ _ _ us hl => match us, hl with | [_, _], _ => rfl)
          (case m_i_Spins => k_is); (case a_i_Spins => k_is); (case i_i_Spins => k_is); (case kc_i_Spins => k_is); (case l_i_Spins => k_is); (case c_i_Spins => k_is); (case k_i_Spins => k_is)
        case m_Spins_many =>
          refine' mdef_mk (st := s_Spins_many) ?a_m_Spins_many ?i_m_Spins_many ?l_m_Spins_many ?c_m_Spins_many ?k_m_Spins_many (fun _ _ _ _ _ _ us hl => match us, hl with | [_], _ => rfl)
          (case a_m_Spins_many => k_is); (case i_m_Spins_many => k_is); (case l_m_Spins_many => k_is); (case c_m_Spins_many => k_is); (case k_m_Spins_many => k_is)
        case m_Spins_are_linked =>
          refine' mdef_mk (st := s_Spins_are_linked) ?a_m_Spins_are_linked ?i_m_Spins_are_linked ?l_m_Spins_are_linked ?c_m_Spins_are_linked ?k_m_Spins_are_linked (fun _ _ _ _ _ _ us hl => match us, hl with | [_, _, _], _ => rfl)
          (case a_m_Spins_are_linked => k_is); (case i_m_Spins_are_linked => k_is); (case l_m_Spins_are_linked => k_is); (case c_m_Spins_are_linked => k_is); (case k_m_Spins_are_linked => k_is)
        case m_Spins_letter_at_first =>
          refine' mdef_mk (st := s_Spins_letter_at_first) ?a_m_Spins_letter_at_first ?i_m_Spins_letter_at_first ?l_m_Spins_letter_at_first ?c_m_Spins_letter_at_first ?k_m_Spins_letter_at_first (fun _ _ _ _ _ _ us hl => match us, hl with | [_, _, _], _ => rfl)
          (case a_m_Spins_letter_at_first => k_is); (case i_m_Spins_letter_at_first => k_is); (case l_m_Spins_letter_at_first => k_is); (case c_m_Spins_letter_at_first => k_is); (case k_m_Spins_letter_at_first => k_is)
        case m_Spins_sure_at_first =>
          refine' mdef_mk (st := s_Spins_sure_at_first) ?a_m_Spins_sure_at_first ?i_m_Spins_sure_at_first ?l_m_Spins_sure_at_first ?c_m_Spins_sure_at_first ?k_m_Spins_sure_at_first (fun _ _ _ _ _ _ us hl => match us, hl with | [_, _], _ => rfl)
          (case a_m_Spins_sure_at_first => k_is); (case i_m_Spins_sure_at_first => k_is); (case l_m_Spins_sure_at_first => k_is); (case c_m_Spins_sure_at_first => k_is); (case k_m_Spins_sure_at_first => k_is)
        case m_Spins_refresh =>
          refine' mdef_mk (st := s_Spins_refresh) ?a_m_Spins_refresh ?i_m_Spins_refresh ?l_m_Spins_refresh ?c_m_Spins_refresh ?k_m_Spins_refresh (fun _ _ _ _ _ _ us hl => match us, hl with | [_], _ => rfl)
          (case a_m_Spins_refresh => k_is); (case i_m_Spins_refresh => k_is); (case l_m_Spins_refresh => k_is); (case c_m_Spins_refresh => k_is); (case k_m_Spins_refresh => k_is)
        case m_Spins_turn_link =>
          refine' mdef_mk (st := s_Spins_turn_link) ?a_m_Spins_turn_link ?i_m_Spins_turn_link ?l_m_Spins_turn_link ?c_m_Spins_turn_link ?k_m_Spins_turn_link (fun _ _ _ _ _ _ us hl => match us, hl with | [_, _, _], _ => rfl)
          (case a_m_Spins_turn_link => k_is); (case i_m_Spins_turn_link => k_is); (case l_m_Spins_turn_link => k_is); (case c_m_Spins_turn_link => k_is); (case k_m_Spins_turn_link => k_is)
        case m_Spins_known_signs =>
          refine' mdef_mk (st := s_Spins_known_signs) ?a_m_Spins_known_signs ?i_m_Spins_known_signs ?l_m_Spins_known_signs ?c_m_Spins_known_signs ?k_m_Spins_known_signs (fun _ _ _ _ _ _ us hl => match us, hl with | [_], _ => rfl)
          (case a_m_Spins_known_signs => k_is); (case i_m_Spins_known_signs => k_is); (case l_m_Spins_known_signs => k_is); (case c_m_Spins_known_signs => k_is); (case k_m_Spins_known_signs => k_is)
        case m_Spins_sign_of =>
          refine' mdef_mk (st := s_Spins_sign_of) ?a_m_Spins_sign_of ?i_m_Spins_sign_of ?l_m_Spins_sign_of ?c_m_Spins_sign_of ?k_m_Spins_sign_of (fun _ _ _ _ _ _ us hl => match us, hl with | [_, _], _ => rfl)
          (case a_m_Spins_sign_of => k_is); (case i_m_Spins_sign_of => k_is); (case l_m_Spins_sign_of => k_is); (case c_m_Spins_sign_of => k_is); (case k_m_Spins_sign_of => k_is)
        case m_Spins_note_measured =>
          refine' mdef_mk (st := s_Spins_note_measured) ?a_m_Spins_note_measured ?i_m_Spins_note_measured ?l_m_Spins_note_measured ?c_m_Spins_note_measured ?k_m_Spins_note_measured (fun _ _ _ _ _ _ us hl => match us, hl with | [_], _ => rfl)
          (case a_m_Spins_note_measured => k_is); (case i_m_Spins_note_measured => k_is); (case l_m_Spins_note_measured => k_is); (case c_m_Spins_note_measured => k_is); (case k_m_Spins_note_measured => k_is)
        case m_Spins_become_sure =>
          refine' mdef_mk (st := s_Spins_become_sure) ?a_m_Spins_become_sure ?i_m_Spins_become_sure ?l_m_Spins_become_sure ?c_m_Spins_become_sure ?k_m_Spins_become_sure (fun _ _ _ _ _ _ us hl => match us, hl with | [_, _, _], _ => rfl)
          (case a_m_Spins_become_sure => k_is); (case i_m_Spins_become_sure => k_is); (case l_m_Spins_become_sure => k_is); (case c_m_Spins_become_sure => k_is); (case k_m_Spins_become_sure => k_is)
        case i_Desk =>
          refine' idef_mk (st := s_Desk_init) ?m_i_Desk ?a_i_Desk ?i_i_Desk ?kc_i_Desk ?l_i_Desk ?c_i_Desk ?k_i_Desk (fun _ _ _ _ _ _ us hl => match us, hl with | [_], _ => rfl)
          (case m_i_Desk => k_is); (case a_i_Desk => k_is); (case i_i_Desk => k_is); (case kc_i_Desk => k_is); (case l_i_Desk => k_is); (case c_i_Desk => k_is); (case k_i_Desk => k_is)
        case m_Desk_is_begun =>
          refine' mdef_mk (st := s_Desk_is_begun) ?a_m_Desk_is_begun ?i_m_Desk_is_begun ?l_m_Desk_is_begun ?c_m_Desk_is_begun ?k_m_Desk_is_begun (fun _ _ _ _ _ _ us hl => match us, hl with | [_], _ => rfl)
          (case a_m_Desk_is_begun => k_is); (case i_m_Desk_is_begun => k_is); (case l_m_Desk_is_begun => k_is); (case c_m_Desk_is_begun => k_is); (case k_m_Desk_is_begun => k_is)
        case m_Desk_begin =>
          refine' mdef_mk (st := s_Desk_begin) ?a_m_Desk_begin ?i_m_Desk_begin ?l_m_Desk_begin ?c_m_Desk_begin ?k_m_Desk_begin (fun _ _ _ _ _ _ us hl => match us, hl with | [_, _, _], _ => rfl)
          (case a_m_Desk_begin => k_is); (case i_m_Desk_begin => k_is); (case l_m_Desk_begin => k_is); (case c_m_Desk_begin => k_is); (case k_m_Desk_begin => k_is)
        case m_Desk_take_spins =>
          refine' mdef_mk (st := s_Desk_take_spins) ?a_m_Desk_take_spins ?i_m_Desk_take_spins ?l_m_Desk_take_spins ?c_m_Desk_take_spins ?k_m_Desk_take_spins (fun _ _ _ _ _ _ us hl => match us, hl with | [_, _], _ => rfl)
          (case a_m_Desk_take_spins => k_is); (case i_m_Desk_take_spins => k_is); (case l_m_Desk_take_spins => k_is); (case c_m_Desk_take_spins => k_is); (case k_m_Desk_take_spins => k_is)
        case m_Desk_place_own =>
          refine' mdef_mk (st := s_Desk_place_own) ?a_m_Desk_place_own ?i_m_Desk_place_own ?l_m_Desk_place_own ?c_m_Desk_place_own ?k_m_Desk_place_own (fun _ _ _ _ _ _ us hl => match us, hl with | [_, _, _], _ => rfl)
          (case a_m_Desk_place_own => k_is); (case i_m_Desk_place_own => k_is); (case l_m_Desk_place_own => k_is); (case c_m_Desk_place_own => k_is); (case k_m_Desk_place_own => k_is)
        case m_Desk_set_own =>
          refine' mdef_mk (st := s_Desk_set_own) ?a_m_Desk_set_own ?i_m_Desk_set_own ?l_m_Desk_set_own ?c_m_Desk_set_own ?k_m_Desk_set_own (fun _ _ _ _ _ _ us hl => match us, hl with | [_, _, _, _], _ => rfl)
          (case a_m_Desk_set_own => k_is); (case i_m_Desk_set_own => k_is); (case l_m_Desk_set_own => k_is); (case c_m_Desk_set_own => k_is); (case k_m_Desk_set_own => k_is)
        case d_row_at =>
          refine' gdef_mk (st := s_row_at) KX G ?a_d_row_at ?l_d_row_at ?c_d_row_at ?k_d_row_at (fun _ _ _ _ _ _ us hl => match us, hl with | [_, _], _ => rfl)
          (case a_d_row_at => k_is); (case l_d_row_at => k_is); (case c_d_row_at => k_is); (case k_d_row_at => k_is)
        case d_call_at =>
          refine' gdef_mk (st := s_call_at) KX G ?a_d_call_at ?l_d_call_at ?c_d_call_at ?k_d_call_at (fun _ _ _ _ _ _ us hl => match us, hl with | [_, _], _ => rfl)
          (case a_d_call_at => k_is); (case l_d_call_at => k_is); (case c_d_call_at => k_is); (case k_d_call_at => k_is)
        case d_done =>
          refine' gdef_mk (st := s_done) KX G ?a_d_done ?l_d_done ?c_d_done ?k_d_done (fun _ _ _ _ _ _ us hl => match us, hl with | [_, _, _, _], _ => rfl)
          (case a_d_done => k_is); (case l_d_done => k_is); (case c_d_done => k_is); (case k_d_done => k_is)
        case d_answered =>
          refine' gdef_mk (st := s_answered) KX G ?a_d_answered ?l_d_answered ?c_d_answered ?k_d_answered (fun _ _ _ _ _ _ us hl => match us, hl with | [_, _, _, _], _ => rfl)
          (case a_d_answered => k_is); (case l_d_answered => k_is); (case c_d_answered => k_is); (case k_d_answered => k_is)
        case d_answers =>
          refine' gdef_mk (st := s_answers) KX G ?a_d_answers ?l_d_answers ?c_d_answers ?k_d_answers (fun _ _ _ _ _ _ us hl => match us, hl with | [_], _ => rfl)
          (case a_d_answers => k_is); (case l_d_answers => k_is); (case c_d_answers => k_is); (case k_d_answers => k_is)
        case cl_Game =>
          refine' Cls.mk ?p_cl_Game ?h_cl_Game ?o_cl_Game ?s_cl_Game
          (case p_cl_Game => k_is); (case h_cl_Game => k_is); (case o_cl_Game => k_is); (case s_cl_Game => k_is)
        case n_Game_persons =>
          show PySem.W.findIn _ _ _ = _
          k_is
        case n_Game_questions =>
          show PySem.W.findIn _ _ _ = _
          k_is
        case n_Game_rows =>
          show PySem.W.findIn _ _ _ = _
          k_is
        case n_Game_much =>
          show PySem.W.findIn _ _ _ = _
          k_is
        case n_Game_winning =>
          show PySem.W.findIn _ _ _ = _
          k_is
        case cl_Spins =>
          refine' Cls.mk ?p_cl_Spins ?h_cl_Spins ?o_cl_Spins ?s_cl_Spins
          (case p_cl_Spins => k_is); (case h_cl_Spins => k_is); (case o_cl_Spins => k_is); (case s_cl_Spins => k_is)
        case n_Spins_owners =>
          show PySem.W.findIn _ _ _ = _
          k_is
        case n_Spins_links =>
          show PySem.W.findIn _ _ _ = _
          k_is
        case n_Spins_sures =>
          show PySem.W.findIn _ _ _ = _
          k_is
        case n_Spins_was_measured =>
          show PySem.W.findIn _ _ _ = _
          k_is
        case cl_Desk =>
          refine' Cls.mk ?p_cl_Desk ?h_cl_Desk ?o_cl_Desk ?s_cl_Desk
          (case p_cl_Desk => k_is); (case h_cl_Desk => k_is); (case o_cl_Desk => k_is); (case s_cl_Desk => k_is)
        case n_Desk_game =>
          show PySem.W.findIn _ _ _ = _
          k_is
        case n_Desk_shared =>
          show PySem.W.findIn _ _ _ = _
          k_is
        case n_Desk_own =>
          show PySem.W.findIn _ _ _ = _
          k_is
        case oex =>
          refine' oex_mk ?x_oex ?s_oex ?e_oex ?t_oex ?k_oex
          (case x_oex => k_is); (case s_oex => k_is); (case e_oex => k_is); (case t_oex => k_is); (case k_oex => k_is)
        case xf =>
          refine' XfC.mk ?a_xf ?g_xf ?e_xf ?h_xf
          (case a_xf => k_is); (case g_xf => k_is); (case e_xf => k_is); (case h_xf => k_is)
        case noCode =>
          k_is
        case te =>
          refine' exm_self ?a_te ?b_te ?c_te ?d_te
          (case a_te => k_is); (case b_te => k_is); (case c_te => k_is); (case d_te => first | rfl | k_is)
        case k_NONE =>
          refine' gk_int KX G ?a_k_NONE
          (case a_k_NONE => k_is)
        case k_X =>
          refine' gk_int KX G ?a_k_X
          (case a_k_X => k_is)
        case k_Y =>
          refine' gk_int KX G ?a_k_Y
          (case a_k_Y => k_is)
        case k_Z =>
          refine' gk_int KX G ?a_k_Z
          (case a_k_Z => k_is)
        case k_NONE_SUCH =>
          refine' gk_int KX G ?a_k_NONE_SUCH
          (case a_k_NONE_SUCH => k_is)
        case k_NOT_BEGUN =>
          refine' gk_int KX G ?a_k_NOT_BEGUN
          (case a_k_NOT_BEGUN => k_is)
        case k_WAS_MEASURED =>
          refine' gk_int KX G ?a_k_WAS_MEASURED
          (case a_k_WAS_MEASURED => k_is)
        case k_NOT_AS_TOLD =>
          refine' gk_int KX G ?a_k_NOT_AS_TOLD
          (case a_k_NOT_AS_TOLD => k_is)
        case k_NOT_SURE_SO =>
          refine' gk_int KX G ?a_k_NOT_SURE_SO
          (case a_k_NOT_SURE_SO => k_is)
        case k_MOST_PERSONS =>
          refine' gk_int KX G ?a_k_MOST_PERSONS
          (case a_k_MOST_PERSONS => k_is)
        case k_MOST_QUESTIONS =>
          refine' gk_int KX G ?a_k_MOST_QUESTIONS
          (case a_k_MOST_QUESTIONS => k_is)
        case k_MOST_IN_ALL =>
          refine' gk_int KX G ?a_k_MOST_IN_ALL
          (case a_k_MOST_IN_ALL => k_is)
        case k_MOST_MUCH =>
          refine' gk_int KX G ?a_k_MOST_MUCH
          (case a_k_MOST_MUCH => k_is)
        case k_MOST_SPINS =>
          refine' gk_int KX G ?a_k_MOST_SPINS
          (case a_k_MOST_SPINS => k_is)
        case k_BEGIN =>
          refine' gk_int KX G ?a_k_BEGIN
          (case a_k_BEGIN => k_is)
        case onw =>
          refine' onw_mk ?t_onw ?t1_onw ?t2_onw ?t3_onw
          (case t_onw => k_is)
          (case t1_onw => k_is)
          (case t2_onw => k_is)
          (case t3_onw => k_is)
        case shp =>
          refine' shp_mk ?t_shp ?t0_shp ?t1_shp ?t2_shp ?t3_shp ?t4_shp ?t5_shp ?t6_shp ?t7_shp ?t8_shp ?t9_shp ?t10_shp ?t11_shp ?t12_shp ?t13_shp ?t14_shp ?t15_shp ?t16_shp ?t17_shp
          (case t_shp => k_is)
          (case t0_shp => k_is)
          (case t1_shp => k_is)
          (case t2_shp => k_is)
          (case t3_shp => k_is)
          (case t4_shp => k_is)
          (case t5_shp => k_is)
          (case t6_shp => k_is)
          (case t7_shp => k_is)
          (case t8_shp => k_is)
          (case t9_shp => k_is)
          (case t10_shp => k_is)
          (case t11_shp => k_is)
          (case t12_shp => k_is)
          (case t13_shp => k_is)
          (case t14_shp => k_is)
          (case t15_shp => k_is)
          (case t16_shp => k_is)
          (case t17_shp => k_is)
        case dee =>
          refine' dee_mk KX G ?t_dee ?t0_dee ?t1_dee ?t2_dee ?t3_dee ?t4_dee ?t5_dee ?t6_dee ?t7_dee ?t8_dee ?t9_dee ?t10_dee ?t11_dee ?t12_dee ?t13_dee ?t14_dee ?t15_dee ?t16_dee ?t17_dee
          (case t_dee => k_is)
          (case t0_dee => k_is)
          (case t1_dee => k_is)
          (case t2_dee => k_is)
          (case t3_dee => k_is)
          (case t4_dee => k_is)
          (case t5_dee => k_is)
          (case t6_dee => k_is)
          (case t7_dee => k_is)
          (case t8_dee => k_is)
          (case t9_dee => k_is)
          (case t10_dee => k_is)
          (case t11_dee => k_is)
          (case t12_dee => k_is)
          (case t13_dee => k_is)
          (case t14_dee => k_is)
          (case t15_dee => k_is)
          (case t16_dee => k_is)
          (case t17_dee => k_is)
        case b_len =>
          refine' PySem.W.mg_none_of KX G ?a_b_len
          (case a_b_len => k_is)
        case b_all =>
          refine' PySem.W.mg_none_of KX G ?a_b_all
          (case a_b_all => k_is)
        case b_sum =>
          refine' PySem.W.mg_none_of KX G ?a_b_sum
          (case a_b_sum => k_is)
        case b_max =>
          refine' PySem.W.mg_none_of KX G ?a_b_max
          (case a_b_max => k_is)
        case b_min =>
          refine' PySem.W.mg_none_of KX G ?a_b_min
          (case a_b_min => k_is)
        case b_range =>
          refine' PySem.W.mg_none_of KX G ?a_b_range
          (case a_b_range => k_is)
        case b_tuple =>
          refine' PySem.W.mg_none_of KX G ?a_b_tuple
          (case a_b_tuple => k_is)
        case b_list =>
          refine' PySem.W.mg_none_of KX G ?a_b_list
          (case a_b_list => k_is)
        case b_int =>
          refine' PySem.W.mg_none_of KX G ?a_b_int
          (case a_b_int => k_is)
        case b_enumerate =>
          refine' PySem.W.mg_none_of KX G ?a_b_enumerate
          (case a_b_enumerate => k_is)
        case b_ValueError =>
          refine' PySem.W.mg_none_of KX G ?a_b_ValueError
          (case a_b_ValueError => k_is)
  case S =>
    intro K H xs a hO hwi hask hx
    cases hx with
    | cons h1 h2 =>
      cases h2
      cases h1 with
      | lst hs ha =>
        have e := L2.ints_dw a.1 _ ha
        subst e
        have q : ((Codec.inLen 0 6000 a.1 && a.1.all (Codec.inInt 0 4294967295)) && true) = true := hwi
        rw [Bool.and_eq_true, Bool.and_eq_true] at q
        refine ⟨_, a.1, rfl, hs, hO, hask, fun x hx => ?_, (Codec.inNat_iff.mp q.1.1).2, fun H' p hp => .lst (L2.SqL.of hp) (L2.dw_ints _)⟩
        have h3 := List.all_eq_true.mp q.1.2 x hx
        have h4 : (decide ((0 : Int) ≤ x) && decide (x ≤ 4294967295)) = true := h3
        rw [Bool.and_eq_true] at h4
        exact ⟨of_decide_eq_true h4.1, of_decide_eq_true h4.2⟩
