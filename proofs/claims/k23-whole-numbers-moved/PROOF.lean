import PyProof.Rows.All
import Wide.All
import OpenK.AllK
import Wide.FinOn
import HandS.ForMost
import HandS.ForExc
import HandS.DictComp
import HandS.More
import HandS.IsInst
import HandS.Property
import HandS.OwnEq
import HandS.Star
import HandS.Style
import HandS.SetBool
import HandS.SetKeys
import HandS.Wide
import PySem.Challenge.RW_countededges_k23_whole_numbers_moved
import Open.SpecLaws
import KE.OsGo
set_option linter.all false
set_option Elab.async false
set_option maxRecDepth 100000
set_option maxHeartbeats 4000000
namespace K23
open PySem L2
/-! ### 1. The text by places -/
def top (i : Nat) : Stmt := PySem.Challenge.pw_countededges_k23_whole_numbers_moved.main.body.getD i (.Pass ⟨0, 0, 0, 0⟩)
abbrev s_is_integer : Stmt := top 15
abbrev N_is_integer : List Str := ["value"]
abbrev p_is_integer : List Str := ["value"]
abbrev s_is_word : Stmt := top 16
abbrev N_is_word : List Str := ["value", "sign"]
abbrev p_is_word : List Str := ["value"]
abbrev s_are_ways : Stmt := top 17
abbrev N_are_ways : List Str := ["value", "way", "pair"]
abbrev p_are_ways : List Str := ["value"]
abbrev s_come_to : Stmt := top 18
abbrev N_come_to : List Str := ["starts", "steps", "found", "at", "place"]
abbrev p_come_to : List Str := ["starts", "steps"]
abbrev s_check_program : Stmt := top 20
abbrev N_check_program : List Str := ["program"]
abbrev p_check_program : List Str := ["program"]
abbrev s_end_of : Stmt := top 21
abbrev N_end_of : List Str := ["program", "value", "place", "way"]
abbrev p_end_of : List Str := ["program", "value"]
abbrev s_is_run : Stmt := top 22
abbrev N_is_run : List Str := ["program", "value", "place"]
abbrev p_is_run : List Str := ["program", "value"]
abbrev s_check_rings : Stmt := top 24
abbrev N_check_rings : List Str := ["program", "ring"]
abbrev p_check_rings : List Str := ["program"]
abbrev s_ways_on : Stmt := top 26
abbrev N_ways_on : List Str := ["program", "found", "left", "place", "way", "targets", "target"]
abbrev p_ways_on : List Str := ["program"]
abbrev s_first_steps : Stmt := top 27
abbrev N_first_steps : List Str := ["program", "many", "steps", "place", "ahead", "way"]
abbrev p_first_steps : List Str := ["program", "many"]
abbrev s_are_whole : Stmt := top 28
abbrev N_are_whole : List Str := ["listed", "value", "least", "word"]
abbrev p_are_whole : List Str := ["listed", "value", "least"]
abbrev s_law_numbers : Stmt := top 31
abbrev N_law_numbers : List Str := ["cell", "salt", "sizes", "whole", "left", "result", "k", "one"]
abbrev p_law_numbers : List Str := ["cell", "salt", "sizes"]
abbrev s_law_pool : Stmt := top 32
abbrev N_law_pool : List Str := ["cell", "salt", "many"]
abbrev p_law_pool : List Str := ["cell", "salt", "many"]
abbrev s_law_draw : Stmt := top 33
abbrev N_law_draw : List Str := ["pool", "many", "at"]
abbrev p_law_draw : List Str := ["pool", "many"]
abbrev s_law_opened : Stmt := top 34
abbrev N_law_opened : List Str := ["script", "k", "many", "cell"]
abbrev p_law_opened : List Str := ["script", "k", "many"]
abbrev s_law_words : Stmt := top 35
abbrev N_law_words : List Str := ["pool", "many", "menus", "some", "at"]
abbrev p_law_words : List Str := ["pool", "many"]
abbrev s_law_names : Stmt := top 36
abbrev N_law_names : List Str := ["pool", "many", "some", "at"]
abbrev p_law_names : List Str := ["pool", "many"]
abbrev s_law_program : Stmt := top 37
abbrev N_law_program : List Str := ["pool", "most", "more", "rings", "places", "names", "pairs", "outs", "at", "start", "one", "other", "first", "last", "place", "exits"]
abbrev p_law_program : List Str := ["pool", "most", "more", "rings"]
abbrev s_law_made : Stmt := top 38
abbrev N_law_made : List Str := ["prog"]
abbrev p_law_made : List Str := ["prog"]
abbrev s_law_places : Stmt := top 39
abbrev N_law_places : List Str := ["prog", "found", "way", "place"]
abbrev p_law_places : List Str := ["prog"]
abbrev s_law_levels : Stmt := top 40
abbrev N_law_levels : List Str := ["pool", "prog", "place", "levels"]
abbrev p_law_levels : List Str := ["pool", "prog"]
abbrev s_law_told : Stmt := top 41
abbrev N_law_told : List Str := ["numbering", "levels", "e"]
abbrev p_law_told : List Str := ["numbering", "levels"]
abbrev s_law_refused : Stmt := top 42
abbrev N_law_refused : List Str := ["prog", "now", "place", "zero", "other", "fewer", "more", "odd"]
abbrev p_law_refused : List Str := ["prog", "now"]
abbrev s_law : Stmt := top 43
abbrev N_law : List Str := ["script", "k", "pool", "prog", "numbering", "way", "first", "steps", "now", "turn", "levels", "start", "end", "at", "run"]
abbrev p_law : List Str := ["script"]
abbrev s_P_init : Stmt := inClass (top 19) 0
abbrev N_P_init : List Str := ["self", "ways", "begin", "exits", "way", "pair", "place", "ahead", "back"]
abbrev p_P_init : List Str := ["self", "ways", "begin", "exits"]
abbrev s_P_are_exits : Stmt := inClass (top 19) 1
abbrev N_P_are_exits : List Str := ["self", "exits", "place"]
abbrev p_P_are_exits : List Str := ["self", "exits"]
abbrev s_P_ways_at : Stmt := inClass (top 19) 2
abbrev N_P_ways_at : List Str := ["self", "place", "side", "way"]
abbrev p_P_ways_at : List Str := ["self", "place", "side"]
abbrev s_P_ways : Stmt := inClass (top 19) 4
abbrev N_P_ways : List Str := ["self"]
abbrev p_P_ways : List Str := ["self"]
abbrev s_P_places : Stmt := inClass (top 19) 5
abbrev N_P_places : List Str := ["self"]
abbrev p_P_places : List Str := ["self"]
abbrev s_P_exits : Stmt := inClass (top 19) 6
abbrev N_P_exits : List Str := ["self"]
abbrev p_P_exits : List Str := ["self"]
abbrev s_P_contains : Stmt := inClass (top 19) 7
abbrev N_P_contains : List Str := ["self", "way"]
abbrev p_P_contains : List Str := ["self", "way"]
abbrev s_P_getitem : Stmt := inClass (top 19) 8
abbrev N_P_getitem : List Str := ["self", "way"]
abbrev p_P_getitem : List Str := ["self", "way"]
abbrev s_P_check_place : Stmt := inClass (top 19) 11
abbrev N_P_check_place : List Str := ["self", "place"]
abbrev p_P_check_place : List Str := ["self", "place"]
abbrev s_P_leaving : Stmt := inClass (top 19) 12
abbrev N_P_leaving : List Str := ["self", "place"]
abbrev p_P_leaving : List Str := ["self", "place"]
abbrev s_P_eq : Stmt := inClass (top 19) 14
abbrev N_P_eq : List Str := ["self", "other", "mine"]
abbrev p_P_eq : List Str := ["self", "other"]
abbrev s_P_path : Stmt := inClass (top 19) 15
abbrev N_P_path : List Str := ["self", "start", "goals", "known", "queue", "at", "place", "way", "target"]
abbrev p_P_path : List Str := ["self", "start", "goals"]
abbrev s_P_find_ring : Stmt := inClass (top 19) 16
abbrev N_P_find_ring : List Str := ["self", "way", "pair", "back"]
abbrev p_P_find_ring : List Str := ["self"]
abbrev s_M_init : Stmt := inClass (top 29) 0
abbrev N_M_init : List Str := ["self", "program"]
abbrev p_M_init : List Str := ["self", "program"]
abbrev s_M_getitem : Stmt := inClass (top 29) 3
abbrev N_M_getitem : List Str := ["self", "way"]
abbrev p_M_getitem : List Str := ["self", "way"]
abbrev s_M_call : Stmt := inClass (top 29) 5
abbrev N_M_call : List Str := ["self", "run", "way"]
abbrev p_M_call : List Str := ["self", "run"]
abbrev s_M_run : Stmt := inClass (top 29) 6
abbrev N_M_run : List Str := ["self", "number", "found", "place", "left", "way", "fitting"]
abbrev p_M_run : List Str := ["self", "number"]
abbrev s_M_with_levels : Stmt := inClass (top 29) 8
abbrev N_M_with_levels : List Str := ["self", "levels", "other", "way", "start", "end"]
abbrev p_M_with_levels : List Str := ["self", "levels"]
abbrev s_M_moved : Stmt := inClass (top 29) 9
abbrev N_M_moved : List Str := ["self", "levels", "program", "place"]
abbrev p_M_moved : List Str := ["self", "levels"]
abbrev s_M_free : Stmt := inClass (top 29) 12
abbrev N_M_free : List Str := ["self", "way"]
abbrev p_M_free : List Str := ["self"]
abbrev s_M_eq : Stmt := inClass (top 29) 13
abbrev N_M_eq : List Str := ["self", "other"]
abbrev p_M_eq : List Str := ["self", "other"]
abbrev s_P_begin : Stmt := inClass (top 19) 3
abbrev N_P_begin : List Str := ["self"]
abbrev p_P_begin : List Str := ["self"]
abbrev s_M_many : Stmt := inClass (top 29) 2
abbrev N_M_many : List Str := ["self"]
abbrev p_M_many : List Str := ["self"]
theorem sc_is_integer : FnScope N_is_integer p_is_integer (defScope s_is_integer) := ⟨rfl, rfl, rfl, by decide +kernel, rfl, by decide +kernel, by decide +kernel⟩
theorem sc_is_word : FnScope N_is_word p_is_word (defScope s_is_word) := ⟨rfl, rfl, rfl, by decide +kernel, rfl, by decide +kernel, by decide +kernel⟩
theorem sc_are_ways : FnScope N_are_ways p_are_ways (defScope s_are_ways) := ⟨rfl, rfl, rfl, by decide +kernel, rfl, by decide +kernel, by decide +kernel⟩
theorem sc_come_to : FnScope N_come_to p_come_to (defScope s_come_to) := ⟨rfl, rfl, rfl, by decide +kernel, rfl, by decide +kernel, by decide +kernel⟩
theorem sc_check_program : FnScope N_check_program p_check_program (defScope s_check_program) := ⟨rfl, rfl, rfl, by decide +kernel, rfl, by decide +kernel, by decide +kernel⟩
theorem sc_end_of : FnScope N_end_of p_end_of (defScope s_end_of) := ⟨rfl, rfl, rfl, by decide +kernel, rfl, by decide +kernel, by decide +kernel⟩
theorem sc_is_run : FnScope N_is_run p_is_run (defScope s_is_run) := ⟨rfl, rfl, rfl, by decide +kernel, rfl, by decide +kernel, by decide +kernel⟩
theorem sc_check_rings : FnScope N_check_rings p_check_rings (defScope s_check_rings) := ⟨rfl, rfl, rfl, by decide +kernel, rfl, by decide +kernel, by decide +kernel⟩
theorem sc_ways_on : FnScope N_ways_on p_ways_on (defScope s_ways_on) := ⟨rfl, rfl, rfl, by decide +kernel, rfl, by decide +kernel, by decide +kernel⟩
theorem sc_first_steps : FnScope N_first_steps p_first_steps (defScope s_first_steps) := ⟨rfl, rfl, rfl, by decide +kernel, rfl, by decide +kernel, by decide +kernel⟩
theorem sc_are_whole : FnScope N_are_whole p_are_whole (defScope s_are_whole) := ⟨rfl, rfl, rfl, by decide +kernel, rfl, by decide +kernel, by decide +kernel⟩
theorem sc_law_numbers : FnScope N_law_numbers p_law_numbers (defScope s_law_numbers) := ⟨rfl, rfl, rfl, by decide +kernel, rfl, by decide +kernel, by decide +kernel⟩
theorem sc_law_pool : FnScope N_law_pool p_law_pool (defScope s_law_pool) := ⟨rfl, rfl, rfl, by decide +kernel, rfl, by decide +kernel, by decide +kernel⟩
theorem sc_law_draw : FnScope N_law_draw p_law_draw (defScope s_law_draw) := ⟨rfl, rfl, rfl, by decide +kernel, rfl, by decide +kernel, by decide +kernel⟩
theorem sc_law_opened : FnScope N_law_opened p_law_opened (defScope s_law_opened) := ⟨rfl, rfl, rfl, by decide +kernel, rfl, by decide +kernel, by decide +kernel⟩
theorem sc_law_words : FnScope N_law_words p_law_words (defScope s_law_words) := ⟨rfl, rfl, rfl, by decide +kernel, rfl, by decide +kernel, by decide +kernel⟩
theorem sc_law_names : FnScope N_law_names p_law_names (defScope s_law_names) := ⟨rfl, rfl, rfl, by decide +kernel, rfl, by decide +kernel, by decide +kernel⟩
theorem sc_law_program : FnScope N_law_program p_law_program (defScope s_law_program) := ⟨rfl, rfl, rfl, by decide +kernel, rfl, by decide +kernel, by decide +kernel⟩
theorem sc_law_made : FnScope N_law_made p_law_made (defScope s_law_made) := ⟨rfl, rfl, rfl, by decide +kernel, rfl, by decide +kernel, by decide +kernel⟩
theorem sc_law_places : FnScope N_law_places p_law_places (defScope s_law_places) := ⟨rfl, rfl, rfl, by decide +kernel, rfl, by decide +kernel, by decide +kernel⟩
theorem sc_law_levels : FnScope N_law_levels p_law_levels (defScope s_law_levels) := ⟨rfl, rfl, rfl, by decide +kernel, rfl, by decide +kernel, by decide +kernel⟩
theorem sc_law_told : FnScope N_law_told p_law_told (defScope s_law_told) := ⟨rfl, rfl, rfl, by decide +kernel, rfl, by decide +kernel, by decide +kernel⟩
theorem sc_law_refused : FnScope N_law_refused p_law_refused (defScope s_law_refused) := ⟨rfl, rfl, rfl, by decide +kernel, rfl, by decide +kernel, by decide +kernel⟩
theorem sc_law : FnScope N_law p_law (defScope s_law) := ⟨rfl, rfl, rfl, by decide +kernel, rfl, by decide +kernel, by decide +kernel⟩
theorem sc_P_init : FnScope N_P_init p_P_init (defScope s_P_init) := ⟨rfl, rfl, rfl, by decide +kernel, rfl, by decide +kernel, by decide +kernel⟩
theorem sc_P_are_exits : FnScope N_P_are_exits p_P_are_exits (defScope s_P_are_exits) := ⟨rfl, rfl, rfl, by decide +kernel, rfl, by decide +kernel, by decide +kernel⟩
theorem sc_P_ways_at : FnScope N_P_ways_at p_P_ways_at (defScope s_P_ways_at) := ⟨rfl, rfl, rfl, by decide +kernel, rfl, by decide +kernel, by decide +kernel⟩
theorem sc_P_ways : FnScope N_P_ways p_P_ways (defScope s_P_ways) := ⟨rfl, rfl, rfl, by decide +kernel, rfl, by decide +kernel, by decide +kernel⟩
theorem sc_P_places : FnScope N_P_places p_P_places (defScope s_P_places) := ⟨rfl, rfl, rfl, by decide +kernel, rfl, by decide +kernel, by decide +kernel⟩
theorem sc_P_exits : FnScope N_P_exits p_P_exits (defScope s_P_exits) := ⟨rfl, rfl, rfl, by decide +kernel, rfl, by decide +kernel, by decide +kernel⟩
theorem sc_P_contains : FnScope N_P_contains p_P_contains (defScope s_P_contains) := ⟨rfl, rfl, rfl, by decide +kernel, rfl, by decide +kernel, by decide +kernel⟩
theorem sc_P_getitem : FnScope N_P_getitem p_P_getitem (defScope s_P_getitem) := ⟨rfl, rfl, rfl, by decide +kernel, rfl, by decide +kernel, by decide +kernel⟩
theorem sc_P_check_place : FnScope N_P_check_place p_P_check_place (defScope s_P_check_place) := ⟨rfl, rfl, rfl, by decide +kernel, rfl, by decide +kernel, by decide +kernel⟩
theorem sc_P_leaving : FnScope N_P_leaving p_P_leaving (defScope s_P_leaving) := ⟨rfl, rfl, rfl, by decide +kernel, rfl, by decide +kernel, by decide +kernel⟩
theorem sc_P_eq : FnScope N_P_eq p_P_eq (defScope s_P_eq) := ⟨rfl, rfl, rfl, by decide +kernel, rfl, by decide +kernel, by decide +kernel⟩
theorem sc_P_path : FnScope N_P_path p_P_path (defScope s_P_path) := ⟨rfl, rfl, rfl, by decide +kernel, rfl, by decide +kernel, by decide +kernel⟩
theorem sc_P_find_ring : FnScope N_P_find_ring p_P_find_ring (defScope s_P_find_ring) := ⟨rfl, rfl, rfl, by decide +kernel, rfl, by decide +kernel, by decide +kernel⟩
theorem sc_M_init : FnScope N_M_init p_M_init (defScope s_M_init) := ⟨rfl, rfl, rfl, by decide +kernel, rfl, by decide +kernel, by decide +kernel⟩
theorem sc_M_getitem : FnScope N_M_getitem p_M_getitem (defScope s_M_getitem) := ⟨rfl, rfl, rfl, by decide +kernel, rfl, by decide +kernel, by decide +kernel⟩
theorem sc_M_call : FnScope N_M_call p_M_call (defScope s_M_call) := ⟨rfl, rfl, rfl, by decide +kernel, rfl, by decide +kernel, by decide +kernel⟩
theorem sc_M_run : FnScope N_M_run p_M_run (defScope s_M_run) := ⟨rfl, rfl, rfl, by decide +kernel, rfl, by decide +kernel, by decide +kernel⟩
theorem sc_M_with_levels : FnScope N_M_with_levels p_M_with_levels (defScope s_M_with_levels) := ⟨rfl, rfl, rfl, by decide +kernel, rfl, by decide +kernel, by decide +kernel⟩
theorem sc_M_moved : FnScope N_M_moved p_M_moved (defScope s_M_moved) := ⟨rfl, rfl, rfl, by decide +kernel, rfl, by decide +kernel, by decide +kernel⟩
theorem sc_M_free : FnScope N_M_free p_M_free (defScope s_M_free) := ⟨rfl, rfl, rfl, by decide +kernel, rfl, by decide +kernel, by decide +kernel⟩
theorem sc_M_eq : FnScope N_M_eq p_M_eq (defScope s_M_eq) := ⟨rfl, rfl, rfl, by decide +kernel, rfl, by decide +kernel, by decide +kernel⟩
theorem sc_P_begin : FnScope N_P_begin p_P_begin (defScope s_P_begin) := ⟨rfl, rfl, rfl, by decide +kernel, rfl, by decide +kernel, by decide +kernel⟩
theorem sc_M_many : FnScope N_M_many p_M_many (defScope s_M_many) := ⟨rfl, rfl, rfl, by decide +kernel, rfl, by decide +kernel, by decide +kernel⟩

/-! ### 2. What the top has written -/
/-- a def of the text, known by its name -/
structure FnT (K : PySem.W.Frag) (mg : Str → Option Value) (x : Str) (st : Stmt) (ps : List Str) (f : Addr) (fd : FuncData) : Prop where
  fn : Fun K x x st f fd
  mg : mg x = some (.ref f)
  bd : Binds K fd ps []
/-- a method of the class at C -/
structure MeT (K : PySem.W.Frag) (C : Addr) (m qual : Str) (st : Stmt) (ps : List Str) (f : Addr) (fd : FuncData) : Prop where
  fn : Fun K m qual st f fd
  at_ : PySem.W.findIn K (.ref C) m = some (some (.ref f))
  isf : PySem.W.isFn K (.ref f) = true
  fi : PySem.W.fnIn K f = true
  bd : Binds K fd ps []
structure PrT (K : PySem.W.Frag) (C : Addr) (m qual : Str) (st : Stmt) (ps : List Str) (p f : Addr) (fd : FuncData) : Prop where
  fn : Fun K m qual st f fd
  pr : PropOf K C m p f
  bd : Binds K fd ps []
/-- a class of one's own whose instances are plain -/
structure ClT (K : PySem.W.Frag) (mg : Str → Option Value) (x : Str) (C : Addr) : Prop where
  cl : Cls K C
  mg : mg x = some (.ref C)
  kp : PySem.W.keepIn K (.ref C) = true
  mks : PySem.W.makesIn K C = true
  ha : PySem.W.findIn K (.ref C) "__class__" = some (some (.builtin "object.__class__"))
  hn : PySem.W.specialIn K (.builtin "object.__class__") "__get__" = some (some (.builtin "getset_descriptor.__get__"))
  htk : PySem.W.takesIn K (.builtin "object.__class__") = some true
  hm : PySem.W.mroIn K C (.type "object") = some true
theorem meth_of {K : PySem.W.Frag} {C : Addr} {m qual : Str} {st : Stmt} {ps : List Str} {f : Addr} {fd : FuncData} (M : MeT K C m qual st ps f fd) : Meth K C m f := ⟨M.at_, M.isf, M.fn.kp⟩
structure Blt (mg : Str → Option Value) : Prop where
  isinstance : mg "isinstance" = none
  int : mg "int" = none
  bool : mg "bool" = none
  str : mg "str" = none
  len : mg "len" = none
  all_ : mg "all" = none
  dict : mg "dict" = none
  tuple : mg "tuple" = none
  list : mg "list" = none
  sorted : mg "sorted" = none
  any_ : mg "any" = none
  sum : mg "sum" = none
  max : mg "max" = none
  min : mg "min" = none
  range : mg "range" = none
  letters : ∃ t, mg "LETTERS" = some (.str (PySem.Str.ofString "abcdefghijklmnopqrstuvwxyz") t)
  mostL : ∃ t, mg "MOST_LETTERS" = some (.int 8 t)
  mostW : ∃ t, mg "MOST_WAYS" = some (.int 40 t)
structure Fld (K : PySem.W.Frag) (CP CM : Addr) : Prop where
  pairs : NoAttr K CP "pairs"
  own_places : NoAttr K CP "own_places"
  own_begin : NoAttr K CP "own_begin"
  own_exits : NoAttr K CP "own_exits"
  outs : NoAttr K CP "outs"
  ins : NoAttr K CP "ins"
  own_program : NoAttr K CM "own_program"
  onward : NoAttr K CM "onward"
  base : NoAttr K CM "base"
  steps : NoAttr K CM "steps"
end K23

namespace PySem
namespace LvX
open PySem.W PySem.Calls PyProof.Rows PySem.HandSPX Builtin Builtin.ObjectAttr
/-! own classes, then Exception's chain -/
abbrev tailE : List Value := [.type "Exception", .type "BaseException", .type "object"]
def refsE : List Value → Bool
  | .ref _ :: more => refsE more
  | rest => rest == tailE
theorem refsE_split : ∀ (ms : List Value), refsE ms = true → ∃ cs : List Addr, ms = cs.map Value.ref ++ tailE := by
  intro ms
  induction ms with
  | nil => intro h; exact absurd h (by decide)
  | cons m more ih =>
    intro h
    cases m with
    | ref c =>
      obtain ⟨cs, q⟩ := ih h
      exact ⟨c :: cs, by rw [q]; rfl⟩
    | _ => exact ⟨[], beq_iff_eq.mp h⟩
theorem refsE_passes (self : Value) (ms : List Value) (h : refsE ms = true) : refuseLoop self "__setattr__" ms = pure () := by
  obtain ⟨cs, rfl⟩ := refsE_split ms h
  clear h
  induction cs with
  | nil => exact F.store_Exception.passes self
  | cons c cs ih =>
    show refuseLoop self "__setattr__" (.ref c :: (cs.map Value.ref ++ tailE)) = pure ()
    rw [refuseLoop_ref]
    exact ih
theorem refsE_contains (T : String) (ms : List Value) (h : refsE ms = true) : ms.contains (.type T) = tailE.contains (.type T) := by
  obtain ⟨cs, rfl⟩ := refsE_split ms h
  clear h
  induction cs with
  | nil => rfl
  | cons c cs ih =>
    show (Value.ref c :: (cs.map Value.ref ++ tailE)).contains (.type T) = _
    rw [List.contains_cons, ih]
    rfl
theorem refsE_full {ms : List Value} (h : refsE ms = true) : ms.isEmpty = false := by
  cases ms with
  | nil => exact absurd h (by decide)
  | cons _ _ => rfl
section
variable {prog : Program} {w : World} {A : Around} {R : Result → Shared → Prop} {hp : Heap} {g : Array GenState} {d : Drawn} {t : Nat} {os : OsState}
/-- self.name = v by the model's own object.__setattr__, on a fresh exception of an own class over Exception -/
theorem lv_osa {K : Frag} {name : Str} {tk : Tok} {v : Value} {x C : Addr} {fv : Array Value} {cd : ClassData} (KX : K.In hp)
    (hx : hp.get? x = some { cls := .ref C, data := .fields fv }) (hcd : clsIn K C = some cd) (hm : refsE cd.mro = true) (hh : cd.hasDict = true) (ha : findIn K (.ref C) name = some none)
    (hq : ∀ h' tk' dx, (∀ b o, b ≠ x → hp.get? b = some o → h'.get? b = some o) → hp.objs.size ≤ dx → dx ≠ x →
      h'.get? x = some { cls := .ref C, dict := some dx, data := .fields fv } →
      h'.Ns1 dx (fun y => if y = name then some v else none) → R (.ok (.ret .none)) ⟨h', g, d, tk', os⟩) :
    codeAny (model prog w) A (.call (.builtin "object.__setattr__") ⟨[.ref x, .str name tk, v], []⟩) R ⟨hp, g, d, t, os⟩ := by
  have J : InstAt hp x { cls := .ref C, data := .fields fv } C none := ⟨hx, rfl, rfl, trivial⟩
  have facts := F.store_object
  have full := refsE_full hm
  have objIn : cd.mro.contains (.type "object") = true := (refsE_contains "object" _ hm).trans (by decide +kernel)
  have apart : x ≠ hp.objs.size := Nat.ne_of_lt (Heap.lt_size hx)
  have isObj : Looks (model prog w) hp (isInstance (.ref x) (.type "object")) true :=
    J.type.andThen (looks_mroIn KX (by unfold mroIn; rw [hcd, Option.bind_some, if_neg (by rw [full]; decide), objIn]))
  refine codeAny_call_builtin facts.slot.plain facts.entry (@check_slot (model prog w) _ _ ⟨hp, g, d, t, os⟩ "object.__setattr__" "object" "__setattr__" (.ref x)
    [.str name tk, v] [] _ facts.kind facts.split isObj (facts.args (.ref x) (.str name tk) v) ?_)
  have chain : Looks (model prog w) hp (mroOf (.ref C)) cd.mro := (looks_clsIn KX hcd).andThen .now
  have noTaker : Looks (model prog w) hp (storeTaker? none) none := .now
  have ofC : Looks (model prog w) hp (classData C) cd := looks_clsIn KX hcd
  rw [osa_eq, refuse_eq]
  refine wpAny_bind (wpAny_bind (J.type.at (wpAny_bind (chain.at ?_))))
  rw [refsE_passes _ _ hm]
  refine wpAny_pure (wpAny_bind (J.type.at (wpAny_bind ((looks_findIn KX ha).at (wpAny_bind (noTaker.at ?_))))))
  show wpAny _ _ (storeInOwnDict (.ref x) (.ref C) (.str name tk) name v false) _ _ _
  obtain ⟨c1, c2, c3, c4, c5, c6, c7, c8, c9, c10, c11⟩ := cd
  dsimp only at hh
  subst hh
  unfold storeInOwnDict ownDictForStores
  repeat (first
    | with_reducible refine store_in_new ?_ ?_
    | with_reducible refine wpAny_loadPart_at hx ?_
    | with_reducible refine ofC.at ?_
    | wp_step)
  · have old := Heap.get?_push_at (h := hp) (o := { cls := .type "dict", data := .dict #[] }) rfl rfl
    exact ⟨_, #[], _, (Heap.get?_update_ne _ _ _ _ apart.symm).trans old, rfl,
      (fun e he => absurd he (by simp)), fun _ => rfl⟩
  · intro h' tk' ns' but
    have x1 : (hp.push { cls := .type "dict", data := .dict #[] }).get? x = some { cls := .ref C, data := .fields fv } := Heap.get?_push_of_some _ hx
    refine hq h' tk' hp.objs.size (fun b o hb ho => ?_) (Nat.le_refl _) apart.symm ?_ ns'
    · refine (but.2 b (Nat.ne_of_lt (Heap.lt_size ho))).trans ?_
      exact (Heap.get?_update_ne _ _ _ _ hb).trans (Heap.get?_push_of_some _ ho)
    · exact (but.2 x apart).trans (Heap.get?_update_self _ x1 rfl)
end
end LvX
end PySem
namespace PySem
namespace LvX
open PySem.W PySem.Calls PyProof.Rows PySem.HandSPX
/-! ### the text of __init__ -/
def iA (p1 p2 : Pos) : Arguments := { posonlyargs := [], args := [{ arg := "self", annotation := none, pos := p1 }, { arg := "value", annotation := none, pos := p2 }], vararg := none, kwonlyargs := [], kw_defaults := [], kwarg := none, defaults := [] }
def iB (q1 q2 q3 q4 : Pos) : List Stmt := [.Assign [.Attribute (.Name "self" q1) "value" q2] (.Name "value" q3) q4]
def iS : Scope := { kind := .function, names := [(PySem.Str.ofString "self", .local), (PySem.Str.ofString "value", .local)], isGenerator := false, isCoroutine := false, more := [] }
/-- what the written part says of Low, at C, and of its __init__, at fI -/
structure LvT (K : Frag) (mg : Str → Option Value) (C fI : Addr) : Prop where
  gC : mg "BadLevels" = some (.ref C)
  cls : ∃ nm q N bs bm sn sub ab col dd k0 k1 k2 k3 k5, K.lookup C = some (excClassObj nm q C N bs bm true sn sub ab col dd k0 k1 k2 k3 k5 "Exception.__new__") ∧ refsE bm = true
  sa : findIn K (.ref C) "__setattr__" = some (some (.builtin "object.__setattr__"))
  ga : findIn K (.ref C) "__getattribute__" = some (some (.builtin "BaseException.__getattribute__"))
  gg : findIn K (.ref C) "__getattr__" = some none
  noN : findIn K (.ref C) "value" = some none
  iC : findIn K (.ref C) "__init__" = some (some (.ref fI))
  tC : typeIn K (.ref fI) = some (.type "function")
  kC : keepIn K (.ref C) = true
  exC : subIn K (.ref C) (.type "BaseException") = some true
  tyC : typeIn K (.ref C) = some (.type "type")
  hdC : hasDictIn K C = true
  te : exmOne K (.ref C) (.ref C) = some true
  fn : ∃ (oc : Value) (od : Option Addr) (doc pm : Value) (an : Option Addr) (cdv ct : Value) (osl : Array (Option Value)) (p1 p2 q1 q2 q3 q4 : Pos),
    K.lookup fI = some ⟨oc, od, .func (fnOf "__init__" "BadLevels.__init__" (iA p1 p2) (iB q1 q2 q3 q4) iS .none .none doc pm an cdv ct), osl⟩ ∧ codeIn K cdv "BadLevels.__init__" = true
theorem one_size (v : Value) : [v].length ≤ sizeLine := by
  rw [sizeLine_eq]
  exact (by decide : 1 ≤ 16777216)
theorem kept_but {K : Frag} {h h' : Heap} {x : Addr} (X : K.In h) (hx : K.lookup x = none) (k : ∀ b o, b ≠ x → h.get? b = some o → h'.get? b = some o) : K.In h' := fun a o e =>
  k a o (fun z => by rw [z, hx] at e; cases e) (X a o e)
theorem ldC {M : Model} {s : Shared} {name : Str} {scope : Scope} {L a : Addr} {cd : Value} {m : Str → Option Value} {x : Str} {pos : Pos} {v : Value} {Q : Value → Shared → Prop} {A : Around} {E : Value → Shared → Prop} (hn : s.heap.Ns L m) (hv : m x = some v) (h : Q v s)
    (hk : scope.kind = .function := by rfl) (hl : (envOfC name scope L a cd).kindOf x = some .local := by rfl) (hd : (x == ("__debug__" : Str)) = false := by decide) :
    wpAny M A (eval (.Name x pos) (envOfC name scope L a cd)) Q E s := wpAny_Name (wpAny_loadName_local hk hl hn hv h) hd
/-- what __init__ leaves of a fresh exception at x -/
structure InitEnd (h h' : Heap) (x C dx t1 : Addr) (v : Value) : Prop where
  keep : ∀ b o, b ≠ x → h.get? b = some o → h'.get? b = some o
  obj : h'.get? x = some { cls := .ref C, dict := some dx, data := .fields #[.ref t1, .none, .none, .none, .bool false, .none] }
  dbig : h.objs.size ≤ dx
  dne : dx ≠ x
  ns : h'.Ns1 dx (fun y => if y = "value" then some v else none)
/-- a made Low -/
structure OwnMade (h h' : Heap) (e C d : Addr) (v : Value) : Prop where
  keep : ∀ b o, h.get? b = some o → h'.get? b = some o
  new : h.objs.size ≤ e
  obj : ∃ oe vs, h'.get? e = some oe ∧ oe.cls = .ref C ∧ oe.dict = some d ∧ oe.data = .fields vs ∧ vs[1]? = some .none
  dbig : h.objs.size ≤ d
  dne : d ≠ e
  ns : h'.Ns1 d (fun y => if y = "value" then some v else none)
section
variable {prog : Program} {w : World} {A : Around} {E : Value → Shared → Prop} {R : Result → Shared → Prop} {s : Shared} {K : Frag} {mg : Str → Option Value} {C fI : Addr}
theorem lv_init (T : LvT K mg C fI) {x t0 : Addr} {v : Value} (X : K.In s.heap) (hlim : s.heap.NoLimit) (hx : s.heap.get? x = some (excO C t0)) (hnx : K.lookup x = none) (hroom : A.depth < recursionLimit)
    (hq : ∀ h' tk dx, InitEnd s.heap h' x C dx t0 v → R (.ok (.ret .none)) { s with heap := h', toks := tk }) :
    codeAny (model prog w) A (.call (.ref fI) ⟨[.ref x, v], []⟩) R s := by
  obtain ⟨oc, od, doc, pm, an, cdv, ct, osl, p1, p2, q1, q2, q3, q4, ho, hcd⟩ := T.fn
  obtain ⟨nm, q, N, bs, bm, sn, sub, ab, col, dd, k0, k1, k2, k3, k5, hC, hbm⟩ := T.cls
  have hcl : clsIn K C = some { name := nm, bases := bs, mro := .ref C :: bm, ns := N, qualname := q, hasDict := true, slotNames := sn, subclasses := sub, abstract := ab, collection := col, hasDel := false } := by unfold clsIn; rw [hC] <;> rfl
  refine Att.call_fn (binds := [("self", .ref x), ("value", v)]) X hlim ho hcd hroom (BindsTo.of_eq (by first | rfl | with_unfolding_all rfl)) (by first | rfl | decide | with_unfolding_all rfl) (fun s₁ IC => ?_) rfl rfl rfl
  obtain ⟨h₁, tk₁, rfl⟩ := IC.toInCall.same
  have k : ∀ b o, s.heap.get? b = some o → h₁.get? b = some o := IC.toInCall.keep
  have hn := IC.toInCall.ns
  have hxL : s.heap.objs.size ≠ x := Nat.ne_of_gt (Heap.lt_size hx)
  have X₁ : K.In h₁ := X.keeps k
  have hx₁ := k _ _ hx
  -- self.by = by
  show wpAny _ _ (execs _ _) _ _ _
  refine wpAny_execs_cons (plainObj_wpAny_Assign_Attribute ?_)
  refine ldC (v := v) hn (by first | rfl | with_unfolding_all rfl | kernel_rfl) (ldC (v := .ref x) hn (by first | rfl | with_unfolding_all rfl | kernel_rfl) ?_)
  refine set_plain X₁ (ox := excO C t0) (od := none) ⟨hx₁, rfl, rfl, trivial⟩ T.sa ?_
  refine lv_osa X₁ hx₁ hcl (show refsE (.ref C :: bm) = true from hbm) rfl T.noN (fun h₃ tk₃ dx k₃ dn dne hx₃ hn₃ => ?_)
  show wpAny _ _ (execs _ _) _ _ _
  have z : s.heap.objs.size < h₁.objs.size := hn.lt
  exact wpAny_execs_nil (hq h₃ tk₃ dx ⟨fun b o hb e => k₃ b o hb (k b o e), hx₃, Nat.le_of_lt (Nat.lt_of_lt_of_le z dn), dne, hn₃⟩)
theorem lv_made (T : LvT K mg C fI) {v : Value} (X : K.In s.heap) (hlim : s.heap.NoLimit) (hroom : A.depth + 1 < recursionLimit)
    (hq : ∀ h' tk e d, OwnMade s.heap h' e C d v → R (.ok (.ret (.ref e))) { s with heap := h', toks := tk }) :
    codeAny (model prog w) A (.call (.ref C) ⟨[v], []⟩) R s := by
  obtain ⟨nm, q, N, bs, bm, sn, sub, ab, col, dd, k0, k1, k2, k3, k5, hC, hbm⟩ := T.cls
  obtain ⟨hp, g, dr, tk, os⟩ := s
  have k : ∀ b o, hp.get? b = some o → ((hp.push (kdv_tup [v])).push (excO C hp.objs.size)).get? b = some o := fun b o e => Heap.get?_push_of_some _ (Heap.get?_push_of_some _ e)
  have hget : ((hp.push (kdv_tup [v])).push (excO C hp.objs.size)).get? (hp.objs.size + 1) = some (excO C hp.objs.size) := by heap_get
  have hnx : K.lookup (hp.objs.size + 1) = none := by
    cases e : K.lookup (hp.objs.size + 1) with
    | none => rfl
    | some o =>
      have z : hp.get? (hp.objs.size + 1) = some o := X _ _ e
      exact absurd (Nat.lt_of_succ_lt (Heap.lt_size z)) (Nat.lt_irrefl _)
  refine call_own F.excBase_Exception (fun X => refsE_contains X bm hbm) (X _ _ hC) (looks_findIn X T.iC) (fun self => bind_fn X self T.tC) (one_size v) ?_
  refine lv_init (s := ⟨(hp.push (kdv_tup [v])).push (excO C hp.objs.size), g, dr, tk, os⟩) T (X.keeps k) (hlim.keeps k) hget hnx ?_ fun h' tk' dx ⟨k', hx, dn, dne, hns⟩ => ?_
  · show A.depth + 1 < recursionLimit
    exact hroom
  · have old : ∀ b o, hp.get? b = some o → h'.get? b = some o := fun b o e => k' b o (Nat.ne_of_lt (Nat.lt_succ_of_lt (Heap.lt_size e))) (k b o e)
    have z : hp.objs.size + 1 + 1 ≤ dx := by
      first
        | (simpa only [Heap.size_push] using dn)
        | exact dn
        | (have q := dn; rw [Heap.size_push, Heap.size_push] at q; exact q)
    exact ⟨rfl, hq h' tk' (hp.objs.size + 1) dx ⟨old, Nat.le_succ _, ⟨_, _, hx, rfl, rfl, rfl, rfl⟩, Nat.le_trans (Nat.le_trans (Nat.le_succ _) (Nat.le_succ _)) z, dne, hns⟩⟩
end
end LvX
end PySem
namespace L2
open PySem PySem.Spec PyProof.Rows
theorem relO_lv {v : V} {v' : Value} (r : RelV v v') (f : Str) : RelO (List.lookup f [(("value" : Str), v)]) (if f = "value" then some v' else none) := by
  by_cases hw : f = "value"
  · subst hw
    rw [if_pos rfl]
    have q : List.lookup ("value" : Str) [(("value" : Str), v)] = some v := by simp [List.lookup]
    rw [q]
    exact r
  · rw [if_neg hw]
    have qw : (f == ("value" : Str)) = false := by simpa using hw
    have q2 : List.lookup f [(("value" : Str), v)] = none := by simp [List.lookup, qw]
    rw [q2]
    trivial
section
variable {X : Cx} {C fI : Addr}
/-- Low(e) -/
def tMkLv (C : Addr) (ta : TA) : St → Hp → XK → Prop := fun σ H Q => ta σ H fun vs H1 => ∃ v, vs = [v] ∧ ∀ d, H1 d = none → Q (.ref C) (some d) (upd H1 d (.xd [(("value" : Str), v)]))
theorem pmk_lv {a : Expr} {ta : TA} {p pos : Pos} {k : Nat} (T : PySem.LvX.LvT X.K X.mg C fI) (hr : Room k X.A) (ha : PA X [a] ta) (hg : Gl X "BadLevels" := by rfl)
    (he : starEach (a :: []) X.env = (false, eval a X.env) :: starEach [] X.env := by rfl) (hpl : (backTo pos (starEach [] X.env)).any (·.1) = false := by rfl) :
    PMk X (.Call (.Name "BadLevels" p) [a] [] pos) (tMkLv C ta) := by
  intro pins s σ H Q I h
  refine wpAny_Call_Name_kw (ld_glob I hg T.gC ?_)
  refine PySem.W.callWith_K (h₀ := X.base) I.ok.mod.kin T.kC (thn (ha.run pos pins s σ H _ I h) fun us s1 hh => ?_) he hpl
  obtain ⟨vs, H1, I1, r1, v, ev, q1⟩ := hh
  subst ev
  refine ⟨I1.kIn, ?_⟩
  cases r1 with
  | cons rv rn =>
    rename_i v' us'
    cases rn
    show wpAny _ _ (call (.ref C) [v']) _ _ _
    have hlim := I1.nolimit
    obtain ⟨hp, g, dr, tk, os⟩ := s1
    refine wpAny_call (PySem.LvX.lv_made T I1.kIn hlim (by have := hr.dp; omega) fun h' tk' e d M => ?_)
    show MkP X pins σ Q (.ref e) ⟨h', g, dr, tk', os⟩
    obtain ⟨oe, fv, hoe, hc, hd, hdat, h1⟩ := M.obj
    have hns := M.ns
    obtain ⟨G', g1, g2⟩ := restrict h' fun b => decide (b ≠ e)
    have gk : ∀ b, b ≠ e → G'.get? b = h'.get? b := fun b hb => g1 b (decide_eq_true hb)
    have ge : G'.get? e = none := g2 e (by simp)
    have old : ∀ b o, hp.get? b = some o → G'.get? b = some o := fun b o q => (gk b (Nat.ne_of_lt (Nat.lt_of_lt_of_le (Heap.lt_size q) M.new))).trans (M.keep b o q)
    have ob : ObjOk X.prog X.w (upd H1 d (.xd [(("value" : Str), v)])) G' d (.xd [(("value" : Str), v)]) :=
      ⟨_, hns.at (fun o q => (gk d M.dne).trans q), fun f => relO_lv rv f⟩
    have J : Inv X pins σ (upd H1 d (.xd [(("value" : Str), v)])) ⟨G', g, dr, tk', os⟩ := I1.laid (t' := tk') old M.dbig ob
    refine ⟨e, oe, fv, ⟨G', g, dr, tk', os⟩, _, .ref C, some d, rfl, J, fun b o q => ?_, ge, hoe, ⟨hc, hd⟩, hdat, h1, ?_, rfl, I1.bare, raises_own T.exC T.tyC, q1 d (I1.hok.fresh M.dbig)⟩
    · by_cases hb : b = e
      · have q' : G'.get? b = some o := q
        rw [hb, ge] at q'; cases q'
      · exact (gk b hb).symm.trans q
    · rw [upd_ne (Ne.symm M.dne)]
      exact I1.hok.fresh M.new
/-- raise Low(e) -/
def tRaiseLv (C : Addr) (W : WX) (ta : TA) : TS := fun _ σ H => tMkLv C ta σ H fun cls d H' => W cls d σ H'
theorem ps_raiseLv {a : Expr} {ta : TA} {W : WX} {p pos pos2 : Pos} {k : Nat} (hc : X.calm = true) (T : PySem.LvX.LvT X.K X.mg C fI) (hr : Room k X.A) (tk : Takes X W) (ha : PA X [a] ta) (hg : Gl X "BadLevels" := by rfl)
    (he : starEach (a :: []) X.env = (false, eval a X.env) :: starEach [] X.env := by rfl) (hpl : (backTo pos (starEach [] X.env)).any (·.1) = false := by rfl) :
    PS X (.Raise (some (.Call (.Name "BadLevels" p) [a] [] pos)) none pos2) (tRaiseLv C W ta) := ps_raise hc tk (pmk_lv T hr ha hg he hpl)
/-- low.by, low the exception that the suite holds (at a; its class cls, its dict d) -/
def tByLv (C : Addr) (a : Addr) (cls : Value) (d : Option Addr) (te : TE) : TE := fun σ H Q => te σ H fun x H1 => x = .ref a ∧ cls = .ref C ∧ ∃ (dd : Addr) (v : V), d = some dd ∧ H1 dd = some (.xd [(("value" : Str), v)]) ∧ Q v H1
theorem pe_byLv {a : Addr} {oe : Obj} {cls : Value} {d : Option Addr} {pn : List (Addr × Obj)} {e : Expr} {te : TE} {pos : Pos} (T : PySem.LvX.LvT X.K X.mg C fI) (hz : Zc cls d oe) (hf : ∃ vs, oe.data = .fields vs) (he : PE (X.suite a ((a, oe) :: pn)) e te)
    (hb : attributeBase e "value" X.env (eval e X.env) = eval e X.env := by rfl) :
    PE (X.suite a ((a, oe) :: pn)) (.Attribute e "value" pos) (tByLv C a cls d te) := by
  refine ⟨fun pins s σ H Q I h => ?_⟩
  refine attr_of hb (thn (he.run pins s σ H _ I h) fun u s1 hh => ?_)
  obtain ⟨x, H1, I1, rx, ex, ec, dd, v, ed, ea, q⟩ := hh
  subst ex
  obtain rfl : u = Value.ref a := rx
  subst ec
  subst ed
  obtain ⟨ha, _⟩ := I1.pin (a, oe) (List.mem_append_left _ List.mem_cons_self)
  obtain ⟨vs, hd⟩ := hf
  have hx : ObjOk X.prog X.w H1 s1.heap dd (.xd [(("value" : Str), v)]) := I1.hok dd _ ea
  obtain ⟨mA, hns, hr⟩ := hx
  obtain ⟨od, ho, hl⟩ := lookIn_ns hns
  have l : List.lookup ("value" : Str) [(("value" : Str), v)] = some v := by simp [List.lookup]
  obtain ⟨u, hu, ru⟩ := RelO.some_of (v := v) (o := mA "value") (by rw [← l]; exact hr "value")
  have J : PySem.W.InstAt s1.heap a oe C (some od) := ⟨ha, hz.1, by unfold PySem.W.notCls; rw [hd] <;> rfl, by rw [hz.2]; exact ho⟩
  exact HandSPX.exc_get I1.kIn J T.ga T.gg T.exC (PySem.W.findObj_own T.hdC T.noN rfl (by rw [hl, hu])) (handed_of ru) ⟨v, H1, I1.tok _, ru, q⟩
end
end L2

namespace PySem
namespace LvX
theorem exm_self {K : PySem.W.Frag} {S : Addr} (h1 : PySem.W.subIn K (.ref S) (.type "BaseException") = some true) (h2 : PySem.W.isClsIn K S = true) (h3 : PySem.W.typeIn K (.ref S) = some (.type "type")) (h4 : PySem.W.subIn K (.ref S) (.ref S) = some true) :
    PySem.W.exmOne K (.ref S) (.ref S) = some true := by
  have e1 : (PySem.W.subIn K (.ref S) (.type "BaseException") == some true) = true := by rw [h1] <;> rfl
  have e2 : ((PySem.W.clsIn K S).isSome && PySem.W.typeIn K (.ref S) == some (.type "type")) = true := by
    have h2' : (PySem.W.clsIn K S).isSome = true := h2
    rw [h2', h3] <;> rfl
  show (if (PySem.W.subIn K (.ref S) (.type "BaseException") == some true) = true then (if ((PySem.W.clsIn K S).isSome && PySem.W.typeIn K (.ref S) == some (.type "type")) = true then PySem.W.subIn K (.ref S) (.ref S) else none) else none) = some true
  rw [if_pos e1, if_pos e2]
  exact h4
end LvX
end PySem
/-! Own rules: calls by bundled facts; own __getitem__, __contains__, __eq__, __call__, properties; a dict's place as a target. -/
namespace K23
open PySem PySem.Spec PyProof.Rows L2

/-- a def that keeps a promise -/
structure FnD (P : PySem.Program) (w : World) (K : PySem.W.Frag) (mg : Str → Option Value) (base : Heap) (CX : CXT) (k : Nat) (x : Str) (ps : List Str) (sp : Sp) : Prop where
  ex : ∃ (f : Addr) (fd : FuncData), FnOk P w K mg base CX k f fd ps sp ∧ mg x = some (.ref f) ∧ PySem.W.keepIn K (.ref f) = true ∧ Binds K fd ps []
/-- a method that keeps a promise -/
structure MeD (P : PySem.Program) (w : World) (K : PySem.W.Frag) (mg : Str → Option Value) (base : Heap) (CX : CXT) (k : Nat) (C : Addr) (m : Str) (ps : List Str) (sp : Sp) : Prop where
  ex : ∃ (f : Addr) (fd : FuncData), FnOk P w K mg base CX k f fd ps sp ∧ Meth K C m f ∧ PySem.W.fnIn K f = true ∧ Binds K fd ps []
structure PrD (P : PySem.Program) (w : World) (K : PySem.W.Frag) (mg : Str → Option Value) (base : Heap) (CX : CXT) (k : Nat) (C : Addr) (m : Str) (ps : List Str) (sp : Sp) : Prop where
  ex : ∃ (p f : Addr) (fd : FuncData), FnOk P w K mg base CX k f fd ps sp ∧ PropOf K C m p f ∧ Binds K fd ps []
section
variable {P : PySem.Program} {w : World} {K : PySem.W.Frag} {mg : Str → Option Value} {base : Heap} {CX : CXT} {j k : Nat} {x m : Str} {C : Addr} {ps : List Str} {sp : Sp}
theorem FnD.of {st : Stmt} {f : Addr} {fd : FuncData} (T : FnT K mg x st ps f fd) (h : FnOk P w K mg base CX k f fd ps sp) : FnD P w K mg base CX k x ps sp := ⟨f, fd, h, T.mg, T.fn.kp, T.bd⟩
theorem MeD.of {st : Stmt} {qual : Str} {f : Addr} {fd : FuncData} (T : MeT K C m qual st ps f fd) (h : FnOk P w K mg base CX k f fd ps sp) : MeD P w K mg base CX k C m ps sp := ⟨f, fd, h, meth_of T, T.fi, T.bd⟩
theorem PrD.of {st : Stmt} {qual : Str} {p f : Addr} {fd : FuncData} (T : PrT K C m qual st ps p f fd) (h : FnOk P w K mg base CX k f fd ps sp) : PrD P w K mg base CX k C m ps sp := ⟨p, f, fd, h, T.pr, T.bd⟩
theorem FnD.up (D : FnD P w K mg base CX j x ps sp) (h : j ≤ k) : FnD P w K mg base CX k x ps sp := by
  obtain ⟨f, fd, F, r⟩ := D.ex
  exact ⟨f, fd, F.mono h, r⟩
theorem MeD.up (D : MeD P w K mg base CX j C m ps sp) (h : j ≤ k) : MeD P w K mg base CX k C m ps sp := by
  obtain ⟨f, fd, F, r⟩ := D.ex
  exact ⟨f, fd, F.mono h, r⟩
end

/-- x is an instance of the class at C -/
def IsI (C : Addr) (x : V) (H : Hp) : Prop := ∃ a dx fs, x = .ref a ∧ H a = some (.ins C dx fs)
/-- .. and has no attribute m of its own -/
def IsO (C : Addr) (m : Str) (x : V) (H : Hp) : Prop := ∃ a dx fs, x = .ref a ∧ H a = some (.ins C dx fs) ∧ fs.lookup m = none
def tF (sp : Sp) (E : XK) (t : TA) : TE := fun σ H Q => t σ H fun vs H1 => sp vs H1 Q E
def tM (C : Addr) (m : Str) (sp : Sp) (E : XK) (ta : TE) (t : TA) : TE := fun σ H Q => ta σ H fun x H1 => IsO C m x H1 ∧ t σ H1 fun vs H2 => sp (x :: vs) H2 Q E
def tP (C : Addr) (sp : Sp) (E : XK) (ta : TE) : TE := fun σ H Q => ta σ H fun x H1 => IsI C x H1 ∧ sp [x] H1 Q E
def tGI (C : Addr) (sp : Sp) (E : XK) (ta ti : TE) : TE := fun σ H Q => ta σ H fun x H1 => ti σ H1 fun y H2 => IsI C x H2 ∧ sp [x, y] H2 Q E
def tMk (C : Addr) (sp : Sp) (E : XK) (t : TA) : TE := fun σ H Q => t σ H fun vs H1 => ∀ x dx, H1 x = none → H1 dx = none → dx ≠ x →
  sp (.ref x :: vs) (upd (upd H1 dx (.own x)) x (.ins C dx [])) (fun v H2 => v = .non ∧ Q (.ref x) H2) E
def tO (C : Addr) (sp : Sp) (E : XK) (ta : TE) (t : TA) : TE := fun σ H Q => ta σ H fun y H1 => ∃ a, y = V.ref a ∧ t σ H1 fun vs H2 => IsI C y H2 ∧ sp (y :: vs) H2 Q E

section
variable {X : Cx} {CX : CXT} {k : Nat} {C : Addr} {ps : List Str} {sp : Sp} {E : XK} {x m : Str} {p pos apos : Pos} {e o i : Expr} {es : List Expr} {ta ti : TE} {t : TA}
theorem pe_f (D : FnD X.prog X.w X.K X.mg X.base CX k x ps sp) (hr : Room k X.A) (hx : Passes CX X E) (ha : PA X (e :: es) t) (hg : Gl X x := by rfl)
    (hdb : (x == ("__debug__" : Str)) = false := by decide) (he : starEach (e :: es) X.env = (false, eval e X.env) :: starEach es X.env := by rfl) (hpl : (backTo pos (starEach es X.env)).any (·.1) = false := by rfl) :
    PE X (.Call (.Name x p) (e :: es) [] pos) (tF sp E t) := by
  obtain ⟨f, fd, F, hm, hk, hb⟩ := D.ex
  have q : tCall sp [] E t = tF sp E t := by
    funext σ H Q
    unfold tCall tF
    simp only [List.append_nil]
  rw [← q]
  exact pe_call (dvs := []) F hr hg hm hk hb .nil hx ha hdb he hpl
theorem pe_m {pl : Sem Bool} (ho : PE X o ta) (c : Cls X.K C) (D : MeD X.prog X.w X.K X.mg X.base CX k C m ps sp) (hr : Room k X.A) (hx : Passes CX X E) (ha : PA X (e :: es) t)
    (hst : starEach (e :: es) X.env = (false, eval e X.env) :: starEach es X.env := by rfl) (hpl : (backTo pos (starEach es X.env)).any (·.1) = false := by rfl)
    (ht : eval (.Call (.Attribute o m apos) (e :: es) [] pos) X.env = (do
      let ov ← eval o X.env
      standAt apos.atName
      let (f, first) ← holding [ov] (getMethod ov m pl)
      callWith pos f first (backTo pos (starEach (e :: es) X.env)) (backToKw pos (keywordEach [] X.env))) := by rfl) :
    PE X (.Call (.Attribute o m apos) (e :: es) [] pos) (tM C m sp E ta t) := by
  obtain ⟨f, fd, F, hm, _, hb⟩ := D.ex
  have h := pe_meth (dvs := []) ho c hm F hr hb .nil hx ha hst hpl ht
  refine ⟨fun pins s σ H Q I q => h.run pins s σ H Q I ?_⟩
  unfold tMeth
  have z : (tM C m sp E ta t) = fun σ H Q => ta σ H fun x H1 => ∃ a dx fs, x = .ref a ∧ H1 a = some (.ins C dx fs) ∧ fs.lookup m = none ∧ t σ H1 fun vs H2 => sp (x :: (vs ++ [])) H2 Q E := by
    funext σ H Q
    unfold tM IsO
    congr 1
    funext x H1
    simp only [List.append_nil]
    apply propext
    constructor
    · rintro ⟨⟨a, dx, fs, h1, h2, h3⟩, h4⟩
      exact ⟨a, dx, fs, h1, h2, h3, h4⟩
    · rintro ⟨a, dx, fs, h1, h2, h3, h4⟩
      exact ⟨⟨a, dx, fs, h1, h2, h3⟩, h4⟩
  rw [z] at q
  exact q
theorem pe_m0 {pl : Sem Bool} (ho : PE X o ta) (c : Cls X.K C) (D : MeD X.prog X.w X.K X.mg X.base CX k C m ps sp) (hr : Room k X.A) (hx : Passes CX X E)
    (ht : eval (.Call (.Attribute o m apos) [] [] pos) X.env = (do
      let ov ← eval o X.env
      standAt apos.atName
      let (f, first) ← holding [ov] (getMethod ov m pl)
      callWith pos f first (backTo pos (starEach [] X.env)) (backToKw pos (keywordEach [] X.env))) := by rfl) :
    PE X (.Call (.Attribute o m apos) [] [] pos) (tM C m sp E ta tNil) := by
  obtain ⟨f, fd, F, hm, _, hb⟩ := D.ex
  have h := pe_meth0 (dvs := []) ho c hm F hr hb .nil hx ht
  refine ⟨fun pins s σ H Q I q => h.run pins s σ H Q I ?_⟩
  have z : (tM C m sp E ta tNil) = tMeth C m sp [] E ta tNil := by
    funext σ H Q
    unfold tM IsO tMeth
    congr 1
    funext x H1
    apply propext
    constructor
    · rintro ⟨⟨a, dx, fs, h1, h2, h3⟩, h4⟩
      exact ⟨a, dx, fs, h1, h2, h3, h4⟩
    · rintro ⟨a, dx, fs, h1, h2, h3, h4⟩
      exact ⟨⟨a, dx, fs, h1, h2, h3⟩, h4⟩
  rw [← z]
  exact q
theorem pe_p (he : PE X e ta) (c : Cls X.K C) (D : PrD X.prog X.w X.K X.mg X.base CX k C m ps sp) (hr : Room (k + 1) X.A) (hx : Passes CX X.nox E)
    (hab : attributeBase e m X.env (eval e X.env) = eval e X.env := by rfl) : PE X (.Attribute e m pos) (tP C sp E ta) := by
  obtain ⟨q0, f, fd, F, hp, hb⟩ := D.ex
  have h := pe_prop (dvs := []) (pos := pos) he c hp F hr hb .nil hx hab
  have z : tP C sp E ta = tProp C sp [] E ta := by
    funext σ H Q
    unfold tP IsI tProp
    congr 1
    funext x H1
    apply propext
    constructor
    · rintro ⟨⟨a, dx, fs, rfl, h2⟩, h4⟩
      exact ⟨a, dx, fs, rfl, h2, h4⟩
    · rintro ⟨a, dx, fs, rfl, h2, h4⟩
      exact ⟨⟨a, dx, fs, rfl, h2⟩, h4⟩
  rw [z]
  exact h
theorem pe_new (L : ClT X.K X.mg x C) (D : MeD X.prog X.w X.K X.mg X.base CX k C "__init__" ps sp) (hr : Room (k + 1) X.A) (hx : Passes CX X E) (ha : PA X (e :: es) t) (hg : Gl X x := by rfl)
    (hdb : (x == ("__debug__" : Str)) = false := by decide) (he : starEach (e :: es) X.env = (false, eval e X.env) :: starEach es X.env := by rfl) (hpl : (backTo pos (starEach es X.env)).any (·.1) = false := by rfl) :
    PE X (.Call (.Name x p) (e :: es) [] pos) (tMk C sp E t) := by
  obtain ⟨f, fd, F, hm, _, hb⟩ := D.ex
  have q : tMake C sp [] E t = tMk C sp E t := by
    funext σ H Q
    unfold tMake tMk
    simp only [List.append_nil]
  rw [← q]
  exact pe_make (dvs := []) ⟨L.mks, hm.at_, hm.fn, L.kp⟩ F hr hg L.mg hb .nil hx ha hdb he hpl

/-- the callee runs, from a place with the same frames -/
theorem run_at {A : Around} {f : Addr} {fd : FuncData} {pins : List (Addr × Obj)} {σ : L2.St} {H : Hp} {s : Shared} {Q : VK} {us : List Value} {vs : List V} (F : FnOk X.prog X.w X.K X.mg X.base CX k f fd ps sp) (hA : A.frames = X.A.frames) (hr : Room k A) (hb : Binds X.K fd ps [])
    (hx : Passes CX X E) (I : Inv X pins σ H s) (r : Vals vs us) (h : sp vs H Q E) : wpAny (model X.prog X.w) A (call (.ref f) us) (EP X pins σ Q) X.xe s := by
  have hl : us.length = ps.length := by rw [← r.length]; exact F.len _ _ _ _ h
  have e := I.env0
  have e0 : Env0 X.prog X.w X.K X.mg X.base A X.stack s H := ⟨by rw [hA]; exact e.frames, e.mod, e.bs, e.bsz, e.funs, e.frf, e.hok, e.bare⟩
  have bd := hb s us I.kIn (by rw [List.append_nil]; exact hl)
  rw [List.append_nil] at bd
  refine wpAny_call (codeAny_mono (F.run A X.stack s H ⟨us, []⟩ us vs Q E hr e0 bd r h) fun r s' hq => ?_)
  cases r with
  | error er => exact hx pins σ H s er s' I hq
  | ok fl =>
    cases fl with
    | ret u => exact I.after hq
    | next => exact False.elim hq
    | brk => exact False.elim hq
    | cont => exact False.elim hq
theorem inst_of {pins : List (Addr × Obj)} {σ : L2.St} {H : Hp} {s : Shared} {a dx : Addr} {fs : List (Str × V)} (I : Inv X pins σ H s) (e : H a = some (.ins C dx fs)) : ∃ ox od, PySem.W.InstAt s.heap a ox C od ∧ ox.data = .plain := by
  obtain ⟨mA, O, _⟩ := ins_get I.hok e
  obtain ⟨od, J, _⟩ := O.look
  exact ⟨_, _, J, rfl⟩
/-- o[i] by the class's own __getitem__ -/
theorem pe_gi (ho : PE X o ta) (hi : PE X i ti) (D : MeD X.prog X.w X.K X.mg X.base CX k C "__getitem__" ps sp) (hr : Room (k + 1) X.A) (hx : Passes CX X E)
    (hsl : ∀ a v, subscripted i true (.ref a) v = runValue (.builtin "lifetime.subscript" ⟨[.ref a, v], []⟩) := by intro _ _; with_unfolding_all rfl) : PE X (.Subscript o i pos) (tGI C sp E ta ti) := by
  obtain ⟨f, fd, F, hm, hf, hb⟩ := D.ex
  refine ⟨fun pins s σ H Q I h => ?_⟩
  refine Subscript_ (thn (ho.run pins s σ H _ I h) fun v s1 ⟨x, H1, I1, r1, q1⟩ => thn (hi.run pins s1 σ H1 _ I1 q1) fun u s2 ⟨y, H2, I2, r2, q2⟩ => ?_)
  obtain ⟨⟨a, dx, fs, ex, ea⟩, q3⟩ := q2
  subst ex
  obtain rfl : v = Value.ref a := r1
  obtain ⟨ox, od, J, _⟩ := inst_of I2 ea
  obtain ⟨mm, hF⟩ := I2.fr
  exact PySem.W.sub_K hF I2.ok.mod.kin J hm.at_ hf hm.fn (run_at (A := X.A.in1) (us := [.ref a, u]) (vs := [.ref a, y]) F rfl hr.in1 hb hx I2 (.cons rfl (.cons r2 .nil)) q3) (hsl a u)
/-- e in o, e not in o by the class's own __contains__ -/
def rCt (C : Addr) (sp : Sp) (E : XK) (neg : Bool) : R2 := fun x y H Q => IsI C y H ∧ sp [y, x] H (fun v H' => ∃ b, v = .bl b ∧ Q (.bl (if neg then !b else b)) H') E
theorem op_notInOwn (D : MeD X.prog X.w X.K X.mg X.base CX k C "__contains__" ps sp) (hr : Room k X.A) (hx : Passes CX X E) : OpR X (compareOp .NotIn) (rCt C sp E true) := by
  obtain ⟨f, fd, F, hm, hf, hb⟩ := D.ex
  intro pins s σ H x y v u Q I rx ry h
  obtain ⟨⟨a, dx, fs, ex, ea⟩, q⟩ := h
  subst ex
  obtain rfl : u = Value.ref a := ry
  obtain ⟨ox, od, J, _⟩ := inst_of I ea
  obtain ⟨mm, hF⟩ := I.fr
  refine PySem.W.notIn_K hF I.ok.mod.kin J hm.at_ hm.fn (thn (run_at (A := X.A) (us := [.ref a, v]) (vs := [.ref a, x]) F rfl hr hb hx I (.cons rfl (.cons rx .nil)) q) fun r s' hq => ?_)
  obtain ⟨z, H', I', rz, b, eb, q'⟩ := hq
  subst eb
  cases rz
  exact wpAny_truthy_bool ⟨.bl (!b), H', I', rfl, q'⟩
/-- o == o' by the class's own __eq__, which gives True or False -/
def rEqO (C : Addr) (sp : Sp) (E : XK) : R2 := fun x y H Q => IsI C x H ∧ IsI C y H ∧ sp [x, y] H (fun v H' => ∃ b, v = .bl b ∧ Q (.bl b) H') E
theorem op_eqOwn (D : MeD X.prog X.w X.K X.mg X.base CX k C "__eq__" ps sp) (hr : Room k X.A) (hx : Passes CX X E) : OpR X (compareOp .Eq) (rEqO C sp E) := by
  obtain ⟨f, fd, F, hm, hf, hb⟩ := D.ex
  intro pins s σ H x y v u Q I rx ry h
  obtain ⟨⟨a, dx, fs, ex, ea⟩, ⟨b, dy, gs, ey, eb⟩, q⟩ := h
  subst ex ey
  obtain rfl : v = Value.ref a := rx
  obtain rfl : u = Value.ref b := ry
  obtain ⟨ox, od, J, _⟩ := inst_of I ea
  obtain ⟨oy, od', J', _⟩ := inst_of I eb
  obtain ⟨mm, hF⟩ := I.fr
  show wpAny _ _ (richCompare .Eq (.ref a) (.ref b)) _ _ _
  refine PySem.W.cmp_K (op := .Eq) (tb := .ref C) hr.units0 hF I.ok.mod.kin J J'.type (by simp [PySem.W.notFirst]) hm.at_ hm.fn ?_
  refine thn (run_at (A := X.A) (us := [.ref a, .ref b]) (vs := [.ref a, .ref b]) F rfl hr hb hx I (.cons rfl (.cons rfl .nil)) q) fun r s' hq => ?_
  obtain ⟨z, H', I', rz, c, ec, q'⟩ := hq
  subst ec
  cases rz
  exact ⟨.bl c, H', I', rfl, q'⟩
/-- o(e, ..) by the class's own __call__ -/
theorem pe_o {fe : Expr} (hf : PE X fe ta) (D : MeD X.prog X.w X.K X.mg X.base CX k C "__call__" ps sp) (hr : Room k X.A) (hx : Passes CX X E) (ha : PA X (e :: es) t)
    (ht : eval (.Call fe (e :: es) [] pos) X.env = (do callWith pos (← eval fe X.env) [] (backTo pos (starEach (e :: es) X.env)) (backToKw pos (keywordEach [] X.env))) := by rfl)
    (he : starEach (e :: es) X.env = (false, eval e X.env) :: starEach es X.env := by rfl) (hpl : (backTo pos (starEach es X.env)).any (·.1) = false := by rfl) : PE X (.Call fe (e :: es) [] pos) (tO C sp E ta t) := by
  obtain ⟨f, fd, F, hm, hfi, hb⟩ := D.ex
  have R : FnR X.prog X.w X.K X.mg X.base CX k f sp := fun A outer s H us vs Q E' hr' e0 rv hs => by
    have hl : us.length = ps.length := by rw [← rv.length]; exact F.len _ _ _ _ hs
    have bd := hb s us (e0.mod.kin.keeps fun b o e => (e0.bs b o e).1) (by rw [List.append_nil]; exact hl)
    rw [List.append_nil] at bd
    exact F.run A outer s H ⟨us, []⟩ us vs Q E' hr' e0 bd rv hs
  refine ⟨fun pins s σ H Q I h => ?_⟩
  refine Call_ (thn (hf.run pins s σ H _ I h) fun u s1 ⟨y, H1, I1, ry, a, ey, q⟩ => ?_) ht
  subst ey
  obtain rfl : u = Value.ref a := ry
  refine StX.callO_with (thn (ha.run pos pins s1 σ H1 _ I1 q) fun us s2 ⟨vs, H2, I2, r, hi, q2⟩ => ?_) he hpl
  obtain ⟨a', dx, fs, e, ea⟩ := hi
  cases e
  obtain ⟨ox, od, J, hd⟩ := inst_of I2 ea
  refine ⟨⟨C, ox, od, J, hd⟩, wpAny_call (PySem.W.kco_code I2.kIn J hd hm.at_ hm.fn hfi ?_)⟩
  exact run_fnR (us := .ref a :: us) (vs := .ref a :: vs) R hr hx I2 (.cons rfl r) q2
/-- d[k] = v as a target -/
def rSetD : TSet := fun o i v H Q => ∃ a H', o = .ref a ∧ DPut H a i v H' ∧ Q H'
theorem set_dK (hu : X.A.units + 1 < cLine) : PSet X rSetD := by
  intro pins s σ H o i v ov iv u Q I ro ri rv h
  obtain ⟨a, H', rfl, g, q⟩ := h
  obtain rfl : ov = Value.ref a := ro
  exact d_setItem hu I g ri rv fun s' I' => ⟨H', I', q⟩
end
end K23
/-! Own rules: == of dicts of ints with either answer, == of tuples of the very same things, a method's call within a try. -/
namespace K23
open PySem PySem.Spec PyProof.Rows L2

def isInt : V → Bool | .int _ => true | _ => false
theorem isInt_of {v : V} (h : isInt v = true) : ∃ i, v = .int i := by
  cases v with
  | int i => exact ⟨i, rfl⟩
  | _ => exact absurd (show false = true from h) Bool.false_ne_true
/-- how a dict of ints is asked by another one -/
theorem hits_ints {A : Around} {s : Shared} {ls : List (Key × V)} {vb : List (Key × Value)} (rb : KV ls vb) (hb : ∀ k v, valV ls k = some v → isInt v = true) {ks : List (Key × V)} {va : List (Key × Value)} (ra : KV ks va) :
    (∀ p ∈ ks, isInt p.2 = true) → PySem.W.KeqHits A s vb va (ks.all fun p => decide (valV ls p.1 = some p.2)) := by
  unfold KV at ra
  induction ra with
  | nil => intro _; exact .nil
  | @cons p q ps qs h t ih =>
    intro hp
    obtain ⟨h1, h2⟩ := h
    obtain ⟨k, v⟩ := q
    obtain ⟨k', z⟩ := p
    obtain rfl : k' = k := h1
    have rest := ih fun p' hm => hp p' (List.mem_cons_of_mem _ hm)
    obtain ⟨i, hi⟩ := isInt_of (hp (k', z) List.mem_cons_self)
    have hi : z = .int i := hi
    subst hi
    obtain ⟨t1, ht1⟩ : ∃ t, v = Value.int i t := h2
    subst ht1
    have rr := rb.val k'
    rw [List.all_cons]
    cases e : valV ls k' with
    | none =>
      rw [e] at rr
      have hv : valueAt vb k' = none := by
        cases q : valueAt vb k' with
        | none => rfl
        | some u =>
          rw [q] at rr
          exact (show False from rr).elim
      have d : decide ((none : Option V) = some (V.int i)) = false := by simp
      dsimp only
      rw [d, Bool.false_and]
      exact .miss hv
    | some y =>
      rw [e] at rr
      obtain ⟨u, hu, ru⟩ := rr.some_of
      obtain ⟨j, hj⟩ := isInt_of (hb k' y e)
      subst hj
      obtain ⟨t2, ht2⟩ : ∃ t, u = Value.int j t := ru
      subst ht2
      have d : decide ((some (V.int j) : Option V) = some (V.int i)) = (i == j) := by
        by_cases c : i = j
        · subst c; simp
        · have c' : ¬ j = i := fun z => c z.symm
          simp [c, c']
      dsimp only
      rw [d]
      exact .hit hu (SeqAt.EqAt.int_int i t1 j t2) rest
def rEqDI : R2 := fun x y H Q => ∃ a b ks ls, x = .ref a ∧ y = .ref b ∧ H a = some (.dK ks) ∧ H b = some (.dK ls) ∧ ks.length = ls.length ∧ (∀ p ∈ ks, isInt p.2 = true) ∧ (∀ k v, valV ls k = some v → isInt v = true) ∧
  Q (.bl (ks.all fun p => decide (valV ls p.1 = some p.2))) H
section
variable {X : Cx}
theorem op_eqDI (hu : X.A.units < cLine) : OpR X (compareOp .Eq) rEqDI := by
  intro pins s σ H x y v u Q I rx ry h
  obtain ⟨a, b, ks, ls, rfl, rfl, ea, eb, hlen, h1, h2, q⟩ := h
  obtain rfl : v = Value.ref a := rx
  obtain rfl : u = Value.ref b := ry
  obtain ⟨_, ya, va, ra, da⟩ := (show ObjOk X.prog X.w H s.heap a (.dK ks) from I.hok a _ ea)
  obtain ⟨_, yb, vb, rb, db⟩ := (show ObjOk X.prog X.w H s.heap b (.dK ls) from I.hok b _ eb)
  have hl : va.length = vb.length := by rw [← ra.length, ← rb.length]; exact hlen
  refine PySem.W.keq_eq (knd := mixKind X.prog X.w) ya yb da db hu (fun _ => hits_ints rb h2 ra h1) ?_
  have e : (va.length == vb.length) = true := by simp [hl]
  rw [e, Bool.true_and]
  exact ⟨.bl _, H, I, rfl, q⟩

/-- the very same object, or the same text -/
def DSm : Eqv := fun x y _ => x = y ∧ ((∃ a, x = .ref a) ∨ ∃ z, x = .str z)
theorem mon_sm : Mon DSm := fun _ _ _ _ _ d => d
theorem eqG_sm : EqG X 0 DSm := by
  intro A pins s σ H x y u v sb I rx ry d
  obtain ⟨rfl, h⟩ := d
  rcases h with ⟨a, rfl⟩ | ⟨z, rfl⟩
  · cases rx
    cases ry
    exact SeqAt.EqAt.same (A := A) (s := s) (.ref a) X.prog X.w X.xe _ ⟨rfl, H, I, Ext.rfl'⟩
  · obtain ⟨t, rfl⟩ := (show ∃ t, u = Value.str z t from rx)
    obtain ⟨t', rfl⟩ := (show ∃ t, v = Value.str z t from ry)
    have q := SeqAt.EqAt.str_str (A := A) (s := s) z t z t'
    rw [beq_self_eq_true] at q
    exact q X.prog X.w X.xe _ ⟨rfl, H, I, Ext.rfl'⟩
theorem op_eqSm (hr : Room 1 X.A) : OpR X (compareOp .Eq) (rEqG (DTup X.K DSm)) := op_eqG (rcG_tup mon_sm eqG_sm) hr

/-- o.m(e, ..), what is raised wished for at the slots as they stand -/
def tMS (C : Addr) (m : Str) (sp : Sp) (E : L2.St → XK) (ta : TE) (t : TA) : TE := fun σ H Q => ta σ H fun x H1 => IsO C m x H1 ∧ t σ H1 fun vs H2 => sp (x :: vs) H2 Q (E σ)
variable {CX : CXT} {k : Nat} {C : Addr} {ps : List Str} {sp : Sp} {E : L2.St → XK} {m : Str} {pos apos : Pos} {e o : Expr} {es : List Expr} {ta : TE} {t : TA}
theorem pe_mS {pl : Sem Bool} (ho : PE X o ta) (c : Cls X.K C) (D : MeD X.prog X.w X.K X.mg X.base CX k C m ps sp) (hr : Room k X.A) (hx : ∀ σ, PassesAt CX X σ (E σ)) (ha : PA X (e :: es) t)
    (hst : starEach (e :: es) X.env = (false, eval e X.env) :: starEach es X.env := by rfl) (hpl : (backTo pos (starEach es X.env)).any (·.1) = false := by rfl)
    (ht : eval (.Call (.Attribute o m apos) (e :: es) [] pos) X.env = (do
      let ov ← eval o X.env
      standAt apos.atName
      let (f, first) ← holding [ov] (getMethod ov m pl)
      callWith pos f first (backTo pos (starEach (e :: es) X.env)) (backToKw pos (keywordEach [] X.env))) := by rfl) :
    PE X (.Call (.Attribute o m apos) (e :: es) [] pos) (tMS C m sp E ta t) := by
  obtain ⟨f, fd, F, hm, _, hb⟩ := D.ex
  refine ⟨fun pins s σ H Q I h => ?_⟩
  refine PySem.W.methodCall_KW (pl := pl) (thn (ho.run pins s σ H _ I h) fun u s1 ⟨x, H1, I1, rx, is, q⟩ => ?_) ht
  obtain ⟨a, dx, fs, ex, ea, l⟩ := is
  subst ex
  obtain rfl : u = Value.ref a := rx
  refine getmeth_ok I1 ea c hm l ?_
  refine PySem.W.callWith_K (first := [.ref a]) (h₀ := X.base) I.ok.mod.kin hm.kp (thn (ha.run pos pins s1 σ H1 _ I1 q) fun us s2 ⟨vs, H2, I2, r, q2⟩ => ⟨I2.kIn, ?_⟩) hst hpl
  exact run_fnS (us := .ref a :: us) (vs := .ref a :: vs) F hr hb (hx σ) I2 (.cons rfl r) q2
end
end K23
/-! Sets of texts: a new one, add, len, sorted. -/
namespace K23
open PySem PySem.Spec PyProof.Rows L2

def keyS (e : Int × Value) : Str := match e.2 with | .str x _ => x | _ => Str.empty
def GoodS (w : World) (e : Int × Value) : Prop := ∃ x tk, e.2 = Value.str x tk ∧ e.1 = hashStr w x
/-- at a stands the set of the texts L (in some order); it can be walked -/
def SetS (w : World) (h : Heap) (a : Addr) (L : List Str) : Prop :=
  ∃ o es ep t, h.get? a = some o ∧ o.ExactSet ∧ o.data = .set es ep t ∧ (∀ e ∈ es.toList, GoodS w e) ∧ (es.toList.map keyS).Perm L ∧ L.Nodup ∧
    es.size < scanBound ∧ t.fits es.size = true ∧ Ris t.place.toList ∧ (w.params.followText "set-order" = true ∨ t.led = true)
def insS (L : List Str) (x : Str) : List Str := if x ∈ L then L else L ++ [x]
theorem mem_insS {L : List Str} {x y : Str} : y ∈ insS L x ↔ y ∈ L ∨ y = x := by
  unfold insS
  split
  · rename_i h
    exact ⟨.inl, fun z => z.elim id fun e => e ▸ h⟩
  · rw [List.mem_append, List.mem_singleton]

section
variable {P : PySem.Program} {w : World} {h h' : Heap} {a : Addr} {L : List Str}
theorem SetS.at (R : SetS w h a L) (k : ∀ o, h.get? a = some o → h'.get? a = some o) : SetS w h' a L := by
  obtain ⟨o, es, ep, t, ho, rest⟩ := R
  exact ⟨o, es, ep, t, k o ho, rest⟩
theorem goodS_is {e : Int × Value} (g : GoodS w e) (k : Str) : (PySem.strKind P w).is k e.2 = true ↔ keyS e = k := by
  obtain ⟨x, tk, h1, _⟩ := g
  unfold keyS
  rw [h1]
  show (Value.isStrOf k (.str x tk) = true) ↔ x = k
  constructor
  · intro q
    obtain ⟨t', e'⟩ := Value.isStrOf_shape q
    injection e'
  · rintro rfl
    exact strKind_is P w x tk
theorem goodS_elems {l : List (Int × Value)} (g : ∀ e ∈ l, GoodS w e) : ElemsOf (PySem.strKind P w) l := fun e he => by
  obtain ⟨x, tk, h1, h2⟩ := g e he
  refine ⟨⟨x, ?_, h2⟩, ?_⟩
  · rw [h1]
    exact strKind_is P w x tk
  · rw [h1]
    rfl
theorem goodS_mem {l : List (Int × Value)} (g : ∀ e ∈ l, GoodS w e) (k : Str) : k ∈ l.map keyS ↔ ∃ e ∈ l, (PySem.strKind P w).is k e.2 = true := by
  rw [List.mem_map]
  constructor
  · rintro ⟨e, he, q⟩
    exact ⟨e, he, (goodS_is (g e he) k).2 q⟩
  · rintro ⟨e, he, q⟩
    exact ⟨e, he, (goodS_is (g e he) k).1 q⟩
theorem SetS.size (R : SetS w h a L) : ∃ o es ep t, h.get? a = some o ∧ o.data = .set es ep t ∧ es.size = L.length := by
  obtain ⟨o, es, ep, t, ho, _, hd, _, pm, _⟩ := R
  refine ⟨o, es, ep, t, ho, hd, ?_⟩
  rw [← pm.length_eq, List.length_map, Array.length_toList]
theorem SetS.setOf (R : SetS w h a L) : h.SetOf (PySem.strKind P w) a (fun k => decide (k ∈ L)) L.length := by
  obtain ⟨o, es, ep, t, ho, hx, hd, g, pm, nd, hb, hf, _⟩ := R
  refine ⟨o, es, ep, t, ho, hx, hd, goodS_elems g, fun k => ?_, hb, hf, ?_⟩
  · rw [decide_eq_true_eq, ← pm.mem_iff]
    exact goodS_mem g k
  · rw [← pm.length_eq, List.length_map, Array.length_toList]
end

section
variable {P : PySem.Program} {w : World} {A : Around} {E : Value → Shared → Prop} {s : Shared} {a : Addr} {L : List Str}
theorem put_at {h : Heap} {o : Obj} {es es' : Array (Int × Value)} {ep : Nat} {t t' : SetTable} (ho : h.get? a = some o) (hd : o.data = .set es ep t) :
    (h.update a (Obj.putSet es' t')).get? a = some { o with data := .set es' (ep + 1) t' } := by
  have q := Heap.get?_update_self (Obj.putSet es' t') ho (by rw [putSet_of es' t' hd]; rfl)
  rwa [putSet_of es' t' hd] at q

/-- the table is laid, and laid anew where it is full -/
theorem addS_tail {g : Bool → Sem Unit} (hg : ∀ (b : Bool) (s₁ : Shared) (Q' : Unit → Shared → Prop), Q' () s₁ → wpAny (model P w) A (g b) Q' E s₁) {o : Obj} {es : Array (Int × Value)} {ep : Nat} {t : SetTable}
    (ho : s.heap.get? a = some o) (hex : o.ExactSet) (hd : o.data = .set es ep t) {es1 : Array (Int × Value)} {t2 : SetTable} {L1 : List Str}
    (good : ∀ e ∈ es1.toList, GoodS w e) (pm : (es1.toList.map keyS).Perm L1) (nd : L1.Nodup) (hb : es1.size < scanBound) (hf : t2.fits es1.size = true) (hr : Ris t2.place.toList)
    (hl : w.params.followText "set-order" = true ∨ t2.led = true) {wasDummy : Bool} {R : Option Bool → Shared → Prop}
    (hR : ∀ h', Heap.SameBut a s.heap h' → SetS w h' a L1 → R (some true) { s with heap := h' }) :
    wpAny (model P w) A (do
        storeSet a es1 t2
        if (!wasDummy && t2.tooFull) = true then do
            g (relayAll t2 es1 (SetTable.grown es1.size)).2.2
            storeSet a (relayAll t2 es1 (SetTable.grown es1.size)).1 (relayAll t2 es1 (SetTable.grown es1.size)).2.1
            pure (some true)
          else pure (some true)) R E s := by
  refine wpAny_bind (wpAny_storeSet_of ho hd ?_ (fits_of_scanBound hb))
  have at1 := put_at (es' := es1) (t' := t2) ho hd
  have but1 := Heap.SameBut.update s.heap a (Obj.putSet es1 t2)
  split
  · have q1 := relayAll_perm t2 es1 (SetTable.grown es1.size)
    have q2 := relayAll_fits t2 es1 (SetTable.grown es1.size)
    have q3 := relayAll_ris t2 es1 (SetTable.grown es1.size)
    have q4 := relayAll_led t2 es1 (SetTable.grown es1.size)
    generalize relayAll t2 es1 (SetTable.grown es1.size) = Z at q1 q2 q3 q4 ⊢
    obtain ⟨es2, t3, gave⟩ := Z
    dsimp only at q1 q2 q3 q4 ⊢
    have len2 : es2.size = es1.size := by
      have z := q1.length_eq
      rwa [Array.length_toList, Array.length_toList] at z
    refine wpAny_bind (hg _ _ _ ?_)
    refine wpAny_bind (wpAny_storeSet_of at1 rfl ?_ (fits_of_scanBound (by rw [len2]; exact hb)))
    have at2 := put_at (es' := es2) (t' := t3) at1 rfl
    refine wpAny_pure (hR _ (but1.trans (Heap.SameBut.update _ a _)) ⟨_, es2, _, t3, at2, hex, rfl, fun e he => good e (q1.mem_iff.mp he), (q1.map keyS).trans pm, nd, by rw [len2]; exact hb, q2, q3, ?_⟩)
    rw [q4]
    exact hl
  · exact wpAny_pure (hR _ but1 ⟨_, es1, _, t2, at1, hex, rfl, good, pm, nd, hb, hf, hr, hl⟩)

theorem addS_hashed {k : Str} {tk : Tok} {Q : Bool → Shared → Prop} (R : SetS w s.heap a L) (room : L.length + 1 < scanBound)
    (hQ : ∀ h' b, Heap.SameBut a s.heap h' → SetS w h' a (insS L k) → Q b { s with heap := h' }) :
    wpAny (model P w) A (setAddHashed a (.str k tk) ((PySem.strKind P w).hash k)) Q E s := by
  obtain ⟨o, es, ep, t, ho, hex, hd, g, pm, nd, hb, hf, hr, hl⟩ := R
  have hlen : es.size = L.length := by rw [← pm.length_eq, List.length_map, Array.length_toList]
  have hkey : (PySem.strKind P w).is k (.str k tk) = true := strKind_is P w k tk
  have hsc : (Value.str k tk).scannable = true := rfl
  have hel : ElemsOf (PySem.strKind P w) es.toList := goodS_elems g
  unfold setAddHashed setAddHashedIn
  refine wpAny_holding (wpAny_bind (wpAny_setState_of ho hd hf ?_))
  dsimp only
  rw [byScan_of hsc hb hel]
  simp only [↓reduceIte]
  unfold setAddByScan
  refine wpAny_bind (wpAny_bind (wpAny_rule (wpAny_bind (wpAny_setScan_of hkey ho hd hf hel ?_))))
  cases hfi : List.findIdx? (fun e => (PySem.strKind P w).is k e.2) es.toList with
  | some j =>
    dsimp only
    obtain ⟨hj, pj, _⟩ := List.findIdx?_eq_some_iff_getElem.mp hfi
    have inL : k ∈ L := pm.mem_iff.mp ((goodS_mem (P := P) g k).2 ⟨es.toList[j], List.getElem_mem hj, pj⟩)
    have eL : insS L k = L := if_pos inL
    refine wpAny_pure (wpAny_pure ?_)
    have q := hQ s.heap false (Heap.SameBut.refl a s.heap)
    rw [eL] at q
    exact q ⟨o, es, ep, t, ho, hex, hd, g, pm, nd, hb, hf, hr, hl⟩
  | none =>
    dsimp only
    have notL : k ∉ L := fun z => by
      obtain ⟨e, he, q⟩ := (goodS_mem (P := P) g k).1 (pm.mem_iff.mpr z)
      have c := List.findIdx?_eq_none_iff.mp hfi e he
      rw [q] at c
      cases c
    have eL : insS L k = L ++ [k] := if_neg notL
    rw [eL] at hQ
    have gave : ∀ (b : Bool) {s₁ : Shared} {Q' : Unit → Shared → Prop}, Q' () s₁ → wpAny (model P w) A (match b with | true => rule "set.scan.the-table-gave-way" | false => pure ()) Q' E s₁ :=
      fun b s₁ Q' q => by
        cases b with
        | true => exact wpAny_rule q
        | false => exact wpAny_pure q
    have p1 := layNew_perm t es ((PySem.strKind P w).hash k) (.str k tk)
    have f1 := layNew_fits t es ((PySem.strKind P w).hash k) (.str k tk)
    have r1 := layNew_ris t es ((PySem.strKind P w).hash k) (.str k tk) hr
    have l1 := layNew_led t es ((PySem.strKind P w).hash k) (.str k tk)
    generalize layNew t es ((PySem.strKind P w).hash k) (.str k tk) = Z at p1 f1 r1 l1 ⊢
    obtain ⟨es1, t1, wasDummy, way⟩ := Z
    dsimp only at p1 f1 r1 l1 ⊢
    rw [Array.toList_push] at p1
    have good1 : ∀ e ∈ es1.toList, GoodS w e := fun e he => by
      rcases List.mem_append.mp (p1.mem_iff.mp he) with z | z
      · exact g e z
      · rw [List.mem_singleton.mp z]
        exact ⟨k, tk, rfl, rfl⟩
    have pm1 : (es1.toList.map keyS).Perm (L ++ [k]) := by
      refine (p1.map keyS).trans ?_
      rw [List.map_append]
      exact pm.append_right _
    have nd1 : (L ++ [k]).Nodup := by
      rw [List.nodup_append]
      refine ⟨nd, by simp, fun x hx y hy => ?_⟩
      rw [List.mem_singleton.mp hy]
      rintro rfl
      exact notL hx
    have sz1 : es1.size = L.length + 1 := by
      have z := pm1.length_eq
      rwa [List.length_map, Array.length_toList, List.length_append, List.length_singleton] at z
    have b1 : es1.size < scanBound := by rw [sz1]; exact room
    have led1 : w.params.followText "set-order" = true ∨ t1.led = true := hl.imp id fun z => by rw [l1]; exact z
    refine wpAny_bind (gave _ ?_)
    have tail : ∀ {gg : Bool → Sem Unit} {t2 : SetTable} {wd : Bool} {R : Option Bool → Shared → Prop}, (∀ (b : Bool) (s₁ : Shared) (Q' : Unit → Shared → Prop), Q' () s₁ → wpAny (model P w) A (gg b) Q' E s₁) →
        t2.fits es1.size = true → Ris t2.place.toList → (w.params.followText "set-order" = true ∨ t2.led = true) →
        (∀ h', Heap.SameBut a s.heap h' → SetS w h' a (L ++ [k]) → R (some true) { s with heap := h' }) → _ := fun {gg t2 wd R} hg hf2 hr2 hl2 hR =>
      addS_tail (P := P) (A := A) (E := E) (wasDummy := wd) hg ho hex hd good1 pm1 nd1 b1 hf2 hr2 hl2 hR
    split
    · refine wpAny_bind ?_
      rw [hashByValue_scannable 8 hsc]
      refine wpAny_pure (tail (fun b s₁ Q' q => ?_) ?_ ?_ ?_ fun h' sb r => ?_)
      · cases b with
        | true => exact wpAny_rule q
        | false => exact wpAny_pure q
      · first | (split <;> first | exact f1 | exact SetTable.fits_plain_off f1) | exact f1
      · first | (split <;> exact r1) | exact r1
      · first | (split <;> exact led1) | exact led1
      · dsimp only
        exact wpAny_pure (hQ h' true sb r)
    · refine wpAny_bind (wpAny_pure ?_)
      simp only [↓reduceIte]
      refine tail (fun b s₁ Q' q => ?_) f1 r1 led1 fun h' sb r => ?_
      · cases b with
        | true => exact wpAny_rule q
        | false => exact wpAny_pure q
      · dsimp only
        exact wpAny_pure (hQ h' true sb r)

/-- found.add(k) -/
theorem addS {k : Str} {tk : Tok} {Q : Value → Shared → Prop} (R : SetS w s.heap a L) (room : L.length + 1 < scanBound)
    (hQ : ∀ h', Heap.SameBut a s.heap h' → SetS w h' a (insS L k) → Q .none { s with heap := h', toks := s.toks + 1 }) :
    wpAny (model P w) A (call (.builtin "set.add") [.ref a, .str k tk]) Q E s := by
  have hS : s.heap.SetOf (PySem.strKind P w) a (fun k => decide (k ∈ L)) L.length := R.setOf
  refine wpAny_call_entry F.slot_set_add hS.typeIs F.entry_set_add ?_ (F.args_set_add_2 _ _)
  unfold Builtin.«set.add» Builtin.Frozenset.oneOther
  simp only [List.isEmpty_nil, bind_assoc]
  unfold Builtin.Frozenset.addrOf setAdd
  refine wpAny_bind (wpAny_pure ?_)
  try dsimp only
  refine wpAny_bind (wpAny_pure ?_)
  try dsimp only
  refine wpAny_bind (wpAny_holding (wpAny_bind ((PySem.strKind P w).pyHash (strKind_is P w k tk) ?_)))
  refine addS_hashed (s := { s with toks := s.toks + 1 }) R room fun h' b sb r => ?_
  show wpAny _ _ (ret Value.none) _ _ _
  exact wpAny_pure ⟨_, rfl, hQ h' sb r⟩
theorem freshS {h : Heap} (w : World) : SetS w (h.push { cls := .type "set", dict := none, data := .set #[] 0 (.fresh 0 0 (!w.params.followText "set-order")) }) h.objs.size [] := by
  refine ⟨_, #[], 0, _, Heap.get?_push_size _ rfl, ⟨rfl, rfl, rfl⟩, rfl, (fun e he => by simp at he), List.Perm.refl _, List.nodup_nil, by decide, by rfl, List.Pairwise.nil, ?_⟩
  show _ ∨ (!w.params.followText "set-order") = true
  cases w.params.followText "set-order" with
  | true => exact .inl rfl
  | false => exact .inr rfl

/-- sorted(set) -/
theorem strs_of : ∀ (l : List Value), (∀ v ∈ l, ∃ x tk, v = Value.str x tk) → ∃ ss, StrsAre l ss ∧ ∀ f : Int × Value → Value → Prop, True
  | [], _ => ⟨[], .nil, fun _ => trivial⟩
  | v :: l, h => by
    obtain ⟨x, tk, rfl⟩ := h v List.mem_cons_self
    obtain ⟨ss, q, _⟩ := strs_of l fun u hu => h u (List.mem_cons_of_mem _ hu)
    exact ⟨x :: ss, .cons x tk q, fun _ => trivial⟩
def valS (v : Value) : Str := match v with | .str x _ => x | _ => Str.empty
theorem strs_map : ∀ {l : List Value}, (∀ v ∈ l, ∃ x tk, v = Value.str x tk) → StrsAre l (l.map valS)
  | [], _ => .nil
  | v :: l, h => by
    obtain ⟨x, tk, rfl⟩ := h v List.mem_cons_self
    exact .cons x tk (strs_map fun u hu => h u (List.mem_cons_of_mem _ hu))
theorem sorted_setS {Q : Value → Shared → Prop} (R : SetS w s.heap a L) (hh : A.handled = none) (h64 : L.length < 64)
    (hQ : ∀ s' p (out : Array Value) (c : Nat) (ys : List Str), (∀ b o, s.heap.get? b = some o → s'.heap.get? b = some o) → s'.gens = s.gens → s'.os = s.os → s.heap.objs.size ≤ p →
      s'.heap.get? p = some (seqObj "list" out c) → StrsAre out.toList ys → ys.Perm L → sortedS ys = true → Q (.ref p) s') :
    wpAny (model P w) A (call (.builtin "sorted") [.ref a]) Q E s := by
  obtain ⟨o, es, ep, t, ho, hex, hd, g, pmL, nd, hb, hf, hr, hl⟩ := R
  refine Calls.call_function_entry kind_sorted plain_sorted entry_sorted (args_sorted1 _) ?_
  unfold Builtin.«sorted»
  refine wpAny_bind (m := checkCount "sorted" 1 1 _) (wpAny_pure ?_)
  refine wpAny_bind (collect_set (A := A.in1) hh ⟨o, ho, hex.1, hd⟩ hf hb hr hl fun s1 vs k1 hz g1 o1 pm => ?_)
  have hS : StrsAre vs (vs.map valS) := strs_map fun v hv => by
    obtain ⟨e, he, q⟩ := List.mem_map.mp (pm.mem_iff.mp hv)
    obtain ⟨x, tk, h1, _⟩ := g e he
    exact ⟨x, tk, by rw [← q]; exact h1⟩
  have pk : (vs.map valS).Perm L := by
    have q := pm.map valS
    rw [List.map_map] at q
    exact q.trans pmL
  have hvl : vs.length = L.length := by
    have z := pk.length_eq
    rwa [List.length_map] at z
  refine wpAny_bind (wpAny_newList ?_ (by rw [hvl, sizeLine_eq]; omega))
  have at1 : (s1.heap.push (seqObj "list" vs.toArray 0)).get? s1.heap.objs.size = some (seqObj "list" vs.toArray 0) := Heap.get?_push_size _ rfl
  refine wpAny_bind (wpAny_holding (wpAny_call_entry slot_list_sort ⟨_, at1, rfl⟩ entry_list_sort
    (list_sort_treeK strKind_oneLt at1 hS.keysOf (fun v₁ v₂ rest e => keyKind_strs (by rw [← e]; exact hS)) (by rw [hvl]; exact h64) fun st' hp hs => ⟨_, rfl, ?_⟩) (args_list_sort _)))
  obtain ⟨ys, y1, y2, y3⟩ := sorted_out_str hS hp hs
  obtain ⟨c, hc⟩ := sortedHeap_at (vs := vs) (out := (arrOf st').map (·.2)) at1
  refine wpAny_pure ⟨_, rfl, hQ _ s1.heap.objs.size _ c ys (fun b u e => ?_) g1 o1 hz hc y1 (y2.trans pk) y3⟩
  have q := k1 b u e
  have lt := Heap.lt_size q
  show (sortedHeap (s1.heap.push (seqObj "list" vs.toArray 0)) s1.heap.objs.size vs ((arrOf st').map (·.2))).get? b = some u
  rw [sortedHeap_old (Nat.ne_of_lt lt) (by rw [size_push']; exact Nat.lt_succ_of_lt lt)]
  exact Heap.get?_push_of_some _ q
end

/-! ### as a tracked thing -/
def SetO (w : World) (a : Addr) (L : List Str) : HO := .ext fun h => SetS w h a L
theorem setO_new {w : World} {P : PySem.Program} {H : Hp} {h : Heap} {a : Addr} {L : List Str} (R : SetS w h a L) : ObjOk P w H h a (SetO w a L) := by
  have ⟨o, _, _, _, ho, _⟩ := R
  exact ⟨R, ⟨o, ho⟩, fun h1 h2 p k => SetS.at p k⟩
section
variable {X : Cx}
theorem setO_get {pins : List (Addr × Obj)} {σ : L2.St} {H : Hp} {s : Shared} {a : Addr} {L : List Str} (I : Inv X pins σ H s) (ha : H a = some (SetO X.w a L)) : SetS X.w s.heap a L := (I.hok a _ ha).1
theorem addO {pins : List (Addr × Obj)} {σ : L2.St} {H : Hp} {s : Shared} {E : Value → Shared → Prop} {D : Addr} {L : List Str} {y : Str} {tk : Tok} {Q : Value → Shared → Prop} (I : Inv X pins σ H s) (hD : H D = some (SetO X.w D L)) (room : L.length + 1 < scanBound)
    (h : ∀ s', Inv X pins σ (upd H D (SetO X.w D (insS L y))) s' → Q .none s') : wpAny (model X.prog X.w) X.A (call (.builtin "set.add") [.ref D, .str y tk]) Q E s := by
  refine addS (setO_get I hD) room fun h' sb new => h _ ?_
  obtain ⟨o, _, _, _, ho, _⟩ := id new
  exact I.write (e := D) (t' := s.toks + 1) (by rw [hD]; trivial) (.inl rfl) (fun b u hb hu => (sb.2 b hb).trans hu) ⟨o, ho⟩ (setO_new new)
/-- sorted(found), fewer than 64 texts: a new list of the same, ascending -/
def rSortSet (w : World) : List V → Hp → VK → Prop := fun xs H Q => ∃ (a : Addr) (L : List Str), xs = [.ref a] ∧ H a = some (SetO w a L) ∧ L.length < 64 ∧ ∀ ys p, ys.Perm L → sortedS ys = true → H p = none → Q (.ref p) (upd H p (.lst (ys.map V.str)))
theorem cr_sortedSet (hc : X.calm = true) : CallR X (.builtin "sorted") (rSortSet X.w) := by
  intro pins s σ H xs us Q I r h
  obtain ⟨a, L, rfl, ha, h64, q⟩ := h
  rw [Vals.ref1 r]
  refine sorted_setS (setO_get I ha) (I.ok.hd hc) h64 fun s' p out c ys k g o hp hg hS pm so => ?_
  have hlen : (ys.map V.str).length ≤ sizeLine := by
    rw [List.length_map, pm.length_eq]
    exact Nat.le_trans (Nat.le_of_lt h64) (by decide)
  have fr : H p = none := I.hok.fresh hp
  have ok := I.hok.laid (a := p) (o := .lst (ys.map V.str)) k hp ⟨hlen, out.toList, c, vals_of_strs hS, hg⟩
  refine ⟨.ref p, upd H p (.lst (ys.map V.str)), ?_, rfl, q ys p pm so fr⟩
  exact I.call' (ch := []) o (Un.laid k hp fr) ok (by rw [g]; exact I.bare) (fun _ z => nomatch z)
/-- len(found) -/
def rLenSet (w : World) : List V → Hp → VK → Prop := fun xs H Q => ∃ (a : Addr) (L : List Str), xs = [.ref a] ∧ H a = some (SetO w a L) ∧ Q (.int L.length) H
end
end K23
/-! Set comprehensions whose elements are texts: one clause, two clauses. A turn's body is a judgement of its own (PB), so that both share the outer loop. -/
namespace K23
open PySem PySem.Spec PyProof.Rows L2

abbrev TB := L2.St → Hp → (Hp → Prop) → Prop
/-- what a turn of a comprehension does behind its tests; behind it the slots vs are forgotten -/
structure PB (X : Cx) (body : Sem Unit) (vs : List Nat) (tb : TB) : Prop where
  run : ∀ (pins : List (Addr × Obj)) (s : Shared) (σ : L2.St) (H : Hp) (Nx : Hp → Prop), Inv X pins σ H s → tb σ H Nx →
    wpAny (model X.prog X.w) X.A body (fun _ s' => ∃ H', Inv X pins (wipe σ vs) H' s' ∧ Nx H') (fun _ _ => False) s
/-- the element is added -/
def tAdd (w : World) (te : TE) (D : Addr) : TB := fun σ H Nx => te σ H fun y H4 => ∃ z L, y = .str z ∧ H4 D = some (SetO w D L) ∧ L.length + 1 < scanBound ∧ Nx (upd H4 D (SetO w D (insS L z)))
def addBody (elt : Expr) (acc : Value) (env : Env) : Sem Unit := do
  let v ← eval elt env
  standAt elt.pos
  let _ ← call (.builtin "set.add") [acc, v]
theorem pb_add {X : Cx} {elt : Expr} {te : TE} {D : Addr} (he : PE X elt te) (hx : X.xe = fun _ _ => False) : PB X (addBody elt (.ref D) X.env) [] (tAdd X.w te D) := by
  refine ⟨fun pins s σ H Nx I h => ?_⟩
  unfold addBody
  have q := he.run pins s σ H _ I h
  rw [hx] at q
  refine wpAny_bind (wpAny_mono q (fun u s1 z => ?_) fun _ _ z => z)
  obtain ⟨y, H1, I1, r1, zz, L, ey, hD, room, nx⟩ := z
  subst ey
  obtain ⟨tk, rfl⟩ := r1
  exact wpAny_bind (wpAny_standAt (wpAny_bind (addO I1 hD room fun s2 I2 => wpAny_pure ⟨_, I2, nx⟩)))

/-- the comprehension's reading, the turn's body tb -/
def tScG (w : World) (wi : TI) (g : TG) (tt : TT) (tb : Addr → TB) (vs : List Nat) : TE := fun σ H Q => wi σ H fun J H1 => ∀ D, H1 D = none → ∃ W : Nat → Nat → Hp → Prop, (∃ m, W 0 m (upd H1 D (SetO w D []))) ∧ ∀ i m H, W i m H →
  (J.stop i H ∧ Q (.ref D) H) ∨ (J.go i H ∧ ∃ Nx : Hp → Prop, (∀ H', Nx H' → ∃ m', m' < m ∧ W (i + 1) m' H') ∧ ∀ x H', J.yld i H x H' → g x (wipe σ vs) H' fun σ2 H2 => wipe σ2 vs = wipe σ vs ∧ tt σ2 H2 fun b H3 =>
    if b = true then tb D σ2 H3 Nx else Nx H3)
/-- the form of a turn's tree -/
def turnTree (e : Expr) (k : Nat) (tg iter : Expr) (ifs : List Expr) (body : Sem Unit) (it acc : Value) (env : Env) : Sem Fin := do
  standAt iter.pos
  match ← pyNext it with
  | none => pure (.done .next)
  | some v =>
    letOwnedTupleGo tg it v
    assign tg env v
    let mut ok := true
    for c in ifs do
      if ok then ok ← isTrue c env (eval c env)
    if ok then body
    again (.compLoop e k it acc env)
abbrev NoE : Value → Shared → Prop := fun _ _ => False
section
variable {prog : PySem.Program} {w : World} {A : Around} {R : Result → Shared → Prop} {s : Shared} {elt tg iter : Expr} {gens : List Comprehension} {ifs : List Expr} {scope : Scope} {pos : Pos} {it acc : Value} {env : Env} {body : Sem Unit} {k : Nat}
/-- a loop of such turns, by a word whose number falls; nothing is raised -/
theorem loop_of (ht : compTurn (.SetComp elt gens scope pos) k it acc env = turnTree (.SetComp elt gens scope pos) k tg iter ifs body it acc env) (W : Nat → Shared → Prop)
    (turn : ∀ (n : Nat) (s : Shared), W n s → wpAny (model prog w) A (pyNext it) (fun r s1 => match r with
      | none => R (.ok .next) s1
      | some v => wpAny (model prog w) A (letOwnedTupleGo tg it v) (fun _ s2 => wpAny (model prog w) A (assign tg env v) (fun _ s3 =>
          wpAny (model prog w) A (forIn ifs true fun c r => if r = true then do let ok ← isTrue c env (eval c env); pure (ForInStep.yield ok) else pure (ForInStep.yield r)) (fun ok s4 =>
            if ok = true then wpAny (model prog w) A body (fun _ s5 => ∃ m, m < n ∧ W m s5) NoE s4 else ∃ m, m < n ∧ W m s4) NoE s3) NoE s2) NoE s1) NoE s)
    (n : Nat) (h : W n s) : codeAny (model prog w) A (.compLoop (.SetComp elt gens scope pos) k it acc env) R s := by
  refine codeAny_loop rfl W (fun n s hw => ?_) n h
  show wpAny _ A ((compTurn (.SetComp elt gens scope pos) k it acc env).onRaise (fun x => do noteFrame x env; theTreesLotGoes x)) _ _ s
  rw [ht]
  refine wpAny_noted (wpAny_mono (E := NoE) ?_ (fun _ _ z => z) fun _ _ z => False.elim z)
  unfold turnTree
  refine wpAny_bind (wpAny_standAt (wpAny_bind (thn (turn n s hw) fun r s1 h1 => ?_)))
  cases r with
  | none => exact wpAny_pure h1
  | some v =>
    refine wpAny_bind (thn h1 fun _ s2 h2 => wpAny_bind (thn h2 fun _ s3 h3 => wpAny_bind (thn h3 fun ok s4 h4 => ?_)))
    cases ok with
    | false => exact wpAny_pure ⟨rfl, h4⟩
    | true => exact wpAny_bind (thn h4 fun _ s5 h5 => wpAny_pure ⟨rfl, h5⟩)
/-- the start of a clause's loop: the source's iterator is its own -/
theorem start_of (h0 : codeAny (model prog w) A (.compLoop (.SetComp elt gens scope pos) k it acc env) R s)
    (h : ∀ (Q : Value → Shared → Prop) (E : Value → Shared → Prop), Q it s → wpAny (model prog w) A (pyIter it) Q E s) (hk : (k = 0 ∧ ∃ t i f r, gens = ⟨t, i, f, 0⟩ :: r) ∨ (k = 1 ∧ ∃ g0 t i f r, gens = g0 :: ⟨t, i, f, 0⟩ :: r)) :
    codeAny (model prog w) A (.compStart (.SetComp elt gens scope pos) k it acc env) R s := by
  refine codeAny_of_tree ?_
  show wpAny _ _ ((compStart (.SetComp elt gens scope pos) k it acc env).onRaise (fun x => do noteFrame x env; standAt theWindowsPlace)) _ _ s
  refine wpAny_notedAt ?_
  rcases hk with ⟨rfl, t, i, f, r, rfl⟩ | ⟨rfl, g0, t, i, f, r, rfl⟩
  all_goals
    unfold compStart
    show wpAny _ _ (ask >>= _) _ _ s
    refine wpAny_bind (wpAny_askSetting (wpAny_ite ?_))
    split
    · first
        | exact wpAny_bind (wpAny_pure (wpAny_pure (And.intro rfl h0)))
        | exact wpAny_pure (And.intro rfl h0)
    · refine wpAny_bind (wpAny_rule ?_)
      show wpAny _ _ (standAt i.pos >>= _) _ _ s
      exact wpAny_bind (wpAny_standAt (wpAny_bind (h _ _ (wpAny_pure (And.intro rfl h0)))))
end

/-! ### the second clause as a body -/
def nestBody (e iter1 : Expr) (acc : Value) (env : Env) : Sem Unit := do
  let x ← eval iter1 env
  standAt iter1.pos
  let x ← foldedSetIterable iter1 env x
  let _ ← runOwn (.compStart e 1 (← holding [x] (pyIter x)) acc env) env
def tNest (wi : TI) (g : TG) (tt : TT) (tb : Addr → TB) (vs : List Nat) (D : Addr) : TB := fun σ H Nx => wi σ H fun J H4 => ∃ W : Nat → Nat → Hp → Prop, (∃ m, W 0 m H4) ∧ ∀ j k H, W j k H →
  (J.stop j H ∧ Nx H) ∨ (J.go j H ∧ ∃ N1 : Hp → Prop, (∀ H', N1 H' → ∃ k', k' < k ∧ W (j + 1) k' H') ∧ ∀ x H', J.yld j H x H' → g x (wipe σ vs) H' fun σ3 H5 => wipe σ3 vs = wipe σ vs ∧ tt σ3 H5 fun b H6 =>
    if b = true then tb D σ3 H6 N1 else N1 H6)
theorem pb_nest {Y : Cx} {elt tg1 iter1 : Expr} {g0 : Comprehension} {ifs1 : List Expr} {scope : Scope} {pos : Pos} {D : Addr} {wi : TI} {g : TG} {tt : TT} {tb : Addr → TB} {vs : List Nat} {body : Value → Env → Sem Unit} (hc : Y.calm = true) (hx : Y.xe = NoE)
    (hs : ∀ x, foldedSetIterable iter1 Y.env x = pure x) (hi : PI Y tg1 iter1 wi) (hg : PG Y tg1 g) (ht : PTs Y ifs1 tt) (hb : PB Y (body (.ref D) Y.env) [] (tb D))
    (htree : ∀ it, compTurn (.SetComp elt [g0, ⟨tg1, iter1, ifs1, 0⟩] scope pos) 1 it (.ref D) Y.env = turnTree (.SetComp elt [g0, ⟨tg1, iter1, ifs1, 0⟩] scope pos) 1 tg1 iter1 ifs1 (body (.ref D) Y.env) it (.ref D) Y.env) :
    PB Y (nestBody (.SetComp elt [g0, ⟨tg1, iter1, ifs1, 0⟩] scope pos) iter1 (.ref D) Y.env) vs (tNest wi g tt tb vs D) := by
  refine ⟨fun pins s σ H Nx I h => ?_⟩
  unfold nestBody
  have q := hi.run pins s σ H _ I h
  rw [hx] at q
  refine wpAny_bind (thn q fun xv s1 h1 => wpAny_bind (wpAny_standAt (wpAny_bind (wpAny_of_eq (hs xv) (wpAny_bind (wpAny_holding (thn h1 fun itv s2 h2 => ?_)))))))
  obtain ⟨it, fp, tn, J, H2, e, I2, T, st2, f2, W, ⟨m0, w0⟩, turn⟩ := h2
  subst e
  have still : ∀ {H' : Hp}, (∀ b ∈ fp, H' b = none) → ∀ b ∈ fp, FpOk Y pins H' b := fun hn b hb => ⟨hn b hb, (f2 b hb).2⟩
  refine wpAny_bind (wpAny_runOwn ?_)
  rw [Around.mark_none]
  have loop : codeAny (model Y.prog Y.w) Y.A (.compLoop (.SetComp elt [g0, ⟨tg1, iter1, ifs1, 0⟩] scope pos) 1 (.ref it) (.ref D) Y.env) (fun r s' => match r with
      | .ok _ => ∃ H', Inv Y pins (wipe σ vs) H' s' ∧ Nx H'
      | .error _ => False) s2 := by
    refine loop_of (htree _) (fun k s' => ∃ j H', Inv Y pins (wipe σ vs) H' s' ∧ tn j s'.heap ∧ (∀ b ∈ fp, H' b = none) ∧ W j k H') ?_ m0
      ⟨0, H2, I2.weak (wipe_length _ _) (fun j v e => (wipe_some e).1), st2, fun b hb => (f2 b hb).1, w0⟩
    rintro k s3 ⟨j, H3, I3, st3, n3, w3⟩
    rcases turn j k H3 w3 with ⟨stop, nx⟩ | ⟨go, N1, hN, step⟩
    · refine thn (T.done Y rfl rfl rfl hc j pins s3 (wipe σ vs) H3 NoE I3 (still n3) st3 stop) fun r s4 ⟨hr, I4⟩ => ?_
      subst hr
      exact ⟨H3, I4, nx⟩
    · refine thn (T.item Y rfl rfl rfl hc j pins s3 (wipe σ vs) H3 NoE I3 (still n3) st3 go) fun r s4 ⟨u, hr, h4⟩ => ?_
      subst hr
      refine thn h4 fun _ s5 ⟨x, H5, I5, r5, y5, st5, n5⟩ => ?_
      have I5' := I5.pinned (still n5) (T.obj _ _ st5)
      have q6 := hg.run _ s5 (wipe σ vs) H5 x u _ I5' r5 (step x H5 y5)
      rw [hx] at q6
      refine thn q6 fun _ s6 ⟨σ6, H6, I6, hw6, p6⟩ => ?_
      have q7 := ht.run _ s6 σ6 H6 _ I6 p6
      rw [hx] at q7
      refine thn q7 fun b s7 ⟨H7, I7, p7⟩ => ?_
      have fin : ∀ {s' : Shared} {H' : Hp}, Inv Y (pins ++ pinsAt fp s5.heap) σ6 H' s' → N1 H' → ∃ m, m < k ∧ ∃ j H', Inv Y pins (wipe σ vs) H' s' ∧ tn j s'.heap ∧ (∀ b ∈ fp, H' b = none) ∧ W j m H' := fun {s' H'} I' nx => by
        obtain ⟨m', hm, w'⟩ := hN H' nx
        have kept : ∀ b ∈ fp, ∀ o, s5.heap.get? b = some o → s'.heap.get? b = some o ∧ H' b = none := fun b hb o e => by
          have z := I'.pin (b, o) (List.mem_append_right _ (List.mem_append_right _ (mem_pinsAt hb e)))
          exact ⟨z.1, z.2.1⟩
        refine ⟨m', hm, j + 1, H', I'.unpinned.weak (by rw [← hw6, wipe_length]) (fun j v e => by rw [← hw6] at e; exact (wipe_some e).1), T.keep _ _ _ st5 fun b hb o e => (kept b hb o e).1, fun b hb => ?_, w'⟩
        obtain ⟨o, e, _⟩ := T.obj _ _ st5 b hb
        exact (kept b hb o e).2
      cases b with
      | false =>
        simp only [Bool.false_eq_true, if_false] at p7 ⊢
        exact fin I7 p7
      | true =>
        simp only [if_true] at p7 ⊢
        exact thn (hb.run _ s7 σ6 H7 N1 I7 p7) fun _ s8 ⟨H8, I8, nx⟩ => fin I8 nx
  have started := start_of (k := 1) loop (fun Q E q => T.self Y.A 0 s2 Q E st2 q) (.inr ⟨rfl, _, _, _, _, _, rfl⟩)
  refine codeAny_mono started fun r s' hr => ?_
  cases r with
  | ok f =>
    first
      | exact wpAny_pure hr
      | exact wpAny_bind (wpAny_pure (wpAny_pure hr))
  | error e => exact hr.elim
end K23
namespace K23
open PySem PySem.Spec PyProof.Rows L2
theorem tree2 {elt t0 i0 t1 i1 : Expr} {ifs0 ifs1 : List Expr} {scope : Scope} {pos : Pos} {it acc : Value} {env : Env} :
    compTurn (.SetComp elt [⟨t0, i0, ifs0, 0⟩, ⟨t1, i1, ifs1, 0⟩] scope pos) 0 it acc env =
      turnTree (.SetComp elt [⟨t0, i0, ifs0, 0⟩, ⟨t1, i1, ifs1, 0⟩] scope pos) 0 t0 i0 ifs0 (nestBody (.SetComp elt [⟨t0, i0, ifs0, 0⟩, ⟨t1, i1, ifs1, 0⟩] scope pos) i1 acc env) it acc env := by
  show (standAt i0.pos >>= fun _ => pyNext it >>= fun r => _) = (standAt i0.pos >>= fun _ => pyNext it >>= fun r => _)
  congr 1
  funext _
  congr 1
  funext r
  cases r with
  | none => rfl
  | some v =>
    dsimp only
    congr 1
    funext _
    congr 1
    funext _
    congr 1
    funext ok
    cases ok with
    | false => rfl
    | true =>
      unfold nestBody
      simp only [↓reduceIte, bind_assoc, pure_bind]
      rfl
section
variable {X : Cx}
/-- {elt for tg in iter if .. (more)}: the outer loop, whatever its turn's body is -/
theorem pe_scG {elt tg iter : Expr} {ifs : List Expr} {more : List Comprehension} {scope : Scope} {own : List (PySem.Str × Nat)} {pos : Pos} {wi : TI} {g : TG} {tt : TT} {tb : Addr → TB} {vs1 : List Nat} {body : Value → Env → Sem Unit}
    (hc : X.calm = true) (hN : X.N.Nodup) (hi : PI X tg iter wi) (ok : BlkOk X.N X.env.scope scope own) (hv : ∀ i ∈ vs1, i ∈ own.map (·.2))
    (hg : ∀ (s : Shared) (H : Hp) (C : Addr) (cl : List (PySem.Str × Addr)) (fp : List Addr), PG (X.blk s H scope (compEnvC scope cl C X.env) fp) tg g)
    (ht : ∀ (s : Shared) (H : Hp) (C : Addr) (cl : List (PySem.Str × Addr)) (fp : List Addr), PTs (X.blk s H scope (compEnvC scope cl C X.env) fp) ifs tt)
    (hb : ∀ (D : Addr) (s : Shared) (H : Hp) (C : Addr) (cl : List (PySem.Str × Addr)) (fp : List Addr), PB (X.blk s H scope (compEnvC scope cl C X.env) fp) (body (.ref D) (compEnvC scope cl C X.env)) vs1 (tb D))
    (htree : ∀ it acc env, compTurn (.SetComp elt (⟨tg, iter, ifs, 0⟩ :: more) scope pos) 0 it acc env = turnTree (.SetComp elt (⟨tg, iter, ifs, 0⟩ :: more) scope pos) 0 tg iter ifs (body acc env) it acc env)
    (hs : ∀ x, foldedSetIterable iter X.env x = pure x) : PE X (.SetComp elt (⟨tg, iter, ifs, 0⟩ :: more) scope pos) (tScG X.w wi g tt tb (own.map (·.2))) := by
  refine ⟨fun pins s σ H Q I h => ?_⟩
  rw [PpSet.eval_SetComp]
  have caught : ∀ y ∈ scope.names, y.2 = .free → ∃ c, X.env.cells.lookup y.1 = some c := fun y hy e =>
    (ok.free y hy e).elim (fun k => I.ok.has _ (.inl k)) fun k => I.ok.has _ (.inr k)
  refine wpAny_comprehension_free (use := none) rfl hs (closure_ok caught) ok.kind (fun y hy e => by rw [ok.uniq y hy, e]) ?_
  refine thn (hi.run pins s σ H _ I h) fun xv s1 h1 => thn h1 fun itv s2 h2 => ?_
  obtain ⟨it, fp, tn, J, H2, e, I2, T, st2, f2, q⟩ := h2
  subst e
  refine PpSet.newSet_ok (newEnv_comp ?_)
  generalize hD : s2.heap.objs.size = D
  obtain ⟨W, ⟨m0, w0⟩, turn⟩ := q D (I2.hok.fresh (Nat.le_of_eq hD))
  generalize hs3 : ({ s2 with heap := s2.heap.push { cls := .type "set", dict := none, data := .set #[] 0 (.fresh 0 0 (!X.w.params.followText "set-order")) } } : Shared) = s3
  have heap3 : s3.heap = s2.heap.push { cls := .type "set", dict := none, data := .set #[] 0 (.fresh 0 0 (!X.w.params.followText "set-order")) } := by rw [← hs3]
  have I3 : Inv X pins σ (upd H2 D (SetO X.w D [])) s3 := by
    rw [← hs3]
    refine I2.laid (t' := s2.toks) (fun b o e => Heap.get?_push_of_some _ e) (Nat.le_of_eq hD) ?_
    rw [← hD]
    exact setO_new (freshS X.w)
  have f3 : ∀ b ∈ fp, FpOk X pins (upd H2 D (SetO X.w D [])) b ∧ b < s3.heap.objs.size := fun b hb => by
    obtain ⟨o, ho, _⟩ := T.obj _ _ st2 b hb
    have lt := Heap.lt_size ho
    refine ⟨⟨?_, (f2 b hb).2⟩, by rw [heap3, Heap.size_push]; exact Nat.lt_succ_of_lt lt⟩
    rw [upd_ne (by rw [← hD]; exact Nat.ne_of_lt lt)]
    exact (f2 b hb).1
  have st3 : tn 0 s3.heap := T.keep _ _ _ st2 fun b _ o e => by rw [heap3]; exact Heap.get?_push_of_some _ e
  have I4 := block_start I3 ok hN f3
  show codeAny _ _ (.compStart (.SetComp elt (⟨tg, iter, ifs, 0⟩ :: more) scope pos) 0 (.ref it) (.ref D) (compEnvC scope (cellsFrom (s3.heap.objs.size + 1) scope.names (cloFrom X.env.cells scope.names [])) s3.heap.objs.size X.env)) (compPost (model X.prog X.w) X.A X.xe none (EP X pins σ Q) (.ref D) s3.heap.objs.size) { s3 with heap := pushCells (s3.heap.push { cls := .type "dict", data := .dict #[] }) scope.names }
  generalize hcl : cellsFrom (s3.heap.objs.size + 1) scope.names (cloFrom X.env.cells scope.names []) = cl at I4 ⊢
  have tgt := hg s3 (upd H2 D (SetO X.w D [])) s3.heap.objs.size cl fp
  have tst := ht s3 (upd H2 D (SetO X.w D [])) s3.heap.objs.size cl fp
  have bdy := hb D s3 (upd H2 D (SetO X.w D [])) s3.heap.objs.size cl fp
  have nfp : ∀ b ∈ fp, (upd H2 D (SetO X.w D [])) b = none := fun b hb => (f3 b hb).1.1
  have size3 : s2.heap.objs.size + 1 = s3.heap.objs.size := by rw [heap3, Heap.size_push]
  generalize hce : compEnvC scope cl s3.heap.objs.size X.env = ce at I4 tgt tst bdy ⊢
  have cL : ce.locals = s3.heap.objs.size := by rw [← hce]; rfl
  generalize hH3 : upd H2 D (SetO X.w D []) = H3 at I3 I4 tgt tst bdy w0 nfp f3
  generalize hs4 : ({ s3 with heap := pushCells (s3.heap.push { cls := .type "dict", data := .dict #[] }) scope.names } : Shared) = s4 at I4 ⊢
  have st4 : tn 0 s4.heap := T.keep _ _ _ st3 fun b _ o e => by
    rw [← hs4]
    exact pushCells_keeps _ _ _ _ (Heap.get?_push_of_some _ e)
  have still : ∀ {σ' : L2.St} {H' : Hp} {s' : Shared}, Inv (X.blk s3 H3 scope ce fp) [] σ' H' s' → (∀ b ∈ fp, H' b = none) → ∀ b ∈ fp, FpOk (X.blk s3 H3 scope ce fp) [] H' b := fun {σ' H' s'} I' hn b hb =>
    ⟨hn b hb, (I'.ok.exf b hb).1, I'.ok.exfs b hb, .inl hb, fun x c e => (I'.ok.exf b hb).2 x c e, fun p hp => absurd (show p ∈ ([] : List (Addr × Obj)) ++ [] from hp) (by simp)⟩
  have loop : codeAny (model X.prog X.w) X.A (.compLoop (.SetComp elt (⟨tg, iter, ifs, 0⟩ :: more) scope pos) 0 (.ref it) (.ref D) ce) (compPost (model X.prog X.w) X.A X.xe none (EP X pins σ Q) (.ref D) s3.heap.objs.size) s4 := by
    refine loop_of (htree _ _ _) (fun n s' => ∃ i H', Inv (X.blk s3 H3 scope ce fp) [] (wipe σ (own.map (·.2))) H' s' ∧ tn i s'.heap ∧ (∀ b ∈ fp, H' b = none) ∧ W i n H') ?_ m0 ⟨0, H3, I4, st4, nfp, w0⟩
    rintro n s5 ⟨i, H5, I5, st5, n5, w5⟩
    rcases turn i n H5 w5 with ⟨stop, qq⟩ | ⟨go, Nx, hNx, step⟩
    · refine thn (T.done (X.blk s3 H3 scope ce fp) rfl rfl rfl hc i [] s5 _ H5 NoE I5 (still I5 n5) st5 stop) fun r s6 ⟨hr, I6⟩ => ?_
      subst hr
      -- the block is left
      have back : Inv X pins σ H5 s6 := I3.call' (ch := fp) I6.os I6.base I6.hok I6.bare fun b hb => by
        obtain ⟨⟨_, z1, _, z2, z3, z4⟩, _⟩ := f3 b hb
        exact ⟨z2, z1, z3, z4⟩
      have nC : H5 s3.heap.objs.size = none := by
        have z : H5 ce.locals = none := I6.free
        rwa [cL] at z
      obtain ⟨m, hn, _⟩ := I6.loc
      have hn : s6.heap.Ns ce.locals m := hn
      rw [cL] at hn
      obtain ⟨z0, z1, z2, z3, z4, z5⟩ := I3.fpOk (Nat.le_refl _) nC
      refine ⟨m, hn, fun h'' sb => ?_⟩
      exact ⟨.ref D, H5, back.turned (t' := s6.toks) (fun b o hb e => (sb.2 b hb).trans e) z0 z1 z3 z4 z5, rfl, qq⟩
    · refine thn (T.item (X.blk s3 H3 scope ce fp) rfl rfl rfl hc i [] s5 _ H5 NoE I5 (still I5 n5) st5 go) fun r s6 ⟨u, hr, h6⟩ => ?_
      subst hr
      refine thn h6 fun _ s7 ⟨x, H7, I7, r7, y7, st7, n7⟩ => ?_
      have I7' := I7.pinned (still I7 n7) (T.obj _ _ st7)
      refine thn (tgt.run _ s7 _ H7 x u _ I7' r7 (step x H7 y7)) fun _ s8 ⟨σ8, H8, I8, hw8, q8⟩ => ?_
      refine thn (tst.run _ s8 σ8 H8 _ I8 q8) fun b s9 ⟨H9, I9, q9⟩ => ?_
      have fin : ∀ {σ9 : L2.St} {s' : Shared} {H' : Hp}, Inv (X.blk s3 H3 scope ce fp) ([] ++ pinsAt fp s7.heap) σ9 H' s' → σ9 = σ8 ∨ σ9 = wipe σ8 vs1 → Nx H' →
          ∃ m, m < n ∧ ∃ i H', Inv (X.blk s3 H3 scope ce fp) [] (wipe σ (own.map (·.2))) H' s' ∧ tn i s'.heap ∧ (∀ b ∈ fp, H' b = none) ∧ W i m H' := fun {σ9 s' H'} I' h9 nx => by
        obtain ⟨m', hm, w'⟩ := hNx H' nx
        have kept : ∀ b ∈ fp, ∀ o, s7.heap.get? b = some o → s'.heap.get? b = some o ∧ H' b = none := fun b hb o e => by
          have z := I'.pin (b, o) (List.mem_append_right _ (List.mem_append_right _ (mem_pinsAt hb e)))
          exact ⟨z.1, z.2.1⟩
        have len : (wipe σ (own.map (·.2))).length = σ9.length := by
          rcases h9 with rfl | rfl
          · rw [← hw8, wipe_length]
          · rw [← hw8, wipe_length, wipe_length]
        have know : ∀ (j : Nat) v, (wipe σ (own.map (·.2)))[j]? = some (some v) → σ9[j]? = some (some v) := fun j v e => by
          rw [← hw8] at e
          obtain ⟨e1, e2⟩ := wipe_some e
          rcases h9 with rfl | rfl
          · exact e1
          · rw [wipe_out fun z => e2 (hv j z)]
            exact e1
        refine ⟨m', hm, i + 1, H', (I'.unpinned (pins := [])).weak len know, T.keep _ _ _ st7 fun b hb o e => (kept b hb o e).1, fun b hb => ?_, w'⟩
        obtain ⟨o, e, _⟩ := T.obj _ _ st7 b hb
        exact (kept b hb o e).2
      cases b with
      | false =>
        simp only [Bool.false_eq_true, if_false] at q9 ⊢
        exact fin I9 (.inl rfl) q9
      | true =>
        simp only [if_true] at q9 ⊢
        exact thn (bdy.run _ s9 σ8 H9 Nx I9 q9) fun _ s10 ⟨H10, I10, nx⟩ => fin I10 (.inr rfl) nx
  exact start_of (k := 0) loop (fun Q' E' q => T.self X.A 0 s4 Q' E' st4 q) (.inl ⟨rfl, _, _, _, _, rfl⟩)
/-- one clause -/
theorem pe_scS {elt tg iter : Expr} {ifs : List Expr} {scope : Scope} {own : List (PySem.Str × Nat)} {pos : Pos} {wi : TI} {g : TG} {tt : TT} {te : TE} (hc : X.calm = true) (hN : X.N.Nodup) (hi : PI X tg iter wi) (ok : BlkOk X.N X.env.scope scope own)
    (hg : ∀ (s : Shared) (H : Hp) (C : Addr) (cl : List (PySem.Str × Addr)) (fp : List Addr), PG (X.blk s H scope (compEnvC scope cl C X.env) fp) tg g)
    (ht : ∀ (s : Shared) (H : Hp) (C : Addr) (cl : List (PySem.Str × Addr)) (fp : List Addr), PTs (X.blk s H scope (compEnvC scope cl C X.env) fp) ifs tt)
    (he : ∀ (s : Shared) (H : Hp) (C : Addr) (cl : List (PySem.Str × Addr)) (fp : List Addr), PE (X.blk s H scope (compEnvC scope cl C X.env) fp) elt te) (hs : ∀ x, foldedSetIterable iter X.env x = pure x := by intro _; rfl) :
    PE X (.SetComp elt [⟨tg, iter, ifs, 0⟩] scope pos) (tScG X.w wi g tt (tAdd X.w te) (own.map (·.2))) :=
  pe_scG (vs1 := []) (body := addBody elt) hc hN hi ok (fun _ h => nomatch h) hg ht (fun D s H C cl fp => pb_add (he s H C cl fp) rfl) (fun _ _ _ => rfl) hs
/-- two clauses -/
theorem pe_sc2 {elt tg iter tg1 iter1 : Expr} {ifs ifs1 : List Expr} {scope : Scope} {own : List (PySem.Str × Nat)} {vs1 : List Nat} {pos : Pos} {wi wi1 : TI} {g g1 : TG} {tt tt1 : TT} {te : TE} (hc : X.calm = true) (hN : X.N.Nodup) (hi : PI X tg iter wi) (ok : BlkOk X.N X.env.scope scope own) (hv : ∀ i ∈ vs1, i ∈ own.map (·.2))
    (hg : ∀ (s : Shared) (H : Hp) (C : Addr) (cl : List (PySem.Str × Addr)) (fp : List Addr), PG (X.blk s H scope (compEnvC scope cl C X.env) fp) tg g)
    (ht : ∀ (s : Shared) (H : Hp) (C : Addr) (cl : List (PySem.Str × Addr)) (fp : List Addr), PTs (X.blk s H scope (compEnvC scope cl C X.env) fp) ifs tt)
    (hi1 : ∀ (s : Shared) (H : Hp) (C : Addr) (cl : List (PySem.Str × Addr)) (fp : List Addr), PI (X.blk s H scope (compEnvC scope cl C X.env) fp) tg1 iter1 wi1)
    (hg1 : ∀ (s : Shared) (H : Hp) (C : Addr) (cl : List (PySem.Str × Addr)) (fp : List Addr), PG (X.blk s H scope (compEnvC scope cl C X.env) fp) tg1 g1)
    (ht1 : ∀ (s : Shared) (H : Hp) (C : Addr) (cl : List (PySem.Str × Addr)) (fp : List Addr), PTs (X.blk s H scope (compEnvC scope cl C X.env) fp) ifs1 tt1)
    (he : ∀ (s : Shared) (H : Hp) (C : Addr) (cl : List (PySem.Str × Addr)) (fp : List Addr), PE (X.blk s H scope (compEnvC scope cl C X.env) fp) elt te) (hs : ∀ x, foldedSetIterable iter X.env x = pure x := by intro _; rfl) (hs1 : ∀ env x, foldedSetIterable iter1 env x = pure x := by intro _ _; rfl) :
    PE X (.SetComp elt [⟨tg, iter, ifs, 0⟩, ⟨tg1, iter1, ifs1, 0⟩] scope pos) (tScG X.w wi g tt (tNest wi1 g1 tt1 (tAdd X.w te) vs1) (own.map (·.2))) :=
  pe_scG (vs1 := vs1) (body := nestBody (.SetComp elt [⟨tg, iter, ifs, 0⟩, ⟨tg1, iter1, ifs1, 0⟩] scope pos) iter1) hc hN hi ok hv hg ht
    (fun D s H C cl fp => pb_nest (body := addBody elt) hc rfl (hs1 _) (hi1 s H C cl fp) (hg1 s H C cl fp) (ht1 s H C cl fp) (pb_add (he s H C cl fp) rfl) (fun _ => rfl)) (fun _ _ _ => tree2) hs
/-- len(found) -/
theorem cr_lenSet : CallR X (.builtin "len") (rLenSet X.w) := by
  intro pins s σ H xs us Q I r h
  obtain ⟨a, L, rfl, ha, q⟩ := h
  rw [Vals.ref1 r]
  obtain ⟨o, es, ep, t, ho, hex, hd, g, pm, nd, hb, hf, _⟩ := setO_get I ha
  have hn : es.size = L.length := by rw [← pm.length_eq, List.length_map, Array.length_toList]
  exact call_len_set ho hex hd hf (by have z := hb; unfold scanBound at z; omega) ⟨.int L.length, H, I.tok _, ⟨_, by rw [hn]⟩, q⟩
end
end K23
/-! Plain matters: texts in order, dicts as functions on a list of keys. -/
namespace K23
open PySem PySem.Spec PyProof.Rows L2

/-! ### texts in order -/
theorem lt_antisymm : ∀ (a b : List Nat), ltCps a b = false → ltCps b a = false → a = b
  | [], [], _, _ => rfl
  | [], _ :: _, h, _ => by simp [ltCps] at h
  | _ :: _, [], _, h => by simp [ltCps] at h
  | x :: a, y :: b, h, h' => by
    simp only [ltCps, Bool.or_eq_false_iff, decide_eq_false_iff_not, Bool.and_eq_false_iff, beq_eq_false_iff_ne] at h h'
    have e : x = y := by omega
    subst e
    rw [lt_antisymm a b (h.2.resolve_left fun z => z rfl) (h'.2.resolve_left fun z => z rfl)]
theorem le_trans' : ∀ (a b c : List Nat), ltCps b a = false → ltCps c b = false → ltCps c a = false
  | [], _, c, _, _ => by cases c <;> simp [ltCps]
  | _ :: _, [], _, h, _ => by simp [ltCps] at h
  | x :: a, y :: b, [], _, h => by simp [ltCps] at h
  | x :: a, y :: b, z :: c, h, h' => by
    simp only [ltCps, Bool.or_eq_false_iff, decide_eq_false_iff_not, Bool.and_eq_false_iff, beq_eq_false_iff_ne] at h h' ⊢
    refine ⟨by omega, ?_⟩
    by_cases e : z = x
    · right
      have e1 : y = x := by omega
      have e2 : z = y := by omega
      exact le_trans' a b c (h.2.resolve_left fun q => q e1) (h'.2.resolve_left fun q => q e2)
    · exact .inl e
def leS (a b : Str) : Prop := ltCps b.cps.toList a.cps.toList = false
theorem leS_antisymm {a b : Str} (h : leS a b) (h' : leS b a) : a = b := by
  have e := lt_antisymm _ _ h' h
  obtain ⟨a⟩ := a
  obtain ⟨b⟩ := b
  have e' : a = b := Array.toList_inj.mp e
  rw [e']
theorem leS_trans {a b c : Str} (h : leS a b) (h' : leS b c) : leS a c := le_trans' _ _ _ h h'
theorem rising_pw : ∀ (l : List Str) (p : Str), risingS p l = true → (p :: l).Pairwise leS
  | [], p, _ => List.pairwise_singleton _ _
  | x :: r, p, h => by
    simp only [risingS, Bool.and_eq_true, Bool.not_eq_true'] at h
    have ih := rising_pw r x h.2
    refine List.pairwise_cons.mpr ⟨fun y hy => ?_, ih⟩
    rcases List.mem_cons.mp hy with e | hy
    · rw [e]
      exact h.1
    · exact leS_trans (show leS p x from h.1) ((List.pairwise_cons.mp ih).1 y hy)
theorem sorted_pw {l : List Str} (h : sortedS l = true) : l.Pairwise leS := by
  cases l with
  | nil => exact List.Pairwise.nil
  | cons x r => exact rising_pw r x h
theorem pw_unique : ∀ (l m : List Str), l.Pairwise leS → m.Pairwise leS → l.Perm m → l = m
  | [], m, _, _, p => (List.nil_perm.mp p).symm
  | x :: l, m, h, h', p => by
    cases m with
    | nil => exact absurd p.length_eq (by simp)
    | cons y m =>
      obtain ⟨h1, h2⟩ := List.pairwise_cons.mp h
      obtain ⟨g1, g2⟩ := List.pairwise_cons.mp h'
      have e : x = y := by
        rcases List.mem_cons.mp (p.mem_iff.mp (List.mem_cons_self (a := x) (l := l))) with q | q
        · exact q
        · rcases List.mem_cons.mp (p.mem_iff.mpr (List.mem_cons_self (a := y) (l := m))) with r | r
          · exact r.symm
          · exact leS_antisymm (h1 y r) (g1 x q)
      subst e
      rw [pw_unique l m h2 g2 (List.perm_cons x |>.mp p)]
theorem sorted_unique {l m : List Str} (h : sortedS l = true) (h' : sortedS m = true) (p : l.Perm m) : l = m := pw_unique l m (sorted_pw h) (sorted_pw h') p

/-! ### dicts as functions on their keys -/
def setF {α : Type} (f : Str → α) (k : Str) (z : α) : Str → α := fun x => if x = k then z else f x
theorem setF_same {α : Type} {f : Str → α} {k : Str} {z : α} : setF f k z k = z := if_pos rfl
theorem setF_ne {α : Type} {f : Str → α} {k x : Str} {z : α} (h : x ≠ k) : setF f k z x = f x := if_neg h
/-- keys in their order, each with its value -/
def kd (ks : List Str) (v : Str → V) : List (Key × V) := ks.map fun k => (Sum.inr k, v k)
theorem kd_keys (ks : List Str) (v : Str → V) : (kd ks v).map (·.1) = ks.map Sum.inr := by
  unfold kd
  rw [List.map_map]
  rfl
theorem kd_len (ks : List Str) (v : Str → V) : (kd ks v).length = ks.length := List.length_map _
theorem kd_congr {ks : List Str} {v v' : Str → V} (h : ∀ k ∈ ks, v k = v' k) : kd ks v = kd ks v' := List.map_congr_left fun k hk => by rw [h k hk]
theorem kd_val {v : Str → V} {k : Str} : ∀ {ks : List Str}, valV (kd ks v) (.inr k) = if k ∈ ks then some (v k) else none
  | [] => rfl
  | x :: ks => by
    show valV ((Sum.inr x, v x) :: kd ks v) (.inr k) = _
    by_cases e : x = k
    · subst e
      rw [valV_pos rfl, if_pos List.mem_cons_self]
    · rw [valV_neg (fun z => e (Sum.inr.inj z)), kd_val]
      by_cases h : k ∈ ks
      · rw [if_pos h, if_pos (List.mem_cons_of_mem _ h)]
      · rw [if_neg h, if_neg fun z => (List.mem_cons.mp z).elim (fun q => e q.symm) h]
theorem kd_in {ks : List Str} {v : Str → V} {k : Str} (h : k ∈ ks) : valV (kd ks v) (.inr k) = some (v k) := by rw [kd_val, if_pos h]
theorem kd_out {ks : List Str} {v : Str → V} {k : Str} (h : k ∉ ks) : valV (kd ks v) (.inr k) = none := by rw [kd_val, if_neg h]
theorem kd_put_new {ks : List Str} {v : Str → V} {k : Str} {z : V} (h : k ∉ ks) : putK (kd ks v) (.inr k) z = kd (ks ++ [k]) (setF v k z) := by
  rw [putK_new _ (kd_out h)]
  unfold kd
  rw [List.map_append]
  congr 1
  · exact List.map_congr_left fun x hx => by rw [setF_ne (fun e : x = k => h (by rw [← e]; exact hx))]
  · show [((Sum.inr k : Key), z)] = [(Sum.inr k, setF v k z k)]
    rw [setF_same]
theorem kd_put_in {ks : List Str} {v : Str → V} {k : Str} {z : V} (h : k ∈ ks) : putK (kd ks v) (.inr k) z = kd ks (setF v k z) := by
  unfold putK
  have a : ((kd ks v).any fun kv => decide (kv.1 = (.inr k : Key))) = true := by
    rw [valV_any, kd_in h]
    rfl
  rw [if_pos a]
  unfold kd
  rw [List.map_map]
  refine List.map_congr_left fun x _ => ?_
  show (if (Sum.inr x : Key) = Sum.inr k then ((Sum.inr x : Key), z) else ((Sum.inr x : Key), v x)) = (Sum.inr x, setF v k z x)
  by_cases e : x = k
  · rw [if_pos (by rw [e]), e, setF_same]
  · rw [if_neg (fun q => e (Sum.inr.inj q)), setF_ne e]
theorem kd_snoc {ks : List Str} {v : Str → V} {k : Str} (h : k ∉ ks) : putK (kd ks v) (.inr k) (v k) = kd (ks ++ [k]) v := by
  rw [kd_put_new h]
  refine kd_congr fun x _ => ?_
  by_cases e : x = k
  · rw [e, setF_same]
  · rw [setF_ne e]
theorem kd_put {ks : List Str} {v : Str → V} {k : Str} {z : V} : putK (kd ks v) (.inr k) z = kd (if k ∈ ks then ks else ks ++ [k]) (setF v k z) := by
  by_cases h : k ∈ ks
  · rw [if_pos h, kd_put_in h]
  · rw [if_neg h, kd_put_new h]
theorem take_snoc {α : Type} {l : List α} {i : Nat} {x : α} (h : l[i]? = some x) : l.take (i + 1) = l.take i ++ [x] := by
  rw [List.take_succ, h]
  rfl
theorem take_not {α : Type} {l : List α} {i : Nat} {x : α} (nd : l.Nodup) (h : l[i]? = some x) : x ∉ l.take i := by
  intro m
  obtain ⟨j, hj⟩ := List.mem_iff_getElem?.mp m
  have lt : j < i := by
    rcases Nat.lt_or_ge j i with q | q
    · exact q
    · rw [List.getElem?_eq_none (by rw [List.length_take]; omega)] at hj
      cases hj
  rw [List.getElem?_take_of_lt lt] at hj
  have := (List.getElem?_inj (List.getElem?_eq_some_iff.mp hj).1 nd).mp (hj.trans h.symm)
  omega
/-- an item of a mapped list -/
theorem getMap {α β : Type} {f : α → β} {l : List α} {i : Nat} {y : β} (h : (l.map f)[i]? = some y) : ∃ x, l[i]? = some x ∧ y = f x := by
  rw [List.getElem?_map] at h
  cases e : l[i]? with
  | none => rw [e] at h; cases h
  | some x => rw [e] at h; exact ⟨x, rfl, (Option.some.inj h).symm⟩
end K23
/-! What stands in the heap: programs, numberings, dicts; a program without rings as plain data. -/
namespace K23
open PySem PySem.Spec PyProof.Rows L2

/-! ### heaps that grow -/
theorem _root_.L2.Same.new {H : Hp} {p : Addr} {o : HO} (h : H p = none) : Same H (upd H p o) := fun a u e => by
  rw [upd_ne (ne_of_none e h)]
  exact e
/-- an object that H does not know may change -/
theorem _root_.L2.Same.mut {H H' : Hp} {p : Addr} {o : HO} (e : Same H H') (h : H p = none) : Same H (upd H' p o) := fun a u ha => by
  rw [upd_ne (ne_of_none ha h)]
  exact e a u ha
/-- .. locked and open again -/
theorem upd_back {H : Hp} {p : Addr} {o : HO} (h : H p = some o) : upd H p o = H := by
  funext b
  unfold upd
  by_cases e : b = p
  · rw [if_pos e, e, h]
  · rw [if_neg e]

/-! ### words -/
def Word (z : Str) : Prop := 1 ≤ z.length ∧ z.length ≤ 8 ∧ ∀ c ∈ z.cps.toList, 97 ≤ c ∧ c ≤ 122
def strL (xs : List Str) : HO := .lst (xs.map V.str)
/-- a dict of texts to ints -/
def ID (H : Hp) (d : Addr) (ks : List Str) (f : Str → Int) : Prop := H d = some (.dK (kd ks fun k => .int (f k)))
/-- a dict of texts to objects, each one's content by its key -/
def RD (H : Hp) (d : Addr) (ks : List Str) (f : Str → HO) : Prop := ∃ g : Str → Addr, Rd H d (.dK (kd ks fun k => .ref (g k))) ∧ ∀ k ∈ ks, H (g k) = some (f k)
/-- .. that is not locked -/
def RU (H : Hp) (d : Addr) (ks : List Str) (f : Str → HO) : Prop := ∃ g : Str → Addr, H d = some (.dK (kd ks fun k => .ref (g k))) ∧ ∀ k ∈ ks, H (g k) = some (f k)
theorem rd_mono {H H' : Hp} {d : Addr} {u : HO} (s : Same H H') (h : Rd H d u) : Rd H' d u := h.elim (fun h => .inl (s _ _ h)) fun ⟨o, h⟩ => .inr ⟨o, s _ _ h⟩
theorem ID.mono {H H' : Hp} {d : Addr} {ks : List Str} {f : Str → Int} (s : Same H H') (h : ID H d ks f) : ID H' d ks f := s _ _ h
theorem RD.mono {H H' : Hp} {d : Addr} {ks : List Str} {f : Str → HO} (s : Same H H') (h : RD H d ks f) : RD H' d ks f := by
  obtain ⟨g, h1, h2⟩ := h
  exact ⟨g, rd_mono s h1, fun k hk => s _ _ (h2 k hk)⟩
theorem RU.mono {H H' : Hp} {d : Addr} {ks : List Str} {f : Str → HO} (s : Same H H') (h : RU H d ks f) : RU H' d ks f := by
  obtain ⟨g, h1, h2⟩ := h
  exact ⟨g, s _ _ h1, fun k hk => s _ _ (h2 k hk)⟩
theorem RU.rd {H : Hp} {d : Addr} {ks : List Str} {f : Str → HO} (h : RU H d ks f) : RD H d ks f := by
  obtain ⟨g, h1, h2⟩ := h
  exact ⟨g, .inl h1, h2⟩

/-! ### a program without rings -/
structure Prg where
  ws : List Str
  fr : Str → Str
  to : Str → Str
  pl : List Str
  bg : Str
  ex : List Str
  rk : Str → Nat
def Prg.leav (G : Prg) (p : Str) : List Str := G.ws.filter fun w => decide (G.fr w = p)
def Prg.ente (G : Prg) (p : Str) : List Str := G.ws.filter fun w => decide (G.to w = p)
def Prg.tup (G : Prg) (w : Str) : HO := .tup [.str (G.fr w), .str (G.to w)]
structure Prg.Ok (G : Prg) : Prop where
  wsN : G.ws.Nodup
  wsS : sortedS G.ws = true
  plN : G.pl.Nodup
  exN : G.ex.Nodup
  wsW : ∀ w ∈ G.ws, Word w
  plW : ∀ p ∈ G.pl, Word p
  frP : ∀ w ∈ G.ws, G.fr w ∈ G.pl
  toP : ∀ w ∈ G.ws, G.to w ∈ G.pl
  bgP : G.bg ∈ G.pl
  exP : ∀ p ∈ G.ex, p ∈ G.pl
  on : ∀ p ∈ G.pl, p ∈ G.ex ∨ ∃ w ∈ G.ws, G.fr w = p
  up : ∀ w ∈ G.ws, G.rk (G.fr w) < G.rk (G.to w)
  top : ∀ p ∈ G.pl, G.rk p < 6
  wsL : G.ws.length ≤ 40
  plL : G.pl.length ≤ 40
  exL : G.ex.length ≤ 40
  wsE : G.ws ≠ []
theorem Prg.mem_leav {G : Prg} {p w : Str} : w ∈ G.leav p ↔ w ∈ G.ws ∧ G.fr w = p := by
  unfold Prg.leav
  rw [List.mem_filter, decide_eq_true_eq]
/-- the attributes of a Program, in the order in which they are stored -/
def pgF (dp lp : Addr) (b : Str) (le do_ di : Addr) : List (Str × V) := [("pairs", .ref dp), ("own_places", .ref lp), ("own_begin", .str b), ("own_exits", .ref le), ("outs", .ref do_), ("ins", .ref di)]
section
variable {dp lp le do_ di : Addr} {b : Str}
theorem pgf_pairs : (pgF dp lp b le do_ di).lookup ("pairs" : Str) = some (V.ref dp) := by simp [pgF, List.lookup]
theorem pgf_places : (pgF dp lp b le do_ di).lookup ("own_places" : Str) = some (V.ref lp) := by
  have e : (("own_places" : Str) == "pairs") = false := by decide +kernel
  simp [pgF, List.lookup, e]
theorem pgf_begin : (pgF dp lp b le do_ di).lookup ("own_begin" : Str) = some (V.str b) := by
  have e : (("own_begin" : Str) == "pairs") = false := by decide +kernel
  have e2 : (("own_begin" : Str) == "own_places") = false := by decide +kernel
  simp [pgF, List.lookup, e, e2]
theorem pgf_exits : (pgF dp lp b le do_ di).lookup ("own_exits" : Str) = some (V.ref le) := by
  have e : (("own_exits" : Str) == "pairs") = false := by decide +kernel
  have e2 : (("own_exits" : Str) == "own_places") = false := by decide +kernel
  have e3 : (("own_exits" : Str) == "own_begin") = false := by decide +kernel
  simp [pgF, List.lookup, e, e2, e3]
theorem pgf_outs : (pgF dp lp b le do_ di).lookup ("outs" : Str) = some (V.ref do_) := by
  have e : (("outs" : Str) == "pairs") = false := by decide +kernel
  have e2 : (("outs" : Str) == "own_places") = false := by decide +kernel
  have e3 : (("outs" : Str) == "own_begin") = false := by decide +kernel
  have e4 : (("outs" : Str) == "own_exits") = false := by decide +kernel
  simp [pgF, List.lookup, e, e2, e3, e4]
theorem pgf_none {m : Str} (h : (["pairs", "own_places", "own_begin", "own_exits", "outs", "ins"] : List Str).contains m = false) : (pgF dp lp b le do_ di).lookup m = none := by
  simp only [List.contains_cons, List.contains_nil, Bool.or_false, Bool.or_eq_false_iff] at h
  simp [pgF, List.lookup, h]
end
/-- at p stands the program G -/
def PgAt (CP : Addr) (H : Hp) (p : Addr) (G : Prg) : Prop := ∃ dx dp lp le do_ di, H p = some (.ins CP dx (pgF dp lp G.bg le do_ di)) ∧ RD H dp G.ws G.tup ∧ H lp = some (strL G.pl) ∧ H le = some (strL G.ex) ∧ RD H do_ G.pl fun q => strL (G.leav q)
theorem PgAt.mono {CP : Addr} {H H' : Hp} {p : Addr} {G : Prg} (s : Same H H') (h : PgAt CP H p G) : PgAt CP H' p G := by
  obtain ⟨dx, dp, lp, le, do_, di, h1, h2, h3, h4, h5⟩ := h
  exact ⟨dx, dp, lp, le, do_, di, s _ _ h1, h2.mono s, s _ _ h3, s _ _ h4, h5.mono s⟩
/-- .. none of whose dicts is locked -/
def PgU (CP : Addr) (H : Hp) (p : Addr) (G : Prg) : Prop := ∃ dx dp lp le do_ di, H p = some (.ins CP dx (pgF dp lp G.bg le do_ di)) ∧ RU H dp G.ws G.tup ∧ H lp = some (strL G.pl) ∧ H le = some (strL G.ex) ∧ (RU H do_ G.pl fun q => strL (G.leav q)) ∧ do_ ≠ dp
theorem PgU.mono {CP : Addr} {H H' : Hp} {p : Addr} {G : Prg} (s : Same H H') (h : PgU CP H p G) : PgU CP H' p G := by
  obtain ⟨dx, dp, lp, le, do_, di, h1, h2, h3, h4, h5, h6⟩ := h
  exact ⟨dx, dp, lp, le, do_, di, s _ _ h1, h2.mono s, s _ _ h3, s _ _ h4, h5.mono s, h6⟩
theorem PgU.at {CP : Addr} {H : Hp} {p : Addr} {G : Prg} (h : PgU CP H p G) : PgAt CP H p G := by
  obtain ⟨dx, dp, lp, le, do_, di, h1, h2, h3, h4, h5, h6⟩ := h
  exact ⟨dx, dp, lp, le, do_, di, h1, h2.rd, h3, h4, h5.rd⟩
theorem PgAt.isI {CP : Addr} {H : Hp} {p : Addr} {G : Prg} (h : PgAt CP H p G) : IsI CP (.ref p) H := by
  obtain ⟨dx, dp, lp, le, do_, di, h1, _⟩ := h
  exact ⟨p, dx, _, rfl, h1⟩
theorem PgAt.isO {CP : Addr} {H : Hp} {p : Addr} {G : Prg} {m : Str} (h : PgAt CP H p G) (hm : (["pairs", "own_places", "own_begin", "own_exits", "outs", "ins"] : List Str).contains m = false := by decide +kernel) : IsO CP m (.ref p) H := by
  obtain ⟨dx, dp, lp, le, do_, di, h1, _⟩ := h
  exact ⟨p, dx, _, rfl, h1, pgf_none hm⟩

/-! ### numbers -/
/-- how many ways to go on, looked k steps far -/
def Prg.cnt (G : Prg) : Nat → Str → Int
  | 0, _ => 0
  | k + 1, p => (if p ∈ G.ex then 1 else 0) + ((G.leav p).map fun w => G.cnt k (G.to w)).sum
def Prg.many (G : Prg) (p : Str) : Int := G.cnt (6 - G.rk p) p
/-- what is ahead of w in the list l, from a on -/
def Prg.ahead (G : Prg) : Int → List Str → Str → Int
  | _, [], _ => 0
  | a, x :: l, w => if x = w then a else G.ahead (a + G.many (G.to x)) l w
def Prg.base (G : Prg) (w : Str) : Int := G.ahead (if G.fr w ∈ G.ex then 1 else 0) (G.leav (G.fr w)) w
def nuF (p d1 d2 d3 : Addr) : List (Str × V) := [("own_program", .ref p), ("onward", .ref d1), ("base", .ref d2), ("steps", .ref d3)]
section
variable {p d1 d2 d3 : Addr}
theorem nuf_program : (nuF p d1 d2 d3).lookup ("own_program" : Str) = some (V.ref p) := by simp [nuF, List.lookup]
theorem nuf_onward : (nuF p d1 d2 d3).lookup ("onward" : Str) = some (V.ref d1) := by
  have e : (("onward" : Str) == "own_program") = false := by decide +kernel
  simp [nuF, List.lookup, e]
theorem nuf_base : (nuF p d1 d2 d3).lookup ("base" : Str) = some (V.ref d2) := by
  have e : (("base" : Str) == "own_program") = false := by decide +kernel
  have e2 : (("base" : Str) == "onward") = false := by decide +kernel
  simp [nuF, List.lookup, e, e2]
theorem nuf_steps : (nuF p d1 d2 d3).lookup ("steps" : Str) = some (V.ref d3) := by
  have e : (("steps" : Str) == "own_program") = false := by decide +kernel
  have e2 : (("steps" : Str) == "onward") = false := by decide +kernel
  have e3 : (("steps" : Str) == "base") = false := by decide +kernel
  simp [nuF, List.lookup, e, e2, e3]
theorem nuf_none {m : Str} (h : (["own_program", "onward", "base", "steps"] : List Str).contains m = false) : (nuF p d1 d2 d3).lookup m = none := by
  simp only [List.contains_cons, List.contains_nil, Bool.or_false, Bool.or_eq_false_iff] at h
  simp [nuF, List.lookup, h]
end
/-- the counts of places -/
def OnAt (H : Hp) (d : Addr) (G : Prg) : Prop := ∃ ks : List Str, ID H d ks G.many ∧ ks.Nodup ∧ ∀ p, p ∈ ks ↔ p ∈ G.pl
/-- at q stands a numbering of the program at p, its steps st (a dict at d3) -/
def NuAt (CP CM : Addr) (H : Hp) (q p d3 : Addr) (G : Prg) (st : Str → Int) : Prop := ∃ dx d1 d2, H q = some (.ins CM dx (nuF p d1 d2 d3)) ∧ PgU CP H p G ∧ OnAt H d1 G ∧ ID H d2 G.ws G.base ∧ ID H d3 G.ws st
theorem OnAt.mono {H H' : Hp} {d : Addr} {G : Prg} (s : Same H H') (h : OnAt H d G) : OnAt H' d G := by
  obtain ⟨ks, h1, h2⟩ := h
  exact ⟨ks, h1.mono s, h2⟩
theorem NuAt.mono {CP CM : Addr} {H H' : Hp} {q p d3 : Addr} {G : Prg} {st : Str → Int} (s : Same H H') (h : NuAt CP CM H q p d3 G st) : NuAt CP CM H' q p d3 G st := by
  obtain ⟨dx, d1, d2, h1, h2, h3, h4, h5⟩ := h
  exact ⟨dx, d1, d2, s _ _ h1, h2.mono s, h3.mono s, h4.mono s, h5.mono s⟩
theorem NuAt.isI {CP CM : Addr} {H : Hp} {q p d3 : Addr} {G : Prg} {st : Str → Int} (h : NuAt CP CM H q p d3 G st) : IsI CM (.ref q) H := by
  obtain ⟨dx, d1, d2, h1, _⟩ := h
  exact ⟨q, dx, _, rfl, h1⟩
theorem NuAt.isO {CP CM : Addr} {H : Hp} {q p d3 : Addr} {G : Prg} {st : Str → Int} {m : Str} (h : NuAt CP CM H q p d3 G st) (hm : (["own_program", "onward", "base", "steps"] : List Str).contains m = false := by decide +kernel) : IsO CM m (.ref q) H := by
  obtain ⟨dx, d1, d2, h1, _⟩ := h
  exact ⟨q, dx, _, rfl, h1, nuf_none hm⟩
end K23
/-! Loops and comprehensions over anything that takes n turns. -/
namespace K23
open PySem PySem.Spec PyProof.Rows L2

theorem for_any {J : It} {n : Nat} {g : TG} {tb : TS} {D : Ends} {σ : L2.St} {H : Hp} (Pv : Nat → L2.St → Hp → Prop) (h0 : Pv 0 σ H) (hgo : ∀ i σ H, i < n → Pv i σ H → J.go i H) (hst : ∀ σ H, Pv n σ H → J.stop n H)
    (hs : ∀ i σ H x H', i < n → Pv i σ H → J.yld i H x H' → g x σ H' fun σ2 H2 => tb { D with nx := Pv (i + 1), ct := Pv (i + 1), bk := D.nx } σ2 H2) (hd : ∀ σ H, Pv n σ H → D.nx σ H) :
    ∃ W : Nat → Nat → L2.St → Hp → Prop, (∃ m, W 0 m σ H) ∧ ∀ i m σ H, W i m σ H →
      (J.stop i H ∧ D.nx σ H) ∨ (J.go i H ∧ ∃ N : L2.St → Hp → Prop, (∀ σ' H', N σ' H' → ∃ m', m' < m ∧ W (i + 1) m' σ' H') ∧ ∀ x H', J.yld i H x H' → g x σ H' fun σ2 H2 => tb { D with nx := N, ct := N, bk := D.nx } σ2 H2) := by
  refine ⟨fun i m σ H => m + i = n ∧ Pv i σ H, ⟨n, rfl, h0⟩, ?_⟩
  rintro i m σ H ⟨e, p⟩
  cases m with
  | zero =>
    have e' : i = n := by omega
    subst e'
    exact .inl ⟨hst σ H p, hd σ H p⟩
  | succ m => exact .inr ⟨hgo i σ H (by omega) p, Pv (i + 1), fun σ' H' p' => ⟨m, Nat.lt_succ_self m, by omega, p'⟩, fun x H' y => hs i σ H x H' (by omega) p y⟩
theorem lc_any {J : It} {n : Nat} {g : TG} {tt : TT} {te : TE} {vs : List Nat} {σ : L2.St} {H1 : Hp} {D : Addr} {Qd : Hp → Prop} (Pv : Nat → Hp → Prop) (h0 : Pv 0 (upd H1 D (.lst []))) (hgo : ∀ i H, i < n → Pv i H → J.go i H) (hst : ∀ H, Pv n H → J.stop n H)
    (hs : ∀ i H x H', i < n → Pv i H → J.yld i H x H' → g x (wipe σ vs) H' fun σ2 H2 => wipe σ2 vs = wipe σ vs ∧ tt σ2 H2 fun b H3 =>
      if b = true then te σ2 H3 fun y H4 => ∃ acc, H4 D = some (.lst acc) ∧ acc.length < sizeLine ∧ Pv (i + 1) (upd H4 D (.lst (acc ++ [y]))) else Pv (i + 1) H3) (hd : ∀ H, Pv n H → Qd H) :
    ∃ W : Nat → Nat → Hp → Prop, (∃ m, W 0 m (upd H1 D (.lst []))) ∧ ∀ i m H, W i m H →
      (J.stop i H ∧ Qd H) ∨ (J.go i H ∧ ∃ Nx : Hp → Prop, (∀ H', Nx H' → ∃ m', m' < m ∧ W (i + 1) m' H') ∧ ∀ x H', J.yld i H x H' → g x (wipe σ vs) H' fun σ2 H2 => wipe σ2 vs = wipe σ vs ∧ tt σ2 H2 fun b H3 =>
        if b = true then te σ2 H3 fun y H4 => ∃ acc, H4 D = some (.lst acc) ∧ acc.length < sizeLine ∧ Nx (upd H4 D (.lst (acc ++ [y]))) else Nx H3) := by
  refine ⟨fun i m H => m + i = n ∧ Pv i H, ⟨n, rfl, h0⟩, ?_⟩
  rintro i m H ⟨e, p⟩
  cases m with
  | zero =>
    have e' : i = n := by omega
    subst e'
    exact .inl ⟨hst H p, hd H p⟩
  | succ m => exact .inr ⟨hgo i H (by omega) p, Pv (i + 1), fun H' p' => ⟨m, Nat.lt_succ_self m, by omega, p'⟩, fun x H' y => hs i H x H' (by omega) p y⟩
theorem dc_any {J : It} {n : Nat} {g : TG} {tt : TT} {tk tv : TE} {vs : List Nat} {σ : L2.St} {H1 : Hp} {D : Addr} {Qd : Hp → Prop} (Pv : Nat → Hp → Prop) (h0 : Pv 0 (upd H1 D (.dK []))) (hgo : ∀ i H, i < n → Pv i H → J.go i H) (hst : ∀ H, Pv n H → J.stop n H)
    (hs : ∀ i H x H', i < n → Pv i H → J.yld i H x H' → g x (wipe σ vs) H' fun σ2 H2 => wipe σ2 vs = wipe σ vs ∧ tt σ2 H2 fun b H3 =>
      if b = true then tk σ2 H3 fun y H4 => tv σ2 H4 fun z H5 => ∃ kvs k, y = kV k ∧ H5 D = some (.dK kvs) ∧ kvs.length < sizeLine ∧ Pv (i + 1) (upd H5 D (.dK (putK kvs k z))) else Pv (i + 1) H3) (hd : ∀ H, Pv n H → Qd H) :
    ∃ W : Nat → Nat → Hp → Prop, (∃ m, W 0 m (upd H1 D (.dK []))) ∧ ∀ i m H, W i m H →
      (J.stop i H ∧ Qd H) ∨ (J.go i H ∧ ∃ Nx : Hp → Prop, (∀ H', Nx H' → ∃ m', m' < m ∧ W (i + 1) m' H') ∧ ∀ x H', J.yld i H x H' → g x (wipe σ vs) H' fun σ2 H2 => wipe σ2 vs = wipe σ vs ∧ tt σ2 H2 fun b H3 =>
        if b = true then tk σ2 H3 fun y H4 => tv σ2 H4 fun z H5 => ∃ kvs k, y = kV k ∧ H5 D = some (.dK kvs) ∧ kvs.length < sizeLine ∧ Nx (upd H5 D (.dK (putK kvs k z))) else Nx H3) := by
  refine ⟨fun i m H => m + i = n ∧ Pv i H, ⟨n, rfl, h0⟩, ?_⟩
  rintro i m H ⟨e, p⟩
  cases m with
  | zero =>
    have e' : i = n := by omega
    subst e'
    exact .inl ⟨hst H p, hd H p⟩
  | succ m => exact .inr ⟨hgo i H (by omega) p, Pv (i + 1), fun H' p' => ⟨m, Nat.lt_succ_self m, by omega, p'⟩, fun x H' y => hs i H x H' (by omega) p y⟩
theorem scG_any {w : World} {J : It} {n : Nat} {g : TG} {tt : TT} {tb : Addr → TB} {vs : List Nat} {σ : L2.St} {H1 : Hp} {D : Addr} {Qd : Hp → Prop} (Pv : Nat → Hp → Prop) (h0 : Pv 0 (upd H1 D (SetO w D []))) (hgo : ∀ i H, i < n → Pv i H → J.go i H) (hst : ∀ H, Pv n H → J.stop n H)
    (hs : ∀ i H x H', i < n → Pv i H → J.yld i H x H' → g x (wipe σ vs) H' fun σ2 H2 => wipe σ2 vs = wipe σ vs ∧ tt σ2 H2 fun b H3 => if b = true then tb D σ2 H3 (Pv (i + 1)) else Pv (i + 1) H3) (hd : ∀ H, Pv n H → Qd H) :
    ∃ W : Nat → Nat → Hp → Prop, (∃ m, W 0 m (upd H1 D (SetO w D []))) ∧ ∀ i m H, W i m H →
      (J.stop i H ∧ Qd H) ∨ (J.go i H ∧ ∃ Nx : Hp → Prop, (∀ H', Nx H' → ∃ m', m' < m ∧ W (i + 1) m' H') ∧ ∀ x H', J.yld i H x H' → g x (wipe σ vs) H' fun σ2 H2 => wipe σ2 vs = wipe σ vs ∧ tt σ2 H2 fun b H3 =>
        if b = true then tb D σ2 H3 Nx else Nx H3) := by
  refine ⟨fun i m H => m + i = n ∧ Pv i H, ⟨n, rfl, h0⟩, ?_⟩
  rintro i m H ⟨e, p⟩
  cases m with
  | zero =>
    have e' : i = n := by omega
    subst e'
    exact .inl ⟨hst H p, hd H p⟩
  | succ m => exact .inr ⟨hgo i H (by omega) p, Pv (i + 1), fun H' p' => ⟨m, Nat.lt_succ_self m, by omega, p'⟩, fun x H' y => hs i H x H' (by omega) p y⟩
theorem nest_any {J : It} {n : Nat} {g : TG} {tt : TT} {tb : Addr → TB} {vs : List Nat} {σ : L2.St} {H4 : Hp} {D : Addr} {Nx : Hp → Prop} (Pv : Nat → Hp → Prop) (h0 : Pv 0 H4) (hgo : ∀ i H, i < n → Pv i H → J.go i H) (hst : ∀ H, Pv n H → J.stop n H)
    (hs : ∀ i H x H', i < n → Pv i H → J.yld i H x H' → g x (wipe σ vs) H' fun σ2 H2 => wipe σ2 vs = wipe σ vs ∧ tt σ2 H2 fun b H3 => if b = true then tb D σ2 H3 (Pv (i + 1)) else Pv (i + 1) H3) (hd : ∀ H, Pv n H → Nx H) :
    ∃ W : Nat → Nat → Hp → Prop, (∃ m, W 0 m H4) ∧ ∀ j k H, W j k H →
      (J.stop j H ∧ Nx H) ∨ (J.go j H ∧ ∃ N1 : Hp → Prop, (∀ H', N1 H' → ∃ k', k' < k ∧ W (j + 1) k' H') ∧ ∀ x H', J.yld j H x H' → g x (wipe σ vs) H' fun σ3 H5 => wipe σ3 vs = wipe σ vs ∧ tt σ3 H5 fun b H6 =>
        if b = true then tb D σ3 H6 N1 else N1 H6) := by
  refine ⟨fun i m H => m + i = n ∧ Pv i H, ⟨n, rfl, h0⟩, ?_⟩
  rintro i m H ⟨e, p⟩
  cases m with
  | zero =>
    have e' : i = n := by omega
    subst e'
    exact .inl ⟨hst H p, hd H p⟩
  | succ m => exact .inr ⟨hgo i H (by omega) p, Pv (i + 1), fun H' p' => ⟨m, Nat.lt_succ_self m, by omega, p'⟩, fun x H' y => hs i H x H' (by omega) p y⟩
end K23
namespace K23
open PySem PySem.Spec PyProof.Rows L2
section
variable {P : PySem.Program} {w : World} {K : PySem.W.Frag} {mg : Str → Option Value} {base : Heap} {CP CM : Addr} {f : Addr} {fd : FuncData}

/-! ### is_integer -/
def spIsInteger : Sp := fun vs H Q _ => ∃ x, vs = [x] ∧ ((∃ i, x = .int i) ∧ Q (.bl true) H ∨ x = .non ∧ Q (.bl false) H)
theorem ok_is_integer (B : Blt mg) (T : FnT K mg "is_integer" s_is_integer p_is_integer f fd) : FnD P w K mg base CX0 1 "is_integer" p_is_integer spIsInteger := by
  refine .of T (T.fn.ok sc_is_integer (fun vs H Q E h => ?_) (fun cdv A outer s H vs Q E hr h => ?_))
  · obtain ⟨x, rfl, _⟩ := h
    rfl
  · obtain ⟨x, rfl, h⟩ := h
    refine ⟨_, pss_one (ps_ret (pe_and (pe_callB call_isi (by rfl) B.isinstance (by decide +kernel) (pa_cons (pv 0) (pa_cons (pe_bltn (v := .ty "int") (by rfl) B.int (by decide +kernel) rfl) pa_nil)))
      (pe_one (pe_not (pe_callB call_isi (by rfl) B.isinstance (by decide +kernel) (pa_cons (pv 0) (pa_cons (pe_bltn (v := .ty "bool") (by rfl) B.bool (by decide +kernel) rfl) pa_nil))))))), ?_⟩
    rcases h with ⟨⟨i, rfl⟩, q⟩ | ⟨rfl, q⟩
    · refine ⟨_, rfl, _, _, _, _, true, rfl, .ty _, .base (.int i), kit_ty (by decide +kernel), true, rfl, iteT ?_⟩
      exact ⟨_, rfl, _, _, _, _, false, rfl, .ty _, .base (.int i), kit_ty (by decide +kernel), false, rfl, q⟩
    · exact ⟨_, rfl, _, _, _, _, false, rfl, .ty _, .base .non, kit_ty (by decide +kernel), false, rfl, iteF q⟩
end
end K23
namespace K23
open PySem PySem.Spec PyProof.Rows L2
section
variable {P : PySem.Program} {w : World} {K : PySem.W.Frag} {mg : Str → Option Value} {base : Heap} {CP CM : Addr} {f : Addr} {fd : FuncData}

/-! ### is_word: of a word -/
theorem letters_mem {c : Nat} (h : 97 ≤ c ∧ c ≤ 122) : c ∈ (PySem.Str.ofString "abcdefghijklmnopqrstuvwxyz").cps.toList := by
  have e : (PySem.Str.ofString "abcdefghijklmnopqrstuvwxyz").cps.toList = List.range' 97 26 := by decide +kernel
  rw [e, List.mem_range'_1]
  omega
def spWord : Sp := fun vs H Q _ => ∃ z, vs = [.str z] ∧ Word z ∧ ∀ H', Same H H' → Q (.bl true) H'
theorem ok_is_word (B : Blt mg) (T : FnT K mg "is_word" s_is_word p_is_word f fd) : FnD P w K mg base CX0 1 "is_word" p_is_word spWord := by
  obtain ⟨tL, hL⟩ := B.letters
  obtain ⟨tM, hM⟩ := B.mostL
  refine .of T (T.fn.ok sc_is_word (fun vs H Q E h => ?_) (fun cdv A outer s H vs Q E hr h => ?_))
  · obtain ⟨x, rfl, _⟩ := h
    rfl
  · obtain ⟨z, rfl, ⟨w1, w8, wc⟩, k⟩ := h
    refine ⟨_, pss_cons (ps_if (PW.pt (pw_or (pt_not (pt_val (pe_callB call_isi (by rfl) B.isinstance (by decide +kernel) (pa_cons (pv 0) (pa_cons (pe_bltn (v := .ty "str") (by rfl) B.str (by decide +kernel) rfl) pa_nil)))))
        (pw_or1 (pt_not (pt_chain op_le op_le pe_int (pe_callB call_len_str (by rfl) B.len PySem.boot_len (pa_cons (pv 0) pa_nil)) (pe_glob (v := .int 8) rfl hM ⟨_, rfl⟩))))))
        (pss_one (ps_ret pe_bl)) pss_nil)
      (pss_one (ps_ret (pe_callB (cr_all rfl) (by rfl) B.all_ (by decide +kernel) (pa_cons
        (pe_lc (own := [("sign", 1)]) (g := gName 1) (by rfl) sc_is_word.nd (pi_str (pv 0)) (blkOk_by (own := [("sign", 1)]) (N := N_is_word) (sc := defScope s_is_word) (by decide +kernel))
          (fun _ _ _ _ _ => pg_name (i := 1) sc_is_word.nd rfl (Or.inl rfl)) (fun _ _ _ _ _ => pts_nil) (fun _ _ _ _ _ => pe_cmpR op_in_sign (pv 1) (pe_glob (v := .str (PySem.Str.ofString "abcdefghijklmnopqrstuvwxyz")) rfl hL ⟨_, rfl⟩) rfl)) pa_nil)))), ?_⟩
    have hz : z.length ≤ sizeLine := Nat.le_trans w8 (by decide)
    refine ⟨_, rfl, _, _, _, _, true, rfl, .ty _, .base (.str z), kit_ty (by decide +kernel), true, rfl, ?_⟩
    refine iteF ⟨_, rfl, _, rfl, hz, _, _, rfl, rfl, true, ?_, iteT ⟨_, _, rfl, rfl, true, ?_, iteF ?_⟩⟩
    · show V.bl (decide ((1 : Int) ≤ (z.length : Int))) = V.bl true
      rw [decide_eq_true (by omega)]
    · show V.bl (decide ((z.length : Int) ≤ (8 : Int))) = V.bl true
      rw [decide_eq_true (by omega)]
    refine ⟨_, rfl, z, rfl, fun D hD => lc_any (J := Its z) (n := z.cps.size) (fun i H' => Same H H' ∧ H' D = some (.lst ((List.replicate i true).map V.bl))) ⟨Same.new hD, upd_same⟩ (fun i H' hi _ => hi) (fun H' _ => Nat.le_refl _) ?_ ?_⟩
    · rintro i H' x H2 hi ⟨s1, hd⟩ ⟨rfl, c, hc, rfl⟩
      refine ⟨rfl, _, rfl, c, _, rfl, rfl, _, hd, ?_, s1.mut hD, ?_⟩
      · have z8 : z.cps.size ≤ 8 := w8
        rw [List.length_map, List.length_replicate]
        exact Nat.lt_of_lt_of_le (show i < 8 by omega) (by decide)
      · have cm : c ∈ z.cps.toList := by
          rw [Array.mem_toList_iff]
          exact Array.mem_of_getElem? hc
        rw [upd_same, List.replicate_succ', List.map_append, decide_eq_true (letters_mem (wc c cm))]
        rfl
    · rintro H' ⟨s1, hd⟩
      refine ⟨D, List.replicate z.cps.size true, rfl, SqL.of hd, ?_⟩
      have e : (List.replicate z.cps.size true).all id = true := by
        rw [List.all_eq_true]
        intro x hx
        exact (List.mem_replicate.mp hx).2
      rw [e]
      exact k _ s1
end
end K23
namespace K23
open PySem PySem.Spec PyProof.Rows L2
theorem len40 {α : Type} {l : List α} (h : l.length ≤ 40) : l.length ≤ sizeLine := Nat.le_trans h (by decide)
section
variable {P : PySem.Program} {w : World} {K : PySem.W.Frag} {mg : Str → Option Value} {base : Heap} {CP CM : Addr} {f : Addr} {fd : FuncData}
theorem pcs {H : Hp} {d : Addr} {ks : List Str} {g : Str → HO} {x : Str} (R : RD H d ks g) (h : x ∈ ks) : ∃ t, DGet H d (.str x) (some (.ref t)) ∧ H t = some (g x) := by
  obtain ⟨g', h1, h2⟩ := R
  refine ⟨g' x, ?_, h2 x h⟩
  exact .inl ⟨_, Sum.inr x, h1, rfl, (kd_in (v := fun k => V.ref (g' k)) h).symm⟩
/-- .. in a heap that has grown -/
theorem pcsS {H H' : Hp} {d : Addr} {ks : List Str} {g : Str → HO} {x : Str} (s : Same H H') (R : RD H d ks g) (h : x ∈ ks) : ∃ t, DGet H' d (.str x) (some (.ref t)) ∧ H t = some (g x) := by
  obtain ⟨g', h1, h2⟩ := R
  refine ⟨g' x, ?_, h2 x h⟩
  exact .inl ⟨_, Sum.inr x, rd_mono s h1, rfl, (kd_in (v := fun k => V.ref (g' k)) h).symm⟩
/-! ### the plain readers -/
def spBegin (CP : Addr) : Sp := fun vs H Q _ => ∃ p G, vs = [.ref p] ∧ PgAt CP H p G ∧ Q (.str G.bg) H
theorem ok_P_begin (L : ClT K mg "Program" CP) (Z : Fld K CP CM) {q : Addr} (T : PrT K CP "begin" "Program.begin" s_P_begin p_P_begin q f fd) : PrD P w K mg base CX0 1 CP "begin" p_P_begin (spBegin CP) := by
  refine .of T (T.fn.ok sc_P_begin (fun vs H Q E h => ?_) (fun cdv A outer s H vs Q E hr h => ?_))
  · obtain ⟨p, G, rfl, _⟩ := h
    rfl
  · obtain ⟨p, G, rfl, ⟨dx, dp, lp, le, do_, di, h1, h2, h3, h4, h5⟩, k⟩ := h
    refine ⟨_, pss_one (ps_ret (pe_fld (pv 0) rfl)), ?_⟩
    exact ⟨_, rfl, p, CP, dx, _, _, rfl, h1, L.cl, Z.own_begin, pgf_begin, k⟩
def spWays (CP : Addr) : Sp := fun vs H Q _ => ∃ p G, vs = [.ref p] ∧ PgAt CP H p G ∧ ∀ l, H l = none → Q (.ref l) (upd H l (strL G.ws))
theorem ok_P_ways (L : ClT K mg "Program" CP) (Z : Fld K CP CM) (B : Blt mg) (T : MeT K CP "ways" "Program.ways" s_P_ways p_P_ways f fd) : MeD P w K mg base CX0 1 CP "ways" p_P_ways (spWays CP) := by
  refine .of T (T.fn.ok sc_P_ways (fun vs H Q E h => ?_) (fun cdv A outer s H vs Q E hr h => ?_))
  · obtain ⟨p, G, rfl, _⟩ := h
    rfl
  · obtain ⟨p, G, rfl, ⟨dx, dp, lp, le, do_, di, h1, ⟨g, h2, h2'⟩, h3, h4, h5⟩, k⟩ := h
    refine ⟨_, pss_one (ps_ret (pe_callTy (call_listD rfl) (by rfl) B.list (by decide +kernel) (pa_cons (pe_fld (pv 0) rfl) pa_nil))), ?_⟩
    refine ⟨_, rfl, p, CP, dx, _, _, rfl, h1, L.cl, Z.pairs, pgf_pairs, dp, _, rfl, h2, fun l hl => ?_⟩
    have e : (kd G.ws fun k => .ref (g k)).map (fun kv => kV kv.1) = G.ws.map V.str := by
      unfold kd
      rw [List.map_map]
      rfl
    rw [e]
    exact k l hl
def spPlaces (CP : Addr) : Sp := fun vs H Q _ => ∃ p G, vs = [.ref p] ∧ PgAt CP H p G ∧ ∀ l, H l = none → Q (.ref l) (upd H l (strL G.pl))
theorem ok_P_places (L : ClT K mg "Program" CP) (Z : Fld K CP CM) (B : Blt mg) (T : MeT K CP "places" "Program.places" s_P_places p_P_places f fd) : MeD P w K mg base CX0 1 CP "places" p_P_places (spPlaces CP) := by
  refine .of T (T.fn.ok sc_P_places (fun vs H Q E h => ?_) (fun cdv A outer s H vs Q E hr h => ?_))
  · obtain ⟨p, G, rfl, _⟩ := h
    rfl
  · obtain ⟨p, G, rfl, ⟨dx, dp, lp, le, do_, di, h1, h2, h3, h4, h5⟩, k⟩ := h
    refine ⟨_, pss_one (ps_ret (pe_callTy call_list_of (by rfl) B.list (by decide +kernel) (pa_cons (pe_fld (pv 0) rfl) pa_nil))), ?_⟩
    exact ⟨_, rfl, p, CP, dx, _, _, rfl, h1, L.cl, Z.own_places, pgf_places, lp, _, rfl, .inl (SqL.of h3), fun l hl => k l hl⟩
def spExits (CP : Addr) : Sp := fun vs H Q _ => ∃ p G, vs = [.ref p] ∧ PgAt CP H p G ∧ ∀ l, H l = none → Q (.ref l) (upd H l (strL G.ex))
theorem ok_P_exits (L : ClT K mg "Program" CP) (Z : Fld K CP CM) (B : Blt mg) (T : MeT K CP "exits" "Program.exits" s_P_exits p_P_exits f fd) : MeD P w K mg base CX0 1 CP "exits" p_P_exits (spExits CP) := by
  refine .of T (T.fn.ok sc_P_exits (fun vs H Q E h => ?_) (fun cdv A outer s H vs Q E hr h => ?_))
  · obtain ⟨p, G, rfl, _⟩ := h
    rfl
  · obtain ⟨p, G, rfl, ⟨dx, dp, lp, le, do_, di, h1, h2, h3, h4, h5⟩, k⟩ := h
    refine ⟨_, pss_one (ps_ret (pe_callTy call_list_of (by rfl) B.list (by decide +kernel) (pa_cons (pe_fld (pv 0) rfl) pa_nil))), ?_⟩
    exact ⟨_, rfl, p, CP, dx, _, _, rfl, h1, L.cl, Z.own_exits, pgf_exits, le, _, rfl, .inl (SqL.of h4), fun l hl => k l hl⟩
def spContains (CP : Addr) : Sp := fun vs H Q _ => ∃ p G x, vs = [.ref p, .str x] ∧ PgAt CP H p G ∧ Word x ∧ x ∈ G.ws ∧ ∀ H', Same H H' → Q (.bl true) H'
theorem ok_P_contains (L : ClT K mg "Program" CP) (Z : Fld K CP CM) (DW : FnD P w K mg base CX0 1 "is_word" p_is_word spWord) (T : MeT K CP "__contains__" "Program.__contains__" s_P_contains p_P_contains f fd) : MeD P w K mg base CX0 2 CP "__contains__" p_P_contains (spContains CP) := by
  refine .of T (T.fn.ok sc_P_contains (fun vs H Q E h => ?_) (fun cdv A outer s H vs Q E hr h => ?_))
  · obtain ⟨p, G, x, rfl, _⟩ := h
    rfl
  · obtain ⟨p, G, x, rfl, hP, hw, hx, k⟩ := h
    have hu := hu_of hr
    refine ⟨_, pss_one (ps_ret (pe_and (pe_f DW hr pass0 (pa_cons (pv 1) pa_nil)) (pe_one (pe_cmp (pc_din hu (pv 1) (pe_fld (pv 0) rfl)))))), ?_⟩
    refine ⟨_, rfl, x, rfl, hw, fun H' s1 => ⟨true, rfl, ?_⟩⟩
    obtain ⟨dx, dp, lp, le, do_, di, h1, h2, h3, h4, h5⟩ := hP.mono s1
    obtain ⟨t, ht, _⟩ := pcs h2 hx
    exact ⟨_, rfl, _, rfl, p, CP, dx, _, _, rfl, h1, L.cl, Z.pairs, pgf_pairs, dp, _, rfl, ht, k _ s1⟩
def spGet (CP : Addr) : Sp := fun vs H Q _ => ∃ p G x, vs = [.ref p, .str x] ∧ PgAt CP H p G ∧ Word x ∧ x ∈ G.ws ∧ ∀ t H', Same H H' → H' t = some (G.tup x) → Q (.ref t) H'
theorem ok_P_getitem (L : ClT K mg "Program" CP) (Z : Fld K CP CM) (DC : MeD P w K mg base CX0 2 CP "__contains__" p_P_contains (spContains CP)) (T : MeT K CP "__getitem__" "Program.__getitem__" s_P_getitem p_P_getitem f fd) : MeD P w K mg base CX0 3 CP "__getitem__" p_P_getitem (spGet CP) := by
  refine .of T (T.fn.ok sc_P_getitem (fun vs H Q E h => ?_) (fun cdv A outer s H vs Q E hr h => ?_))
  · obtain ⟨p, G, x, rfl, _⟩ := h
    rfl
  · obtain ⟨p, G, x, rfl, hP, hw, hx, k⟩ := h
    have hu := hu_of hr
    refine ⟨_, pss_cons (ps_if (pt_cmpR (op_notInOwn (E := E0) DC hr pass0) (pv 1) (pv 0) (by rfl)) (pss_one ps_never) pss_nil) (pss_one (ps_ret (pe_dget hu (pe_fld (pv 0) rfl) (pv 1) (fun _ _ => rfl)))), ?_⟩
    refine ⟨_, rfl, _, rfl, hP.isI, p, G, x, rfl, hP, hw, hx, fun H' s1 => ⟨true, rfl, false, rfl, iteF ?_⟩⟩
    obtain ⟨dx, dp, lp, le, do_, di, h1, h2, h3, h4, h5⟩ := hP.mono s1
    obtain ⟨t, ht, ho⟩ := pcs h2 hx
    exact ⟨_, rfl, p, CP, dx, _, _, rfl, h1, L.cl, Z.pairs, pgf_pairs, _, rfl, dp, _, rfl, ht, k t _ s1 ho⟩
theorem flat_strs (xs : List Str) : (xs.map V.str).all flatV = true := by
  rw [List.all_eq_true]
  intro v hv
  obtain ⟨x, _, rfl⟩ := List.mem_map.mp hv
  rfl
theorem inV_str {x : Str} {xs : List Str} : inV (.str x) (xs.map V.str) = decide (x ∈ xs) := by
  unfold inV
  rw [List.any_map]
  by_cases h : x ∈ xs
  · rw [decide_eq_true h, List.any_eq_true]
    exact ⟨x, h, by simp [eqV]⟩
  · rw [decide_eq_false h, Bool.eq_false_iff]
    intro q
    obtain ⟨y, hy, e⟩ := List.any_eq_true.mp q
    have e' : y = x := by simpa [eqV] using e
    exact h (e' ▸ hy)
def spCheckPlace (CP : Addr) : Sp := fun vs H Q _ => ∃ p G x, vs = [.ref p, .str x] ∧ PgAt CP H p G ∧ Word x ∧ x ∈ G.pl ∧ ∀ H', Same H H' → Q .non H'
theorem ok_P_check_place (L : ClT K mg "Program" CP) (Z : Fld K CP CM) (DW : FnD P w K mg base CX0 1 "is_word" p_is_word spWord) (T : MeT K CP "check_place" "Program.check_place" s_P_check_place p_P_check_place f fd) : MeD P w K mg base CX0 2 CP "check_place" p_P_check_place (spCheckPlace CP) := by
  refine .of T (T.fn.ok sc_P_check_place (fun vs H Q E h => ?_) (fun cdv A outer s H vs Q E hr h => ?_))
  · obtain ⟨p, G, x, rfl, _⟩ := h
    rfl
  · obtain ⟨p, G, x, rfl, hP, hw, hx, k⟩ := h
    refine ⟨_, pss_one (ps_if (PW.pt (pw_or (pt_not (pt_val (pe_f DW hr pass0 (pa_cons (pv 1) pa_nil)))) (pw_or1 (pt_cmpR op_notIn_seq (pv 1) (pe_fld (pv 0) rfl) (by rfl))))) (pss_one ps_never) pss_nil), ?_⟩
    refine ⟨_, rfl, x, rfl, hw, fun H' s1 => ⟨true, rfl, iteF ?_⟩⟩
    obtain ⟨dx, dp, lp, le, do_, di, h1, h2, h3, h4, h5⟩ := hP.mono s1
    refine ⟨_, rfl, _, rfl, p, CP, dx, _, _, rfl, h1, L.cl, Z.own_places, pgf_places, lp, _, rfl, .inl (SqL.of h3), rfl, flat_strs _, false, ?_, iteF (k _ s1)⟩
    show V.bl (if true = true then !inV (.str x) (G.pl.map V.str) else _) = V.bl false
    rw [if_pos rfl, inV_str, decide_eq_true hx]
    rfl
def spLeaving (CP : Addr) : Sp := fun vs H Q _ => ∃ p G x, vs = [.ref p, .str x] ∧ PgAt CP H p G ∧ Word x ∧ x ∈ G.pl ∧ ∀ l H', Same H H' → H l = none → H' l = some (strL (G.leav x)) → Q (.ref l) H'
theorem ok_P_leaving (L : ClT K mg "Program" CP) (Z : Fld K CP CM) (B : Blt mg) (DC : MeD P w K mg base CX0 2 CP "check_place" p_P_check_place (spCheckPlace CP)) (T : MeT K CP "leaving" "Program.leaving" s_P_leaving p_P_leaving f fd) : MeD P w K mg base CX0 3 CP "leaving" p_P_leaving (spLeaving CP) := by
  refine .of T (T.fn.ok sc_P_leaving (fun vs H Q E h => ?_) (fun cdv A outer s H vs Q E hr h => ?_))
  · obtain ⟨p, G, x, rfl, _⟩ := h
    rfl
  · obtain ⟨p, G, x, rfl, hP, hw, hx, k⟩ := h
    have hu := hu_of hr
    refine ⟨_, pss_cons (ps_expr (pe_m (pv 0) L.cl DC hr pass0 (pa_cons (pv 1) pa_nil))) (pss_one (ps_ret (pe_callTy call_list_of (by rfl) B.list (by decide +kernel) (pa_cons (pe_dget hu (pe_fld (pv 0) rfl) (pv 1) (fun _ _ => rfl)) pa_nil)))), ?_⟩
    refine ⟨_, rfl, hP.isO, _, rfl, p, G, x, rfl, hP, hw, hx, fun H' s1 => ?_⟩
    obtain ⟨dx, dp, lp, le, do_, di, h1, h2, h3, h4, h5⟩ := hP.mono s1
    obtain ⟨t, ht, ho⟩ := pcs h5 hx
    exact ⟨_, rfl, p, CP, dx, _, _, rfl, h1, L.cl, Z.outs, pgf_outs, _, rfl, do_, _, rfl, ht, t, _, rfl, .inl (SqL.of ho), fun l hl => k l _ (s1.trans (Same.new hl)) (s1.free hl) upd_same⟩
end
end K23
namespace K23
open PySem PySem.Spec PyProof.Rows L2
theorem subset_len {l m : List Str} (nd : l.Nodup) (h : ∀ x ∈ l, x ∈ m) : l.length ≤ m.length := by
  induction l generalizing m with
  | nil => exact Nat.zero_le _
  | cons x l ih =>
    obtain ⟨n1, n2⟩ := List.nodup_cons.mp nd
    have hx := h x List.mem_cons_self
    have hp := List.perm_cons_erase hx
    have := ih n2 (m := m.erase x) fun y hy => by
      have ym := h y (List.mem_cons_of_mem _ hy)
      have ne : y ≠ x := fun e => n1 (e ▸ hy)
      exact (List.mem_erase_of_ne ne).mpr ym
    have e := hp.length_eq
    simp only [List.length_cons] at e ⊢
    omega
section
variable {P : PySem.Program} {w : World} {K : PySem.W.Frag} {mg : Str → Option Value} {base : Heap} {CP CM : Addr} {f : Addr} {fd : FuncData}
/-! ### path: to a place of lower rank there is none -/
def spPath (CP : Addr) : Sp := fun vs H Q _ => ∃ p G st a gl, vs = [.ref p, .str st, .ref a] ∧ PgAt CP H p G ∧ G.Ok ∧ st ∈ G.pl ∧ H a = some (.lst [.str gl]) ∧ G.rk gl < G.rk st ∧ ∀ H', Same H H' → Q .non H'
/-- the table of what is known and the queue, as they grow -/
def PathB (G : Prg) (H : Hp) (dk lq : Addr) (gl : Str) (qs : List Str) (g : Str → Addr) (H' : Hp) : Prop :=
  Same H H' ∧ H' dk = some (.dK (kd qs fun q => .ref (g q))) ∧ H' lq = some (strL qs) ∧ qs.Nodup ∧ ∀ q ∈ qs, q ∈ G.pl ∧ G.rk gl < G.rk q ∧ g q ≠ lq ∧ ∃ l : List Str, H' (g q) = some (strL l) ∧ l.length ≤ qs.length
theorem PathB.len {G : Prg} {H : Hp} {dk lq : Addr} {gl : Str} {qs : List Str} {g : Str → Addr} {H' : Hp} (b : PathB G H dk lq gl qs g H') : qs.length ≤ G.pl.length :=
  subset_len b.2.2.2.1 fun x hx => (b.2.2.2.2 x hx).1
theorem ok_P_path (L : ClT K mg "Program" CP) (Z : Fld K CP CM) (B : Blt mg) (T : MeT K CP "path" "Program.path" s_P_path p_P_path f fd) : MeD P w K mg base CX0 1 CP "path" p_P_path (spPath CP) := by
  refine .of T (T.fn.ok sc_P_path (fun vs H Q E h => ?_) (fun cdv A outer s H vs Q E hr h => ?_))
  · obtain ⟨p, G, st, a, gl, rfl, _⟩ := h
    rfl
  · obtain ⟨p, G, st, a, gl, rfl, hP, ok, hst, ha, hrk, k⟩ := h
    have hu := hu_of hr
    refine ⟨_, pss_cons (ps_set (i := 3) sc_P_path.nd rfl (Or.inl rfl) (pe_disp (pps_cons (pv 1) (pe_lst pa_nil) pps_nil) (by rfl) (by rfl) (fun z => by cases z) (by decide)))
      (pss_cons (ps_set (i := 4) sc_P_path.nd rfl (Or.inl rfl) (pe_lst (pa_cons (pv 1) pa_nil)))
      (pss_cons (ps_set (i := 5) sc_P_path.nd rfl (Or.inl rfl) pe_int)
      (pss_cons (ps_while PassesOwn.never (pt_cmpR op_lt (pv 5) (pe_callB call_len_seq (by rfl) B.len PySem.boot_len (pa_cons (pv 4) pa_nil)) (nomark _))
        (pss_cons (ps_set (i := 6) sc_P_path.nd rfl (Or.inl rfl) (pe_ix ix_list (pv 4) (pv 5) (fun _ _ => rfl)))
        (pss_cons (ps_if (pt_cmpR op_in_seq (pv 6) (pv 2) (by rfl)) (pss_one ps_never) pss_nil)
        (pss_cons (ps_for PassesOwn.never rfl (pi_list (pe_dget hu (pe_fld (pv 0) rfl) (pv 6) (fun _ _ => rfl))) (pg_name (i := 7) sc_P_path.nd rfl (Or.inl rfl))
          (pss_cons (ps_set (i := 8) sc_P_path.nd rfl (Or.inl rfl) (pe_ix ix_tup (pe_dget hu (pe_fld (pv 0) rfl) (pv 7) (fun _ _ => rfl)) pe_int (fun _ _ => rfl)))
          (pss_one (ps_if (pt_cmp (pc_dnotin hu (pv 8) (pv 3)) (by rfl))
            (pss_cons (ps_dput hu (pv 3) (pv 8) (pe_lst (StX.pa_star (pe_dget hu (pv 3) (pv 6) (fun _ _ => rfl)) (pa_cons (pv 7) pa_nil))) rfl)
              (pss_one (ps_expr (pe_bm PySem.F.plainAttrs_list PySem.F.slot_list_append PySem.F.type_list_append mt_append (pv 4) (pa_cons (pv 8) pa_nil))))) pss_nil))))
        (pss_one (ps_aug (i := 5) sc_P_path.nd rfl (Or.inl rfl) pe_int ip_add))))))
      (pss_one (ps_ret pe_non))))), ?_⟩
    have okL := ok.plL
    intro dk hdk
    refine ⟨_, rfl, Nat.zero_le _, fun l0 hl0 => ?_⟩
    have nd0 : dk ≠ l0 := ne_of_none upd_same hl0
    refine ⟨by rw [upd_ne nd0, upd_same], [(Sum.inr st, V.ref l0)], rfl, (by show 1 ≤ 15; decide), ?_⟩
    refine ⟨_, rfl, (by show 1 ≤ sizeLine; decide), fun lq hlq => ?_⟩
    -- the start
    have e1 : mergeK [] [((Sum.inr st : Key), V.ref l0)] = kd [st] fun _ => .ref l0 := rfl
    rw [e1] at hlq ⊢
    have nq : dk ≠ lq := ne_of_none upd_same hlq
    have n0q : l0 ≠ lq := by
      refine ne_of_none (o := .lst []) ?_ hlq
      rw [upd_ne nd0.symm, upd_same]
    have hl0' : H l0 = none := by
      rw [upd_ne nd0.symm] at hl0
      exact hl0
    have hlq' : H lq = none := by
      rw [upd_ne nq.symm, upd_ne n0q.symm, upd_ne nq.symm] at hlq
      exact hlq
    refine ⟨fun m σ' H' => ∃ (qs : List Str) (at_ : Nat) (v6 v7 v8 : Option V) (g : Str → Addr), σ' = [some (.ref p), some (.str st), some (.ref a), some (.ref dk), some (.ref lq), some (.int at_), v6, v7, v8] ∧ PathB G H dk lq gl qs g H' ∧ at_ ≤ qs.length ∧ m + at_ = G.pl.length,
      ⟨G.pl.length, [st], 0, none, none, none, fun _ => l0, rfl, ⟨?_, ?_, upd_same, by simp, fun q hq => ?_⟩, Nat.zero_le _, rfl⟩, ?_⟩
    · exact ((((Same.new hdk).mut hl0').mut hdk).mut hlq')
    · rw [upd_ne nq, upd_same]
    · rw [List.mem_singleton.mp hq]
      refine ⟨hst, hrk, n0q, [], ?_, Nat.zero_le _⟩
      rw [upd_ne n0q, upd_ne nd0.symm, upd_same]
      rfl
    · rintro m σ' H' ⟨qs, at_, v6, v7, v8, g, rfl, b, hat, hm⟩
      refine ⟨_, rfl, _, rfl, lq, _, rfl, .inl (SqL.of b.2.2.1), _, _, rfl, rfl, _, rfl, ?_⟩
      rw [List.length_map]
      refine ite2 (fun hb => ?_) (fun hb => k _ b.1)
      have hlt : at_ < qs.length := by
        have := of_decide_eq_true hb
        omega
      obtain ⟨q, hq⟩ : ∃ q, qs[at_]? = some q := ⟨_, List.getElem?_eq_getElem hlt⟩
      have qm : q ∈ qs := List.mem_of_getElem? hq
      have bl := b.len
      refine ⟨fun σ2 H2 => ∃ (qs : List Str) (v6 v7 v8 : Option V) (g : Str → Addr), σ2 = [some (.ref p), some (.str st), some (.ref a), some (.ref dk), some (.ref lq), some (.int ((at_ : Int) + 1)), v6, v7, v8] ∧ PathB G H dk lq gl qs g H2 ∧ at_ + 1 ≤ qs.length,
        fun σ2 H2 ⟨qs, v6, v7, v8, g, e, b2, l2⟩ => ⟨m - 1, by omega, qs, at_ + 1, v6, v7, v8, g, e, b2, l2, by omega⟩, ?_⟩
      refine ⟨_, rfl, _, rfl, lq, _, _, .str q, rfl, rfl, SqL.of b.2.2.1, atI_nat (by rw [List.getElem?_map, hq]; rfl), ?_⟩
      -- the place is none of the goals
      refine ⟨_, rfl, _, rfl, a, _, rfl, .inl (SqL.of (b.1 _ _ ha)), rfl, rfl, false, ?_, iteF ?_⟩
      · have ne : gl ≠ q := fun e => by
          have z := (b.2.2.2.2 q qm).2.1
          rw [e] at z
          exact Nat.lt_irrefl _ z
        show V.bl (inV (.str q) ([gl].map V.str)) = V.bl false
        rw [inV_str, decide_eq_false (by simp; exact fun e => ne e.symm)]
      obtain ⟨dx, dp, lp, le, do_, di, h1, h2, h3, h4, h5⟩ := id hP
      obtain ⟨t, ht, ho⟩ := pcsS b.1 h5 (b.2.2.2.2 q qm).1
      refine ⟨_, rfl, p, CP, dx, _, _, rfl, b.1 _ _ h1, L.cl, Z.outs, pgf_outs, _, rfl, do_, _, rfl, ht, t, rfl, ⟨_, SqL.of (b.1 _ _ ho)⟩,
        for_list (xs := (G.leav q).map V.str) (fun i σ2 H2 => ∃ (qs : List Str) (v7 v8 : Option V) (g : Str → Addr), σ2 = [some (.ref p), some (.str st), some (.ref a), some (.ref dk), some (.ref lq), some (.int at_), some (.str q), v7, v8] ∧ PathB G H dk lq gl qs g H2 ∧ at_ < qs.length ∧ q ∈ qs )
          ⟨qs, v7, v8, g, rfl, b, hlt, qm⟩ (fun i σ2 H2 _ ⟨_, _, _, _, _, b2, _⟩ => SqL.of (b2.1 _ _ ho)) ?_ ?_⟩
      · rintro i y σ2 H2 hi ⟨qs, v7, v8, g, rfl, b2, hlt2, qm2⟩
        obtain ⟨wy, hwy, rfl⟩ := getMap hi
        obtain ⟨wm, wq⟩ := Prg.mem_leav.mp (List.mem_of_getElem? hwy)
        obtain ⟨tw, htw, how⟩ := pcsS b2.1 h2 wm
        refine ⟨_, rfl, p, CP, dx, _, _, rfl, b2.1 _ _ h1, L.cl, Z.pairs, pgf_pairs, _, rfl, dp, _, rfl, htw, tw, _, 1, _, rfl, rfl, SqT.of (b2.1 _ _ how), atI_nat (j := 1) rfl, ?_⟩
        refine ⟨_, rfl, _, rfl, dk, _, rfl, .inl ⟨_, Sum.inr (G.to wy), .inl b2.2.1, rfl, rfl⟩, _, rfl, ?_⟩
        rw [kd_val]
        by_cases hin : G.to wy ∈ qs
        · rw [if_pos hin]
          exact ⟨qs, _, _, g, rfl, b2, hlt2, qm2⟩
        · rw [if_neg hin]
          obtain ⟨_, _, gq, l, hl, ll⟩ := b2.2.2.2.2 q qm2
          have bl2 := b2.len
          refine ⟨_, rfl, _, rfl, dk, _, rfl, .inl ⟨_, Sum.inr q, .inl b2.2.1, rfl, (kd_in (v := fun k => V.ref (g k)) qm2).symm⟩, g q, _, rfl, .inr (SqL.of hl), _, rfl, ?_, fun ln hln => ?_⟩
          · rw [List.length_append, List.length_map]
            exact Nat.le_trans (show l.length + 1 ≤ 41 by omega) (by decide)
          have ndl : dk ≠ ln := ne_of_none b2.2.1 hln
          have nql : lq ≠ ln := ne_of_none b2.2.2.1 hln
          have nqd : lq ≠ dk := ne_of b2.2.2.1 b2.2.1 (by intro z; cases z)
          have hln0 := b2.1.free hln
          refine ⟨_, rfl, _, rfl, dk, _, rfl, DPut.k (k := Sum.inr (G.to wy)) (by rw [upd_ne ndl]; exact b2.2.1) ?_, ?_⟩
          · rw [kd_len]
            exact Nat.lt_of_le_of_lt (show qs.length ≤ 40 by omega) (by decide)
          refine ⟨_, rfl, .inl ⟨rfl, _, SqL.of (by rw [upd_ne nqd, upd_ne nql]; exact b2.2.2.1)⟩, _, rfl, lq, _, _, rfl, rfl, by rw [upd_ne nqd, upd_ne nql]; exact b2.2.2.1, ?_, ?_⟩
          · rw [List.length_map]
            exact Nat.lt_of_le_of_lt (show qs.length ≤ 40 by omega) (by decide)
          have hdk0 : H dk = none := hdk
          refine ⟨qs ++ [G.to wy], _, _, setF g (G.to wy) ln, rfl, ⟨(((b2.1.mut hln0).mut hdk0).mut hlq'), ?_, ?_, ?_, ?_⟩, ?_, List.mem_append_left _ qm2⟩
          · rw [upd_ne nqd.symm, upd_same, kd_put_new hin]
            congr 2
            refine kd_congr fun x _ => ?_
            unfold setF
            split <;> rfl
          · rw [upd_same]
            unfold strL
            rw [List.map_append]
            rfl
          · exact nd_snoc b2.2.2.2.1 hin
          · intro x hx
            rw [List.length_append, List.length_singleton]
            rcases List.mem_append.mp hx with hx | hx
            · have nx : x ≠ G.to wy := fun e => hin (e ▸ hx)
              obtain ⟨x1, x2, x3, lx, x4, x5⟩ := b2.2.2.2.2 x hx
              rw [setF_ne nx]
              refine ⟨x1, x2, x3, lx, ?_, by omega⟩
              rw [upd_ne x3, upd_ne (ne_of x4 b2.2.1 (by intro z; cases z)), upd_ne (ne_of_none x4 hln)]
              exact x4
            · rw [List.mem_singleton.mp hx, setF_same]
              refine ⟨ok.toP wy wm, ?_, nql.symm, l ++ [wy], ?_, by rw [List.length_append, List.length_singleton]; omega⟩
              · have r1 := (b2.2.2.2.2 q qm2).2.1
                have r2 := ok.up wy wm
                rw [wq] at r2
                omega
              · rw [upd_ne nql.symm, upd_ne ndl.symm, upd_same]
                unfold strL
                rw [List.map_append]
                rfl
          · rw [List.length_append, List.length_singleton]
            omega
      · rintro σ2 H2 ⟨qs, v7, v8, g, rfl, b2, hlt2, _⟩
        refine ⟨_, rfl, _, _, rfl, rfl, ?_⟩
        exact ⟨qs, _, v7, v8, g, rfl, b2, hlt2⟩
end
end K23
namespace K23
open PySem PySem.Spec PyProof.Rows L2
/-- a program whose pairs are locked can still be read -/
theorem PgU.locked {CP : Addr} {H : Hp} {p : Addr} {G : Prg} (h : PgU CP H p G) : ∃ (dx dp lp le do_ di : Addr) (g : Str → Addr), H p = some (.ins CP dx (pgF dp lp G.bg le do_ di)) ∧ H dp = some (.dK (kd G.ws fun k => .ref (g k))) ∧ (∀ k ∈ G.ws, H (g k) = some (G.tup k)) ∧
    ∀ od, PgAt CP (upd H dp (.frz od (.dK (kd G.ws fun k => .ref (g k))))) p G := by
  obtain ⟨dx, dp, lp, le, do_, di, h1, ⟨g, h2, h2'⟩, h3, h4, ⟨g5, h5, h5'⟩, h6⟩ := h
  refine ⟨dx, dp, lp, le, do_, di, g, h1, h2, h2', fun od => ?_⟩
  have n1 : p ≠ dp := ne_of h1 h2 (by intro z; cases z)
  refine ⟨dx, dp, lp, le, do_, di, by rw [upd_ne n1]; exact h1, ⟨g, .inr ⟨od, upd_same⟩, fun k hk => ?_⟩, ?_, ?_, ⟨g5, .inl (by rw [upd_ne h6]; exact h5), fun k hk => ?_⟩⟩
  · rw [upd_ne (ne_of (h2' k hk) h2 (by intro z; cases z))]
    exact h2' k hk
  · rw [upd_ne (ne_of h3 h2 (by intro z; cases z))]
    exact h3
  · rw [upd_ne (ne_of h4 h2 (by intro z; cases z))]
    exact h4
  · rw [upd_ne (ne_of (h5' k hk) h2 (by intro z; cases z))]
    exact h5' k hk
section
variable {P : PySem.Program} {w : World} {K : PySem.W.Frag} {mg : Str → Option Value} {base : Heap} {CP CM : Addr} {f : Addr} {fd : FuncData}
/-! ### find_ring: there is none -/
def spFindRing (CP : Addr) : Sp := fun vs H Q _ => ∃ p G, vs = [.ref p] ∧ PgU CP H p G ∧ G.Ok ∧ ∀ H', Same H H' → Q .non H'
theorem ok_P_find_ring (L : ClT K mg "Program" CP) (Z : Fld K CP CM) (DP : MeD P w K mg base CX0 1 CP "path" p_P_path (spPath CP)) (T : MeT K CP "find_ring" "Program.find_ring" s_P_find_ring p_P_find_ring f fd) : MeD P w K mg base CX0 2 CP "find_ring" p_P_find_ring (spFindRing CP) := by
  refine .of T (T.fn.ok sc_P_find_ring (fun vs H Q E h => ?_) (fun cdv A outer s H vs Q E hr h => ?_))
  · obtain ⟨p, G, rfl, _⟩ := h
    rfl
  · obtain ⟨p, G, rfl, hP, ok, k⟩ := h
    refine ⟨_, pss_cons (ps_lock (ps_for PassesOwn.never rfl (pi_items (pe_fld (pv 0) rfl)) (pg_tup (by rfl) (pgs_cons (pg_name (i := 1) sc_P_find_ring.nd rfl (Or.inl rfl)) (pgs_cons (pg_name (i := 2) sc_P_find_ring.nd rfl (Or.inl rfl)) pgs_nil)))
        (pss_cons (ps_set (i := 3) sc_P_find_ring.nd rfl (Or.inl rfl) (pe_m (pv 0) L.cl DP hr pass0 (pa_cons (pe_ix ix_tup (pv 2) pe_int (fun _ _ => rfl)) (pa_cons (pe_lst (pa_cons (pe_ix ix_tup (pv 2) pe_int (fun _ _ => rfl)) pa_nil)) pa_nil))))
        (pss_one (ps_if (pt_cmpR op_notN (pv 3) pe_non (nomark _)) (pss_one ps_never) pss_nil)))))
      (pss_one (ps_ret pe_non)), ?_⟩
    obtain ⟨dx, dp, lp, le, do_, di, g, h1, h2, h2', hL⟩ := hP.locked
    refine ⟨dp, _, h2, trivial, fun od => ?_⟩
    have n1 : p ≠ dp := ne_of h1 h2 (by intro z; cases z)
    refine ⟨_, rfl, p, CP, dx, _, _, rfl, by rw [upd_ne n1]; exact h1, L.cl, Z.pairs, pgf_pairs, dp, od, _, rfl, upd_same, ?_⟩
    refine for_any (n := G.ws.length) (fun i σ' H' => ∃ v1 v2 v3, σ' = [some (.ref p), v1, v2, v3] ∧ Same (upd H dp (.frz od (.dK (kd G.ws fun k => .ref (g k))))) H') ⟨_, _, _, rfl, Same.refl _⟩
      (fun i σ' H' hi ⟨_, _, _, _, s1⟩ => ⟨s1 _ _ upd_same, by rw [kd_len]; exact hi⟩) (fun σ' H' ⟨_, _, _, _, s1⟩ => ⟨s1 _ _ upd_same, by rw [kd_len]; exact Nat.le_refl _⟩) ?_ ?_
    · rintro i σ' H' x H2 hi ⟨v1, v2, v3, rfl, s1⟩ ⟨T, kk, v, hkv, rfl, hT, rfl⟩
      obtain ⟨wy, hwy, e⟩ := getMap hkv
      cases e
      have wm := List.mem_of_getElem? hwy
      have s2 := s1.trans (Same.new (o := .tup [kV (.inr wy), .ref (g wy)]) hT)
      have tw : upd H' T (.tup [kV (.inr wy), .ref (g wy)]) (g wy) = some (G.tup wy) := s2 _ _ (by rw [upd_ne (ne_of (h2' wy wm) h2 (by intro z; cases z))]; exact h2' wy wm)
      refine ⟨T, _, rfl, SqT.of upd_same, rfl, _, _, rfl, _, _, rfl, rfl, ?_⟩
      refine ⟨_, rfl, ((hL od).mono s2).isO, _, rfl, g wy, _, 1, _, rfl, rfl, SqT.of tw, atI_nat (j := 1) rfl, _, rfl, g wy, _, 0, _, rfl, rfl, SqT.of tw, atI_nat (j := 0) rfl, (by show 1 ≤ sizeLine; decide), fun l hl => ?_⟩
      have s3 := s2.trans (Same.new (o := .lst [.str (G.fr wy)]) hl)
      refine ⟨p, G, G.to wy, l, G.fr wy, rfl, (hL od).mono s3, ok, ok.toP wy wm, upd_same, ok.up wy wm, fun H3 s4 => ?_⟩
      refine ⟨_, rfl, rfl, _, rfl, iteNS rfl ?_⟩
      exact ⟨_, _, _, rfl, s3.trans s4⟩
    · rintro σ' H' ⟨v1, v2, v3, rfl, s1⟩
      refine ⟨s1 _ _ upd_same, k _ fun b o hb => ?_⟩
      by_cases e : b = dp
      · rw [e, h2] at hb
        cases hb
        rw [e, upd_same]
      · rw [upd_ne e]
        exact s1 _ _ (by rw [upd_ne e]; exact hb)
theorem tyX_own {x : Str} {C : Addr} (L : ClT K mg x C) {H : Hp} {a dx : Addr} {fs : List (Str × V)} (h : H a = some (.ins C dx fs)) : TyX K H (.ref a) (.ref C) := .base (.ins h L.cl L.ha L.hn L.htk L.hm)
theorem kit_own {C : Addr} : PySem.W.kitOne K (.ref C) (.ref C) = some true := by
  unfold PySem.W.kitOne
  rw [if_pos (by simp)]
/-! ### check_program -/
def spCheckProgram (CP : Addr) : Sp := fun vs H Q _ => ∃ p G, vs = [.ref p] ∧ PgAt CP H p G ∧ Q .non H
theorem ok_check_program (L : ClT K mg "Program" CP) (B : Blt mg) (T : FnT K mg "check_program" s_check_program p_check_program f fd) : FnD P w K mg base CX0 1 "check_program" p_check_program (spCheckProgram CP) := by
  refine .of T (T.fn.ok sc_check_program (fun vs H Q E h => ?_) (fun cdv A outer s H vs Q E hr h => ?_))
  · obtain ⟨p, G, rfl, _⟩ := h
    rfl
  · obtain ⟨p, G, rfl, hP, k⟩ := h
    refine ⟨_, pss_one (ps_if (pt_not (pt_val (pe_callB call_isi (by rfl) B.isinstance (by decide +kernel) (pa_cons (pv 0) (pa_cons (pe_glob (v := .ref CP) rfl L.mg rfl) pa_nil))))) (pss_one ps_never) pss_nil), ?_⟩
    obtain ⟨dx, dp, lp, le, do_, di, h1, h2, h3, h4, h5⟩ := id hP
    exact ⟨_, rfl, _, _, _, _, true, rfl, .own _, tyX_own L h1, kit_own, true, rfl, iteF k⟩
/-! ### __eq__ of a program with itself -/
def spEqProgram (CP : Addr) : Sp := fun vs H Q _ => ∃ p G, vs = [.ref p, .ref p] ∧ PgAt CP H p G ∧ ∀ H', Same H H' → Q (.bl true) H'
theorem ok_P_eq (L : ClT K mg "Program" CP) (Z : Fld K CP CM) (B : Blt mg) (T : MeT K CP "__eq__" "Program.__eq__" s_P_eq p_P_eq f fd) : MeD P w K mg base CX0 2 CP "__eq__" p_P_eq (spEqProgram CP) := by
  refine .of T (T.fn.ok sc_P_eq (fun vs H Q E h => ?_) (fun cdv A outer s H vs Q E hr h => ?_))
  · obtain ⟨p, G, rfl, _⟩ := h
    rfl
  · obtain ⟨p, G, rfl, hP, k⟩ := h
    refine ⟨_, pss_cons (ps_if (pt_not (pt_val (pe_callB call_isi (by rfl) B.isinstance (by decide +kernel) (pa_cons (pv 1) (pa_cons (pe_glob (v := .ref CP) rfl L.mg rfl) pa_nil))))) (pss_one (ps_ret pe_bl)) pss_nil)
      (pss_cons (ps_set (i := 2) sc_P_eq.nd rfl (Or.inl rfl) (pe_tup (pa_cons (pe_fld (pv 0) rfl) (pa_cons (pe_fld (pv 0) rfl) (pa_cons (pe_fld (pv 0) rfl) pa_nil)))))
      (pss_one (ps_ret (pe_cmpR (op_eqSm hr) (pv 2) (pe_tup (pa_cons (pe_fld (pv 1) rfl) (pa_cons (pe_fld (pv 1) rfl) (pa_cons (pe_fld (pv 1) rfl) pa_nil)))) (nomark _))))), ?_⟩
    obtain ⟨dx, dp, lp, le, do_, di, h1, h2, h3, h4, h5⟩ := id hP
    refine ⟨_, rfl, _, _, _, _, true, rfl, .own _, tyX_own L h1, kit_own, true, rfl, iteF ?_⟩
    refine ⟨_, rfl, p, CP, dx, _, _, rfl, h1, L.cl, Z.pairs, pgf_pairs, _, rfl, p, CP, dx, _, _, rfl, h1, L.cl, Z.own_begin, pgf_begin, _, rfl, p, CP, dx, _, _, rfl, h1, L.cl, Z.own_exits, pgf_exits, (by show 3 ≤ sizeLine; decide), fun t1 ht1 => ?_⟩
    have s1 := Same.new (o := .tup [.ref dp, .str G.bg, .ref le]) ht1
    have h1' := s1 _ _ h1
    refine ⟨_, rfl, _, rfl, p, CP, dx, _, _, rfl, h1', L.cl, Z.pairs, pgf_pairs, _, rfl, p, CP, dx, _, _, rfl, h1', L.cl, Z.own_begin, pgf_begin, _, rfl, p, CP, dx, _, _, rfl, h1', L.cl, Z.own_exits, pgf_exits, (by show 3 ≤ sizeLine; decide), fun t2 ht2 => ?_⟩
    refine ⟨⟨t1, t2, _, _, rfl, rfl, SqT.of ((Same.new ht2) _ _ upd_same), SqT.of upd_same, ?_⟩, fun H3 s3 => k _ ((s1.trans (Same.new ht2)).trans s3)⟩
    exact .cons ⟨rfl, .inl ⟨_, rfl⟩⟩ (.cons ⟨rfl, .inr ⟨_, rfl⟩⟩ (.cons ⟨rfl, .inl ⟨_, rfl⟩⟩ .nil))
/-! ### check_rings -/
def spCheckRings (CP : Addr) : Sp := fun vs H Q _ => ∃ p G, vs = [.ref p] ∧ PgU CP H p G ∧ G.Ok ∧ ∀ H', Same H H' → Q .non H'
theorem ok_check_rings (L : ClT K mg "Program" CP) (DR : MeD P w K mg base CX0 2 CP "find_ring" p_P_find_ring (spFindRing CP)) (T : FnT K mg "check_rings" s_check_rings p_check_rings f fd) : FnD P w K mg base CX0 3 "check_rings" p_check_rings (spCheckRings CP) := by
  refine .of T (T.fn.ok sc_check_rings (fun vs H Q E h => ?_) (fun cdv A outer s H vs Q E hr h => ?_))
  · obtain ⟨p, G, rfl, _⟩ := h
    rfl
  · obtain ⟨p, G, rfl, hP, ok, k⟩ := h
    refine ⟨_, pss_cons (ps_set (i := 1) sc_check_rings.nd rfl (Or.inl rfl) (pe_m0 (pv 0) L.cl DR hr pass0)) (pss_one (ps_if (pt_cmpR op_notN (pv 1) pe_non (nomark _)) (pss_one ps_never) pss_nil)), ?_⟩
    exact ⟨_, rfl, hP.at.isO, p, G, rfl, hP, ok, fun H' s1 => ⟨_, rfl, rfl, _, rfl, iteNS rfl (k _ s1)⟩⟩
end
end K23
namespace K23
open PySem PySem.Spec PyProof.Rows L2
/-- a list of ways leads from a place to a place -/
def Prg.Walk (G : Prg) : Str → List Str → Str → Prop
  | p, [], q => p = q
  | p, w :: r, q => w ∈ G.ws ∧ G.fr w = p ∧ G.Walk (G.to w) r q
section
variable {P : PySem.Program} {w : World} {K : PySem.W.Frag} {mg : Str → Option Value} {base : Heap} {CP CM : Addr} {f : Addr} {fd : FuncData}
/-! ### end_of -/
def spEndOf (CP : Addr) : Sp := fun vs H Q _ => ∃ p G a run e, vs = [.ref p, .ref a] ∧ PgAt CP H p G ∧ G.Ok ∧ H a = some (strL run) ∧ G.Walk G.bg run e ∧ ∀ H', Same H H' → Q (.str e) H'
theorem ok_end_of (L : ClT K mg "Program" CP) (B : Blt mg) (DB : PrD P w K mg base CX0 1 CP "begin" p_P_begin (spBegin CP)) (DC : MeD P w K mg base CX0 2 CP "__contains__" p_P_contains (spContains CP)) (DG : MeD P w K mg base CX0 3 CP "__getitem__" p_P_getitem (spGet CP))
    (T : FnT K mg "end_of" s_end_of p_end_of f fd) : FnD P w K mg base CX0 5 "end_of" p_end_of (spEndOf CP) := by
  refine .of T (T.fn.ok sc_end_of (fun vs H Q E h => ?_) (fun cdv A outer s H vs Q E hr h => ?_))
  · obtain ⟨p, G, a, run, e, rfl, _⟩ := h
    rfl
  · obtain ⟨p, G, a, run, e, rfl, hP, ok, ha, hw, k⟩ := h
    refine ⟨_, pss_cons (ps_if (pt_not (pt_val (pe_callB call_isi (by rfl) B.isinstance (by decide +kernel) (pa_cons (pv 1) (pa_cons (pe_bltn (v := .ty "list") (by rfl) B.list (by decide +kernel) rfl) pa_nil))))) (pss_one (ps_ret pe_non)) pss_nil)
      (pss_cons (ps_set (i := 2) sc_end_of.nd rfl (Or.inl rfl) (pe_p (pv 0) L.cl DB (hr.mono (by decide)) pass0))
      (pss_cons (ps_for PassesOwn.never rfl (pi_list (pv 1)) (pg_name (i := 3) sc_end_of.nd rfl (Or.inl rfl))
        (pss_cons (ps_if (PW.pt (pw_or (pt_cmpR (op_notInOwn (E := E0) DC (hr.mono (by decide)) pass0) (pv 3) (pv 0) (by rfl)) (pw_or1 (pt_cmpR op_ne (pe_ix ix_tup (pe_gi (pv 0) (pv 3) DG hr pass0) pe_int (fun _ _ => rfl)) (pv 2) (nomark _))))) (pss_one (ps_ret pe_non)) pss_nil)
        (pss_one (ps_set (i := 2) sc_end_of.nd rfl (Or.inl rfl) (pe_ix ix_tup (pe_gi (pv 0) (pv 3) DG hr pass0) pe_int (fun _ _ => rfl))))))
      (pss_one (ps_ret (pv 2))))), ?_⟩
    refine ⟨_, rfl, _, _, _, _, true, rfl, .ty _, .base (.lst ha), kit_ty (by decide +kernel), true, rfl, iteF ?_⟩
    refine ⟨_, rfl, hP.isI, p, G, rfl, hP, ?_⟩
    refine ⟨_, rfl, a, rfl, ⟨_, SqL.of ha⟩, for_list (xs := run.map V.str) (fun i σ' H' => ∃ q v3, σ' = [some (.ref p), some (.ref a), some (.str q), v3] ∧ Same H H' ∧ G.Walk q (run.drop i) e)
      ⟨_, _, rfl, Same.refl _, hw⟩ (fun i σ' H' _ ⟨_, _, _, s1, _⟩ => SqL.of (s1 _ _ ha)) ?_ ?_⟩
    · rintro i y σ' H' hi ⟨q, v3, rfl, s1, wk⟩
      obtain ⟨wy, hwy, rfl⟩ := getMap hi
      have hd : run.drop i = wy :: run.drop (i + 1) := by
        obtain ⟨hl, he⟩ := List.getElem?_eq_some_iff.mp hwy
        rw [← he]
        exact List.drop_eq_getElem_cons hl
      rw [hd] at wk
      obtain ⟨wm, rfl, wk⟩ := wk
      have hP1 := hP.mono s1
      have ww := ok.wsW wy wm
      refine ⟨_, rfl, _, rfl, hP1.isI, p, G, wy, rfl, hP1, ww, wm, fun H2 s2 => ⟨true, rfl, false, rfl, iteF ?_⟩⟩
      have hP2 := hP1.mono s2
      refine ⟨_, rfl, _, rfl, hP2.isI, p, G, wy, rfl, hP2, ww, wm, fun t H3 s3 ht => ?_⟩
      refine ⟨t, _, 0, .str (G.fr wy), rfl, rfl, SqT.of ht, atI_nat (j := 0) rfl, _, rfl, rfl, _, rfl, iteNS rfl ?_⟩
      have hP3 := hP2.mono s3
      refine ⟨_, rfl, _, rfl, hP3.isI, p, G, wy, rfl, hP3, ww, wm, fun t H4 s4 ht => ?_⟩
      refine ⟨t, _, 1, .str (G.to wy), rfl, rfl, SqT.of ht, atI_nat (j := 1) rfl, ?_⟩
      exact ⟨_, _, rfl, ((s1.trans s2).trans s3).trans s4, wk⟩
    · rintro σ' H' ⟨q, v3, rfl, s1, wk⟩
      rw [List.length_map, List.drop_length] at wk
      have e' : q = e := wk
      subst e'
      exact ⟨_, rfl, k _ s1⟩
/-! ### is_run -/
def spIsRun (CP : Addr) : Sp := fun vs H Q _ => ∃ p G a run e, vs = [.ref p, .ref a] ∧ PgAt CP H p G ∧ G.Ok ∧ H a = some (strL run) ∧ G.Walk G.bg run e ∧ e ∈ G.ex ∧ ∀ H', Same H H' → Q (.bl true) H'
theorem ok_is_run (L : ClT K mg "Program" CP) (DK : FnD P w K mg base CX0 1 "check_program" p_check_program (spCheckProgram CP)) (DE : FnD P w K mg base CX0 5 "end_of" p_end_of (spEndOf CP)) (DX : MeD P w K mg base CX0 1 CP "exits" p_P_exits (spExits CP))
    (T : FnT K mg "is_run" s_is_run p_is_run f fd) : FnD P w K mg base CX0 6 "is_run" p_is_run (spIsRun CP) := by
  refine .of T (T.fn.ok sc_is_run (fun vs H Q E h => ?_) (fun cdv A outer s H vs Q E hr h => ?_))
  · obtain ⟨p, G, a, run, e, rfl, _⟩ := h
    rfl
  · obtain ⟨p, G, a, run, e, rfl, hP, ok, ha, hw, he, k⟩ := h
    refine ⟨_, pss_cons (ps_expr (pe_f DK (hr.mono (by decide)) pass0 (pa_cons (pv 0) pa_nil)))
      (pss_cons (ps_set (i := 2) sc_is_run.nd rfl (Or.inl rfl) (pe_f DE hr pass0 (pa_cons (pv 0) (pa_cons (pv 1) pa_nil))))
      (pss_one (ps_ret (pe_and (pe_cmpR op_notN (pv 2) pe_non (nomark _)) (pe_one (pe_cmpR op_in_seq (pv 2) (pe_m0 (pv 0) L.cl DX (hr.mono (by decide)) pass0) (by rfl))))))), ?_⟩
    refine ⟨_, rfl, p, G, rfl, hP, ?_⟩
    refine ⟨_, rfl, _, rfl, p, G, a, run, e, rfl, hP, ok, ha, hw, fun H1 s1 => ?_⟩
    refine ⟨_, rfl, rfl, true, ?_, iteT ?_⟩
    · show V.bl (!decide (V.str e = V.non)) = V.bl true
      rfl
    have hP1 := hP.mono s1
    refine ⟨_, rfl, _, rfl, hP1.isO, p, G, rfl, hP1, fun l hl => ?_⟩
    refine ⟨l, _, rfl, .inl (SqL.of upd_same), rfl, flat_strs _, ?_⟩
    show Q (V.bl (inV (.str e) (G.ex.map V.str))) _
    rw [inV_str, decide_eq_true he]
    exact k _ (s1.trans (Same.new hl))
end
end K23
/-! Numbers of runs: plain mathematics. -/
namespace K23
open PySem L2

theorem sum_congr' {l : List Str} {f g : Str → Int} (h : ∀ x ∈ l, f x = g x) : (l.map f).sum = (l.map g).sum := by rw [List.map_congr_left h]
theorem sum_nonneg {l : List Str} {f : Str → Int} (h : ∀ x ∈ l, 0 ≤ f x) : 0 ≤ (l.map f).sum := by
  induction l with
  | nil => exact Int.le_refl 0
  | cons x l ih =>
    rw [List.map_cons, List.sum_cons]
    have h1 := h x List.mem_cons_self
    have h2 := ih fun y hy => h y (List.mem_cons_of_mem _ hy)
    omega
theorem sum_ge {l : List Str} {f : Str → Int} (h : ∀ x ∈ l, 0 ≤ f x) {y : Str} (hy : y ∈ l) : f y ≤ (l.map f).sum := by
  induction l with
  | nil => exact absurd hy List.not_mem_nil
  | cons x l ih =>
    rw [List.map_cons, List.sum_cons]
    have h1 := h x List.mem_cons_self
    have h2 := sum_nonneg (f := f) fun z hz => h z (List.mem_cons_of_mem x hz)
    rcases List.mem_cons.mp hy with e | e
    · rw [e]; omega
    · have := ih (fun z hz => h z (List.mem_cons_of_mem _ hz)) e
      omega
variable {G : Prg}
theorem leav_pl (ok : G.Ok) {p w : Str} (h : w ∈ G.leav p) : G.to w ∈ G.pl ∧ G.rk p < G.rk (G.to w) := by
  obtain ⟨h1, h2⟩ := Prg.mem_leav.mp h
  have := ok.up w h1
  rw [h2] at this
  exact ⟨ok.toP w h1, this⟩
theorem cnt_still (ok : G.Ok) : ∀ (n : Nat) (p : Str), p ∈ G.pl → 6 - G.rk p ≤ n → ∀ k, n ≤ k → G.cnt k p = G.cnt n p
  | 0, p, hp, h, k, _ => by have := ok.top p hp; omega
  | n + 1, p, hp, h, k, hk => by
    obtain ⟨k', rfl⟩ : ∃ k', k = k' + 1 := ⟨k - 1, by omega⟩
    show _ + _ = _ + _
    congr 1
    refine sum_congr' fun w hw => ?_
    obtain ⟨h1, h2⟩ := leav_pl ok hw
    exact cnt_still ok n (G.to w) h1 (by omega) k' (by omega)
theorem many_eq (ok : G.Ok) {p : Str} (hp : p ∈ G.pl) : G.many p = (if p ∈ G.ex then 1 else 0) + ((G.leav p).map fun w => G.many (G.to w)).sum := by
  have ht := ok.top p hp
  obtain ⟨n, hn⟩ : ∃ n, 6 - G.rk p = n + 1 := ⟨6 - G.rk p - 1, by omega⟩
  unfold Prg.many
  rw [hn]
  show _ + _ = _ + _
  congr 1
  refine sum_congr' fun w hw => ?_
  obtain ⟨h1, h2⟩ := leav_pl ok hw
  exact cnt_still ok _ (G.to w) h1 (Nat.le_refl _) n (by omega)
theorem many_pos (ok : G.Ok) : ∀ (n : Nat) (p : Str), p ∈ G.pl → 6 - G.rk p ≤ n → 1 ≤ G.many p
  | 0, p, hp, h => by have := ok.top p hp; omega
  | n + 1, p, hp, h => by
    have pos : ∀ w ∈ G.leav p, 1 ≤ G.many (G.to w) := fun w hw => by
      obtain ⟨h1, h2⟩ := leav_pl ok hw
      exact many_pos ok n (G.to w) h1 (by omega)
    have nn := sum_nonneg (f := fun w => G.many (G.to w)) fun w hw => Int.le_trans (by decide) (pos w hw)
    rw [many_eq ok hp]
    by_cases he : p ∈ G.ex
    · rw [if_pos he]; omega
    · rw [if_neg he]
      rcases ok.on p hp with h' | ⟨w, hw, e⟩
      · exact absurd h' he
      · have wl : w ∈ G.leav p := Prg.mem_leav.mpr ⟨hw, e⟩
        have h1 := pos w wl
        have h2 := sum_ge (f := fun w => G.many (G.to w)) (fun w hw => Int.le_trans (by decide) (pos w hw)) wl
        omega
theorem many_one (ok : G.Ok) {p : Str} (hp : p ∈ G.pl) : 1 ≤ G.many p := many_pos ok _ p hp (Nat.le_refl _)
/-! ### what is ahead -/
theorem ahead_at : ∀ {l : List Str} {a : Int} {i : Nat} {w : Str}, l.Nodup → l[i]? = some w → G.ahead a l w = a + ((l.take i).map fun x => G.many (G.to x)).sum
  | [], _, i, _, _, h => by simp at h
  | x :: l, a, 0, w, _, h => by
    have e : x = w := by simpa using h
    unfold Prg.ahead
    rw [if_pos e]
    simp
  | x :: l, a, i + 1, w, nd, h => by
    obtain ⟨n1, n2⟩ := List.nodup_cons.mp nd
    have h' : l[i]? = some w := by simpa using h
    have ne : ¬ x = w := fun e => n1 (e ▸ List.mem_of_getElem? h')
    unfold Prg.ahead
    rw [if_neg ne, ahead_at n2 h', List.take_succ_cons, List.map_cons, List.sum_cons]
    omega
theorem ahead_ge (pos : ∀ x ∈ l, 0 ≤ G.many (G.to x)) {a : Int} {w : Str} (h : w ∈ l) : a ≤ G.ahead a l w := by
  induction l generalizing a with
  | nil => exact absurd h List.not_mem_nil
  | cons x l ih =>
    unfold Prg.ahead
    by_cases e : x = w
    · rw [if_pos e]; exact Int.le_refl _
    · rw [if_neg e]
      have h' : w ∈ l := (List.mem_cons.mp h).resolve_left fun z => e z.symm
      have := ih (fun y hy => pos y (List.mem_cons_of_mem _ hy)) (a := a + G.many (G.to x)) h'
      have := pos x List.mem_cons_self
      omega
/-- the last way whose step is not greater than what is left -/
theorem pick_last : ∀ {l : List Str} {a left : Int}, l.Nodup → (∀ x ∈ l, 1 ≤ G.many (G.to x)) → a ≤ left → left < a + (l.map fun x => G.many (G.to x)).sum →
    ∃ w ∈ l, (l.filter fun x => decide (G.ahead a l x ≤ left)).getLast? = some w ∧ G.ahead a l w ≤ left ∧ left < G.ahead a l w + G.many (G.to w)
  | [], a, left, _, _, h1, h2 => by simp at h2; omega
  | x :: l, a, left, nd, pos, h1, h2 => by
    obtain ⟨n1, n2⟩ := List.nodup_cons.mp nd
    have px := pos x List.mem_cons_self
    have posl : ∀ y ∈ l, 1 ≤ G.many (G.to y) := fun y hy => pos y (List.mem_cons_of_mem _ hy)
    have ax : G.ahead a (x :: l) x = a := by unfold Prg.ahead; rw [if_pos rfl]
    have ay : ∀ y ∈ l, G.ahead a (x :: l) y = G.ahead (a + G.many (G.to x)) l y := fun y hy => by
      have ne : ¬ x = y := fun e => n1 (e ▸ hy)
      rw [Prg.ahead, if_neg ne]
    have fl : (l.filter fun y => decide (G.ahead a (x :: l) y ≤ left)) = l.filter fun y => decide (G.ahead (a + G.many (G.to x)) l y ≤ left) :=
      List.filter_congr fun y hy => by rw [ay y hy]
    rw [List.filter_cons, if_pos (by rw [ax]; exact decide_eq_true h1), fl]
    by_cases c : left < a + G.many (G.to x)
    · have none_ : (l.filter fun y => decide (G.ahead (a + G.many (G.to x)) l y ≤ left)) = [] := by
        rw [List.filter_eq_nil_iff]
        intro y hy q
        have := ahead_ge (G := G) (l := l) (fun z hz => Int.le_trans (by decide) (posl z hz)) (a := a + G.many (G.to x)) hy
        have := of_decide_eq_true q
        omega
      rw [none_]
      exact ⟨x, List.mem_cons_self, rfl, by rw [ax]; exact h1, by rw [ax]; exact c⟩
    · rw [List.map_cons, List.sum_cons] at h2
      obtain ⟨w, hw, e, b1, b2⟩ := pick_last n2 posl (a := a + G.many (G.to x)) (left := left) (by omega) (by omega)
      refine ⟨w, List.mem_cons_of_mem _ hw, ?_, by rw [ay w hw]; exact b1, by rw [ay w hw]; exact b2⟩
      rw [List.getLast?_cons, e]
      rfl
theorem leav_nd (ok : G.Ok) (p : Str) : (G.leav p).Nodup := ok.wsN.filter _
theorem base_of {p w : Str} (h : w ∈ G.leav p) : G.base w = G.ahead (if p ∈ G.ex then 1 else 0) (G.leav p) w := by
  obtain ⟨_, e⟩ := Prg.mem_leav.mp h
  unfold Prg.base
  rw [e]
/-! ### runs by their numbers -/
def Prg.fit (G : Prg) (p : Str) (left : Int) : List Str := (G.leav p).filter fun w => decide (G.base w ≤ left)
theorem fit_last (ok : G.Ok) {p : Str} (hp : p ∈ G.pl) {left : Int} (h0 : 0 ≤ left) (h1 : left < G.many p) (h2 : 0 < left ∨ p ∉ G.ex) :
    ∃ w ∈ G.leav p, (G.fit p left).getLast? = some w ∧ G.base w ≤ left ∧ left - G.base w < G.many (G.to w) := by
  have pos : ∀ x ∈ G.leav p, 1 ≤ G.many (G.to x) := fun x hx => many_one ok (leav_pl ok hx).1
  have start : (if p ∈ G.ex then (1 : Int) else 0) ≤ left := by
    by_cases he : p ∈ G.ex
    · rw [if_pos he]
      rcases h2 with h2 | h2
      · omega
      · exact absurd he h2
    · rw [if_neg he]; exact h0
  rw [many_eq ok hp] at h1
  obtain ⟨w, hw, e, b1, b2⟩ := pick_last (leav_nd ok p) pos start h1
  refine ⟨w, hw, ?_, by rw [base_of hw]; exact b1, by rw [base_of hw]; omega⟩
  rw [← e]
  unfold Prg.fit
  congr 1
  exact List.filter_congr fun x hx => by rw [base_of hx]
def Prg.runL (G : Prg) : Nat → Str → Int → List Str
  | 0, _, _ => []
  | k + 1, p, left => if 0 < left ∨ p ∉ G.ex then match (G.fit p left).getLast? with
      | some w => w :: G.runL k (G.to w) (left - G.base w)
      | none => []
    else []
theorem runL_ok (ok : G.Ok) : ∀ (k : Nat) (p : Str) (left : Int), p ∈ G.pl → 6 - G.rk p ≤ k → 0 ≤ left → left < G.many p →
    ∃ e, G.Walk p (G.runL k p left) e ∧ e ∈ G.ex ∧ ((G.runL k p left).map G.base).sum = left
  | 0, p, left, hp, h, _, _ => by have := ok.top p hp; omega
  | k + 1, p, left, hp, h, h0, h1 => by
    unfold Prg.runL
    by_cases c : 0 < left ∨ p ∉ G.ex
    · rw [if_pos c]
      obtain ⟨w, hw, e, b1, b2⟩ := fit_last ok hp h0 h1 c
      obtain ⟨q1, q2⟩ := leav_pl ok hw
      obtain ⟨w1, w2⟩ := Prg.mem_leav.mp hw
      rw [e]
      obtain ⟨z, z1, z2, z3⟩ := runL_ok ok k (G.to w) (left - G.base w) q1 (by omega) (by omega) b2
      refine ⟨z, ⟨w1, w2, z1⟩, z2, ?_⟩
      rw [List.map_cons, List.sum_cons, z3]
      omega
    · rw [if_neg c]
      have c1 : ¬ 0 < left := fun z => c (.inl z)
      have c2 : p ∈ G.ex := Classical.not_not.mp fun z => c (.inr z)
      exact ⟨p, rfl, c2, by simp; omega⟩
def Prg.runOf (G : Prg) (n : Int) : List Str := G.runL 6 G.bg n
/-- moved steps along a run -/
theorem moved_sum {st lv : Str → Int} (h : ∀ w ∈ G.ws, st w = G.base w + lv (G.to w) - lv (G.fr w)) : ∀ {r : List Str} {p e : Str}, G.Walk p r e → (r.map st).sum = (r.map G.base).sum + lv e - lv p
  | [], p, e, hw => by
    have : p = e := hw
    subst this
    simp
  | w :: r, p, e, hw => by
    obtain ⟨h1, h2, h3⟩ := hw
    rw [List.map_cons, List.sum_cons, List.map_cons, List.sum_cons, moved_sum h h3, h w h1, h2]
    omega
theorem walk_mem : ∀ {r : List Str} {p e : Str}, G.Walk p r e → ∀ w ∈ r, w ∈ G.ws
  | [], _, _, _, w, h => absurd h List.not_mem_nil
  | x :: r, p, e, hw, w, h => by
    obtain ⟨h1, h2, h3⟩ := hw
    rcases List.mem_cons.mp h with q | q
    · rw [q]; exact h1
    · exact walk_mem h3 w q
theorem walk_len (ok : G.Ok) : ∀ {r : List Str} {p e : Str}, p ∈ G.pl → G.Walk p r e → r.length + G.rk p < 6
  | [], p, e, hp, _ => by have := ok.top p hp; simp; omega
  | w :: r, p, e, hp, hw => by
    obtain ⟨h1, h2, h3⟩ := hw
    have := walk_len ok (ok.toP w h1) h3
    have := ok.up w h1
    rw [h2] at this
    rw [List.length_cons]
    omega
end K23
/-! Loops and comprehensions that walk texts; elements that only make objects. -/
namespace K23
open PySem PySem.Spec PyProof.Rows L2

/-- e gives v, whatever the heap has come to be, and leaves what is tracked -/
def Pu (te : TE) (σ : L2.St) (H : Hp) (v : V) : Prop := ∀ H1, Same H H1 → ∀ Q : VK, (∀ H2, Same H1 H2 → Q v H2) → te σ H1 Q
def PuT (tt : TT) (σ : L2.St) (H : Hp) (b : Bool) : Prop := ∀ H1, Same H H1 → ∀ Q : Bool → Hp → Prop, (∀ H2, Same H1 H2 → Q b H2) → tt σ H1 Q
theorem puT_yes {σ : L2.St} {H : Hp} : PuT tYes σ H true := fun H1 _ Q q => q H1 (Same.refl _)
theorem Pu.mono {te : TE} {σ : L2.St} {H H' : Hp} {v : V} (s : Same H H') (h : Pu te σ H v) : Pu te σ H' v := fun H1 s1 Q q => h H1 (s.trans s1) Q q
theorem pu_var {i : Nat} {σ : L2.St} {H : Hp} {v : V} (h : σ[i]? = some (some v)) : Pu (tVar i) σ H v := fun H1 _ Q q => ⟨v, h, q H1 (Same.refl _)⟩

/-- an iterator that yields the texts xs -/
structure StrIt (J : It) (xs : List Str) (B : Hp) : Prop where
  go : ∀ i H, Same B H → i < xs.length → J.go i H
  stop : ∀ H, Same B H → J.stop xs.length H
  yld : ∀ i H v H2, Same B H → J.yld i H v H2 → H2 = H ∧ ∃ x, xs[i]? = some x ∧ v = .str x
theorem si_list {K : PySem.W.Frag} {a : Addr} {xs : List Str} {B : Hp} (h : B a = some (strL xs)) : StrIt (Itl K a) xs B where
  go := fun i H s hi => ⟨_, .str xs[i], SqL.of (s _ _ h), by rw [List.getElem?_map, List.getElem?_eq_getElem hi]; rfl⟩
  stop := fun H s => ⟨_, SqL.of (s _ _ h), by rw [List.length_map]; exact Nat.le_refl _⟩
  yld := fun i H v H2 s y => by
    obtain ⟨e, y⟩ := y
    exact ⟨e, getMap (y _ (SqL.of (s _ _ h)))⟩
theorem si_tup {K : PySem.W.Frag} {a : Addr} {xs : List Str} {B : Hp} (h : B a = some (.tup (xs.map V.str))) : StrIt (Itt K a) xs B where
  go := fun i H s hi => ⟨_, .str xs[i], SqT.of (s _ _ h), by rw [List.getElem?_map, List.getElem?_eq_getElem hi]; rfl⟩
  stop := fun H s => ⟨_, SqT.of (s _ _ h), by rw [List.length_map]; exact Nat.le_refl _⟩
  yld := fun i H v H2 s y => by
    obtain ⟨e, y⟩ := y
    exact ⟨e, getMap (y _ (SqT.of (s _ _ h)))⟩
theorem si_keys {d : Addr} {od : Obj} {xs : List Str} {v : Str → V} {B : Hp} (h : B d = some (.frz od (.dK (kd xs v)))) : StrIt (Itk d od (kd xs v)) xs B where
  go := fun i H s hi => ⟨s _ _ h, by rw [kd_len]; exact hi⟩
  stop := fun H s => ⟨s _ _ h, by rw [kd_len]; exact Nat.le_refl _⟩
  yld := fun i H u H2 s y => by
    obtain ⟨e, k, z, hk, rfl⟩ := y
    obtain ⟨x, hx, q⟩ := getMap hk
    cases q
    exact ⟨e, x, hx, rfl⟩

/-- a heap in which one thing is known -/
def one (a : Addr) (o : HO) : Hp := fun b => if b = a then some o else none
theorem one_at {a : Addr} {o : HO} : one a o a = some o := if_pos rfl
theorem same_one {H : Hp} {a : Addr} {o : HO} (h : H a = some o) : Same (one a o) H := fun b u e => by
  unfold one at e
  by_cases c : b = a
  · rw [if_pos c] at e
    rw [c, h]
    exact e
  · rw [if_neg c] at e
    cases e
theorem filter_yes {α : Type} (l : List α) : (l.filter fun _ => true) = l := List.filter_eq_self.mpr fun _ _ => rfl
theorem for_si {J : It} {xs : List Str} {B : Hp} {g : TG} {tb : TS} {D : Ends} {σ : L2.St} {H : Hp} (hJ : StrIt J xs B) (Pv : Nat → L2.St → Hp → Prop) (h0 : Pv 0 σ H) (hB : ∀ i σ H, Pv i σ H → Same B H)
    (hs : ∀ i x σ H, xs[i]? = some x → Pv i σ H → g (.str x) σ H fun σ2 H2 => tb { D with nx := Pv (i + 1), ct := Pv (i + 1), bk := D.nx } σ2 H2) (hd : ∀ σ H, Pv xs.length σ H → D.nx σ H) :
    ∃ W : Nat → Nat → L2.St → Hp → Prop, (∃ m, W 0 m σ H) ∧ ∀ i m σ H, W i m σ H →
      (J.stop i H ∧ D.nx σ H) ∨ (J.go i H ∧ ∃ N : L2.St → Hp → Prop, (∀ σ' H', N σ' H' → ∃ m', m' < m ∧ W (i + 1) m' σ' H') ∧ ∀ x H', J.yld i H x H' → g x σ H' fun σ2 H2 => tb { D with nx := N, ct := N, bk := D.nx } σ2 H2) :=
  for_any (n := xs.length) Pv h0 (fun i σ H hi p => hJ.go i H (hB i σ H p) hi) (fun σ H p => hJ.stop H (hB _ σ H p)) (fun i σ H x H' hi p y => by
    obtain ⟨rfl, z, hz, rfl⟩ := hJ.yld i H x H' (hB i σ H p) y
    exact hs i z σ _ hz p) hd
/-- [e for x in texts if t]: the list of what e gives -/
theorem lc_si {J : It} {xs : List Str} {B : Hp} {j : Nat} {tt : TT} {te : TE} {vs : List Nat} {σ : L2.St} {H1 : Hp} {D : Addr} {Qd : Hp → Prop} (hJ : StrIt J xs B) (sB : Same B H1) (hD : H1 D = none) (hl : xs.length ≤ 1000) (t : Str → Bool) (f : Str → V)
    (hw : ∀ x, wipe ((wipe σ vs).set j (some x)) vs = wipe σ vs) (ht : ∀ x ∈ xs, PuT tt ((wipe σ vs).set j (some (.str x))) H1 (t x)) (he : ∀ x ∈ xs, t x = true → Pu te ((wipe σ vs).set j (some (.str x))) H1 (f x))
    (hd : ∀ H', Same H1 H' → H' D = some (.lst ((xs.filter t).map f)) → Qd H') :
    ∃ W : Nat → Nat → Hp → Prop, (∃ m, W 0 m (upd H1 D (.lst []))) ∧ ∀ i m H, W i m H →
      (J.stop i H ∧ Qd H) ∨ (J.go i H ∧ ∃ Nx : Hp → Prop, (∀ H', Nx H' → ∃ m', m' < m ∧ W (i + 1) m' H') ∧ ∀ x H', J.yld i H x H' → (gName j) x (wipe σ vs) H' fun σ2 H2 => wipe σ2 vs = wipe σ vs ∧ tt σ2 H2 fun b H3 =>
        if b = true then te σ2 H3 fun y H4 => ∃ acc, H4 D = some (.lst acc) ∧ acc.length < sizeLine ∧ Nx (upd H4 D (.lst (acc ++ [y]))) else Nx H3) := by
  refine lc_any (n := xs.length) (fun i H' => Same H1 H' ∧ H' D = some (.lst (((xs.take i).filter t).map f))) ⟨Same.new hD, upd_same⟩ (fun i H hi p => hJ.go i H (sB.trans p.1) hi) (fun H p => hJ.stop H (sB.trans p.1)) ?_ fun H p => hd H p.1 (by have := p.2; rwa [List.take_length] at this)
  rintro i H v H2 hi ⟨s1, hd1⟩ y
  obtain ⟨rfl, x, hx, rfl⟩ := hJ.yld i H v H2 (sB.trans s1) y
  have xm := List.mem_of_getElem? hx
  refine ⟨hw _, ht x xm H2 s1 _ fun H3 s3 => ?_⟩
  have hd3 := s3 _ _ hd1
  cases c : t x with
  | false =>
    refine iteF ⟨s1.trans s3, ?_⟩
    rw [take_snoc hx, List.filter_append, List.filter_cons, if_neg (by rw [c]; decide)]
    rw [List.filter_nil, List.append_nil]
    exact hd3
  | true =>
    refine iteT (he x xm c H3 (s1.trans s3) _ fun H4 s4 => ⟨_, s4 _ _ hd3, ?_, ((s1.trans s3).trans s4).mut hD, ?_⟩)
    · rw [List.length_map]
      have h1 := List.length_filter_le t (xs.take i)
      have h2 : (xs.take i).length ≤ xs.length := by rw [List.length_take]; exact Nat.min_le_right _ _
      exact Nat.lt_of_le_of_lt (show _ ≤ 1000 by omega) (by decide)
    · rw [upd_same, take_snoc hx, List.filter_append, List.filter_cons, if_pos c, List.filter_nil, List.map_append]
      rfl
/-- {x: e for x in texts}: e gives f x -/
theorem dc_si {J : It} {xs : List Str} {B : Hp} {j : Nat} {tk tv : TE} {vs : List Nat} {σ : L2.St} {H1 : Hp} {D : Addr} {Qd : Hp → Prop} (hJ : StrIt J xs B) (sB : Same B H1) (hD : H1 D = none) (hl : xs.length ≤ 1000) (nd : xs.Nodup) (f : Str → V)
    (hw : ∀ x, wipe ((wipe σ vs).set j (some x)) vs = wipe σ vs) (hk : ∀ x ∈ xs, Pu tk ((wipe σ vs).set j (some (.str x))) H1 (.str x)) (he : ∀ x ∈ xs, Pu tv ((wipe σ vs).set j (some (.str x))) H1 (f x))
    (hd : ∀ H', Same H1 H' → H' D = some (.dK (kd xs f)) → Qd H') :
    ∃ W : Nat → Nat → Hp → Prop, (∃ m, W 0 m (upd H1 D (.dK []))) ∧ ∀ i m H, W i m H →
      (J.stop i H ∧ Qd H) ∨ (J.go i H ∧ ∃ Nx : Hp → Prop, (∀ H', Nx H' → ∃ m', m' < m ∧ W (i + 1) m' H') ∧ ∀ x H', J.yld i H x H' → (gName j) x (wipe σ vs) H' fun σ2 H2 => wipe σ2 vs = wipe σ vs ∧ tYes σ2 H2 fun b H3 =>
        if b = true then tk σ2 H3 fun y H4 => tv σ2 H4 fun z H5 => ∃ kvs k, y = kV k ∧ H5 D = some (.dK kvs) ∧ kvs.length < sizeLine ∧ Nx (upd H5 D (.dK (putK kvs k z))) else Nx H3) := by
  refine dc_any (n := xs.length) (fun i H' => Same H1 H' ∧ H' D = some (.dK (kd (xs.take i) f))) ⟨Same.new hD, upd_same⟩ (fun i H hi p => hJ.go i H (sB.trans p.1) hi) (fun H p => hJ.stop H (sB.trans p.1)) ?_ fun H p => hd H p.1 (by have := p.2; rwa [List.take_length] at this)
  rintro i H v H2 hi ⟨s1, hd1⟩ y
  obtain ⟨rfl, x, hx, rfl⟩ := hJ.yld i H v H2 (sB.trans s1) y
  have xm := List.mem_of_getElem? hx
  refine ⟨hw _, ?_⟩
  refine hk x xm H2 s1 _ fun H4 s4 => ?_
  refine he x xm H4 (s1.trans s4) _ fun H5 s5 => ?_
  refine ⟨_, .inr x, rfl, s5 _ _ (s4 _ _ hd1), ?_, ((s1.trans s4).trans s5).mut hD, ?_⟩
  · rw [kd_len, List.length_take]
    exact Nat.lt_of_le_of_lt (show _ ≤ 1000 by omega) (by decide)
  · rw [upd_same, kd_snoc (take_not nd hx), take_snoc hx]
/-- .. e gives a new object each time, with the content f x -/
theorem dc_siR {J : It} {xs : List Str} {B : Hp} {j : Nat} {tk tv : TE} {vs : List Nat} {σ : L2.St} {H1 : Hp} {D : Addr} {Qd : Hp → Prop} (hJ : StrIt J xs B) (sB : Same B H1) (hD : H1 D = none) (hl : xs.length ≤ 1000) (nd : xs.Nodup) (f : Str → HO)
    (hw : ∀ x, wipe ((wipe σ vs).set j (some x)) vs = wipe σ vs) (hk : ∀ x ∈ xs, Pu tk ((wipe σ vs).set j (some (.str x))) H1 (.str x))
    (he : ∀ x ∈ xs, ∀ H2, Same H1 H2 → ∀ Q : VK, (∀ p H3, Same H2 H3 → p ≠ D → H3 p = some (f x) → Q (.ref p) H3) → (∃ kvs, H2 D = some (.dK kvs)) → tv ((wipe σ vs).set j (some (.str x))) H2 Q)
    (hd : ∀ H', Same H1 H' → RU H' D xs f → Qd H') :
    ∃ W : Nat → Nat → Hp → Prop, (∃ m, W 0 m (upd H1 D (.dK []))) ∧ ∀ i m H, W i m H →
      (J.stop i H ∧ Qd H) ∨ (J.go i H ∧ ∃ Nx : Hp → Prop, (∀ H', Nx H' → ∃ m', m' < m ∧ W (i + 1) m' H') ∧ ∀ x H', J.yld i H x H' → (gName j) x (wipe σ vs) H' fun σ2 H2 => wipe σ2 vs = wipe σ vs ∧ tYes σ2 H2 fun b H3 =>
        if b = true then tk σ2 H3 fun y H4 => tv σ2 H4 fun z H5 => ∃ kvs k, y = kV k ∧ H5 D = some (.dK kvs) ∧ kvs.length < sizeLine ∧ Nx (upd H5 D (.dK (putK kvs k z))) else Nx H3) := by
  refine dc_any (n := xs.length) (fun i H' => Same H1 H' ∧ ∃ g : Str → Addr, H' D = some (.dK (kd (xs.take i) fun k => .ref (g k))) ∧ ∀ k ∈ xs.take i, g k ≠ D ∧ H' (g k) = some (f k)) ⟨Same.new hD, fun _ => 0, upd_same, fun k hk => absurd hk (by simp)⟩
    (fun i H hi p => hJ.go i H (sB.trans p.1) hi) (fun H p => hJ.stop H (sB.trans p.1)) ?_ fun H p => hd H p.1 (by
      obtain ⟨_, g, h1, h2⟩ := p
      rw [List.take_length] at h1 h2
      exact ⟨g, h1, fun k hk => (h2 k hk).2⟩)
  rintro i H v H2 hi ⟨s1, g, hd1, hg⟩ y
  obtain ⟨rfl, x, hx, rfl⟩ := hJ.yld i H v H2 (sB.trans s1) y
  have xm := List.mem_of_getElem? hx
  refine ⟨hw _, ?_⟩
  refine hk x xm H2 s1 _ fun H4 s4 => ?_
  refine he x xm H4 (s1.trans s4) _ (fun p H5 s5 np hp => ?_) ⟨_, s4 _ _ hd1⟩
  have nx := take_not nd hx
  refine ⟨_, .inr x, rfl, s5 _ _ (s4 _ _ hd1), ?_, ((s1.trans s4).trans s5).mut hD, setF g x p, ?_, fun k hk => ?_⟩
  · rw [kd_len, List.length_take]
    exact Nat.lt_of_le_of_lt (show _ ≤ 1000 by omega) (by decide)
  · rw [upd_same, kd_put_new nx, take_snoc hx]
    congr 2
    refine kd_congr fun z _ => ?_
    unfold setF
    split <;> rfl
  · rw [take_snoc hx] at hk
    rcases List.mem_append.mp hk with hk | hk
    · have ne : k ≠ x := fun e => nx (e ▸ hk)
      rw [setF_ne ne]
      refine ⟨(hg k hk).1, ?_⟩
      rw [upd_ne (hg k hk).1]
      exact s5 _ _ (s4 _ _ (hg k hk).2)
    · rw [List.mem_singleton.mp hk, setF_same]
      exact ⟨np, by rw [upd_ne np]; exact hp⟩
end K23
namespace K23
open PySem PySem.Spec PyProof.Rows L2
theorem ok_leav_len {G : Prg} (ok : G.Ok) (p : Str) : (G.leav p).length ≤ 1000 := Nat.le_trans (List.length_filter_le _ _) (Nat.le_trans ok.wsL (by decide))
theorem iteB {c : Bool} {A B : Prop} (h : c = true) (a : A) : if c = true then A else B := by rw [if_pos h]; exact a
theorem iteBF {c : Bool} {A B : Prop} (h : c = false) (a : B) : if c = true then A else B := by rw [if_neg (by rw [h]; decide)]; exact a
theorem top_rank {G : Prg} : ∀ {ls : List Str}, ls ≠ [] → ∃ x ∈ ls, ∀ y ∈ ls, G.rk y ≤ G.rk x
  | [], h => absurd rfl h
  | [x], _ => ⟨x, List.mem_cons_self, fun y hy => by rw [List.mem_singleton.mp hy]; exact Nat.le_refl _⟩
  | x :: z :: l, _ => by
    obtain ⟨m, hm, h⟩ := top_rank (G := G) (ls := z :: l) (by simp)
    by_cases c : G.rk x ≤ G.rk m
    · exact ⟨m, List.mem_cons_of_mem _ hm, fun y hy => (List.mem_cons.mp hy).elim (fun e => e ▸ c) (h y)⟩
    · exact ⟨x, List.mem_cons_self, fun y hy => (List.mem_cons.mp hy).elim (fun e => e ▸ Nat.le_refl _) fun q => by have := h y q; omega⟩
section
variable {P : PySem.Program} {w : World} {K : PySem.W.Frag} {mg : Str → Option Value} {base : Heap} {CP CM : Addr} {f : Addr} {fd : FuncData}
/-! ### ways_on -/
/-- what is found so far -/
def OnB (G : Prg) (H : Hp) (df : Addr) (ks : List Str) (H' : Hp) : Prop := Same H H' ∧ ID H' df ks G.many ∧ ks.Nodup ∧ ∀ x ∈ ks, x ∈ G.pl
/-- an element that gives the place to which a way leads -/
theorem pu_to {E : XK} {σ : L2.St} {H : Hp} {G : Prg} {p : Addr} {i j : Nat} {x : Str} (hp : σ[i]? = some (some (.ref p))) (hx : σ[j]? = some (some (.str x))) (hP : PgAt CP H p G) (ok : G.Ok) (xm : x ∈ G.ws) :
    Pu (tOp (rIxT K) (tGI CP (spGet CP) E (tVar i) (tVar j)) (tC (.int 1))) σ H (.str (G.to x)) := fun H1 s1 Q q => by
  have hP1 := hP.mono s1
  refine ⟨_, hp, _, hx, hP1.isI, p, G, x, rfl, hP1, ok.wsW x xm, xm, fun t H2 s2 ht => ?_⟩
  exact ⟨t, _, 1, _, rfl, rfl, SqT.of ht, atI_nat (j := 1) rfl, q _ s2⟩
def spWaysOn (CP : Addr) : Sp := fun vs H Q _ => ∃ p G, vs = [.ref p] ∧ PgAt CP H p G ∧ G.Ok ∧ ∀ d H', Same H H' → H d = none → OnAt H' d G → Q (.ref d) H'
theorem ok_ways_on (L : ClT K mg "Program" CP) (B : Blt mg) (DPl : MeD P w K mg base CX0 1 CP "places" p_P_places (spPlaces CP)) (DX : MeD P w K mg base CX0 1 CP "exits" p_P_exits (spExits CP)) (DL : MeD P w K mg base CX0 3 CP "leaving" p_P_leaving (spLeaving CP)) (DG : MeD P w K mg base CX0 3 CP "__getitem__" p_P_getitem (spGet CP))
    (T : FnT K mg "ways_on" s_ways_on p_ways_on f fd) : FnD P w K mg base CX0 5 "ways_on" p_ways_on (spWaysOn CP) := by
  refine .of T (T.fn.ok sc_ways_on (fun vs H Q E h => ?_) (fun cdv A outer s H vs Q E hr h => ?_))
  · obtain ⟨p, G, rfl, _⟩ := h
    rfl
  · obtain ⟨p, G, rfl, hP, ok, k⟩ := h
    have hu := hu_of hr
    have hr1 : Room 1 _ := hr.mono (by decide)
    have hr3 : Room 3 _ := hr.mono (by decide)
    refine ⟨_, pss_cons (ps_set (i := 1) sc_ways_on.nd rfl (Or.inr rfl) pe_dnewK)
      (pss_cons (ps_set (i := 2) sc_ways_on.nd rfl (Or.inl rfl) (pe_m0 (pv 0) L.cl DPl hr1 pass0))
      (pss_cons (ps_while PassesOwn.never (pt_truth (pv 2) (by intro _; rfl))
        (pss_cons (ps_for PassesOwn.never rfl (pi_list (pe_callTy call_list_of (by rfl) B.list (by decide +kernel) (pa_cons (pv 2) pa_nil))) (pg_name (i := 3) sc_ways_on.nd rfl (Or.inl rfl))
          (pss_cons (ps_setLc (i := 5) (own := [("way", 4)]) (g := gName 4) (tt := tYes) (te := tOp (rIxT K) (tGI CP (spGet CP) E0 (tVar 0) (tVar 4)) (tC (.int 1))) rfl sc_ways_on.nd rfl rfl (sw_true rfl rfl rfl (by decide +kernel)) (pi_list (pe_m (pv 0) L.cl DL hr3 pass0 (pa_cons (pv 3) pa_nil)))
              (blkOk_by (own := [("way", 4)]) (N := N_ways_on) (sc := defScope s_ways_on) (by decide +kernel)) (fun _ _ _ _ _ => pg_name (i := 4) sc_ways_on.nd rfl (Or.inl rfl)) (fun _ _ _ _ _ => pts_nil)
              (fun _ _ _ _ _ => pe_ix ix_tup (pe_gi (pv 0) (pv 4) DG hr pass0) pe_int (fun _ _ => rfl)))
          (pss_one (ps_if (pt_val (pe_callB (cr_all rfl) (by rfl) B.all_ (by decide +kernel) (pa_cons
              (pe_lc (own := [("target", 6)]) (g := gName 6) (tt := tYes) rfl sc_ways_on.nd (pi_list (pv 5)) (blkOk_by (own := [("target", 6)]) (N := N_ways_on) (sc := defScope s_ways_on) (by decide +kernel))
                (fun _ _ _ _ _ => pg_name (i := 6) sc_ways_on.nd rfl (Or.inl rfl)) (fun _ _ _ _ _ => pts_nil) (fun _ _ _ _ _ => pe_cmp (pc_din hu (pv 6) (pv 1)) (by rfl))) pa_nil)))
            (pss_one (ps_dput hu (pv 1) (pv 3) (pe_op op_add (pe_callTy call_int1 (by rfl) B.int (by decide +kernel) (pa_cons (pe_cmpR op_in_seq (pv 3) (pe_m0 (pv 0) L.cl DX hr1 pass0) (by rfl)) pa_nil))
              (pe_callB (cr_sum rfl) (by rfl) B.sum (by decide +kernel) (pa_cons
                (pe_lc (own := [("target", 6)]) (g := gName 6) (tt := tYes) rfl sc_ways_on.nd (pi_list (pv 5)) (blkOk_by (own := [("target", 6)]) (N := N_ways_on) (sc := defScope s_ways_on) (by decide +kernel))
                  (fun _ _ _ _ _ => pg_name (i := 6) sc_ways_on.nd rfl (Or.inl rfl)) (fun _ _ _ _ _ => pts_nil) (fun _ _ _ _ _ => pe_dget hu (pv 1) (pv 6) (fun _ _ => rfl))) pa_nil))) rfl)) pss_nil))))
        (pss_one (ps_setLc (i := 2) (own := [("place", 3)]) (g := gName 3) rfl sc_ways_on.nd rfl rfl (sw_true rfl rfl rfl (by decide +kernel)) (pi_list (pv 2))
          (blkOk_by (own := [("place", 3)]) (N := N_ways_on) (sc := defScope s_ways_on) (by decide +kernel)) (fun _ _ _ _ _ => pg_name (i := 3) sc_ways_on.nd rfl (Or.inl rfl)) (fun _ _ _ _ _ => pts_one (pt_cmp (pc_dnotin hu (pv 3) (pv 1)) (by rfl)))
          (fun _ _ _ _ _ => pv 3)))))
      (pss_one (ps_ret (pv 1))))), ?_⟩
    intro df hdf
    have s0 := Same.new (o := .dK []) hdf
    have hP0 := hP.mono s0
    refine ⟨_, rfl, hP0.isO, p, G, rfl, hP0, fun l0 hl0 => ?_⟩
    have d0 : df ≠ l0 := ne_of_none upd_same hl0
    -- the rounds
    refine ⟨fun m σ' H' => ∃ (ks ls : List Str) (ll : Addr) (v3 v4 v5 v6 : Option V), σ' = [some (.ref p), some (.ref df), some (.ref ll), v3, v4, v5, v6] ∧ OnB G H df ks H' ∧ H' ll = some (strL ls) ∧ ls.Nodup ∧ (∀ x, x ∈ ls ↔ x ∈ G.pl ∧ x ∉ ks) ∧ m = ls.length,
      ⟨G.pl.length, [], G.pl, l0, none, none, none, none, rfl, ⟨s0.trans (Same.new hl0), by unfold ID; rw [upd_ne d0]; exact upd_same, List.nodup_nil, fun x hx => absurd hx List.not_mem_nil⟩, upd_same, ok.plN, fun x => ⟨fun h => ⟨h, List.not_mem_nil⟩, fun h => h.1⟩, rfl⟩, ?_⟩
    rintro m σ' H' ⟨ks, ls, ll, v3, v4, v5, v6, rfl, b, hll, nd, hls, rfl⟩
    refine ⟨_, rfl, _, .inl ⟨_, SqL.of hll, rfl⟩, ?_⟩
    by_cases c0 : ls = []
    · subst c0
      refine iteF ⟨_, rfl, k df H' b.1 hdf ⟨ks, b.2.1, b.2.2.1, fun x => ⟨b.2.2.2 x, fun hx => ?_⟩⟩⟩
      by_cases c : x ∈ ks
      · exact c
      · exact absurd ((hls x).mpr ⟨hx, c⟩) List.not_mem_nil
    have e0 : (!(ls.map V.str).isEmpty) = true := by
      cases ls with
      | nil => exact absurd rfl c0
      | cons _ _ => rfl
    refine iteB e0 ?_
    have lsP : ∀ x ∈ ls, x ∈ G.pl := fun x hx => ((hls x).mp hx).1
    have lsL : ls.length ≤ 40 := Nat.le_trans (subset_len nd lsP) ok.plL
    refine ⟨fun σ2 H2 => ∃ (ks2 ls2 : List Str) (l2 : Addr) (v3 v4 v5 v6 : Option V), σ2 = [some (.ref p), some (.ref df), some (.ref l2), v3, v4, v5, v6] ∧ OnB G H df ks2 H2 ∧ H2 l2 = some (strL ls2) ∧ ls2.Nodup ∧ (∀ x, x ∈ ls2 ↔ x ∈ G.pl ∧ x ∉ ks2) ∧ ls2.length < ls.length,
      fun σ2 H2 ⟨ks2, ls2, l2, v3, v4, v5, v6, e, b2, q1, q2, q3, q4⟩ => ⟨ls2.length, q4, ks2, ls2, l2, v3, v4, v5, v6, e, b2, q1, q2, q3, rfl⟩, ?_⟩
    refine ⟨_, rfl, ll, _, rfl, .inl (SqL.of hll), fun lc hlc => ⟨lc, rfl, ⟨_, SqL.of upd_same⟩, for_si (si_list one_at) (fun i σ2 H2 => ∃ (ks2 : List Str) (v3 v4 v5 v6 : Option V), σ2 = [some (.ref p), some (.ref df), some (.ref ll), v3, v4, v5, v6] ∧ OnB G H df ks2 H2 ∧ (∀ x ∈ ks, x ∈ ks2) ∧ H2 ll = some (strL ls) ∧ H2 lc = some (strL ls) ∧ ∀ j x, j < i → ls[j]? = some x → (∀ w ∈ G.leav x, G.to w ∈ ks) → x ∈ ks2)
      ⟨ks, v3, v4, v5, v6, rfl, ⟨b.1.trans (Same.new hlc), b.2.1.mono (Same.new hlc), b.2.2⟩, fun x hx => hx, Same.new hlc _ _ hll, upd_same, fun j x hj => absurd hj (Nat.not_lt_zero _)⟩ (fun i σ2 H2 ⟨_, _, _, _, _, _, _, _, _, z, _⟩ => same_one z) ?_ ?_⟩⟩
    · rintro i x σ2 H2 hx ⟨ks2, v3, v4, v5, v6, rfl, b2, sub, h2l, h2c, done⟩
      have xm := List.mem_of_getElem? hx
      have xp := lsP x xm
      have hP2 := hP.mono b2.1
      -- targets
      refine ⟨_, rfl, hP2.isO, _, rfl, p, G, x, rfl, hP2, ok.plW x xp, xp, fun lt H3 s3 hlt hlt' => ⟨lt, rfl, ⟨_, SqL.of hlt'⟩, fun D hD =>
        lc_si (si_list hlt') (Same.refl _) hD (ok_leav_len ok x) (fun _ => true) (fun w => .str (G.to w)) (fun _ => rfl) (fun _ _ => puT_yes) (fun y hy _ => pu_to rfl rfl (hP2.mono s3) ok (Prg.mem_leav.mp hy).1) fun H4 s4 hD4 => ?_⟩⟩
      rw [filter_yes] at hD4
      have hD4 : H4 D = some (strL ((G.leav x).map G.to)) := by
        unfold strL
        rw [List.map_map]
        exact hD4
      have s24 := s3.trans s4
      have tL : ((G.leav x).map G.to).length ≤ 1000 := by rw [List.length_map]; exact ok_leav_len ok x
      have f4 : H4 df = some (.dK (kd ks2 fun z => .int (G.many z))) := s24 _ _ b2.2.1
      -- all of them found?
      refine ⟨_, rfl, D, rfl, ⟨_, SqL.of hD4⟩, fun D2 hD2 => lc_si (si_list hD4) (Same.refl _) hD2 tL (fun _ => true) (fun t => .bl (decide (t ∈ ks2))) (fun _ => rfl) (fun _ _ => puT_yes) (fun y hy _ => ?_) fun H5 s5 hD5 => ?_⟩
      · intro H1 s1 Q' q
        refine ⟨_, rfl, _, rfl, df, _, rfl, .inl ⟨_, Sum.inr y, .inl (s1 _ _ f4), rfl, rfl⟩, ?_⟩
        rw [kd_val]
        by_cases c : y ∈ ks2
        · rw [if_pos c]
          have := q H1 (Same.refl _)
          rw [decide_eq_true c] at this
          exact this
        · rw [if_neg c]
          have := q H1 (Same.refl _)
          rw [decide_eq_false c] at this
          exact this
      rw [filter_yes] at hD5
      refine ⟨D2, ((G.leav x).map G.to).map (fun t => decide (t ∈ ks2)), rfl, SqL.of (by rw [List.map_map]; exact hD5), _, rfl, ?_⟩
      have s25 := s24.trans s5
      have b5 : OnB G H df ks2 H5 := ⟨b2.1.trans s25, b2.2.1.mono s25, b2.2.2⟩
      refine ite2 (fun hall => ?_) (fun hall => ?_)
      · have hall' : ∀ w ∈ G.leav x, G.to w ∈ ks2 := fun w hw => by
          have q := List.all_eq_true.mp hall (decide (G.to w ∈ ks2)) (List.mem_map.mpr ⟨G.to w, List.mem_map.mpr ⟨w, hw, rfl⟩, rfl⟩)
          exact of_decide_eq_true q
        have hP5 := hP2.mono s25
        refine ⟨_, rfl, _, rfl, hP5.isO, p, G, rfl, hP5, fun lx hlx => ⟨lx, _, rfl, .inl (SqL.of upd_same), rfl, flat_strs _, .inr ⟨_, rfl, ?_⟩⟩⟩
        have s6 := Same.new (o := strL G.ex) hlx
        have hD6 := s6 _ _ (s5 _ _ hD4)
        refine ⟨_, rfl, D, rfl, ⟨_, SqL.of hD6⟩, fun D3 hD3 => lc_si (si_list hD6) (Same.refl _) hD3 tL (fun _ => true) (fun t => .int (G.many t)) (fun _ => rfl) (fun _ _ => puT_yes) (fun y hy _ => ?_) fun H7 s7 hD7 => ?_⟩
        · intro H1 s1 Q' q
          obtain ⟨wy, hwy, rfl⟩ := List.mem_map.mp hy
          exact ⟨_, rfl, _, rfl, df, _, rfl, .inl ⟨_, Sum.inr (G.to wy), .inl (s1 _ _ (s6 _ _ (s5 _ _ f4))), rfl, (kd_in (v := fun z => V.int (G.many z)) (hall' wy hwy)).symm⟩, q H1 (Same.refl _)⟩
        rw [filter_yes] at hD7
        refine ⟨D3, ((G.leav x).map G.to).map G.many, rfl, SqL.of (by rw [List.map_map]; exact hD7), _, _, rfl, rfl, ?_⟩
        have s27 := (s25.trans s6).trans s7
        have kL : ks2.length ≤ 40 := Nat.le_trans (subset_len b2.2.2.1 b2.2.2.2) ok.plL
        refine ⟨_, rfl, _, rfl, df, _, rfl, DPut.k (k := Sum.inr x) (s27 _ _ b2.2.1) (by rw [kd_len]; exact Nat.lt_of_le_of_lt kL (by decide)), ?_⟩
        have val : (if inV (.str x) (G.ex.map V.str) = true then (1 : Int) else 0) + (((G.leav x).map G.to).map G.many).sum = G.many x := by
          rw [many_eq ok xp, inV_str, List.map_map]
          congr 1
          simp only [decide_eq_true_eq]
        refine ⟨if x ∈ ks2 then ks2 else ks2 ++ [x], _, _, _, _, rfl, ⟨(b2.1.trans s27).mut hdf, ?_, ?_, fun z hz => ?_⟩, fun z hz => ?_, ?_, ?_, fun j z hj hz ht => ?_⟩
        · unfold ID
          rw [upd_same, kd_put]
          congr 2
          refine kd_congr fun z _ => ?_
          by_cases e : z = x
          · rw [e, setF_same]
            exact congrArg V.int val
          · rw [setF_ne e]
        · split
          · exact b2.2.2.1
          · rename_i h
            exact nd_snoc b2.2.2.1 h
        · split at hz
          · exact b2.2.2.2 z hz
          · rcases List.mem_append.mp hz with q | q
            · exact b2.2.2.2 z q
            · rw [List.mem_singleton.mp q]; exact xp
        · split
          · exact sub z hz
          · exact List.mem_append_left _ (sub z hz)
        · rw [upd_ne (ne_of h2l b2.2.1 (by intro q; cases q))]
          exact s27 _ _ h2l
        · rw [upd_ne (ne_of h2c b2.2.1 (by intro q; cases q))]
          exact s27 _ _ h2c
        · by_cases e : j = i
          · rw [e, hx] at hz
            cases hz
            split
            · assumption
            · exact List.mem_append_right _ (List.mem_singleton.mpr rfl)
          · have := done j z (by omega) hz ht
            split
            · exact this
            · exact List.mem_append_left _ this
      · refine ⟨ks2, _, _, _, _, rfl, b5, sub, s25 _ _ h2l, s25 _ _ h2c, fun j z hj hz ht => ?_⟩
        by_cases e : j = i
        · rw [e, hx] at hz
          cases hz
          refine absurd ?_ hall
          rw [List.all_eq_true]
          intro u hu
          obtain ⟨t, ht', rfl⟩ := List.mem_map.mp hu
          obtain ⟨w, hw, rfl⟩ := List.mem_map.mp ht'
          exact decide_eq_true (sub _ (ht w hw))
        · exact done j z (by omega) hz ht
    · rintro σ2 H2 ⟨ks2, v3, v4, v5, v6, rfl, b2, sub, h2l, h2c, done⟩
      refine ⟨_, rfl, ll, rfl, ⟨_, SqL.of h2l⟩, fun D hD => lc_si (si_list h2l) (Same.refl _) hD (Nat.le_trans lsL (by decide)) (fun x => !decide (x ∈ ks2)) V.str (fun _ => rfl) (fun y hy => ?_) (fun y hy _ => pu_var rfl) fun H3 s3 hD3 => ?_⟩
      · intro H1 s1 Q' q
        refine ⟨_, rfl, _, rfl, df, _, rfl, .inl ⟨_, Sum.inr y, .inl (s1 _ _ b2.2.1), rfl, rfl⟩, _, rfl, ?_⟩
        rw [kd_val]
        by_cases c : y ∈ ks2
        · rw [if_pos c]
          have := q H1 (Same.refl _)
          rw [decide_eq_true c] at this
          exact this
        · rw [if_neg c]
          have := q H1 (Same.refl _)
          rw [decide_eq_false c] at this
          exact this
      have mem2 : ∀ x, x ∈ (ls.filter fun x => !decide (x ∈ ks2)) ↔ x ∈ G.pl ∧ x ∉ ks2 := fun x => by
        rw [List.mem_filter, hls x, Bool.not_eq_true', decide_eq_false_iff_not]
        exact ⟨fun h => ⟨h.1.1, h.2⟩, fun h => ⟨⟨h.1, fun z => h.2 (sub x z)⟩, h.2⟩⟩
      refine ⟨ks2, _, D, _, _, _, _, rfl, ⟨b2.1.trans s3, b2.2.1.mono s3, b2.2.2⟩, hD3, nd.filter _, mem2, ?_⟩
      obtain ⟨x0, hx0, hmax⟩ := top_rank (G := G) c0
      obtain ⟨j, hj⟩ := List.mem_iff_getElem?.mp hx0
      have jl : j < ls.length := (List.getElem?_eq_some_iff.mp hj).1
      have hin : x0 ∈ ks2 := done j x0 jl hj fun w hw => by
        obtain ⟨q1, q2⟩ := leav_pl ok hw
        by_cases c : G.to w ∈ ks
        · exact c
        · have := hmax _ ((hls (G.to w)).mpr ⟨q1, c⟩)
          omega
      exact List.length_filter_lt_length_iff_exists.mpr ⟨x0, hx0, by simp [hin]⟩
end
end K23
namespace K23
open PySem PySem.Spec PyProof.Rows L2
section
variable {P : PySem.Program} {w : World} {K : PySem.W.Frag} {mg : Str → Option Value} {base : Heap} {CP CM : Addr} {f : Addr} {fd : FuncData}
/-! ### first_steps -/
/-- a dict of ints takes one more -/
theorem id_put {H : Hp} {d : Addr} {ks : List Str} {g : Str → Int} {x : Str} {i : Int} (h : ID H d ks g) (hl : ks.length ≤ 1000) (e : g x = i) : ∃ H', DPut H d (.str x) (.int i) H' ∧ H' = upd H d (.dK (kd (if x ∈ ks then ks else ks ++ [x]) fun k => .int (g k))) := by
  refine ⟨_, DPut.k (k := Sum.inr x) h (by rw [kd_len]; exact Nat.lt_of_le_of_lt hl (by decide)), ?_⟩
  rw [kd_put]
  congr 2
  refine kd_congr fun z _ => ?_
  by_cases c : z = x
  · rw [c, setF_same, e]
  · rw [setF_ne c]
theorem at_len {α : Type} {l : List α} {i : Nat} {x : α} (h : l[i]? = some x) : i < l.length := (List.getElem?_eq_some_iff.mp h).1
def spFirst (CP : Addr) : Sp := fun vs H Q _ => ∃ p d1 G, vs = [.ref p, .ref d1] ∧ PgAt CP H p G ∧ G.Ok ∧ OnAt H d1 G ∧ ∀ d H', Same H H' → H d = none → ID H' d G.ws G.base → Q (.ref d) H'
theorem ok_first_steps (L : ClT K mg "Program" CP) (B : Blt mg) (DPl : MeD P w K mg base CX0 1 CP "places" p_P_places (spPlaces CP)) (DW : MeD P w K mg base CX0 1 CP "ways" p_P_ways (spWays CP)) (DX : MeD P w K mg base CX0 1 CP "exits" p_P_exits (spExits CP)) (DL : MeD P w K mg base CX0 3 CP "leaving" p_P_leaving (spLeaving CP)) (DG : MeD P w K mg base CX0 3 CP "__getitem__" p_P_getitem (spGet CP))
    (T : FnT K mg "first_steps" s_first_steps p_first_steps f fd) : FnD P w K mg base CX0 5 "first_steps" p_first_steps (spFirst CP) := by
  refine .of T (T.fn.ok sc_first_steps (fun vs H Q E h => ?_) (fun cdv A outer s H vs Q E hr h => ?_))
  · obtain ⟨p, d1, G, rfl, _⟩ := h
    rfl
  · obtain ⟨p, d1, G, rfl, hP, ok, hO, k⟩ := h
    have hu := hu_of hr
    have hr1 : Room 1 _ := hr.mono (by decide)
    have hr3 : Room 3 _ := hr.mono (by decide)
    refine ⟨_, pss_cons (ps_set (i := 2) sc_first_steps.nd rfl (Or.inr rfl) pe_dnewK)
      (pss_cons (ps_for PassesOwn.never rfl (pi_list (pe_m0 (pv 0) L.cl DPl hr1 pass0)) (pg_name (i := 3) sc_first_steps.nd rfl (Or.inl rfl))
        (pss_cons (ps_set (i := 4) sc_first_steps.nd rfl (Or.inl rfl) (pe_callTy call_int1 (by rfl) B.int (by decide +kernel) (pa_cons (pe_cmpR op_in_seq (pv 3) (pe_m0 (pv 0) L.cl DX hr1 pass0) (by rfl)) pa_nil)))
        (pss_one (ps_for PassesOwn.never rfl (pi_list (pe_m (pv 0) L.cl DL hr3 pass0 (pa_cons (pv 3) pa_nil))) (pg_name (i := 5) sc_first_steps.nd rfl (Or.inl rfl))
          (pss_cons (ps_dput hu (pv 2) (pv 5) (pv 4) rfl)
          (pss_one (ps_aug (i := 4) sc_first_steps.nd rfl (Or.inl rfl) (pe_dget hu (pv 1) (pe_ix ix_tup (pe_gi (pv 0) (pv 5) DG hr pass0) pe_int (fun _ _ => rfl)) (fun _ _ => rfl)) ip_add)))))))
      (pss_one (ps_ret (pe_dc (own := [("way", 5)]) (g := gName 5) (tt := tYes) (tk := tVar 5) (tv := tDGet (tVar 2) (tVar 5)) rfl sc_first_steps.nd (pi_list (pe_m0 (pv 0) L.cl DW hr1 pass0)) (blkOk_by (own := [("way", 5)]) (N := N_first_steps) (sc := defScope s_first_steps) (by decide +kernel))
        (fun _ _ _ _ _ => pg_name (i := 5) sc_first_steps.nd rfl (Or.inl rfl)) (fun _ _ _ _ _ => pts_nil) (fun _ _ _ _ _ => pv 5) (fun _ _ _ _ _ => pe_dget hu (pv 2) (pv 5) (fun _ _ => rfl)))))), ?_⟩
    intro ds hds
    have s0 := Same.new (o := .dK []) hds
    have hP0 := hP.mono s0
    refine ⟨_, rfl, hP0.isO, p, G, rfl, hP0, fun lp hlp => ⟨lp, rfl, ⟨_, SqL.of upd_same⟩, ?_⟩⟩
    have d0 : ds ≠ lp := ne_of_none upd_same hlp
    refine for_si (si_list one_at) (fun i σ' H' => ∃ (ks : List Str) (v3 v4 v5 : Option V), σ' = [some (.ref p), some (.ref d1), some (.ref ds), v3, v4, v5] ∧ Same H H' ∧ ID H' ds ks G.base ∧ (∀ x ∈ ks, x ∈ G.ws) ∧ ks.Nodup ∧ H' lp = some (strL G.pl) ∧ ∀ x ∈ G.ws, G.fr x ∈ G.pl.take i → x ∈ ks)
      ⟨[], none, none, none, rfl, s0.trans (Same.new hlp), by unfold ID; rw [upd_ne d0]; exact upd_same, fun x hx => absurd hx List.not_mem_nil, List.nodup_nil, upd_same, fun x _ hx => absurd hx (by simp)⟩ (fun i σ' H' ⟨_, _, _, _, _, _, _, _, _, z, _⟩ => same_one z) ?_ ?_
    · rintro i x σ' H1 hx ⟨ks, v3, v4, v5, rfl, s1, hI, sub, nd, hl, done⟩
      have xp := List.mem_of_getElem? hx
      have hP1 := hP.mono s1
      refine ⟨_, rfl, _, rfl, hP1.isO, p, G, rfl, hP1, fun lx hlx => ⟨lx, _, rfl, .inl (SqL.of upd_same), rfl, flat_strs _, .inr ⟨_, rfl, ?_⟩⟩⟩
      have s2 := s1.trans (Same.new (o := strL G.ex) hlx)
      have hP2 := hP.mono s2
      have hI2 := hI.mono (Same.new (o := strL G.ex) hlx)
      have hl2 := Same.new (o := strL G.ex) hlx _ _ hl
      refine ⟨_, rfl, hP2.isO, _, rfl, p, G, x, rfl, hP2, ok.plW x xp, xp, fun lw H3 s3 hlw hlw' => ⟨lw, rfl, ⟨_, SqL.of hlw'⟩, ?_⟩⟩
      have nlw : ds ≠ lw := ne_of_none hI2 hlw
      have nlp : lp ≠ lw := ne_of_none hl2 hlw
      refine for_si (si_list one_at) (fun j σ' H' => ∃ (ks2 : List Str) (v5 : Option V), σ' = [some (.ref p), some (.ref d1), some (.ref ds), some (.str x), some (.int ((if x ∈ G.ex then 1 else 0) + (((G.leav x).take j).map fun y => G.many (G.to y)).sum)), v5] ∧ Same H H' ∧ ID H' ds ks2 G.base ∧ (∀ x ∈ ks2, x ∈ G.ws) ∧ ks2.Nodup ∧ H' lp = some (strL G.pl) ∧ H' lw = some (strL (G.leav x)) ∧ (∀ y ∈ ks, y ∈ ks2) ∧ ∀ y ∈ (G.leav x).take j, y ∈ ks2)
        ⟨ks, v5, ?_, s2.trans s3, hI2.mono s3, sub, nd, s3 _ _ hl2, hlw', fun y hy => hy, fun y hy => absurd hy (by simp)⟩ (fun i σ' H' ⟨_, _, _, _, _, _, _, _, z, _⟩ => same_one z) ?_ ?_
      · show [some (V.ref p), some (V.ref d1), some (V.ref ds), some (V.str x), some (V.int (if inV (.str x) (G.ex.map V.str) = true then 1 else 0)), v5] = _
        rw [inV_str]
        simp
      · rintro j y σ' H4 hy ⟨ks2, v5, rfl, s4, hI4, sub4, nd4, hl4, hlw4, up4, done4⟩
        have ym := List.mem_of_getElem? hy
        obtain ⟨yw, yf⟩ := Prg.mem_leav.mp ym
        have val : G.base y = (if x ∈ G.ex then 1 else 0) + (((G.leav x).take j).map fun y => G.many (G.to y)).sum := by rw [base_of ym, ahead_at (leav_nd ok x) hy]
        have kl : ks2.length ≤ 40 := Nat.le_trans (subset_len nd4 sub4) ok.wsL
        obtain ⟨H5, hput, rfl⟩ := id_put hI4 (Nat.le_trans kl (by decide)) val
        refine ⟨_, rfl, _, rfl, _, rfl, ds, _, rfl, hput, ?_⟩
        have s5 := s4.mut (o := .dK (kd (if y ∈ ks2 then ks2 else ks2 ++ [y]) fun k => .int (G.base k))) hds
        have hP5 := hP.mono s5
        refine ⟨_, rfl, _, rfl, _, rfl, _, rfl, hP5.isI, p, G, y, rfl, hP5, ok.wsW y yw, yw, fun t H6 s6 ht => ?_⟩
        refine ⟨t, _, 1, _, rfl, rfl, SqT.of ht, atI_nat (j := 1) rfl, ?_⟩
        obtain ⟨kO, hO1, hO2, hO3⟩ := hO.mono (s5.trans s6)
        refine ⟨d1, _, rfl, .inl ⟨_, Sum.inr (G.to y), .inl hO1, rfl, (kd_in (v := fun z => V.int (G.many z)) ((hO3 _).mpr (ok.toP y yw))).symm⟩, ?_⟩
        refine ⟨_, _, rfl, rfl, ?_⟩
        refine ⟨if y ∈ ks2 then ks2 else ks2 ++ [y], some (.str y), ?_, s5.trans s6, s6 _ _ upd_same, ?_, ?_, s6 _ _ (by rw [upd_ne (ne_of hl4 hI4 (by intro q; cases q))]; exact hl4), s6 _ _ (by rw [upd_ne (ne_of hlw4 hI4 (by intro q; cases q))]; exact hlw4), fun z hz => ?_, fun z hz => ?_⟩
        · show [some (V.ref p), some (V.ref d1), some (V.ref ds), some (V.str x), some (V.int (_ + G.many (G.to y))), some (V.str y)] = _
          rw [take_snoc hy, List.map_append, List.sum_append]
          simp [Int.add_assoc]
        · intro z hz
          split at hz
          · exact sub4 z hz
          · rcases List.mem_append.mp hz with q | q
            · exact sub4 z q
            · rw [List.mem_singleton.mp q]; exact yw
        · split
          · exact nd4
          · rename_i h
            exact nd_snoc nd4 h
        · split
          · exact up4 z hz
          · exact List.mem_append_left _ (up4 z hz)
        · rw [take_snoc hy] at hz
          rcases List.mem_append.mp hz with q | q
          · split
            · exact done4 z q
            · exact List.mem_append_left _ (done4 z q)
          · rw [List.mem_singleton.mp q]
            split
            · assumption
            · exact List.mem_append_right _ (List.mem_singleton.mpr rfl)
      · rintro σ' H4 ⟨ks2, v5, rfl, s4, hI4, sub4, nd4, hl4, hlw4, up4, done4⟩
        rw [List.take_length] at done4
        refine ⟨ks2, _, _, _, rfl, s4, hI4, sub4, nd4, hl4, fun z hz hf => ?_⟩
        rw [take_snoc hx] at hf
        rcases List.mem_append.mp hf with q | q
        · exact up4 z (done z hz q)
        · exact done4 z (Prg.mem_leav.mpr ⟨hz, List.mem_singleton.mp q⟩)
    · rintro σ' H1 ⟨ks, v3, v4, v5, rfl, s1, hI, sub, nd, hl, done⟩
      rw [List.take_length] at done
      have hP1 := hP.mono s1
      refine ⟨_, rfl, hP1.isO, p, G, rfl, hP1, fun lw hlw => ⟨lw, rfl, ⟨_, SqL.of upd_same⟩, fun D hD => ?_⟩⟩
      have s2 := Same.new (o := strL G.ws) hlw
      refine dc_si (si_list (B := upd H1 lw (strL G.ws)) upd_same) (Same.refl _) hD (Nat.le_trans ok.wsL (by decide)) ok.wsN (fun x => V.int (G.base x)) (fun _ => rfl) (fun y _ => pu_var rfl) (fun y hy => ?_) fun H3 s3 hD3 => k D H3 ((s1.trans s2).trans s3) ((s1.trans s2).free hD) hD3
      intro H4 s4 Q' q
      exact ⟨_, rfl, _, rfl, ds, _, rfl, .inl ⟨_, Sum.inr y, .inl (s4 _ _ (s2 _ _ hI)), rfl, (kd_in (v := fun z => V.int (G.base z)) (done y hy (ok.frP y hy))).symm⟩, q H4 (Same.refl _)⟩
/-! ### are_whole -/
def intAt (kvs : List (Key × V)) (x : Str) : Bool := match valV kvs (.inr x) with | some v => isInt v | none => false
/-- what are_whole answers of a dict -/
def wholeD (pl : List Str) (kvs : List (Key × V)) : Bool := decide (kvs.length = pl.length) && pl.all (intAt kvs)
/-- what is asked: None, an int, a list, or a dict with ints and None's -/
inductive Lev (pl : List Str) (H : Hp) : V → Bool → Prop
  | non : Lev pl H .non false
  | int (i : Int) : Lev pl H (.int i) false
  | lst {a : Addr} {xs : List V} : H a = some (.lst xs) → Lev pl H (.ref a) false
  | dct {a : Addr} {kvs : List (Key × V)} : H a = some (.dK kvs) → (∀ x v, valV kvs (.inr x) = some v → isInt v = true ∨ v = .non) → Lev pl H (.ref a) (wholeD pl kvs)
theorem Lev.mono {pl : List Str} {H H' : Hp} {v : V} {b : Bool} (s : Same H H') (h : Lev pl H v b) : Lev pl H' v b := by
  cases h with
  | non => exact .non
  | int i => exact .int i
  | lst h => exact .lst (s _ _ h)
  | dct h h' => exact .dct (s _ _ h) h'
def spAreWhole : Sp := fun vs H Q _ => ∃ l pl v b, vs = [.ref l, v, .non] ∧ H l = some (strL pl) ∧ pl.length ≤ 40 ∧ Lev pl H v b ∧ ∀ H', Same H H' → Q (.bl b) H'
theorem ok_are_whole (B : Blt mg) (DI : FnD P w K mg base CX0 1 "is_integer" p_is_integer spIsInteger) (T : FnT K mg "are_whole" s_are_whole p_are_whole f fd) : FnD P w K mg base CX0 2 "are_whole" p_are_whole spAreWhole := by
  refine .of T (T.fn.ok sc_are_whole (fun vs H Q E h => ?_) (fun cdv A outer s H vs Q E hr h => ?_))
  · obtain ⟨l, pl, v, b, rfl, _⟩ := h
    rfl
  · obtain ⟨l, pl, v, b, rfl, hl, hl40, hv, k⟩ := h
    have hu := hu_of hr
    refine ⟨_, pss_cons (ps_if (PW.pt (pw_or (pt_not (pt_val (pe_callB call_isi (by rfl) B.isinstance (by decide +kernel) (pa_cons (pv 1) (pa_cons (pe_bltn (v := .ty "dict") (by rfl) B.dict (by decide +kernel) rfl) pa_nil)))))
        (pw_or1 (pt_cmpR op_ne (pe_callB call_lenD (by rfl) B.len (by decide +kernel) (pa_cons (pv 1) pa_nil)) (pe_callB call_len (by rfl) B.len (by decide +kernel) (pa_cons (pv 0) pa_nil)) (nomark _))))) (pss_one (ps_ret pe_bl)) pss_nil)
      (pss_cons (ps_if (pt_not (pt_val (pe_callB (cr_all rfl) (by rfl) B.all_ (by decide +kernel) (pa_cons
          (pe_lc (own := [("word", 3)]) (g := gName 3) (tt := tYes) rfl sc_are_whole.nd (pi_list (pv 0)) (blkOk_by (own := [("word", 3)]) (N := N_are_whole) (sc := defScope s_are_whole) (by decide +kernel))
            (fun _ _ _ _ _ => pg_name (i := 3) sc_are_whole.nd rfl (Or.inl rfl)) (fun _ _ _ _ _ => pts_nil)
            (fun _ _ _ _ _ => pe_and (pe_cmp (pc_din hu (pv 3) (pv 1)) (by rfl)) (pe_one (pe_f DI hr pass0 (pa_cons (pe_dget hu (pv 1) (pv 3) (fun _ _ => rfl)) pa_nil))))) pa_nil)))) (pss_one (ps_ret pe_bl)) pss_nil)
      (pss_one (ps_ret (pe_or (pe_cmpR op_isN (pv 2) pe_non (nomark _)) (pe_one (pe_callB (cr_all rfl) (by rfl) B.all_ (by decide +kernel) (pa_cons
          (pe_lc (own := [("word", 3)]) (g := gName 3) (tt := tYes) rfl sc_are_whole.nd (pi_list (pv 0)) (blkOk_by (own := [("word", 3)]) (N := N_are_whole) (sc := defScope s_are_whole) (by decide +kernel))
            (fun _ _ _ _ _ => pg_name (i := 3) sc_are_whole.nd rfl (Or.inl rfl)) (fun _ _ _ _ _ => pts_nil)
            (fun _ _ _ _ _ => pe_cmp (pc_ge (pe_dget hu (pv 1) (pv 3) (fun _ _ => rfl)) (pv 2)))) pa_nil))))))), ?_⟩
    cases hv with
    | non => exact ⟨_, rfl, _, _, _, _, false, rfl, .ty _, .base .non, kit_ty (by decide +kernel), false, rfl, iteT (k _ (Same.refl _))⟩
    | int i => exact ⟨_, rfl, _, _, _, _, false, rfl, .ty _, .base (.int i), kit_ty (by decide +kernel), false, rfl, iteT (k _ (Same.refl _))⟩
    | lst ha => exact ⟨_, rfl, _, _, _, _, false, rfl, .ty _, .base (.lst ha), kit_ty (by decide +kernel), false, rfl, iteT (k _ (Same.refl _))⟩
    | @dct a kvs ha hi =>
      refine ⟨_, rfl, _, _, _, _, true, rfl, .ty _, .base (.dK ha), kit_ty (by decide +kernel), true, rfl, iteF ?_⟩
      refine ⟨_, rfl, a, kvs, rfl, ha, _, rfl, _, _, rfl, .inl ⟨_, SqL.of hl, rfl⟩, rfl, _, rfl, ?_⟩
      have hw : wholeD pl kvs = (decide (kvs.length = pl.length) && pl.all (intAt kvs)) := rfl
      by_cases c : kvs.length = pl.length
      · have e1 : (!decide (V.int (kvs.length : Int) = V.int ((pl.map V.str).length : Int))) = false := by
          rw [List.length_map, c, decide_eq_true rfl]; rfl
        refine iteBF e1 ?_
        refine ⟨_, rfl, l, rfl, ⟨_, SqL.of hl⟩, fun D hD => lc_si (si_list hl) (Same.refl _) hD (Nat.le_trans hl40 (by decide)) (fun _ => true) (fun x => .bl (intAt kvs x)) (fun _ => rfl) (fun _ _ => puT_yes) (fun y hy _ => ?_) fun H1 s1 hD1 => ?_⟩
        · intro H1 s1 Q' q
          refine ⟨_, rfl, _, rfl, a, _, rfl, .inl ⟨kvs, Sum.inr y, .inl (s1 _ _ ha), rfl, rfl⟩, ?_⟩
          have := q H1 (Same.refl _)
          unfold intAt at this
          cases e : valV kvs (.inr y) with
          | none =>
            rw [e] at this
            exact ⟨false, rfl, iteF this⟩
          | some z =>
            rw [e] at this
            refine ⟨true, rfl, iteT ⟨_, rfl, _, rfl, a, z, rfl, .inl ⟨kvs, Sum.inr y, .inl (s1 _ _ ha), rfl, e.symm⟩, ?_⟩⟩
            rcases hi y z e with hz | rfl
            · obtain ⟨i, rfl⟩ := isInt_of hz
              exact ⟨_, rfl, .inl ⟨⟨i, rfl⟩, this⟩⟩
            · exact ⟨_, rfl, .inr ⟨rfl, this⟩⟩
        rw [filter_yes] at hD1
        refine ⟨D, pl.map (intAt kvs), rfl, SqL.of (by rw [List.map_map]; exact hD1), _, rfl, ?_⟩
        have e2 : (pl.map (intAt kvs)).all id = pl.all (intAt kvs) := by rw [List.all_map]; rfl
        have e2 : ((pl.map (intAt kvs)).all id) = pl.all (intAt kvs) := e2
        rw [hw, decide_eq_true c, Bool.true_and] at k
        refine ite2 (fun h => ?_) (fun h => ?_)
        · have h' : pl.all (intAt kvs) = false := by
            rw [← e2]
            simpa using h
          rw [h'] at k
          exact k _ s1
        · have h' : pl.all (intAt kvs) = true := by
            rw [← e2]
            simpa using h
          rw [h'] at k
          exact ⟨_, rfl, rfl, true, rfl, iteT (k _ s1)⟩
      · have e1 : (!decide (V.int (kvs.length : Int) = V.int ((pl.map V.str).length : Int))) = true := by
          have ne : ¬ V.int (kvs.length : Int) = V.int (pl.length : Int) := fun z => c (Int.ofNat.inj (V.int.inj z))
          rw [List.length_map, decide_eq_false ne]; rfl
        refine iteB e1 ?_
        rw [hw, decide_eq_false c, Bool.false_and] at k
        exact k _ (Same.refl _)
end
end K23
namespace K23
open PySem PySem.Spec PyProof.Rows L2
section
variable {P : PySem.Program} {w : World} {K : PySem.W.Frag} {mg : Str → Option Value} {base : Heap} {CP CM : Addr} {f : Addr} {fd : FuncData}
/-! ### Numbering(program) -/
def nu1 (p : V) : List (Str × V) := [("own_program", p)]
def nu2 (p d1 : V) : List (Str × V) := [("own_program", p), ("onward", d1)]
def nu3 (p d1 d2 : V) : List (Str × V) := [("own_program", p), ("onward", d1), ("base", d2)]
theorem put1 {p : V} : putF "own_program" p [] = nu1 p := rfl
theorem put2 {p d1 : V} : putF "onward" d1 (nu1 p) = nu2 p d1 := by
  have e : ¬ ("own_program" : Str) = "onward" := by decide +kernel
  simp [putF, nu1, nu2, e]
theorem put3 {p d1 d2 : V} : putF "base" d2 (nu2 p d1) = nu3 p d1 d2 := by
  have e : ¬ ("own_program" : Str) = "base" := by decide +kernel
  have e2 : ¬ ("onward" : Str) = "base" := by decide +kernel
  simp [putF, nu2, nu3, e, e2]
theorem put4 {p d1 d2 d3 : Addr} : putF "steps" (.ref d3) (nu3 (.ref p) (.ref d1) (.ref d2)) = nuF p d1 d2 d3 := by
  have e : ¬ ("own_program" : Str) = "steps" := by decide +kernel
  have e2 : ¬ ("onward" : Str) = "steps" := by decide +kernel
  have e3 : ¬ ("base" : Str) = "steps" := by decide +kernel
  simp [putF, nuF, nu3, e, e2, e3]
theorem look2 {p d1 : V} : (nu2 p d1).lookup ("onward" : Str) = some d1 := by
  have e : (("onward" : Str) == "own_program") = false := by decide +kernel
  simp [List.lookup, nu2, e]
theorem look3 {p d1 d2 : V} : (nu3 p d1 d2).lookup ("base" : Str) = some d2 := by
  have e : (("base" : Str) == "own_program") = false := by decide +kernel
  have e2 : (("base" : Str) == "onward") = false := by decide +kernel
  simp [List.lookup, nu3, e, e2]
/-- .. and the steps are a dict of their own -/
def NuX (CP CM : Addr) (H0 H : Hp) (q p d3 : Addr) (G : Prg) (st : Str → Int) : Prop := ∃ dx d1 d2, H q = some (.ins CM dx (nuF p d1 d2 d3)) ∧ PgU CP H p G ∧ OnAt H d1 G ∧ ID H d2 G.ws G.base ∧ ID H d3 G.ws st ∧ d1 ≠ d3 ∧ d2 ≠ d3 ∧ H0 d1 = none ∧ H0 d2 = none ∧ H0 d3 = none
theorem NuX.at {CP CM : Addr} {H0 H : Hp} {q p d3 : Addr} {G : Prg} {st : Str → Int} (h : NuX CP CM H0 H q p d3 G st) : NuAt CP CM H q p d3 G st := by
  obtain ⟨dx, d1, d2, h1, h2, h3, h4, h5, _⟩ := h
  exact ⟨dx, d1, d2, h1, h2, h3, h4, h5⟩
def spNuInit (CP CM : Addr) : Sp := fun vs H Q _ => ∃ H0 q dx p G, vs = [.ref q, .ref p] ∧ Same H0 H ∧ H0 q = none ∧ H q = some (.ins CM dx []) ∧ PgU CP H0 p G ∧ G.Ok ∧
  ∀ d3 H', Same H0 H' → NuX CP CM H0 H' q p d3 G G.base → Q .non H'
theorem ok_M_init (LP : ClT K mg "Program" CP) (L : ClT K mg "Numbering" CM) (Z : Fld K CP CM) (B : Blt mg) (DK : FnD P w K mg base CX0 1 "check_program" p_check_program (spCheckProgram CP)) (DR : FnD P w K mg base CX0 3 "check_rings" p_check_rings (spCheckRings CP))
    (DO : FnD P w K mg base CX0 5 "ways_on" p_ways_on (spWaysOn CP)) (DF : FnD P w K mg base CX0 5 "first_steps" p_first_steps (spFirst CP))
    (T : MeT K CM "__init__" "Numbering.__init__" s_M_init p_M_init f fd) : MeD P w K mg base CX0 6 CM "__init__" p_M_init (spNuInit CP CM) := by
  refine .of T (T.fn.ok sc_M_init (fun vs H Q E h => ?_) (fun cdv A outer s H vs Q E hr h => ?_))
  · obtain ⟨H0, q, dx, p, G, rfl, _⟩ := h
    rfl
  · obtain ⟨H0, q, dx, p, G, rfl, s0, h0, hq, hU0, ok, k⟩ := h
    refine ⟨_, pss_cons (ps_expr (pe_f DK (hr.mono (by decide)) pass0 (pa_cons (pv 1) pa_nil)))
      (pss_cons (ps_expr (pe_f DR (hr.mono (by decide)) pass0 (pa_cons (pv 1) pa_nil)))
      (pss_cons (ps_fld (pv 0) (pv 1) (by rfl))
      (pss_cons (ps_fld (pv 0) (pe_f DO hr pass0 (pa_cons (pv 1) pa_nil)) (by rfl))
      (pss_cons (ps_fld (pv 0) (pe_f DF hr pass0 (pa_cons (pv 1) (pa_cons (pe_fld (pv 0) rfl) pa_nil))) (by rfl))
      (pss_one (ps_fld (pv 0) (pe_callTy call_dictD (by rfl) B.dict (by decide +kernel) (pa_cons (pe_fld (pv 0) rfl) pa_nil)) (by rfl))))))), ?_⟩
    have hU := hU0.mono s0
    refine ⟨_, rfl, p, G, rfl, hU.at, ?_⟩
    refine ⟨_, rfl, p, G, rfl, hU, ok, fun H1 s1 => ?_⟩
    have q1 := s1 _ _ hq
    refine ⟨_, rfl, _, rfl, q, CM, dx, _, rfl, q1, L.cl, Z.own_program, (by show 0 < 1000; decide), ?_⟩
    rw [put1]
    have b2 := (s0.trans s1).mut (o := .ins CM dx (nu1 (.ref p))) h0
    refine ⟨_, rfl, p, G, rfl, (hU0.mono b2).at, ok, fun d1 H3 s3 n1 hO => ?_⟩
    have q3 := s3 _ _ upd_same
    refine ⟨_, rfl, q, CM, dx, _, rfl, q3, L.cl, Z.onward, (by show 1 < 1000; decide), ?_⟩
    rw [put2]
    have b4 := (b2.trans s3).mut (o := .ins CM dx (nu2 (.ref p) (.ref d1))) h0
    have hO4 : OnAt (upd H3 q (.ins CM dx (nu2 (.ref p) (.ref d1)))) d1 G := by
      obtain ⟨ks, o1, o2⟩ := hO
      refine ⟨ks, ?_, o2⟩
      unfold ID
      rw [upd_ne (ne_of o1 q3 (by intro z; cases z))]
      exact o1
    refine ⟨_, rfl, _, rfl, q, CM, dx, _, _, rfl, upd_same, L.cl, Z.onward, look2, p, d1, G, rfl, (hU0.mono b4).at, ok, hO4, fun d2 H5 s5 n2 hB => ?_⟩
    have q5 := s5 _ _ upd_same
    refine ⟨_, rfl, q, CM, dx, _, rfl, q5, L.cl, Z.base, (by show 2 < 1000; decide), ?_⟩
    rw [put3]
    have b6 := (b4.trans s5).mut (o := .ins CM dx (nu3 (.ref p) (.ref d1) (.ref d2))) h0
    have hB6 : ID (upd H5 q (.ins CM dx (nu3 (.ref p) (.ref d1) (.ref d2)))) d2 G.ws G.base := by
      unfold ID
      rw [upd_ne (ne_of hB q5 (by intro z; cases z))]
      exact hB
    have hO6 : OnAt (upd H5 q (.ins CM dx (nu3 (.ref p) (.ref d1) (.ref d2)))) d1 G := by
      obtain ⟨ks, o1, o2⟩ := hO4.mono s5
      refine ⟨ks, ?_, o2⟩
      unfold ID
      rw [upd_ne (ne_of o1 q5 (by intro z; cases z))]
      exact o1
    refine ⟨_, rfl, q, CM, dx, _, _, rfl, upd_same, L.cl, Z.base, look3, d2, _, rfl, .inl hB6, fun d3 hd3 => ?_⟩
    have nq : q ≠ d3 := ne_of_none upd_same hd3
    have s7 := Same.new (o := .dK (kd G.ws fun k => .int (G.base k))) hd3
    refine ⟨_, rfl, q, CM, dx, _, rfl, s7 _ _ upd_same, L.cl, Z.steps, (by show 3 < 1000; decide), ?_⟩
    rw [put4]
    have b8 := (b6.trans s7).mut (o := .ins CM dx (nuF p d1 d2 d3)) h0
    refine k d3 _ b8 ⟨dx, d1, d2, upd_same, hU0.mono b8, ?_, ?_, ?_, (by obtain ⟨ks, o1, _⟩ := hO6; exact ne_of_none o1 hd3), ne_of_none hB6 hd3, b2.free n1, b4.free n2, b6.free hd3⟩
    · obtain ⟨ks, o1, o2⟩ := hO6.mono s7
      refine ⟨ks, ?_, o2⟩
      unfold ID
      rw [upd_ne (ne_of o1 (s7 _ _ upd_same) (by intro z; cases z))]
      exact o1
    · unfold ID
      rw [upd_ne (ne_of (hB6.mono s7) (s7 _ _ upd_same) (by intro z; cases z))]
      exact hB6.mono s7
    · unfold ID
      rw [upd_ne (Ne.symm nq)]
      exact upd_same
/-! ### the readers of a numbering -/
def spMany (CP CM : Addr) : Sp := fun vs H Q _ => ∃ q p d3 G st, vs = [.ref q] ∧ NuAt CP CM H q p d3 G st ∧ G.Ok ∧ Q (.int (G.many G.bg)) H
theorem ok_M_many (LP : ClT K mg "Program" CP) (L : ClT K mg "Numbering" CM) (Z : Fld K CP CM) (DB : PrD P w K mg base CX0 1 CP "begin" p_P_begin (spBegin CP)) {qq : Addr} (T : PrT K CM "many" "Numbering.many" s_M_many p_M_many qq f fd) : PrD P w K mg base CX0 3 CM "many" p_M_many (spMany CP CM) := by
  refine .of T (T.fn.ok sc_M_many (fun vs H Q E h => ?_) (fun cdv A outer s H vs Q E hr h => ?_))
  · obtain ⟨q, p, d3, G, st, rfl, _⟩ := h
    rfl
  · obtain ⟨q, p, d3, G, st, rfl, ⟨dx, d1, d2, h1, hU, ⟨kO, o1, o2, o3⟩, h4, h5⟩, ok, k⟩ := h
    have hu := hu_of hr
    refine ⟨_, pss_one (ps_ret (pe_dget hu (pe_fld (pv 0) rfl) (pe_p (pe_fld (pv 0) rfl) LP.cl DB hr pass0) (fun _ _ => rfl))), ?_⟩
    exact ⟨_, rfl, q, CM, dx, _, _, rfl, h1, L.cl, Z.onward, nuf_onward, _, rfl, q, CM, dx, _, _, rfl, h1, L.cl, Z.own_program, nuf_program, hU.at.isI, p, G, rfl, hU.at, d1, _, rfl, .inl ⟨_, Sum.inr G.bg, .inl o1, rfl, (kd_in (v := fun z => V.int (G.many z)) ((o3 _).mpr ok.bgP)).symm⟩, k⟩
def spNuGet (CP CM : Addr) : Sp := fun vs H Q _ => ∃ q p d3 G st x, vs = [.ref q, .str x] ∧ NuAt CP CM H q p d3 G st ∧ G.Ok ∧ x ∈ G.ws ∧ ∀ H', Same H H' → Q (.int (st x)) H'
theorem ok_M_getitem (LP : ClT K mg "Program" CP) (L : ClT K mg "Numbering" CM) (Z : Fld K CP CM) (DC : MeD P w K mg base CX0 2 CP "__contains__" p_P_contains (spContains CP)) (T : MeT K CM "__getitem__" "Numbering.__getitem__" s_M_getitem p_M_getitem f fd) : MeD P w K mg base CX0 3 CM "__getitem__" p_M_getitem (spNuGet CP CM) := by
  refine .of T (T.fn.ok sc_M_getitem (fun vs H Q E h => ?_) (fun cdv A outer s H vs Q E hr h => ?_))
  · obtain ⟨q, p, d3, G, st, x, rfl, _⟩ := h
    rfl
  · obtain ⟨q, p, d3, G, st, x, rfl, hN, ok, hx, k⟩ := h
    have hu := hu_of hr
    refine ⟨_, pss_cons (ps_if (pt_cmpR (op_notInOwn (E := E0) DC hr pass0) (pv 1) (pe_fld (pv 0) rfl) (by rfl)) (pss_one ps_never) pss_nil) (pss_one (ps_ret (pe_dget hu (pe_fld (pv 0) rfl) (pv 1) (fun _ _ => rfl)))), ?_⟩
    obtain ⟨dx, d1, d2, h1, hU, hO, h4, h5⟩ := id hN
    refine ⟨_, rfl, _, rfl, q, CM, dx, _, _, rfl, h1, L.cl, Z.own_program, nuf_program, hU.at.isI, p, G, x, rfl, hU.at, ok.wsW x hx, hx, fun H' s1 => ⟨true, rfl, false, rfl, iteF ?_⟩⟩
    exact ⟨_, rfl, q, CM, dx, _, _, rfl, s1 _ _ h1, L.cl, Z.steps, nuf_steps, _, rfl, d3, _, rfl, .inl ⟨_, Sum.inr x, .inl (s1 _ _ h5), rfl, (kd_in (v := fun z => V.int (st z)) hx).symm⟩, k _ s1⟩
/-! ### numbering(run) -/
def spNuCall (CP CM : Addr) : Sp := fun vs H Q _ => ∃ q p d3 G st a run e, vs = [.ref q, .ref a] ∧ NuAt CP CM H q p d3 G st ∧ G.Ok ∧ H a = some (strL run) ∧ G.Walk G.bg run e ∧ e ∈ G.ex ∧ ∀ H', Same H H' → Q (.int (run.map st).sum) H'
theorem ok_M_call (LP : ClT K mg "Program" CP) (L : ClT K mg "Numbering" CM) (Z : Fld K CP CM) (B : Blt mg) (DR : FnD P w K mg base CX0 6 "is_run" p_is_run (spIsRun CP)) (T : MeT K CM "__call__" "Numbering.__call__" s_M_call p_M_call f fd) : MeD P w K mg base CX0 7 CM "__call__" p_M_call (spNuCall CP CM) := by
  refine .of T (T.fn.ok sc_M_call (fun vs H Q E h => ?_) (fun cdv A outer s H vs Q E hr h => ?_))
  · obtain ⟨q, p, d3, G, st, a, run, e, rfl, _⟩ := h
    rfl
  · obtain ⟨q, p, d3, G, st, a, run, e, rfl, hN, ok, ha, hw, he, k⟩ := h
    have hu := hu_of hr
    refine ⟨_, pss_cons (ps_if (pt_not (pt_val (pe_f DR hr pass0 (pa_cons (pe_fld (pv 0) rfl) (pa_cons (pv 1) pa_nil))))) (pss_one ps_never) pss_nil)
      (pss_one (ps_ret (pe_callB (cr_sum rfl) (by rfl) B.sum (by decide +kernel) (pa_cons
        (pe_lc (own := [("way", 2)]) (g := gName 2) (tt := tYes) (te := tDGet (tFld K (tVar 0) "steps") (tVar 2)) rfl sc_M_call.nd (pi_list (pv 1)) (blkOk_by (own := [("way", 2)]) (N := N_M_call) (sc := defScope s_M_call) (by decide +kernel))
          (fun _ _ _ _ _ => pg_name (i := 2) sc_M_call.nd rfl (Or.inl rfl)) (fun _ _ _ _ _ => pts_nil) (fun _ _ _ _ _ => pe_dget hu (pe_fld (pv 0) rfl) (pv 2) (fun _ _ => rfl))) pa_nil)))), ?_⟩
    obtain ⟨dx, d1, d2, h1, hU, hO, h4, h5⟩ := id hN
    refine ⟨_, rfl, q, CM, dx, _, _, rfl, h1, L.cl, Z.own_program, nuf_program, _, rfl, p, G, a, run, e, rfl, hU.at, ok, ha, hw, he, fun H1 s1 => ⟨true, rfl, iteF ?_⟩⟩
    have rl : run.length ≤ 1000 := by have := walk_len ok ok.bgP hw; omega
    refine ⟨_, rfl, a, rfl, ⟨_, SqL.of (s1 _ _ ha)⟩, fun D hD => lc_si (si_list (s1 _ _ ha)) (Same.refl _) hD rl (fun _ => true) (fun x => .int (st x)) (fun _ => rfl) (fun _ _ => puT_yes) (fun y hy _ => ?_) fun H2 s2 hD2 => ?_⟩
    · intro H2 s2 Q' c
      have s12 := s1.trans s2
      exact ⟨_, rfl, q, CM, dx, _, _, rfl, s12 _ _ h1, L.cl, Z.steps, nuf_steps, _, rfl, d3, _, rfl, .inl ⟨_, Sum.inr y, .inl (s12 _ _ h5), rfl, (kd_in (v := fun z => V.int (st z)) (walk_mem hw y hy)).symm⟩, c _ (Same.refl _)⟩
    · rw [filter_yes] at hD2
      refine ⟨D, run.map st, rfl, SqL.of (by rw [List.map_map]; exact hD2), k _ (s1.trans s2)⟩
/-! ### free -/
def spFree (CP CM : Addr) : Sp := fun vs H Q _ => ∃ q p d3 G st, vs = [.ref q] ∧ NuAt CP CM H q p d3 G st ∧ G.Ok ∧ ∀ l H', Same H H' → H l = none → H' l = some (strL (G.ws.filter fun x => decide (st x = 0))) → Q (.ref l) H'
theorem ok_M_free (LP : ClT K mg "Program" CP) (L : ClT K mg "Numbering" CM) (Z : Fld K CP CM) (DW : MeD P w K mg base CX0 1 CP "ways" p_P_ways (spWays CP)) (T : MeT K CM "free" "Numbering.free" s_M_free p_M_free f fd) : MeD P w K mg base CX0 2 CM "free" p_M_free (spFree CP CM) := by
  refine .of T (T.fn.ok sc_M_free (fun vs H Q E h => ?_) (fun cdv A outer s H vs Q E hr h => ?_))
  · obtain ⟨q, p, d3, G, st, rfl, _⟩ := h
    rfl
  · obtain ⟨q, p, d3, G, st, rfl, hN, ok, k⟩ := h
    have hu := hu_of hr
    refine ⟨_, pss_one (ps_ret (pe_lc (own := [("way", 1)]) (g := gName 1) (tt := tTest (tOp rEq (tDGet (tFld K (tVar 0) "steps") (tVar 1)) (tC (.int 0)))) (te := tVar 1) rfl sc_M_free.nd (pi_list (pe_m0 (pe_fld (pv 0) rfl) LP.cl DW hr pass0)) (blkOk_by (own := [("way", 1)]) (N := N_M_free) (sc := defScope s_M_free) (by decide +kernel))
          (fun _ _ _ _ _ => pg_name (i := 1) sc_M_free.nd rfl (Or.inl rfl)) (fun _ _ _ _ _ => pts_one (pt_cmpR op_eq (pe_dget hu (pe_fld (pv 0) rfl) (pv 1) (fun _ _ => rfl)) pe_int (nomark _))) (fun _ _ _ _ _ => pv 1))), ?_⟩
    obtain ⟨dx, d1, d2, h1, hU, hO, h4, h5⟩ := id hN
    refine ⟨_, rfl, q, CM, dx, _, _, rfl, h1, L.cl, Z.own_program, nuf_program, hU.at.isO, p, G, rfl, hU.at, fun lw hlw => ⟨lw, rfl, ⟨_, SqL.of upd_same⟩, fun D hD => ?_⟩⟩
    have s1 := Same.new (o := strL G.ws) hlw
    refine lc_si (si_list (B := upd H lw (strL G.ws)) upd_same) (Same.refl _) hD (Nat.le_trans ok.wsL (by decide)) (fun x => decide (st x = 0)) V.str (fun _ => rfl) (fun y hy => ?_) (fun y hy _ => pu_var rfl) fun H2 s2 hD2 => k D H2 (s1.trans s2) (s1.free hD) hD2
    intro H2 s2 Q' c
    have s12 := s1.trans s2
    refine ⟨_, rfl, q, CM, dx, _, _, rfl, s12 _ _ h1, L.cl, Z.steps, nuf_steps, _, rfl, d3, _, rfl, .inl ⟨_, Sum.inr y, .inl (s12 _ _ h5), rfl, (kd_in (v := fun z => V.int (st z)) hy).symm⟩, rfl, _, rfl, ?_⟩
    have e : decide (V.int (st y) = V.int 0) = decide (st y = 0) := by simp
    rw [e]
    exact c _ (Same.refl _)
/-! ### == -/
def eqSt (ws : List Str) (st st' : Str → Int) : Bool := ws.all fun x => decide (st' x = st x)
theorem kd_all {ws : List Str} {st st' : Str → Int} : ((kd ws fun k => V.int (st k)).all fun p => decide (valV (kd ws fun k => V.int (st' k)) p.1 = some p.2)) = eqSt ws st st' := by
  unfold eqSt kd
  rw [List.all_map]
  have : ∀ x ∈ ws, ((fun p : Key × V => decide (valV (kd ws fun k => V.int (st' k)) p.1 = some p.2)) ∘ fun k => ((Sum.inr k : Key), V.int (st k))) x = decide (st' x = st x) := fun x hx => by
    show decide (valV (kd ws fun k => V.int (st' k)) (.inr x) = some (V.int (st x))) = _
    rw [kd_in (v := fun k => V.int (st' k)) hx]
    simp
  rw [Bool.eq_iff_iff, List.all_eq_true, List.all_eq_true]
  exact ⟨fun h x hx => (this x hx) ▸ h x hx, fun h x hx => (this x hx).trans (h x hx)⟩
theorem kd_isInt {ws : List Str} {st : Str → Int} : ∀ p ∈ kd ws (fun k => V.int (st k)), isInt p.2 = true := fun p hp => by
  obtain ⟨x, _, rfl⟩ := List.mem_map.mp hp
  rfl
theorem kd_isInt' {ws : List Str} {st : Str → Int} : ∀ (k : Key) (v : V), valV (kd ws fun k => V.int (st k)) k = some v → isInt v = true := fun k v h => by
  cases k with
  | inl i =>
    have := valV_in h
    rw [kd_keys] at this
    obtain ⟨x, _, e⟩ := List.mem_map.mp this
    cases e
  | inr x =>
    rw [kd_val] at h
    split at h
    · cases h
      rfl
    · cases h
def spNuEq (CP CM : Addr) : Sp := fun vs H Q _ => ∃ q q' p d3 d3' G st st', vs = [.ref q, .ref q'] ∧ NuAt CP CM H q p d3 G st ∧ NuAt CP CM H q' p d3' G st' ∧ ∀ H', Same H H' → Q (.bl (eqSt G.ws st st')) H'
theorem ok_M_eq (LP : ClT K mg "Program" CP) (L : ClT K mg "Numbering" CM) (Z : Fld K CP CM) (B : Blt mg) (DE : MeD P w K mg base CX0 2 CP "__eq__" p_P_eq (spEqProgram CP)) (T : MeT K CM "__eq__" "Numbering.__eq__" s_M_eq p_M_eq f fd) : MeD P w K mg base CX0 3 CM "__eq__" p_M_eq (spNuEq CP CM) := by
  refine .of T (T.fn.ok sc_M_eq (fun vs H Q E h => ?_) (fun cdv A outer s H vs Q E hr h => ?_))
  · obtain ⟨q, q', p, d3, d3', G, st, st', rfl, _⟩ := h
    rfl
  · obtain ⟨q, q', p, d3, d3', G, st, st', rfl, hN, hN', k⟩ := h
    have hu := hu_of hr
    refine ⟨_, pss_one (ps_ret (pe_and (pe_callB call_isi (by rfl) B.isinstance (by decide +kernel) (pa_cons (pv 1) (pa_cons (pe_glob (v := .ref CM) rfl L.mg rfl) pa_nil)))
      (pe_and (pe_cmpR (op_eqOwn (E := E0) DE hr pass0) (pe_fld (pv 0) rfl) (pe_fld (pv 1) rfl) (by rfl)) (pe_one (pe_cmpR (op_eqDI (Nat.lt_of_succ_lt hu)) (pe_fld (pv 0) rfl) (pe_fld (pv 1) rfl) (by rfl)))))), ?_⟩
    obtain ⟨dx, d1, d2, h1, hU, hO, h4, h5⟩ := id hN
    obtain ⟨dx', d1', d2', h1', hU', hO', h4', h5'⟩ := id hN'
    refine ⟨_, rfl, _, _, _, _, true, rfl, .own _, tyX_own L h1', kit_own, true, rfl, iteT ?_⟩
    refine ⟨_, rfl, q, CM, dx, _, _, rfl, h1, L.cl, Z.own_program, nuf_program, _, rfl, q', CM, dx', _, _, rfl, h1', L.cl, Z.own_program, nuf_program, ?_⟩
    refine ⟨hU.at.isI, hU.at.isI, p, G, rfl, hU.at, fun H1 s1 => ⟨true, rfl, true, rfl, iteT ?_⟩⟩
    refine ⟨_, rfl, q, CM, dx, _, _, rfl, s1 _ _ h1, L.cl, Z.steps, nuf_steps, _, rfl, q', CM, dx', _, _, rfl, s1 _ _ h1', L.cl, Z.steps, nuf_steps, ?_⟩
    refine ⟨d3, d3', _, _, rfl, rfl, s1 _ _ h5, s1 _ _ h5', by rw [kd_len, kd_len], kd_isInt, kd_isInt', ?_⟩
    rw [kd_all]
    exact k _ s1
end
end K23
namespace K23
open PySem PySem.Spec PyProof.Rows L2
theorem puT_use {tt : TT} {σ : L2.St} {H : Hp} {b : Bool} {Q : Bool → Hp → Prop} (h : PuT tt σ H b) (k : ∀ H2, Same H H2 → Q b H2) : tt σ H Q := h H (Same.refl _) Q k
theorem getLast_snoc {α : Type} : ∀ {l : List α} {x : α}, l.getLast? = some x → ∃ l', l = l' ++ [x]
  | [], _, h => by cases h
  | y :: l, x, h => by
    have e := List.getLast?_eq_some_iff.mp h
    exact e
theorem runL_step {G : Prg} {k : Nat} {p : Str} {left : Int} {w : Str} (c : 0 < left ∨ p ∉ G.ex) (e : (G.fit p left).getLast? = some w) : G.runL (k + 1) p left = w :: G.runL k (G.to w) (left - G.base w) := by
  rw [Prg.runL, if_pos c, e]
theorem runL_stop {G : Prg} {k : Nat} {p : Str} {left : Int} (c : ¬ (0 < left ∨ p ∉ G.ex)) : G.runL (k + 1) p left = [] := by
  rw [Prg.runL, if_neg c]
section
variable {P : PySem.Program} {w : World} {K : PySem.W.Frag} {mg : Str → Option Value} {base : Heap} {CP CM : Addr} {f : Addr} {fd : FuncData}
/-! ### run(number) -/
def spNuRun (CP CM : Addr) : Sp := fun vs H Q _ => ∃ q p d3 G st n, vs = [.ref q, .int n] ∧ NuAt CP CM H q p d3 G st ∧ G.Ok ∧ 0 ≤ n ∧ n < G.many G.bg ∧ ∀ l H', Same H H' → H l = none → H' l = some (strL (G.runOf n)) → Q (.ref l) H'
theorem ok_M_run (LP : ClT K mg "Program" CP) (L : ClT K mg "Numbering" CM) (Z : Fld K CP CM) (DI : FnD P w K mg base CX0 1 "is_integer" p_is_integer spIsInteger) (DM : PrD P w K mg base CX0 3 CM "many" p_M_many (spMany CP CM)) (DB : PrD P w K mg base CX0 1 CP "begin" p_P_begin (spBegin CP))
    (DX : MeD P w K mg base CX0 1 CP "exits" p_P_exits (spExits CP)) (DL : MeD P w K mg base CX0 3 CP "leaving" p_P_leaving (spLeaving CP)) (DG : MeD P w K mg base CX0 3 CP "__getitem__" p_P_getitem (spGet CP))
    (T : MeT K CM "run" "Numbering.run" s_M_run p_M_run f fd) : MeD P w K mg base CX0 5 CM "run" p_M_run (spNuRun CP CM) := by
  refine .of T (T.fn.ok sc_M_run (fun vs H Q E h => ?_) (fun cdv A outer s H vs Q E hr h => ?_))
  · obtain ⟨q, p, d3, G, st, n, rfl, _⟩ := h
    rfl
  · obtain ⟨q, p, d3, G, st, n, rfl, hN, ok, n0, n1, k⟩ := h
    have hu := hu_of hr
    have hr1 : Room 1 _ := hr.mono (by decide)
    have hr2 : Room 2 _ := hr.mono (by decide)
    have hr3 : Room 3 _ := hr.mono (by decide)
    refine ⟨_, pss_cons (ps_if (PW.pt (pw_or (pt_not (pt_val (pe_f DI hr1 pass0 (pa_cons (pv 1) pa_nil)))) (pw_or1 (pt_not (pt_chain op_le op_lt pe_int (pv 1) (pe_p (pv 0) L.cl DM hr pass0)))))) (pss_one ps_never) pss_nil)
      (pss_cons (ps_set (i := 2) sc_M_run.nd rfl (Or.inl rfl) (pe_lst pa_nil))
      (pss_cons (ps_set (i := 3) sc_M_run.nd rfl (Or.inl rfl) (pe_p (pe_fld (pv 0) rfl) LP.cl DB hr2 pass0))
      (pss_cons (ps_set (i := 4) sc_M_run.nd rfl (Or.inr rfl) (pv 1))
      (pss_cons (ps_while PassesOwn.never (PW.pt (pw_or (pt_cmpR op_gt (pv 4) pe_int (nomark _)) (pw_or1 (pt_cmpR op_notIn_seq (pv 3) (pe_m0 (pe_fld (pv 0) rfl) LP.cl DX hr1 pass0) (by rfl)))))
        (pss_cons (ps_setLc (i := 6) (own := [("way", 5)]) (g := gName 5) (tt := tTest (tOp (rI0 fun i j => .bl (decide (i ≤ j))) (tDGet (tFld K (tVar 0) "base") (tVar 5)) (tVar 4))) (te := tVar 5) rfl sc_M_run.nd rfl rfl (sw_true rfl rfl rfl (by decide +kernel)) (pi_list (pe_m (pe_fld (pv 0) rfl) LP.cl DL hr3 pass0 (pa_cons (pv 3) pa_nil)))
            (blkOk_by (own := [("way", 5)]) (N := N_M_run) (sc := defScope s_M_run) (by decide +kernel)) (fun _ _ _ _ _ => pg_name (i := 5) sc_M_run.nd rfl (Or.inl rfl)) (fun _ _ _ _ _ => pts_one (pt_cmpR op_le (pe_dget hu (pe_fld (pv 0) rfl) (pv 5) (fun _ _ => rfl)) (pv 4) (nomark _))) (fun _ _ _ _ _ => pv 5))
        (pss_cons (ps_set (i := 5) sc_M_run.nd rfl (Or.inl rfl) (pe_ix ix_list (pv 6) (pe_un un_neg pe_int) (fun _ _ => rfl)))
        (pss_cons (ps_aug (i := 4) sc_M_run.nd rfl (Or.inr rfl) (pe_dget hu (pe_fld (pv 0) rfl) (pv 5) (fun _ _ => rfl)) ip_sub)
        (pss_cons (ps_expr (pe_bm PySem.F.plainAttrs_list PySem.F.slot_list_append PySem.F.type_list_append mt_append (pv 2) (pa_cons (pv 5) pa_nil)))
        (pss_one (ps_set (i := 3) sc_M_run.nd rfl (Or.inl rfl) (pe_ix ix_tup (pe_gi (pe_fld (pv 0) rfl) (pv 5) DG hr pass0) pe_int (fun _ _ => rfl)))))))))
      (pss_one (ps_ret (pv 2))))))), ?_⟩
    obtain ⟨dx, d1, d2, h1, hU, hO, h4, h5⟩ := id hN
    refine ⟨_, rfl, _, rfl, .inl ⟨⟨n, rfl⟩, true, rfl, iteF ?_⟩⟩
    refine ⟨_, rfl, _, _, rfl, rfl, true, ?_, ?_⟩
    · show V.bl (decide (0 ≤ n)) = V.bl true
      rw [decide_eq_true n0]
    refine iteT ⟨_, rfl, hN.isI, q, p, d3, G, st, rfl, hN, ok, _, _, rfl, rfl, true, ?_, iteF ?_⟩
    · show V.bl (decide (n < G.many G.bg)) = V.bl true
      rw [decide_eq_true n1]
    refine ⟨Nat.zero_le _, fun lf hlf => ?_⟩
    have s0 := Same.new (o := .lst []) hlf
    refine ⟨_, rfl, q, CM, dx, _, _, rfl, s0 _ _ h1, L.cl, Z.own_program, nuf_program, (hU.at.mono s0).isI, p, G, rfl, hU.at.mono s0, _, rfl, ?_⟩
    refine ⟨fun m σ' H' => ∃ (acc : List Str) (pl : Str) (left : Int) (v5 v6 : Option V), σ' = [some (.ref q), some (.int n), some (.ref lf), some (.str pl), some (.int left), v5, v6] ∧ Same H H' ∧ H' lf = some (strL acc) ∧ acc.length ≤ 6 - m ∧ m ≤ 6 ∧ pl ∈ G.pl ∧ 0 ≤ left ∧ left < G.many pl ∧ 6 - G.rk pl ≤ m ∧ acc ++ G.runL m pl left = G.runOf n,
      ⟨6, [], G.bg, n, none, none, rfl, s0, upd_same, Nat.zero_le _, Nat.le_refl _, ok.bgP, n0, n1, Nat.sub_le _ _, rfl⟩, ?_⟩
    rintro m σ' H' ⟨acc, pl, left, v5, v6, rfl, s1, hl, al, m6, plm, l0, l1, rk, run⟩
    have hP1 := hU.at.mono s1
    obtain ⟨m', rfl⟩ : ∃ m', m = m' + 1 := ⟨m - 1, by have := ok.top pl plm; omega⟩
    refine puT_use (b := decide (0 < left ∨ pl ∉ G.ex)) ?_ fun H2 s2 => ?_
    · intro H2 s2 Q' c
      refine ⟨_, rfl, _, _, rfl, rfl, _, rfl, ?_⟩
      refine ite2 (fun hb => ?_) (fun hb => ?_)
      · rw [decide_eq_true (.inl (of_decide_eq_true hb))] at c
        exact c _ (Same.refl _)
      · have hP2 := hP1.mono s2
        refine ⟨_, rfl, _, rfl, q, CM, dx, _, _, rfl, (s1.trans s2) _ _ h1, L.cl, Z.own_program, nuf_program, hP2.isO, p, G, rfl, hP2, fun lx hlx => ?_⟩
        refine ⟨lx, _, rfl, .inl (SqL.of upd_same), rfl, flat_strs _, decide (0 < left ∨ pl ∉ G.ex), ?_, c _ (Same.new hlx)⟩
        show V.bl (!inV (.str pl) (G.ex.map V.str)) = _
        have hb' : ¬ 0 < left := fun z => hb (decide_eq_true z)
        rw [inV_str]
        by_cases he : pl ∈ G.ex
        · rw [decide_eq_true he, decide_eq_false (fun z => z.elim hb' fun z => z he)]
          rfl
        · rw [decide_eq_false he, decide_eq_true (.inr he)]
          rfl
    have s12 := s1.trans s2
    refine ite2 (fun hb => ?_) (fun hb => ?_)
    · have c := of_decide_eq_true hb
      obtain ⟨w1, w1l, wlast, b1, b2⟩ := fit_last ok plm l0 l1 c
      obtain ⟨w1w, w1f⟩ := Prg.mem_leav.mp w1l
      obtain ⟨q1, q2⟩ := leav_pl ok w1l
      rw [runL_step c wlast] at run
      refine ⟨fun σ2 H2 => ∃ (pl' : Str) (left' : Int) (v5 v6 : Option V), σ2 = [some (.ref q), some (.int n), some (.ref lf), some (.str pl'), some (.int left'), v5, v6] ∧ Same H H2 ∧ H2 lf = some (strL (acc ++ [w1])) ∧ pl' = G.to w1 ∧ left' = left - G.base w1,
        fun σ2 H2 ⟨pl', left', v5, v6, e, t1, t2, t3, t4⟩ => ⟨m', Nat.lt_succ_self _, acc ++ [w1], pl', left', v5, v6, e, t1, t2, by rw [List.length_append]; simp; omega, by omega, by rw [t3]; exact q1, by omega, by rw [t3, t4]; exact b2, by rw [t3]; omega, by rw [t3, t4, List.append_assoc]; exact run⟩, ?_⟩
      have hP2 := hU.at.mono s12
      refine ⟨_, rfl, q, CM, dx, _, _, rfl, s12 _ _ h1, L.cl, Z.own_program, nuf_program, hP2.isO, _, rfl, p, G, pl, rfl, hP2, ok.plW pl plm, plm, fun lw H3 s3 hlw hlw' => ⟨lw, rfl, ⟨_, SqL.of hlw'⟩, fun D hD => ?_⟩⟩
      have s13 := s12.trans s3
      refine lc_si (si_list hlw') (Same.refl _) hD (ok_leav_len ok pl) (fun y => decide (G.base y ≤ left)) V.str (fun _ => rfl) (fun y hy => ?_) (fun y hy _ => pu_var rfl) fun H4 s4 hD4 => ?_
      · intro H4 s4 Q' c
        refine ⟨_, rfl, q, CM, dx, _, _, rfl, (s13.trans s4) _ _ h1, L.cl, Z.base, nuf_base, _, rfl, d2, _, rfl, .inl ⟨_, Sum.inr y, .inl ((s13.trans s4) _ _ h4), rfl, (kd_in (v := fun z => V.int (G.base z)) (Prg.mem_leav.mp hy).1).symm⟩, _, rfl, _, _, rfl, rfl, _, rfl, ?_⟩
        exact c _ (Same.refl _)
      have s14 := s13.trans s4
      obtain ⟨fl, hfl⟩ := getLast_snoc wlast
      have hD4' : H4 D = some (strL (fl ++ [w1])) := by
        rw [← hfl]
        exact hD4
      refine ⟨_, rfl, _, rfl, D, (fl ++ [w1]).map V.str, -1, .str w1, rfl, rfl, SqL.of hD4', by rw [List.map_append]; exact atI_last _ _, ?_⟩
      refine ⟨_, rfl, _, rfl, q, CM, dx, _, _, rfl, s14 _ _ h1, L.cl, Z.base, nuf_base, _, rfl, d2, _, rfl, .inl ⟨_, Sum.inr w1, .inl (s14 _ _ h4), rfl, (kd_in (v := fun z => V.int (G.base z)) w1w).symm⟩, _, _, rfl, rfl, ?_⟩
      have hl4 := ((s2.trans s3).trans s4) _ _ hl
      refine ⟨_, rfl, .inl ⟨rfl, _, SqL.of hl4⟩, _, rfl, lf, _, _, rfl, rfl, hl4, by rw [List.length_map]; exact Nat.lt_of_le_of_lt (show _ ≤ 6 by omega) (by decide), ?_⟩
      have s15 := s14.mut (o := .lst (acc.map V.str ++ [V.str w1])) hlf
      have hP5 := hU.at.mono s15
      refine ⟨_, rfl, q, CM, dx, _, _, rfl, s15 _ _ h1, L.cl, Z.own_program, nuf_program, _, rfl, hP5.isI, p, G, w1, rfl, hP5, ok.wsW w1 w1w, w1w, fun t H6 s6 ht => ?_⟩
      refine ⟨t, _, 1, _, rfl, rfl, SqT.of ht, atI_nat (j := 1) rfl, ?_⟩
      refine ⟨_, _, _, _, rfl, s15.trans s6, s6 _ _ ?_, rfl, rfl⟩
      rw [upd_same]
      unfold strL
      rw [List.map_append]
      rfl
    · have c : ¬ (0 < left ∨ pl ∉ G.ex) := fun z => hb (decide_eq_true z)
      rw [runL_stop c, List.append_nil] at run
      refine ⟨_, rfl, k lf _ s12 hlf ?_⟩
      rw [← run]
      exact s2 _ _ hl
end
end K23
namespace K23
open PySem PySem.Spec PyProof.Rows L2
/-- the dict of ints at d is none of the program's objects -/
theorem PgU.upd {CP : Addr} {H : Hp} {p d : Addr} {G : Prg} {st : Str → Int} {o : HO} (h : PgU CP H p G) (hd : ID H d G.ws st) (ok : G.Ok) : PgAt CP (upd H d o) p G := by
  obtain ⟨dx, dp, lp, le, do_, di, h1, ⟨g, h2, h2'⟩, h3, h4, ⟨g5, h5, h5'⟩, h6⟩ := h
  obtain ⟨w0, ws', hws⟩ : ∃ w0 ws', G.ws = w0 :: ws' := by
    cases e : G.ws with
    | nil => exact absurd e ok.wsE
    | cons a b => exact ⟨a, b, rfl⟩
  have n2 : dp ≠ d := ne_of h2 hd (by
    intro z
    have z' := HO.dK.inj z
    rw [hws] at z'
    have z2 := (List.cons.inj z').1
    cases (Prod.mk.inj z2).2)
  have n5 : do_ ≠ d := ne_of h5 hd (by
    intro z
    have z' := HO.dK.inj z
    have hb := ok.bgP
    rw [hws] at z'
    cases e : G.pl with
    | nil => rw [e] at hb; cases hb
    | cons a b =>
      rw [e] at z'
      have z2 := (List.cons.inj z').1
      cases (Prod.mk.inj z2).2)
  refine ⟨dx, dp, lp, le, do_, di, by rw [upd_ne (ne_of h1 hd (by intro z; cases z))]; exact h1, ⟨g, .inl (by rw [upd_ne n2]; exact h2), fun k hk => ?_⟩, ?_, ?_, ⟨g5, .inl (by rw [upd_ne n5]; exact h5), fun k hk => ?_⟩⟩
  · rw [upd_ne (ne_of (h2' k hk) hd (by intro z; cases z))]
    exact h2' k hk
  · rw [upd_ne (ne_of h3 hd (by intro z; cases z))]
    exact h3
  · rw [upd_ne (ne_of h4 hd (by intro z; cases z))]
    exact h4
  · rw [upd_ne (ne_of (h5' k hk) hd (by intro z; cases z))]
    exact h5' k hk
theorem rd_lock {H : Hp} {a d : Addr} {u o : HO} {od : Obj} (ha : H a = some o) (hd : H d = some u) : Rd (upd H d (.frz od u)) a o := by
  by_cases e : a = d
  · rw [e] at ha ⊢
    rw [ha] at hd
    cases hd
    exact .inr ⟨od, upd_same⟩
  · exact .inl (by rw [upd_ne e]; exact ha)
theorem wsLp {G : Prg} (ok : G.Ok) {x : Str} (h : x ∈ G.ws) : True := trivial
/-- the steps behind levels -/
def movS (G : Prg) (st lv : Str → Int) : Str → Int := fun x => st x + lv (G.to x) - lv (G.fr x)
theorem NuX.less {CP CM : Addr} {H0 H1 H : Hp} {q p d3 : Addr} {G : Prg} {st : Str → Int} (h : NuX CP CM H1 H q p d3 G st) (s : Same H0 H1) : NuX CP CM H0 H q p d3 G st := by
  obtain ⟨dx, d1, d2, h1, h2, h3, h4, h5, h6, h7, f1, f2, f3⟩ := h
  exact ⟨dx, d1, d2, h1, h2, h3, h4, h5, h6, h7, s.free f1, s.free f2, s.free f3⟩
section
variable {P : PySem.Program} {w : World} {K : PySem.W.Frag} {mg : Str → Option Value} {base : Heap} {CP CM CB fB : Addr} {f : Addr} {fd : FuncData}
def spWithLev (CP CM : Addr) : Sp := fun vs H Q _ => ∃ q p d3 G st dl lv, vs = [.ref q, .ref dl] ∧ NuAt CP CM H q p d3 G st ∧ G.Ok ∧ ID H dl G.pl lv ∧
  ∀ q' d3' H', Same H H' → H q' = none → NuX CP CM H H' q' p d3' G (movS G st lv) → Q (.ref q') H'
theorem ok_M_with_levels (LP : ClT K mg "Program" CP) (L : ClT K mg "Numbering" CM) (Z : Fld K CP CM) (DN : MeD P w K mg base CX0 6 CM "__init__" p_M_init (spNuInit CP CM)) (DG : MeD P w K mg base CX0 3 CP "__getitem__" p_P_getitem (spGet CP))
    (T : MeT K CM "with_levels" "Numbering.with_levels" s_M_with_levels p_M_with_levels f fd) : MeD P w K mg base CX0 8 CM "with_levels" p_M_with_levels (spWithLev CP CM) := by
  refine .of T (T.fn.ok sc_M_with_levels (fun vs H Q E h => ?_) (fun cdv A outer s H vs Q E hr h => ?_))
  · obtain ⟨q, p, d3, G, st, dl, lv, rfl, _⟩ := h
    rfl
  · obtain ⟨q, p, d3, G, st, dl, lv, rfl, hN, ok, hL, k⟩ := h
    have hu := hu_of hr
    have hr4 : Room 4 _ := hr.mono (by decide)
    refine ⟨_, pss_cons (ps_set (i := 2) sc_M_with_levels.nd rfl (Or.inl rfl) (pe_new L DN hr pass0 (pa_cons (pe_fld (pv 0) rfl) pa_nil)))
      (pss_cons (ps_lock (ps_for PassesOwn.never rfl (pi_keys (pe_fld (pv 0) rfl)) (pg_name (i := 3) sc_M_with_levels.nd rfl (Or.inl rfl))
        (pss_cons (ps_asg (pe_gi (pe_fld (pv 0) rfl) (pv 3) DG hr4 pass0) (pg_tup (by rfl) (pgs_cons (pg_name (i := 4) sc_M_with_levels.nd rfl (Or.inl rfl)) (pgs_cons (pg_name (i := 5) sc_M_with_levels.nd rfl (Or.inl rfl)) pgs_nil))))
        (pss_one (ps_dput hu (pe_fld (pv 2) rfl) (pv 3) (pe_op op_sub (pe_op op_add (pe_dget hu (pe_fld (pv 0) rfl) (pv 3) (fun _ _ => rfl)) (pe_dget hu (pv 1) (pv 5) (fun _ _ => rfl))) (pe_dget hu (pv 1) (pv 4) (fun _ _ => rfl))) rfl)))))
      (pss_one (ps_ret (pv 2)))), ?_⟩
    obtain ⟨dx, d1, d2, h1, hU, hO, h4, h5⟩ := id hN
    refine ⟨_, rfl, q, CM, dx, _, _, rfl, h1, L.cl, Z.own_program, nuf_program, fun q' dxn hq' hdx' ndx => ?_⟩
    refine ⟨H, q', dxn, p, G, rfl, ((Same.new hdx').mut hq'), hq', upd_same, hU, ok, fun d3' H1 s1 hN' => ⟨rfl, ?_⟩⟩
    obtain ⟨dx', d1', d2', k1, kU, kO, k4, k5, k6, k7, f1, f2, f3⟩ := id hN'
    have ne3 : ∀ {x : Addr}, H x = none → x ≠ d3 := fun hx z => by
      rw [z, show H d3 = _ from h5] at hx
      cases hx
    have g5 := s1 _ _ h5
    have nq3 : q' ≠ d3 := ne3 hq'
    have n1 : q ≠ d3 := ne_of h1 h5 (by intro z; cases z)
    refine ⟨d3, _, g5, trivial, fun od => ?_⟩
    have sb : Same (upd H d3 (.frz od (.dK (kd G.ws fun k => .int (st k))))) (upd H1 d3 (.frz od (.dK (kd G.ws fun k => .int (st k))))) := fun b o hb => by
      by_cases e : b = d3
      · rw [e, upd_same] at hb ⊢
        exact hb
      · rw [upd_ne e] at hb ⊢
        exact s1 _ _ hb
    have bP : PgAt CP (upd H d3 (.frz od (.dK (kd G.ws fun k => .int (st k))))) p G := hU.upd h5 ok
    have bq : upd H d3 (.frz od (.dK (kd G.ws fun k => .int (st k)))) q = some (.ins CM dx (nuF p d1 d2 d3)) := by
      rw [upd_ne n1]
      exact h1
    have b3 : upd H d3 (.frz od (.dK (kd G.ws fun k => .int (st k)))) d3 = some (.frz od (.dK (kd G.ws fun k => .int (st k)))) := upd_same
    have bL : Rd (upd H d3 (.frz od (.dK (kd G.ws fun k => .int (st k))))) dl (.dK (kd G.pl fun k => .int (lv k))) := rd_lock hL h5
    have b33 : upd H d3 (.frz od (.dK (kd G.ws fun k => .int (st k)))) d3' = none := by rw [upd_ne (ne3 f3)]; exact f3
    refine ⟨_, rfl, q, CM, dx, _, _, rfl, sb _ _ bq, L.cl, Z.steps, nuf_steps, d3, od, rfl, .inl ⟨_, sb _ _ b3, ?_⟩⟩
    generalize hHb : upd H d3 (.frz od (.dK (kd G.ws fun k => .int (st k)))) = Hb at sb bP bq b3 bL b33 ⊢
    refine for_si (si_keys b3) (fun i σ' H' => ∃ (v3 v4 v5 : Option V), σ' = [some (.ref q), some (.ref dl), some (.ref q'), v3, v4, v5] ∧ Same Hb H' ∧ H' q' = some (.ins CM dx' (nuF p d1' d2' d3')) ∧ OnAt H' d1' G ∧ ID H' d2' G.ws G.base ∧ ID H' d3' G.ws fun x => if x ∈ G.ws.take i then movS G st lv x else G.base x)
      ⟨none, none, none, rfl, sb, by rw [upd_ne nq3]; exact k1, ?_, ?_, ?_⟩ (fun i σ' H' ⟨_, _, _, _, z, _⟩ => z) ?_ ?_
    · obtain ⟨ks, o1, o2⟩ := kO
      exact ⟨ks, by unfold ID; rw [upd_ne (ne3 f1)]; exact o1, o2⟩
    · unfold ID
      rw [upd_ne (ne3 f2)]
      exact k4
    · unfold ID
      rw [upd_ne (ne3 f3)]
      refine k5.trans ?_
      congr 2
    · rintro i x σ' H' hx ⟨v3, v4, v5, rfl, t1, t2, t3, t4, t5⟩
      have xw := List.mem_of_getElem? hx
      refine ⟨_, rfl, q, CM, dx, _, _, rfl, t1 _ _ bq, L.cl, Z.own_program, nuf_program, _, rfl, (bP.mono t1).isI, p, G, x, rfl, bP.mono t1, ok.wsW x xw, xw, fun t H2 s2 ht => ?_⟩
      have t12 := t1.trans s2
      refine ⟨t, _, rfl, SqT.of ht, rfl, _, _, rfl, _, _, rfl, rfl, ?_⟩
      refine ⟨_, rfl, q, CM, dx, _, _, rfl, t12 _ _ bq, L.cl, Z.steps, nuf_steps, _, rfl, d3, _, rfl, .inl ⟨_, Sum.inr x, .inr ⟨od, t12 _ _ b3⟩, rfl, (kd_in (v := fun z => V.int (st z)) xw).symm⟩, ?_⟩
      refine ⟨_, rfl, _, rfl, dl, _, rfl, .inl ⟨_, Sum.inr (G.to x), rd_mono t12 bL, rfl, (kd_in (v := fun z => V.int (lv z)) (ok.toP x xw)).symm⟩, ?_⟩
      refine ⟨_, _, rfl, rfl, ?_⟩
      refine ⟨_, rfl, _, rfl, dl, _, rfl, .inl ⟨_, Sum.inr (G.fr x), rd_mono t12 bL, rfl, (kd_in (v := fun z => V.int (lv z)) (ok.frP x xw)).symm⟩, ?_⟩
      refine ⟨_, _, rfl, rfl, ?_⟩
      refine ⟨_, rfl, q', CM, dx', _, _, rfl, s2 _ _ t2, L.cl, Z.steps, nuf_steps, _, rfl, d3', _, rfl, DPut.k (k := Sum.inr x) (s2 _ _ t5) (by rw [kd_len]; exact Nat.lt_of_le_of_lt ok.wsL (by decide)), ?_⟩
      refine ⟨_, _, _, rfl, t12.mut b33, by rw [upd_ne (ne_of t2 t5 (by intro z; cases z))]; exact s2 _ _ t2, ?_, ?_, ?_⟩
      · obtain ⟨ks, o1, o2⟩ := t3
        exact ⟨ks, by unfold ID; rw [upd_ne k6]; exact s2 _ _ o1, o2⟩
      · unfold ID
        rw [upd_ne k7]
        exact s2 _ _ t4
      · unfold ID
        rw [upd_same, kd_put_in xw]
        congr 2
        refine kd_congr fun z hz => ?_
        by_cases c : z = x
        · rw [c, setF_same]
          show V.int (st x + lv (G.to x) - lv (G.fr x)) = V.int (if x ∈ G.ws.take (i + 1) then movS G st lv x else G.base x)
          rw [if_pos (by rw [take_snoc hx]; exact List.mem_append_right _ List.mem_cons_self)]
          rfl
        · rw [setF_ne c]
          show V.int (if z ∈ G.ws.take i then movS G st lv z else G.base z) = V.int (if z ∈ G.ws.take (i + 1) then movS G st lv z else G.base z)
          have : z ∈ G.ws.take (i + 1) ↔ z ∈ G.ws.take i := by
            rw [take_snoc hx, List.mem_append]
            exact ⟨fun h => h.elim id fun h => absurd (List.mem_singleton.mp h) c, .inl⟩
          simp only [this]
    · rintro σ' H' ⟨v3, v4, v5, rfl, t1, t2, t3, t4, t5⟩
      refine ⟨t1 _ _ b3, _, rfl, ?_⟩
      have sf : Same H (upd H' d3 (.dK (kd G.ws fun k => .int (st k)))) := fun b o hb => by
        by_cases e : b = d3
        · rw [e, show H d3 = _ from h5] at hb
          cases hb
          rw [e, upd_same]
        · rw [upd_ne e]
          refine t1 _ _ ?_
          rw [← hHb, upd_ne e]
          exact hb
      refine k q' d3' _ sf hq' ⟨dx', d1', d2', by rw [upd_ne nq3]; exact t2, hU.mono sf, ?_, ?_, ?_, k6, k7, f1, f2, f3⟩
      · obtain ⟨ks, o1, o2⟩ := t3
        exact ⟨ks, by unfold ID; rw [upd_ne (ne3 f1)]; exact o1, o2⟩
      · unfold ID
        rw [upd_ne (ne3 f2)]
        exact t4
      · unfold ID
        rw [upd_ne (ne3 f3)]
        refine t5.trans ?_
        congr 2
        refine kd_congr fun z hz => ?_
        show V.int (if z ∈ G.ws.take G.ws.length then movS G st lv z else G.base z) = _
        rw [List.take_length, if_pos hz]
/-! ### moved -/
def spMoved (CP CM CB : Addr) : Sp := fun vs H Q E => ∃ q p d3 G st v, vs = [.ref q, v] ∧ NuAt CP CM H q p d3 G st ∧ G.Ok ∧
  (((Lev G.pl H v false ∨ ∃ dl lv, v = .ref dl ∧ ID H dl G.pl lv ∧ ∃ x ∈ G.bg :: G.ex, lv x ≠ 0) ∧ ∀ d H', Same H H' → H' d = some (.xd [(("value" : Str), v)]) → E (.ref CB) (some d) H') ∨
   ∃ dl lv, v = .ref dl ∧ ID H dl G.pl lv ∧ (∀ x ∈ G.bg :: G.ex, lv x = 0) ∧ ∀ q' d3' H', Same H H' → H q' = none → NuX CP CM H H' q' p d3' G (movS G st lv) → Q (.ref q') H')
theorem lev_id {pl : List Str} {H : Hp} {d : Addr} {lv : Str → Int} (h : ID H d pl lv) : Lev pl H (.ref d) true := by
  have e : wholeD pl (kd pl fun k => V.int (lv k)) = true := by
    unfold wholeD
    rw [kd_len, decide_eq_true rfl, Bool.true_and, List.all_eq_true]
    intro x hx
    unfold intAt
    rw [kd_in (v := fun k => V.int (lv k)) hx]
    rfl
  rw [← e]
  refine .dct h fun x v hv => ?_
  rw [kd_val] at hv
  split at hv
  · cases hv
    exact .inl rfl
  · cases hv
theorem ok_M_moved (LP : ClT K mg "Program" CP) (L : ClT K mg "Numbering" CM) (B : Blt mg) (Z : Fld K CP CM) (V0 : PySem.LvX.LvT K mg CB fB) (DA : FnD P w K mg base CX0 2 "are_whole" p_are_whole spAreWhole) (DPl : MeD P w K mg base CX0 1 CP "places" p_P_places (spPlaces CP)) (DX : MeD P w K mg base CX0 1 CP "exits" p_P_exits (spExits CP))
    (DB : PrD P w K mg base CX0 1 CP "begin" p_P_begin (spBegin CP)) (DW : MeD P w K mg base CX0 8 CM "with_levels" p_M_with_levels (spWithLev CP CM))
    (T : MeT K CM "moved" "Numbering.moved" s_M_moved p_M_moved f fd) : MeD P w K mg base (L2.CX P w) 9 CM "moved" p_M_moved (spMoved CP CM CB) := by
  refine .of T (T.fn.okX sc_M_moved (fun vs H Q E h => ?_) (fun cdv A outer s H vs Q E hr h => ?_))
  · obtain ⟨q, p, d3, G, st, v, rfl, _⟩ := h
    rfl
  · obtain ⟨q, p, d3, G, st, v, rfl, hN, ok, h⟩ := h
    have hu := hu_of hr
    have hr1 : Room 1 _ := hr.mono (by decide)
    have hr2 : Room 2 _ := hr.mono (by decide)
    refine ⟨_, pss_cons (ps_set (i := 2) sc_M_moved.nd rfl (Or.inl rfl) (pe_fld (pv 0) rfl))
      (pss_cons (ps_if (pt_not (pt_val (pe_f DA hr2 pass0 (pa_cons (pe_m0 (pv 2) LP.cl DPl hr1 pass0) (pa_cons (pv 1) (pa_cons pe_non pa_nil)))))) (pss_one (ps_raiseLv rfl V0 hr (takes_of rfl rfl rfl rfl) (by exact (pa_cons (pv 1) pa_nil)))) pss_nil)
      (pss_cons (ps_if (pt_val (pe_callB (cr_any rfl) (by rfl) B.any_ (by decide +kernel) (pa_cons
          (pe_lc (own := [("place", 3)]) (g := gName 3) (tt := tYes) (te := tOp rNe (tDGet (tVar 1) (tVar 3)) (tC (.int 0))) rfl sc_M_moved.nd (pi_list (pe_lst (pa_cons (pe_p (pv 2) LP.cl DB hr2 pass0) (StX.pa_star (pe_m0 (pv 2) LP.cl DX hr1 pass0) pa_nil)))) (blkOk_by (own := [("place", 3)]) (N := N_M_moved) (sc := defScope s_M_moved) (by decide +kernel))
            (fun _ _ _ _ _ => pg_name (i := 3) sc_M_moved.nd rfl (Or.inl rfl)) (fun _ _ _ _ _ => pts_nil) (fun _ _ _ _ _ => pe_cmpR op_ne (pe_dget hu (pv 1) (pv 3) (fun _ _ => rfl)) pe_int (nomark _))) pa_nil))) (pss_one (ps_raiseLv rfl V0 hr (takes_of rfl rfl rfl rfl) (by exact (pa_cons (pv 1) pa_nil)))) pss_nil)
      (pss_one (ps_ret (pe_m (pv 0) L.cl DW hr pass0 (pa_cons (pv 1) pa_nil)))))), ?_⟩
    obtain ⟨dx, d1, d2, h1, hU, hO, h4, h5⟩ := id hN
    refine ⟨_, rfl, q, CM, dx, _, _, rfl, h1, L.cl, Z.own_program, nuf_program, ?_⟩
    refine ⟨_, rfl, hU.at.isO, p, G, rfl, hU.at, fun lp hlp => ?_⟩
    have s1 := Same.new (o := strL G.pl) hlp
    -- what is refused at once
    have raise_ : ∀ (H2 : Hp), Same H H2 → (∀ d H', Same H H' → H' d = some (.xd [(("value" : Str), v)]) → E (.ref CB) (some d) H') → ∀ d, H2 d = none → E (.ref CB) (some d) (upd H2 d (.xd [(("value" : Str), v)])) :=
      fun H2 s2 hE d hd => hE d _ (s2.trans (Same.new hd)) upd_same
    rcases h with ⟨hl | ⟨dl, lv, rfl, hI, x0, hx0, ne0⟩, hE⟩ | ⟨dl, lv, rfl, hI, hz, k⟩
    · exact ⟨_, rfl, lp, G.pl, v, false, rfl, upd_same, ok.plL, hl.mono s1, fun H2 s2 => ⟨false, rfl, iteT ⟨_, rfl, v, rfl, raise_ H2 (s1.trans s2) hE⟩⟩⟩
    all_goals
      refine ⟨_, rfl, lp, G.pl, _, true, rfl, upd_same, ok.plL, (lev_id hI).mono s1, fun H2 s2 => ⟨true, rfl, iteF ?_⟩⟩
      have s12 := s1.trans s2
      have hP2 := hU.at.mono s12
      refine ⟨_, rfl, hP2.isI, p, G, rfl, hP2, _, rfl, hP2.isO, p, G, rfl, hP2, fun lx hlx => ?_⟩
      have s3 := s12.trans (Same.new (o := strL G.ex) hlx)
      refine ⟨lx, _, rfl, .inr (SqL.of upd_same), ?_, fun ll hll => ?_⟩
      · show (V.str G.bg :: (G.ex.map V.str ++ [])).length ≤ sizeLine
        have := ok.exL
        rw [List.append_nil, List.length_cons, List.length_map]
        exact Nat.le_trans (show _ ≤ 41 by omega) (by decide)
      have hll' : upd (upd H2 lx (strL G.ex)) ll (.lst (V.str G.bg :: (G.ex.map V.str ++ []))) ll = some (strL (G.bg :: G.ex)) := by
        rw [upd_same, List.append_nil]
        rfl
      have s4 := s3.trans (Same.new (o := .lst (V.str G.bg :: (G.ex.map V.str ++ []))) hll)
      refine ⟨ll, rfl, ⟨_, SqL.of hll'⟩, fun D hD => lc_si (si_list hll') (Same.refl _) hD (by have := ok.exL; rw [List.length_cons]; omega) (fun _ => true) (fun x => .bl (!decide (lv x = 0))) (fun _ => rfl) (fun _ _ => puT_yes) (fun y hy _ => ?_) fun H5 s5 hD5 => ?_⟩
      · intro H5 s5 Q' c
        have yp : y ∈ G.pl := (List.mem_cons.mp hy).elim (fun e => e ▸ ok.bgP) (ok.exP y)
        refine ⟨_, rfl, _, rfl, dl, _, rfl, .inl ⟨_, Sum.inr y, .inl ((s4.trans s5) _ _ hI), rfl, (kd_in (v := fun z => V.int (lv z)) yp).symm⟩, rfl, ?_⟩
        have e : decide (V.int (lv y) = V.int 0) = decide (lv y = 0) := by simp
        rw [e]
        exact c _ (Same.refl _)
      rw [filter_yes] at hD5
      have s15 := s4.trans s5
      refine ⟨D, (G.bg :: G.ex).map fun x => !decide (lv x = 0), rfl, SqL.of (by rw [List.map_map]; exact hD5), _, rfl, ?_⟩
      rw [List.any_map]
    · have e : (G.bg :: G.ex).any (id ∘ fun x => !decide (lv x = 0)) = true := List.any_eq_true.mpr ⟨x0, hx0, by simp [ne0]⟩
      exact iteB e ⟨_, rfl, _, rfl, raise_ _ s15 hE⟩
    · have e : (G.bg :: G.ex).any (id ∘ fun x => !decide (lv x = 0)) = false := by
        rw [List.any_eq_false]
        intro x hx
        simp [hz x hx]
      refine iteBF e ?_
      have hN5 := hN.mono s15
      refine ⟨_, rfl, hN5.isO, _, rfl, q, p, d3, G, st, dl, lv, rfl, hN5, ok, hI.mono s15, fun q' d3' H' s6 f1 hN' => k q' d3' H' (s15.trans s6) (s15.free f1) (hN'.less s15)⟩
end
end K23
/-! == of lists of texts; a list in order. -/
namespace K23
open PySem PySem.Spec PyProof.Rows L2
/-! ### == of lists of texts -/
theorem strs_depth (ss : List Str) : PyData.depthAll (ss.map PyData.str) = 0 := by
  induction ss with
  | nil => rfl
  | cons x l ih => simp [PyData.depthAll, PyData.depth, ih]
theorem word_ok {x : Str} (h : Word x) : PyData.strOk x = true := by
  unfold PyData.strOk
  rw [← Array.all_toList, List.all_eq_true]
  intro c hc
  have := h.2.2 c hc
  exact decide_eq_true (by omega)
theorem strs_lay : ∀ ss : List Str, (∀ x ∈ ss, Word x) → PyData.canLayAll0 (ss.map PyData.str) = true
  | [], _ => rfl
  | x :: l, h => by simp [PyData.canLayAll0, PyData.canLay0, strs_lay l fun y hy => h y (List.mem_cons_of_mem _ hy), word_ok (h x List.mem_cons_self)]
theorem strs_shaped {ss : List Str} (h : ∀ x ∈ ss, Word x) : SeqAt.shaped (.list (ss.map PyData.str)) = true := by
  unfold SeqAt.shaped
  rw [Bool.and_eq_true]
  exact ⟨strs_lay ss h, decide_eq_true (by rw [PyData.depth, strs_depth]; omega)⟩
theorem dp_all {K : PySem.W.Frag} {H : Hp} : ∀ ss : List Str, DpAll K H (ss.map V.str) (ss.map PyData.str)
  | [] => .nil
  | x :: l => .cons (.str x) (dp_all l)
theorem dp_strs {K : PySem.W.Frag} {H : Hp} {a : Addr} {ss : List Str} (h : H a = some (strL ss)) : Dp K H (.ref a) (.list (ss.map PyData.str)) := .lst (SqL.of h) (dp_all ss)
theorem eqv_strs : ∀ (a b : List Str), PyData.eqvAll (a.map PyData.str) (b.map PyData.str) = decide (a = b)
  | [], [] => rfl
  | [], _ :: _ => by simp [PyData.eqvAll]
  | _ :: _, [] => by simp [PyData.eqvAll]
  | x :: a, y :: b => by
    simp only [List.map_cons, PyData.eqvAll, PyData.eqv, eqv_strs a b]
    by_cases h1 : x = y
    · by_cases h2 : a = b <;> simp [h1, h2]
    · simp [h1]
/-- xs == ys -/
theorem eqD_strs {K : PySem.W.Frag} {H : Hp} {a b : Addr} {xs ys : List Str} {Q : VK} (h : H a = some (strL xs)) (h' : H b = some (strL ys)) (w1 : ∀ x ∈ xs, Word x) (w2 : ∀ x ∈ ys, Word x) (q : Q (.bl (decide (xs = ys))) H) : rEqD K (.ref a) (.ref b) H Q :=
  ⟨_, _, dp_strs h, dp_strs h', strs_shaped w1, strs_shaped w2, by rw [show PyData.eqv (.list (xs.map PyData.str)) (.list (ys.map PyData.str)) = decide (xs = ys) from eqv_strs xs ys]; exact q⟩
theorem neD_strs {K : PySem.W.Frag} {H : Hp} {a b : Addr} {xs ys : List Str} {Q : VK} (h : H a = some (strL xs)) (h' : H b = some (strL ys)) (w1 : ∀ x ∈ xs, Word x) (w2 : ∀ x ∈ ys, Word x) (q : Q (.bl (!decide (xs = ys))) H) : rNeD K (.ref a) (.ref b) H Q :=
  ⟨_, _, dp_strs h, dp_strs h', strs_shaped w1, strs_shaped w2, by rw [show PyData.eqv (.list (xs.map PyData.str)) (.list (ys.map PyData.str)) = decide (xs = ys) from eqv_strs xs ys]; exact q⟩
/-! ### a list in order -/
theorem lt_asymm' : ∀ (a b : List Nat), ltCps a b = true → ltCps b a = false
  | [], [], h => by simp [ltCps] at h
  | [], _ :: _, _ => by simp [ltCps]
  | _ :: _, [], h => by simp [ltCps] at h
  | x :: a, y :: b, h => by
    simp only [ltCps, Bool.or_eq_true, decide_eq_true_eq, Bool.and_eq_true, beq_iff_eq] at h
    simp only [ltCps, Bool.or_eq_false_iff, decide_eq_false_iff_not, Bool.and_eq_false_iff, beq_eq_false_iff_ne]
    rcases h with h | ⟨e, h⟩
    · exact ⟨by omega, .inl (by omega)⟩
    · exact ⟨by omega, .inr (lt_asymm' a b h)⟩
theorem leS_total (a b : Str) : leS a b ∨ leS b a := by
  unfold leS
  cases h : ltCps b.cps.toList a.cps.toList with
  | false => exact .inl rfl
  | true => exact .inr (lt_asymm' _ _ h)
theorem pw_rising : ∀ (l : List Str) (p : Str), (p :: l).Pairwise leS → risingS p l = true
  | [], _, _ => rfl
  | x :: r, p, h => by
    obtain ⟨h1, h2⟩ := List.pairwise_cons.mp h
    simp only [risingS, Bool.and_eq_true, Bool.not_eq_true']
    exact ⟨h1 x List.mem_cons_self, pw_rising r x h2⟩
theorem pw_sorted {l : List Str} (h : l.Pairwise leS) : sortedS l = true := by
  cases l with
  | nil => rfl
  | cons x r => exact pw_rising r x h
theorem insert_pw (x : Str) : ∀ l : List Str, l.Pairwise leS → ∃ m : List Str, m.Perm (x :: l) ∧ m.Pairwise leS
  | [], _ => ⟨[x], .refl _, List.pairwise_singleton _ _⟩
  | y :: l, h => by
    obtain ⟨h1, h2⟩ := List.pairwise_cons.mp h
    rcases leS_total x y with c | c
    · refine ⟨x :: y :: l, .refl _, List.pairwise_cons.mpr ⟨fun z hz => ?_, h⟩⟩
      rcases List.mem_cons.mp hz with e | hz
      · rw [e]; exact c
      · exact leS_trans c (h1 z hz)
    · obtain ⟨m, hp, hs⟩ := insert_pw x l h2
      refine ⟨y :: m, (List.Perm.cons y hp).trans (List.Perm.swap x y l), List.pairwise_cons.mpr ⟨fun z hz => ?_, hs⟩⟩
      rcases List.mem_cons.mp (hp.mem_iff.mp hz) with e | hz
      · rw [e]; exact c
      · exact h1 z hz
theorem sort_ex : ∀ l : List Str, ∃ m : List Str, m.Perm l ∧ sortedS m = true := by
  have go : ∀ l : List Str, ∃ m : List Str, m.Perm l ∧ m.Pairwise leS := fun l => by
    induction l with
    | nil => exact ⟨[], .refl _, List.Pairwise.nil⟩
    | cons x l ih =>
      obtain ⟨m, h1, h2⟩ := ih
      obtain ⟨m', h3, h4⟩ := insert_pw x m h2
      exact ⟨m', h3.trans (List.Perm.cons x h1), h4⟩
  intro l
  obtain ⟨m, h1, h2⟩ := go l
  exact ⟨m, h1, pw_sorted h2⟩
/-- two sorted lists of the same texts, each once -/
theorem sorted_same {l m : List Str} (h : sortedS l = true) (h' : sortedS m = true) (n : l.Nodup) (n' : m.Nodup) (e : ∀ x, x ∈ l ↔ x ∈ m) : l = m :=
  sorted_unique h h' ((List.perm_ext_iff_of_nodup n n').mpr e)
theorem insS_nd {L : List Str} {x : Str} (h : L.Nodup) : (insS L x).Nodup := by
  unfold insS
  split
  · exact h
  · rename_i c
    exact nd_snoc h c
end K23
namespace K23
open PySem PySem.Spec PyProof.Rows L2
section
variable {P : PySem.Program} {w : World} {K : PySem.W.Frag} {mg : Str → Option Value} {base : Heap} {CP CM : Addr} {f : Addr} {fd : FuncData}
/-! ### are_ways -/
def tupO (fr to : Str → Str) (k : Str) : HO := .tup [.str (fr k), .str (to k)]
def spAreWays : Sp := fun vs H Q _ => ∃ d ks fr to, vs = [.ref d] ∧ RU H d ks (tupO fr to) ∧ ks ≠ [] ∧ ks.length ≤ 40 ∧ (∀ k ∈ ks, Word k ∧ Word (fr k) ∧ Word (to k)) ∧ ∀ H', Same H H' → Q (.bl true) H'
theorem ok_are_ways (B : Blt mg) (DW : FnD P w K mg base CX0 1 "is_word" p_is_word spWord) (T : FnT K mg "are_ways" s_are_ways p_are_ways f fd) : FnD P w K mg base CX0 2 "are_ways" p_are_ways spAreWays := by
  obtain ⟨tW, hW⟩ := B.mostW
  refine .of T (T.fn.ok sc_are_ways (fun vs H Q E h => ?_) (fun cdv A outer s H vs Q E hr h => ?_))
  · obtain ⟨d, ks, fr, to, rfl, _⟩ := h
    rfl
  · obtain ⟨d, ks, fr, to, rfl, ⟨g, hd, hg⟩, ne, len, ww, k⟩ := h
    have hu := hu_of hr
    refine ⟨_, pss_cons (ps_if (PW.pt (pw_or (pt_not (pt_val (pe_callB call_isi (by rfl) B.isinstance (by decide +kernel) (pa_cons (pv 0) (pa_cons (pe_bltn (v := .ty "dict") (by rfl) B.dict (by decide +kernel) rfl) pa_nil)))))
        (pw_or1 (pt_not (pt_chain op_le op_le pe_int (pe_callB call_lenD (by rfl) B.len (by decide +kernel) (pa_cons (pv 0) pa_nil)) (pe_glob (v := .int 40) rfl hW ⟨_, rfl⟩)))))) (pss_one (ps_ret pe_bl)) pss_nil)
      (pss_cons (ps_lock (ps_for PassesOwn.never rfl (pi_keys (pv 0)) (pg_name (i := 1) sc_are_ways.nd rfl (Or.inl rfl))
        (pss_cons (ps_set (i := 2) sc_are_ways.nd rfl (Or.inl rfl) (pe_dget hu (pv 0) (pv 1) (fun _ _ => rfl)))
        (pss_cons (ps_if (PW.pt (pw_or (pt_not (pt_val (pe_f DW hr pass0 (pa_cons (pv 1) pa_nil)))) (pw_or (pt_not (pt_val (pe_callB call_isi (by rfl) B.isinstance (by decide +kernel) (pa_cons (pv 2) (pa_cons (pe_bltn (v := .ty "tuple") (by rfl) B.tuple (by decide +kernel) rfl) pa_nil)))))
            (pw_or1 (pt_cmpR op_ne (pe_callB call_len (by rfl) B.len (by decide +kernel) (pa_cons (pv 2) pa_nil)) pe_int (nomark _)))))) (pss_one (ps_ret pe_bl)) pss_nil)
        (pss_one (ps_if (PW.pt (pw_or (pt_not (pt_val (pe_f DW hr pass0 (pa_cons (pe_ix ix_tup (pv 2) pe_int (fun _ _ => rfl)) pa_nil)))) (pw_or1 (pt_not (pt_val (pe_f DW hr pass0 (pa_cons (pe_ix ix_tup (pv 2) pe_int (fun _ _ => rfl)) pa_nil))))))) (pss_one (ps_ret pe_bl)) pss_nil))))))
      (pss_one (ps_ret pe_bl))), ?_⟩
    refine ⟨_, rfl, _, _, _, _, true, rfl, .ty _, .base (.dK hd), kit_ty (by decide +kernel), true, rfl, iteF ?_⟩
    have len1 : 1 ≤ ks.length := by
      cases ks with
      | nil => exact absurd rfl ne
      | cons a b => simp
    refine ⟨_, rfl, d, _, rfl, hd, _, _, rfl, rfl, true, ?_, iteT ⟨_, _, rfl, rfl, true, ?_, iteF ?_⟩⟩
    · rw [kd_len]
      show V.bl (decide ((1 : Int) ≤ (ks.length : Int))) = V.bl true
      rw [decide_eq_true (by omega)]
    · rw [kd_len]
      show V.bl (decide ((ks.length : Int) ≤ (40 : Int))) = V.bl true
      rw [decide_eq_true (by omega)]
    refine ⟨d, _, hd, trivial, fun od => ?_⟩
    have hg' : ∀ x ∈ ks, upd H d (.frz od (.dK (kd ks fun k => .ref (g k)))) (g x) = some (tupO fr to x) := fun x hx => by
      rw [upd_ne (ne_of (hg x hx) hd (by intro z; cases z))]
      exact hg x hx
    have b3 : upd H d (.frz od (.dK (kd ks fun k => .ref (g k)))) d = some (.frz od (.dK (kd ks fun k => .ref (g k)))) := upd_same
    refine ⟨_, rfl, d, od, rfl, .inl ⟨_, b3, ?_⟩⟩
    generalize hHb : upd H d (.frz od (.dK (kd ks fun k => .ref (g k)))) = Hb at hg' b3 ⊢
    refine for_si (si_keys b3) (fun i σ' H' => ∃ (v1 v2 : Option V), σ' = [some (.ref d), v1, v2] ∧ Same Hb H') ⟨_, _, rfl, Same.refl _⟩ (fun i σ' H' ⟨_, _, _, z⟩ => z) ?_ ?_
    · rintro i x σ' H' hx ⟨v1, v2, rfl, s1⟩
      have xm := List.mem_of_getElem? hx
      obtain ⟨w1, w2, w3⟩ := ww x xm
      refine ⟨_, rfl, _, rfl, d, _, rfl, .inl ⟨_, Sum.inr x, .inr ⟨od, s1 _ _ b3⟩, rfl, (kd_in (v := fun z => V.ref (g z)) xm).symm⟩, ?_⟩
      refine ⟨_, rfl, x, rfl, w1, fun H2 s2 => ⟨true, rfl, iteF ?_⟩⟩
      have s12 := s1.trans s2
      have tx := s12 _ _ (hg' x xm)
      refine ⟨_, rfl, _, _, _, _, true, rfl, .ty _, .base (.tup tx), kit_ty (by decide +kernel), true, rfl, iteF ?_⟩
      refine ⟨_, rfl, _, _, rfl, .inr ⟨_, SqT.of tx, rfl⟩, rfl, _, rfl, iteF ?_⟩
      refine ⟨_, rfl, g x, _, 0, _, rfl, rfl, SqT.of tx, atI_nat (j := 0) rfl, fr x, rfl, w2, fun H3 s3 => ⟨true, rfl, iteF ?_⟩⟩
      refine ⟨_, rfl, g x, _, 1, _, rfl, rfl, SqT.of (s3 _ _ tx), atI_nat (j := 1) rfl, to x, rfl, w3, fun H4 s4 => ⟨true, rfl, iteF ?_⟩⟩
      exact ⟨_, _, rfl, (s12.trans s3).trans s4⟩
    · rintro σ' H' ⟨v1, v2, rfl, s1⟩
      refine ⟨s1 _ _ b3, k _ fun b o hb => ?_⟩
      by_cases e : b = d
      · rw [e, hd] at hb
        cases hb
        rw [e, upd_same]
      · rw [upd_ne e]
        refine s1 _ _ ?_
        rw [← hHb, upd_ne e]
        exact hb
/-! ### ways_at -/
def spWaysAt (CP : Addr) : Sp := fun vs H Q _ => ∃ p dx fs dp ws fr to x j, ∃ sel : Str → Str, vs = [.ref p, .str x, .int (Int.ofNat j)] ∧ H p = some (.ins CP dx fs) ∧ fs.lookup ("pairs" : Str) = some (V.ref dp) ∧ RU H dp ws (tupO fr to) ∧ ws.length ≤ 40 ∧ (∀ k, ([V.str (fr k), V.str (to k)] : List V)[j]? = some (.str (sel k))) ∧
  ∀ l H', Same H H' → H l = none → H' l = some (strL (ws.filter fun k => decide (sel k = x))) → Q (.ref l) H'
theorem ok_P_ways_at (L : ClT K mg "Program" CP) (Z : Fld K CP CM) (T : MeT K CP "ways_at" "Program.ways_at" s_P_ways_at p_P_ways_at f fd) : MeD P w K mg base CX0 1 CP "ways_at" p_P_ways_at (spWaysAt CP) := by
  refine .of T (T.fn.ok sc_P_ways_at (fun vs H Q E h => ?_) (fun cdv A outer s H vs Q E hr h => ?_))
  · obtain ⟨p, dx, fs, dp, ws, fr, to, x, j, sel, rfl, _⟩ := h
    rfl
  · obtain ⟨p, dx, fs, dp, ws, fr, to, x, j, sel, rfl, hp, hf, ⟨g, hd, hg⟩, len, hsel, k⟩ := h
    have hu := hu_of hr
    refine ⟨_, pss_one (ps_ret (pe_lock (pe_lc (own := [("way", 3)]) (g := gName 3) (tt := tTest (tOp rEq (tOp (rIxT K) (tDGet (tFld K (tVar 0) "pairs") (tVar 3)) (tVar 2)) (tVar 1))) (te := tVar 3) rfl sc_P_ways_at.nd (pi_keys (pe_fld (pv 0) rfl)) (blkOk_by (own := [("way", 3)]) (N := N_P_ways_at) (sc := defScope s_P_ways_at) (by decide +kernel))
      (fun _ _ _ _ _ => pg_name (i := 3) sc_P_ways_at.nd rfl (Or.inl rfl)) (fun _ _ _ _ _ => pts_one (pt_cmpR op_eq (pe_ix ix_tup (pe_dget hu (pe_fld (pv 0) rfl) (pv 3) (fun _ _ => rfl)) (pv 2) (fun _ _ => rfl)) (pv 1) (nomark _))) (fun _ _ _ _ _ => pv 3)))), ?_⟩
    refine ⟨dp, _, hd, trivial, fun od => ?_⟩
    have hg' : ∀ x ∈ ws, upd H dp (.frz od (.dK (kd ws fun k => .ref (g k)))) (g x) = some (tupO fr to x) := fun x hx => by
      rw [upd_ne (ne_of (hg x hx) hd (by intro z; cases z))]
      exact hg x hx
    have b3 : upd H dp (.frz od (.dK (kd ws fun k => .ref (g k)))) dp = some (.frz od (.dK (kd ws fun k => .ref (g k)))) := upd_same
    have bp : upd H dp (.frz od (.dK (kd ws fun k => .ref (g k)))) p = some (.ins CP dx fs) := by
      rw [upd_ne (ne_of hp hd (by intro z; cases z))]
      exact hp
    refine ⟨_, rfl, p, CP, dx, _, _, rfl, bp, L.cl, Z.pairs, hf, dp, od, rfl, .inl ⟨_, b3, ?_⟩⟩
    generalize hHb : upd H dp (.frz od (.dK (kd ws fun k => .ref (g k)))) = Hb at hg' b3 bp ⊢
    intro D hD
    have hD0 : H D = none := by
      by_cases e : D = dp
      · rw [e, b3] at hD
        cases hD
      · rw [← hHb, upd_ne e] at hD
        exact hD
    refine lc_si (si_keys b3) (Same.refl _) hD (Nat.le_trans len (by decide)) (fun y => decide (sel y = x)) V.str (fun _ => rfl) (fun y hy => ?_) (fun y hy _ => pu_var rfl) fun H2 s2 hD2 => ?_
    · intro H1 s1 Q' q
      refine ⟨_, rfl, p, CP, dx, _, _, rfl, s1 _ _ bp, L.cl, Z.pairs, hf, _, rfl, dp, _, rfl, .inl ⟨_, Sum.inr y, .inr ⟨od, s1 _ _ b3⟩, rfl, (kd_in (v := fun z => V.ref (g z)) hy).symm⟩, _, rfl, g y, _, j, .str (sel y), rfl, rfl, SqT.of (s1 _ _ (hg' y hy)), atI_nat (hsel y), _, rfl, rfl, _, rfl, ?_⟩
      have e : decide (V.str (sel y) = V.str x) = decide (sel y = x) := by simp
      rw [e]
      exact q _ (Same.refl _)
    · refine ⟨s2 _ _ b3, k D _ (fun b o hb => ?_) hD0 ?_⟩
      · by_cases e : b = dp
        · rw [e, hd] at hb
          cases hb
          rw [e, upd_same]
        · rw [upd_ne e]
          refine s2 _ _ ?_
          rw [← hHb, upd_ne e]
          exact hb
      · rw [upd_ne (ne_of hD2 (s2 _ _ b3) (by intro z; cases z))]
        exact hD2
/-! ### are_exits -/
def spAreExits (CP : Addr) : Sp := fun vs H Q _ => ∃ p dx fs lp le pl exs, vs = [.ref p, .ref le] ∧ H p = some (.ins CP dx fs) ∧ fs.lookup ("own_places" : Str) = some (V.ref lp) ∧ H lp = some (strL pl) ∧ H le = some (strL exs) ∧ exs ≠ [] ∧ exs.Nodup ∧ exs.length ≤ 40 ∧ (∀ x ∈ exs, Word x ∧ x ∈ pl) ∧
  ∀ H', Same H H' → Q (.bl true) H'
theorem ok_P_are_exits (L : ClT K mg "Program" CP) (Z : Fld K CP CM) (B : Blt mg) (DW : FnD P w K mg base CX0 1 "is_word" p_is_word spWord) (T : MeT K CP "are_exits" "Program.are_exits" s_P_are_exits p_P_are_exits f fd) : MeD P w K mg base CX0 2 CP "are_exits" p_P_are_exits (spAreExits CP) := by
  refine .of T (T.fn.ok sc_P_are_exits (fun vs H Q E h => ?_) (fun cdv A outer s H vs Q E hr h => ?_))
  · obtain ⟨p, dx, fs, lp, le, pl, exs, rfl, _⟩ := h
    rfl
  · obtain ⟨p, dx, fs, lp, le, pl, exs, rfl, hp, hf, hlp, hle, ne, nd, len, ww, k⟩ := h
    have hu := hu_of hr
    refine ⟨_, pss_cons (ps_if (PW.pt (pw_or (pt_not (pt_val (pe_callB call_isi (by rfl) B.isinstance (by decide +kernel) (pa_cons (pv 1) (pa_cons (pe_bltn (v := .ty "list") (by rfl) B.list (by decide +kernel) rfl) pa_nil))))) (pw_or1 (pt_cmpR (op_eqD hr.units) (pv 1) (pe_lst pa_nil) (nomark _))))) (pss_one (ps_ret pe_bl)) pss_nil)
      (pss_cons (ps_if (pt_not (pt_val (pe_callB (cr_all rfl) (by rfl) B.all_ (by decide +kernel) (pa_cons
          (pe_lc (own := [("place", 2)]) (g := gName 2) (tt := tYes) (te := tAndV (tF spWord E0 (tCons (tVar 2) tNil)) (tOp (rIn K false) (tVar 2) (tFld K (tVar 0) "own_places"))) rfl sc_P_are_exits.nd (pi_list (pv 1)) (blkOk_by (own := [("place", 2)]) (N := N_P_are_exits) (sc := defScope s_P_are_exits) (by decide +kernel))
            (fun _ _ _ _ _ => pg_name (i := 2) sc_P_are_exits.nd rfl (Or.inl rfl)) (fun _ _ _ _ _ => pts_nil) (fun _ _ _ _ _ => pe_and (pe_f DW hr pass0 (pa_cons (pv 2) pa_nil)) (pe_one (pe_cmpR op_in_seq (pv 2) (pe_fld (pv 0) rfl) (by rfl))))) pa_nil)))) (pss_one (ps_ret pe_bl)) pss_nil)
      (pss_one (ps_ret (pe_cmpR op_eq (pe_callB cr_lenSet (by rfl) B.len (by decide +kernel) (pa_cons
          (pe_scS (own := [("place", 2)]) (g := gName 2) (tt := tYes) (te := tVar 2) rfl sc_P_are_exits.nd (pi_list (pv 1)) (blkOk_by (own := [("place", 2)]) (N := N_P_are_exits) (sc := defScope s_P_are_exits) (by decide +kernel))
            (fun _ _ _ _ _ => pg_name (i := 2) sc_P_are_exits.nd rfl (Or.inl rfl)) (fun _ _ _ _ _ => pts_nil) (fun _ _ _ _ _ => pv 2)) pa_nil)) (pe_callB call_len (by rfl) B.len (by decide +kernel) (pa_cons (pv 1) pa_nil)) (nomark _))))), ?_⟩
    have wds : ∀ x ∈ exs, Word x := fun x hx => (ww x hx).1
    refine ⟨_, rfl, _, _, _, _, true, rfl, .ty _, .base (.lst hle), kit_ty (by decide +kernel), true, rfl, iteF ?_⟩
    refine ⟨_, rfl, Nat.zero_le _, fun le0 hle0 => ?_⟩
    have s0 := Same.new (o := strL []) hle0
    refine eqD_strs (s0 _ _ hle) upd_same wds (fun x hx => absurd hx List.not_mem_nil) ⟨_, rfl, ?_⟩
    rw [decide_eq_false ne]
    refine iteF ?_
    refine ⟨_, rfl, le, rfl, ⟨_, SqL.of (s0 _ _ hle)⟩, fun D hD => lc_si (si_list (s0 _ _ hle)) (Same.refl _) hD (Nat.le_trans len (by decide)) (fun _ => true) (fun _ => .bl true) (fun _ => rfl) (fun _ _ => puT_yes) (fun y hy _ => ?_) fun H1 s1 hD1 => ?_⟩
    · intro H1 s1 Q' q
      have s01 := s0.trans s1
      refine ⟨_, rfl, y, rfl, (ww y hy).1, fun H2 s2 => ⟨true, rfl, iteT ?_⟩⟩
      have s02 := s01.trans s2
      refine ⟨_, rfl, _, rfl, p, CP, dx, _, _, rfl, s02 _ _ hp, L.cl, Z.own_places, hf, lp, _, rfl, .inl (SqL.of (s02 _ _ hlp)), rfl, flat_strs _, ?_⟩
      show Q' (V.bl (inV (.str y) (pl.map V.str))) _
      rw [inV_str, decide_eq_true (ww y hy).2]
      exact q _ s2
    rw [filter_yes] at hD1
    have s01 := s0.trans s1
    refine ⟨D, exs.map fun _ => true, rfl, SqL.of (by rw [List.map_map]; exact hD1), _, rfl, ?_⟩
    have e1 : (exs.map fun _ => true).all id = true := by
      rw [List.all_map, List.all_eq_true]
      exact fun _ _ => rfl
    rw [e1]
    refine iteF ?_
    have hle1 := s01 _ _ hle
    refine ⟨_, rfl, le, rfl, ⟨_, SqL.of hle1⟩, fun D2 hD2 => scG_any (n := exs.length) (fun i H' => Same H1 H' ∧ H' D2 = some (SetO w D2 (exs.take i))) ⟨Same.new hD2, upd_same⟩ (fun i H' hi p' => (si_list (K := K) hle1).go i H' p'.1 hi) (fun H' p' => (si_list (K := K) hle1).stop H' p'.1) ?_ ?_⟩
    · rintro i H' v H2 hi ⟨s2, hd2⟩ y
      obtain ⟨rfl, x, hx, rfl⟩ := (si_list (K := K) hle1).yld i H' v H2 s2 y
      have ni := take_not nd hx
      refine ⟨rfl, _, rfl, x, _, rfl, hd2, ?_, s2.mut hD2, ?_⟩
      · rw [List.length_take]
        exact Nat.lt_of_le_of_lt (show _ ≤ 41 by omega) (by decide)
      · rw [upd_same, take_snoc hx]
        unfold insS
        rw [if_neg ni]
        rfl
    · rintro H2 ⟨s2, hd2⟩
      rw [List.take_length] at hd2
      refine ⟨D2, exs, rfl, hd2, _, rfl, _, _, rfl, .inl ⟨_, SqL.of (s2 _ _ hle1), rfl⟩, rfl, ?_⟩
      have e2 : decide (V.int ((exs.length : Nat) : Int) = V.int (((exs.map V.str).length : Nat) : Int)) = true := by
        rw [List.length_map]
        exact decide_eq_true rfl
      rw [e2]
      exact k _ (s01.trans s2)
end
end K23
namespace K23
open PySem PySem.Spec PyProof.Rows L2
section
variable {P : PySem.Program} {w : World} {K : PySem.W.Frag} {mg : Str → Option Value} {base : Heap} {CP CM : Addr} {f : Addr} {fd : FuncData}
/-! ### come_to -/
structure Come (nx : Str → List Str) (pl xs ys : List Str) : Prop where
  nd : ys.Nodup
  sub : ∀ y ∈ ys, y ∈ pl
  up : ∀ x ∈ xs, x ∈ ys
def spComeTo : Sp := fun vs H Q _ => ∃ a d xs pl nx, vs = [.ref a, .ref d] ∧ H a = some (strL xs) ∧ RU H d pl (fun p => strL (nx p)) ∧ xs.Nodup ∧ (∀ x ∈ xs, x ∈ pl) ∧ (∀ p ∈ pl, ∀ z ∈ nx p, z ∈ pl) ∧ pl.length ≤ 40 ∧
  ∀ l ys H', Same H H' → H' l = some (strL ys) → Come nx pl xs ys → (∀ y ∈ ys, ∀ z ∈ nx y, z ∈ ys) → Q (.ref l) H'
theorem ok_come_to (B : Blt mg) (T : FnT K mg "come_to" s_come_to p_come_to f fd) : FnD P w K mg base CX0 1 "come_to" p_come_to spComeTo := by
  refine .of T (T.fn.ok sc_come_to (fun vs H Q E h => ?_) (fun cdv A outer s H vs Q E hr h => ?_))
  · obtain ⟨a, d, xs, pl, nx, rfl, _⟩ := h
    rfl
  · obtain ⟨a, d, xs, pl, nx, rfl, ha, ⟨g, hd, hg⟩, nd, sub, nxs, len, k⟩ := h
    have hu := hu_of hr
    refine ⟨_, pss_cons (ps_set (i := 2) sc_come_to.nd rfl (Or.inl rfl) (pe_callTy call_list_of (by rfl) B.list (by decide +kernel) (pa_cons (pv 0) pa_nil)))
      (pss_cons (ps_set (i := 3) sc_come_to.nd rfl (Or.inl rfl) pe_int)
      (pss_cons (ps_while PassesOwn.never (pt_cmpR op_lt (pv 3) (pe_callB call_len (by rfl) B.len (by decide +kernel) (pa_cons (pv 2) pa_nil)) (nomark _))
        (pss_cons (ps_for PassesOwn.never rfl (pi_list (pe_dget2 hu (pv 1) (pe_ix ix_list (pv 2) (pv 3) (fun _ _ => rfl)) (pe_lst pa_nil) ⟨rfl, rfl, rfl, rfl⟩)) (pg_name (i := 4) sc_come_to.nd rfl (Or.inl rfl))
          (pss_one (ps_if (pt_cmpR op_notIn_seq (pv 4) (pv 2) (by rfl)) (pss_one (ps_expr (pe_bm PySem.F.plainAttrs_list PySem.F.slot_list_append PySem.F.type_list_append mt_append (pv 2) (pa_cons (pv 4) pa_nil)))) pss_nil)))
        (pss_one (ps_aug (i := 3) sc_come_to.nd rfl (Or.inl rfl) pe_int ip_add))))
      (pss_one (ps_ret (pv 2))))), ?_⟩
    refine ⟨_, rfl, a, _, rfl, .inl (SqL.of ha), fun lf hlf => ?_⟩
    have s0 := Same.new (o := .lst (xs.map V.str)) hlf
    refine ⟨fun m σ' H' => ∃ (ys : List Str) (at_ : Nat) (v4 : Option V), σ' = [some (.ref a), some (.ref d), some (.ref lf), some (.int at_), v4] ∧ Same H H' ∧ H' lf = some (strL ys) ∧ Come nx pl xs ys ∧ at_ ≤ ys.length ∧ (∀ j y, j < at_ → ys[j]? = some y → ∀ z ∈ nx y, z ∈ ys) ∧ m + at_ = pl.length,
      ⟨pl.length, xs, 0, none, rfl, s0, upd_same, ⟨nd, sub, fun x hx => hx⟩, Nat.zero_le _, fun j y hj => absurd hj (Nat.not_lt_zero _), rfl⟩, ?_⟩
    rintro m σ' H' ⟨ys, at_, v4, rfl, s1, hl, cm, hat, done, hm⟩
    refine ⟨_, rfl, _, rfl, _, _, rfl, .inl ⟨_, SqL.of hl, rfl⟩, _, _, rfl, rfl, _, rfl, ?_⟩
    rw [List.length_map]
    refine ite2 (fun hb => ?_) (fun hb => ?_)
    · have hlt : at_ < ys.length := by
        have := of_decide_eq_true hb
        omega
      have yl : ys.length ≤ pl.length := subset_len cm.nd cm.sub
      obtain ⟨q, hq⟩ : ∃ q, ys[at_]? = some q := ⟨_, List.getElem?_eq_getElem hlt⟩
      have qm : q ∈ ys := List.mem_of_getElem? hq
      have qp := cm.sub q qm
      refine ⟨fun σ2 H2 => ∃ (ys : List Str) (v4 : Option V), σ2 = [some (.ref a), some (.ref d), some (.ref lf), some (.int ((at_ : Int) + 1)), v4] ∧ Same H H2 ∧ H2 lf = some (strL ys) ∧ Come nx pl xs ys ∧ at_ + 1 ≤ ys.length ∧ (∀ j y, j < at_ + 1 → ys[j]? = some y → ∀ z ∈ nx y, z ∈ ys),
        fun σ2 H2 ⟨ys, v4, e, t1, t2, t3, t4, t5⟩ => ⟨m - 1, by omega, ys, at_ + 1, v4, e, t1, t2, t3, t4, t5, by omega⟩, ?_⟩
      refine ⟨_, rfl, d, rfl, .inl ⟨_, .inl (s1 _ _ hd)⟩, _, rfl, _, rfl, lf, _, _, .str q, rfl, rfl, SqL.of hl, atI_nat (by rw [List.getElem?_map, hq]; rfl), Nat.zero_le _, fun le hle => ?_⟩
      have s2 := s1.trans (Same.new (o := .lst []) hle)
      have hl2 := Same.new (o := .lst []) hle _ _ hl
      refine ⟨_, .inl ⟨_, Sum.inr q, .inl (s2 _ _ hd), rfl, rfl⟩, ?_⟩
      rw [kd_in (v := fun z => V.ref (g z)) qp]
      have hn := s2 _ _ (hg q qp)
      refine ⟨g q, rfl, ⟨_, SqL.of hn⟩, ?_⟩
      refine for_si (si_list one_at) (fun i σ2 H2 => ∃ (t : List Str) (v4 : Option V), σ2 = [some (.ref a), some (.ref d), some (.ref lf), some (.int at_), v4] ∧ Same H H2 ∧ H2 lf = some (strL (ys ++ t)) ∧ Come nx pl xs (ys ++ t) ∧ ∀ z ∈ (nx q).take i, z ∈ ys ++ t)
        ⟨[], v4, rfl, s2, by rw [List.append_nil]; exact hl2, by rw [List.append_nil]; exact cm, fun z hz => absurd hz (by simp)⟩ (fun i σ2 H2 ⟨_, _, _, z, _⟩ => same_one (z _ _ (hg q qp))) ?_ ?_
      · rintro i x σ2 H2 hx ⟨t, v4, rfl, t1, t2, t3, t4⟩
        have xm := List.mem_of_getElem? hx
        have tl : (ys ++ t).length ≤ 40 := Nat.le_trans (subset_len t3.nd t3.sub) len
        refine ⟨_, rfl, _, rfl, lf, _, rfl, .inl (SqL.of t2), rfl, flat_strs _, !decide (x ∈ ys ++ t), ?_, ?_⟩
        · show V.bl (!inV (.str x) ((ys ++ t).map V.str)) = _
          rw [inV_str]
        by_cases c : x ∈ ys ++ t
        · rw [decide_eq_true c]
          refine iteF ⟨t, _, rfl, t1, t2, t3, fun z hz => ?_⟩
          rw [take_snoc hx] at hz
          rcases List.mem_append.mp hz with h | h
          · exact t4 z h
          · rw [List.mem_singleton.mp h]; exact c
        · rw [decide_eq_false c]
          refine iteT ⟨_, rfl, .inl ⟨rfl, _, SqL.of t2⟩, _, rfl, lf, _, _, rfl, rfl, t2, by rw [List.length_map]; exact Nat.lt_of_le_of_lt tl (by decide), ?_⟩
          refine ⟨t ++ [x], _, rfl, t1.mut hlf, ?_, ?_, fun z hz => ?_⟩
          · rw [upd_same, ← List.append_assoc]
            unfold strL
            rw [List.map_append (l₁ := ys ++ t)]
            rfl
          · rw [← List.append_assoc]
            refine ⟨nd_snoc t3.nd c, fun y hy => ?_, fun y hy => List.mem_append_left _ (t3.up y hy)⟩
            rcases List.mem_append.mp hy with h | h
            · exact t3.sub y h
            · rw [List.mem_singleton.mp h]; exact nxs q qp x xm
          · rw [← List.append_assoc]
            rw [take_snoc hx] at hz
            rcases List.mem_append.mp hz with h | h
            · exact List.mem_append_left _ (t4 z h)
            · rw [List.mem_singleton.mp h]; exact List.mem_append_right _ List.mem_cons_self
      · rintro σ2 H2 ⟨t, v4, rfl, t1, t2, t3, t4⟩
        rw [List.take_length] at t4
        refine ⟨_, rfl, _, _, rfl, rfl, ?_⟩
        refine ⟨ys ++ t, _, rfl, t1, t2, t3, by rw [List.length_append]; omega, fun j y hj hy => ?_⟩
        rw [List.getElem?_append_left (by omega)] at hy
        by_cases e : j = at_
        · rw [e, hq] at hy
          cases hy
          exact t4
        · exact fun z hz => List.mem_append_left _ (done j y (by omega) hy z hz)
    · have hge : ys.length ≤ at_ := by
        have : ¬ (at_ : Int) < (ys.length : Int) := fun z => hb (decide_eq_true z)
        omega
      refine ⟨_, rfl, k lf ys _ s1 hl cm fun y hy z hz => ?_⟩
      obtain ⟨j, hj⟩ := List.mem_iff_getElem?.mp hy
      exact done j y (Nat.lt_of_lt_of_le (at_len hj) hge) hj z hz
end
end K23
namespace K23
open PySem PySem.Spec PyProof.Rows L2
/-! ### y = {k: v for ..} in a def -/
section
variable {X : Cx}
theorem ps_setDc {i : Nat} {y : Str} {py : Pos} {kx vx tg iter : Expr} {ifs : List Expr} {scope : Scope} {own : List (Str × Nat)} {pos spos : Pos} {wi : TI} {g : TG} {tt : TT} {tk tv : TE} (hc : X.calm = true) (hN : X.N.Nodup) (hy : X.N[i]? = some y) (hyl : X.env.scope.names.lookup y = some .local)
    (hsw : swapsWith (.DictComp kx vx [⟨tg, iter, ifs, 0⟩] scope pos) (some (.Name y py)) spos.line X.env = pure true) (hi : PI X tg iter wi) (ok : BlkOk X.N X.env.scope scope own)
    (hg : ∀ (s : Shared) (H : Hp) (C : Addr) (cl : List (Str × Addr)) (fp : List Addr), PG (X.blk s H scope (compEnvC scope cl C X.env) fp) tg g) (ht : ∀ (s : Shared) (H : Hp) (C : Addr) (cl : List (Str × Addr)) (fp : List Addr), PTs (X.blk s H scope (compEnvC scope cl C X.env) fp) ifs tt)
    (hk : ∀ (s : Shared) (H : Hp) (C : Addr) (cl : List (Str × Addr)) (fp : List Addr), PE (X.blk s H scope (compEnvC scope cl C X.env) fp) kx tk)
    (he : ∀ (s : Shared) (H : Hp) (C : Addr) (cl : List (Str × Addr)) (fp : List Addr), PE (X.blk s H scope (compEnvC scope cl C X.env) fp) vx tv) (hs : ∀ x, foldedSetIterable iter X.env x = pure x := by intro _; rfl) :
    PS X (.Assign [.Name y py] (.DictComp kx vx [⟨tg, iter, ifs, 0⟩] scope pos) spos) (tAsg (tDc wi g tt tk tv (own.map (·.2))) (gName i)) := by
  refine ⟨fun pins s σ H D I h => ?_⟩
  rw [exec_Assign_Name_used _ _ _ _ hsw]
  refine wpAny_bind (wpAny_standAt (wpAny_bind ?_))
  show wpAny _ X.A (do let _ ← comprehension (.DictComp kx vx [⟨tg, iter, ifs, 0⟩] scope pos) scope X.env (firstIterPos [⟨tg, iter, ifs, 0⟩] pos) newDict false (eval iter X.env) (some (assign (.Name y py) X.env))) _ _ s
  have h : tDc wi g tt tk tv (own.map (·.2)) σ H (fun x H1 => gName i x σ H1 D.nx) := h
  refine wpAny_bind (thn (dc_core (Qf := fun _ s' => SP X pins D .next s') hc hN I hi ok hg ht hk he hs h fun L C s' m H' I' q hn f => ?_) fun _ s' hq => wpAny_pure (wpAny_pure hq))
  show wpAny _ _ (assign (.Name y py) X.env (.ref L)) _ _ _
  refine wpAny_assign_Name (store_ok2 (v := V.ref L) I' hN hy (.inl hyl) rfl (fun s2 I2 ⟨a, sb, ha⟩ => ?_) (.inr hyl))
  obtain ⟨f0, f1, f2, f3, f4, f5⟩ := f
  have haC : C ≠ a := by
    rcases ha with z | z
    · rw [z]; exact f1
    · exact fun e => f4 y a z e.symm
  refine ⟨m, hn.sameBut sb haC, fun h3 sb3 => ?_⟩
  exact ⟨_, H', I2.turned (t' := s2.toks) (fun b o hb e => (sb3.2 b hb).trans e) f0 f1 f3 f4 f5, q⟩
theorem sw_trueD {kx vx : Expr} {gs : List Comprehension} {scope : Scope} {pos py : Pos} {y : Str} {l : Nat} {env : Env} (hk : env.scope.kind = .function) (hy : env.scope.names.lookup y = some .local) (hl : (py.line == pos.line) = true)
    (ha : (scope.names.any fun (n, k) => n == y && (k == .local || k == .cell)) = false) : swapsWith (.DictComp kx vx gs scope pos) (some (.Name y py)) l env = pure true := by
  have ky : env.kindOf y = some .local := hy
  have hb : env.blockKind = .function := by unfold Env.blockKind; rw [hk]; rfl
  unfold swapsWith
  simp only [hb, ky, ha, Expr.pos, hl]
  rfl
end
/-! ### a heap without one object -/
def hide (p : Addr) (H : Hp) : Hp := fun b => if b = p then none else H b
theorem hide_none {p : Addr} {H : Hp} : hide p H p = none := if_pos rfl
theorem hide_at {p a : Addr} {H : Hp} (h : a ≠ p) : hide p H a = H a := if_neg h
theorem hide_same {p : Addr} {H : Hp} : Same (hide p H) H := fun a u e => by
  by_cases c : a = p
  · rw [c, hide_none] at e; cases e
  · rwa [hide_at c] at e
theorem hide_upd {p : Addr} {H : Hp} {o : HO} : Same (hide p H) (upd H p o) := hide_same.mut hide_none
theorem hide_up {p : Addr} {B H : Hp} (s : Same B H) (h : B p = none) : Same B (hide p H) := fun a u e => by
  rw [hide_at (ne_of_none e h)]
  exact s _ _ e
theorem ne_ins {p a C dx : Addr} {fs : List (Str × V)} {H : Hp} {o : HO} (hp : H p = some (.ins C dx fs)) (ha : H a = some o) (h : ∀ C dx fs, o ≠ .ins C dx fs) : a ≠ p := fun e => by
  rw [e, hp] at ha
  exact h _ _ _ (Option.some.inj ha).symm
theorem hide_get {p a C dx : Addr} {fs : List (Str × V)} {H : Hp} {o : HO} (hp : H p = some (.ins C dx fs)) (ha : H a = some o) (h : ∀ C dx fs, o ≠ .ins C dx fs) : hide p H a = some o := by
  rw [hide_at (ne_ins hp ha h)]
  exact ha
theorem RU.hide {p C dx : Addr} {fs : List (Str × V)} {H : Hp} {d : Addr} {ks : List Str} {f : Str → HO} (h : RU H d ks f) (hp : H p = some (.ins C dx fs)) (hf : ∀ k C dx fs, f k ≠ .ins C dx fs) : RU (hide p H) d ks f := by
  obtain ⟨g, h1, h2⟩ := h
  exact ⟨g, hide_get hp h1 (by intro _ _ _ z; cases z), fun k hk => hide_get hp (h2 k hk) (hf k)⟩
theorem tup_ni {fr to : Str → Str} : ∀ k C dx fs, tupO fr to k ≠ .ins C dx fs := by
  intro k C dx fs z
  cases z
theorem strL_ni {xs : List Str} : ∀ C dx fs, strL xs ≠ .ins C dx fs := by
  intro C dx fs z
  cases z
/-! ### what a program must be -/
structure Prg.Full (G : Prg) : Prop where
  ok : G.Ok
  plS : sortedS G.pl = true
  exS : sortedS G.ex = true
  plM : ∀ p ∈ G.pl, ∃ w ∈ G.ws, p = G.fr w ∨ p = G.to w
  rc : ∀ p ∈ G.pl, p = G.bg ∨ ∃ w ∈ G.ws, G.to w = p
  exE : G.ex ≠ []
theorem reach_all {G : Prg} (F : G.Full) {ys : List Str} (h0 : G.bg ∈ ys) (h : ∀ y ∈ ys, ∀ w ∈ G.leav y, G.to w ∈ ys) : ∀ (n : Nat) (p : Str), p ∈ G.pl → G.rk p < n → p ∈ ys
  | 0, p, _, hn => absurd hn (Nat.not_lt_zero _)
  | n + 1, p, hp, hn => by
    rcases F.rc p hp with e | ⟨w, hw, e⟩
    · rw [e]; exact h0
    · have u := F.ok.up w hw
      rw [e] at u
      have := reach_all F h0 h n (G.fr w) (F.ok.frP w hw) (by omega)
      rw [← e]
      exact h _ this w (Prg.mem_leav.mpr ⟨hw, rfl⟩)
theorem leave_all {G : Prg} (F : G.Full) {ys : List Str} (h0 : ∀ x ∈ G.ex, x ∈ ys) (h : ∀ y ∈ ys, ∀ w ∈ G.ente y, G.fr w ∈ ys) : ∀ (n : Nat) (p : Str), p ∈ G.pl → 6 - G.rk p ≤ n → p ∈ ys
  | 0, p, hp, hn => by have := F.ok.top p hp; omega
  | n + 1, p, hp, hn => by
    rcases F.ok.on p hp with e | ⟨w, hw, e⟩
    · exact h0 p e
    · have u := F.ok.up w hw
      rw [e] at u
      have := leave_all F h0 h n (G.to w) (F.ok.toP w hw) (by omega)
      rw [← e]
      exact h _ this w (by unfold Prg.ente; rw [List.mem_filter]; exact ⟨hw, decide_eq_true rfl⟩)
end K23
namespace K23
open PySem PySem.Spec PyProof.Rows L2
/-! ### the attributes of a Program, as far as they are stored -/
def pf1 (x1 : V) : List (Str × V) := [("pairs", x1)]
def pf2 (x1 x2 : V) : List (Str × V) := [("pairs", x1), ("own_places", x2)]
def pf3 (x1 x2 x3 : V) : List (Str × V) := [("pairs", x1), ("own_places", x2), ("own_begin", x3)]
def pf4 (x1 x2 x3 x4 : V) : List (Str × V) := [("pairs", x1), ("own_places", x2), ("own_begin", x3), ("own_exits", x4)]
def pf5 (x1 x2 x3 x4 x5 : V) : List (Str × V) := [("pairs", x1), ("own_places", x2), ("own_begin", x3), ("own_exits", x4), ("outs", x5)]
theorem pput1 {x1 : V} : putF "pairs" x1 [] = pf1 x1 := rfl
theorem pput2 {x1 x2 : V} : putF "own_places" x2 (pf1 x1) = pf2 x1 x2 := by
  have e1 : ¬ ("pairs" : Str) = "own_places" := by decide +kernel
  simp [putF, pf1, pf2, e1]
theorem pput3 {x1 x2 x3 : V} : putF "own_begin" x3 (pf2 x1 x2) = pf3 x1 x2 x3 := by
  have e1 : ¬ ("pairs" : Str) = "own_begin" := by decide +kernel
  have e2 : ¬ ("own_places" : Str) = "own_begin" := by decide +kernel
  simp [putF, pf2, pf3, e1, e2]
theorem pput4 {x1 x2 x3 x4 : V} : putF "own_exits" x4 (pf3 x1 x2 x3) = pf4 x1 x2 x3 x4 := by
  have e1 : ¬ ("pairs" : Str) = "own_exits" := by decide +kernel
  have e2 : ¬ ("own_places" : Str) = "own_exits" := by decide +kernel
  have e3 : ¬ ("own_begin" : Str) = "own_exits" := by decide +kernel
  simp [putF, pf3, pf4, e1, e2, e3]
theorem pput5 {x1 x2 x3 x4 x5 : V} : putF "outs" x5 (pf4 x1 x2 x3 x4) = pf5 x1 x2 x3 x4 x5 := by
  have e1 : ¬ ("pairs" : Str) = "outs" := by decide +kernel
  have e2 : ¬ ("own_places" : Str) = "outs" := by decide +kernel
  have e3 : ¬ ("own_begin" : Str) = "outs" := by decide +kernel
  have e4 : ¬ ("own_exits" : Str) = "outs" := by decide +kernel
  simp [putF, pf4, pf5, e1, e2, e3, e4]
theorem pput6 {dp lp le do_ di : Addr} {b : Str} : putF "ins" (.ref di) (pf5 (.ref dp) (.ref lp) (.str b) (.ref le) (.ref do_)) = pgF dp lp b le do_ di := by
  have e1 : ¬ ("pairs" : Str) = "ins" := by decide +kernel
  have e2 : ¬ ("own_places" : Str) = "ins" := by decide +kernel
  have e3 : ¬ ("own_begin" : Str) = "ins" := by decide +kernel
  have e4 : ¬ ("own_exits" : Str) = "ins" := by decide +kernel
  have e5 : ¬ ("outs" : Str) = "ins" := by decide +kernel
  simp [putF, pf5, pgF, e1, e2, e3, e4, e5]
theorem plook1_1 {x1 : V} : (pf1 x1).lookup ("pairs" : Str) = some x1 := by
  simp [List.lookup, pf1]
theorem pnone1 {x1 : V} {m : Str} (h : (["pairs", "own_places", "own_begin", "own_exits", "outs", "ins"] : List Str).contains m = false) : (pf1 x1).lookup m = none := by
  simp only [List.contains_cons, List.contains_nil, Bool.or_false, Bool.or_eq_false_iff] at h
  simp [pf1, List.lookup, h]
theorem plook2_1 {x1 x2 : V} : (pf2 x1 x2).lookup ("pairs" : Str) = some x1 := by
  simp [List.lookup, pf2]
theorem plook2_2 {x1 x2 : V} : (pf2 x1 x2).lookup ("own_places" : Str) = some x2 := by
  have e1 : (("own_places" : Str) == "pairs") = false := by decide +kernel
  simp [List.lookup, pf2, e1]
theorem pnone2 {x1 x2 : V} {m : Str} (h : (["pairs", "own_places", "own_begin", "own_exits", "outs", "ins"] : List Str).contains m = false) : (pf2 x1 x2).lookup m = none := by
  simp only [List.contains_cons, List.contains_nil, Bool.or_false, Bool.or_eq_false_iff] at h
  simp [pf2, List.lookup, h]
theorem plook3_1 {x1 x2 x3 : V} : (pf3 x1 x2 x3).lookup ("pairs" : Str) = some x1 := by
  simp [List.lookup, pf3]
theorem plook3_2 {x1 x2 x3 : V} : (pf3 x1 x2 x3).lookup ("own_places" : Str) = some x2 := by
  have e1 : (("own_places" : Str) == "pairs") = false := by decide +kernel
  simp [List.lookup, pf3, e1]
theorem plook3_3 {x1 x2 x3 : V} : (pf3 x1 x2 x3).lookup ("own_begin" : Str) = some x3 := by
  have e1 : (("own_begin" : Str) == "pairs") = false := by decide +kernel
  have e2 : (("own_begin" : Str) == "own_places") = false := by decide +kernel
  simp [List.lookup, pf3, e1, e2]
theorem pnone3 {x1 x2 x3 : V} {m : Str} (h : (["pairs", "own_places", "own_begin", "own_exits", "outs", "ins"] : List Str).contains m = false) : (pf3 x1 x2 x3).lookup m = none := by
  simp only [List.contains_cons, List.contains_nil, Bool.or_false, Bool.or_eq_false_iff] at h
  simp [pf3, List.lookup, h]
theorem plook4_1 {x1 x2 x3 x4 : V} : (pf4 x1 x2 x3 x4).lookup ("pairs" : Str) = some x1 := by
  simp [List.lookup, pf4]
theorem plook4_2 {x1 x2 x3 x4 : V} : (pf4 x1 x2 x3 x4).lookup ("own_places" : Str) = some x2 := by
  have e1 : (("own_places" : Str) == "pairs") = false := by decide +kernel
  simp [List.lookup, pf4, e1]
theorem plook4_3 {x1 x2 x3 x4 : V} : (pf4 x1 x2 x3 x4).lookup ("own_begin" : Str) = some x3 := by
  have e1 : (("own_begin" : Str) == "pairs") = false := by decide +kernel
  have e2 : (("own_begin" : Str) == "own_places") = false := by decide +kernel
  simp [List.lookup, pf4, e1, e2]
theorem plook4_4 {x1 x2 x3 x4 : V} : (pf4 x1 x2 x3 x4).lookup ("own_exits" : Str) = some x4 := by
  have e1 : (("own_exits" : Str) == "pairs") = false := by decide +kernel
  have e2 : (("own_exits" : Str) == "own_places") = false := by decide +kernel
  have e3 : (("own_exits" : Str) == "own_begin") = false := by decide +kernel
  simp [List.lookup, pf4, e1, e2, e3]
theorem pnone4 {x1 x2 x3 x4 : V} {m : Str} (h : (["pairs", "own_places", "own_begin", "own_exits", "outs", "ins"] : List Str).contains m = false) : (pf4 x1 x2 x3 x4).lookup m = none := by
  simp only [List.contains_cons, List.contains_nil, Bool.or_false, Bool.or_eq_false_iff] at h
  simp [pf4, List.lookup, h]
theorem plook5_1 {x1 x2 x3 x4 x5 : V} : (pf5 x1 x2 x3 x4 x5).lookup ("pairs" : Str) = some x1 := by
  simp [List.lookup, pf5]
theorem plook5_2 {x1 x2 x3 x4 x5 : V} : (pf5 x1 x2 x3 x4 x5).lookup ("own_places" : Str) = some x2 := by
  have e1 : (("own_places" : Str) == "pairs") = false := by decide +kernel
  simp [List.lookup, pf5, e1]
theorem plook5_3 {x1 x2 x3 x4 x5 : V} : (pf5 x1 x2 x3 x4 x5).lookup ("own_begin" : Str) = some x3 := by
  have e1 : (("own_begin" : Str) == "pairs") = false := by decide +kernel
  have e2 : (("own_begin" : Str) == "own_places") = false := by decide +kernel
  simp [List.lookup, pf5, e1, e2]
theorem plook5_4 {x1 x2 x3 x4 x5 : V} : (pf5 x1 x2 x3 x4 x5).lookup ("own_exits" : Str) = some x4 := by
  have e1 : (("own_exits" : Str) == "pairs") = false := by decide +kernel
  have e2 : (("own_exits" : Str) == "own_places") = false := by decide +kernel
  have e3 : (("own_exits" : Str) == "own_begin") = false := by decide +kernel
  simp [List.lookup, pf5, e1, e2, e3]
theorem plook5_5 {x1 x2 x3 x4 x5 : V} : (pf5 x1 x2 x3 x4 x5).lookup ("outs" : Str) = some x5 := by
  have e1 : (("outs" : Str) == "pairs") = false := by decide +kernel
  have e2 : (("outs" : Str) == "own_places") = false := by decide +kernel
  have e3 : (("outs" : Str) == "own_begin") = false := by decide +kernel
  have e4 : (("outs" : Str) == "own_exits") = false := by decide +kernel
  simp [List.lookup, pf5, e1, e2, e3, e4]
theorem pnone5 {x1 x2 x3 x4 x5 : V} {m : Str} (h : (["pairs", "own_places", "own_begin", "own_exits", "outs", "ins"] : List Str).contains m = false) : (pf5 x1 x2 x3 x4 x5).lookup m = none := by
  simp only [List.contains_cons, List.contains_nil, Bool.or_false, Bool.or_eq_false_iff] at h
  simp [pf5, List.lookup, h]
theorem pgf_ins {dp lp le do_ di : Addr} {b : Str} : (pgF dp lp b le do_ di).lookup ("ins" : Str) = some (V.ref di) := by
  have e : (("ins" : Str) == "pairs") = false := by decide +kernel
  have e2 : (("ins" : Str) == "own_places") = false := by decide +kernel
  have e3 : (("ins" : Str) == "own_begin") = false := by decide +kernel
  have e4 : (("ins" : Str) == "own_exits") = false := by decide +kernel
  have e5 : (("ins" : Str) == "outs") = false := by decide +kernel
  simp [pgF, List.lookup, e, e2, e3, e4, e5]
section
variable {P : PySem.Program} {w : World} {K : PySem.W.Frag} {mg : Str → Option Value} {base : Heap} {CP CM : Addr} {f : Addr} {fd : FuncData}
/-- a program, its dicts new to H0 -/
def PgV (CP : Addr) (H0 H : Hp) (p : Addr) (G : Prg) : Prop := ∃ dx dp lp le do_ di, H p = some (.ins CP dx (pgF dp lp G.bg le do_ di)) ∧ RU H dp G.ws G.tup ∧ H lp = some (strL G.pl) ∧ H le = some (strL G.ex) ∧ (RU H do_ G.pl fun q => strL (G.leav q)) ∧ do_ ≠ dp ∧ H0 dp = none ∧ H0 do_ = none ∧ H0 p = none
def spPInit (CP : Addr) : Sp := fun vs H Q _ => ∃ H0 p dx dw ks le exs G, vs = [.ref p, .ref dw, .str G.bg, .ref le] ∧ Same H0 H ∧ H0 p = none ∧ H p = some (.ins CP dx []) ∧ RU H0 dw ks (tupO G.fr G.to) ∧ H0 le = some (strL exs) ∧ ks.Perm G.ws ∧ exs.Perm G.ex ∧ G.Full ∧
  ∀ H', Same H0 H' → PgV CP H0 H' p G → Q .non H'
theorem ok_P_init (L : ClT K mg "Program" CP) (Z : Fld K CP CM) (B : Blt mg) (DW : FnD P w K mg base CX0 1 "is_word" p_is_word spWord) (DAW : FnD P w K mg base CX0 2 "are_ways" p_are_ways spAreWays) (DC : FnD P w K mg base CX0 1 "come_to" p_come_to spComeTo)
    (DAE : MeD P w K mg base CX0 2 CP "are_exits" p_P_are_exits (spAreExits CP)) (DA : MeD P w K mg base CX0 1 CP "ways_at" p_P_ways_at (spWaysAt CP))
    (T : MeT K CP "__init__" "Program.__init__" s_P_init p_P_init f fd) : MeD P w K mg base CX0 3 CP "__init__" p_P_init (spPInit CP) := by
  refine .of T (T.fn.ok sc_P_init (fun vs H Q E h => ?_) (fun cdv A outer s H vs Q E hr h => ?_))
  · obtain ⟨H0, p, dx, dw, ks, le, exs, G, rfl, _⟩ := h
    rfl
  · obtain ⟨H0, p, dx, dw, ks, le, exs, G, rfl, s0, h0, hp, hw, hle, kp, ep, F, k⟩ := h
    have hu := hu_of hr
    have hr1 : Room 1 _ := hr.mono (by decide)
    have ok := F.ok
    refine ⟨_, pss_cons (ps_if (pt_not (pt_val (pe_f DAW hr pass0 (pa_cons (pv 1) pa_nil)))) (pss_one ps_never) pss_nil)
      (pss_cons (ps_fld (pv 0) (pe_dc (own := [("way", 4)]) (g := gName 4) (tt := tYes) (tk := tVar 4) (tv := tDGet (tVar 1) (tVar 4)) rfl sc_P_init.nd (pi_list (pe_callB (call_sortedD rfl) (by rfl) B.sorted (by decide +kernel) (pa_cons (pv 1) pa_nil))) (blkOk_by (own := [("way", 4)]) (N := N_P_init) (sc := defScope s_P_init) (by decide +kernel))
        (fun _ _ _ _ _ => pg_name (i := 4) sc_P_init.nd rfl (Or.inl rfl)) (fun _ _ _ _ _ => pts_nil) (fun _ _ _ _ _ => pv 4) (fun _ _ _ _ _ => pe_dget hu (pv 1) (pv 4) (fun _ _ => rfl))) (by rfl))
      (pss_cons (ps_fld (pv 0) (pe_callB (cr_sortedSet rfl) (by rfl) B.sorted (by decide +kernel) (pa_cons (pe_lock (pe_sc2 (own := [("pair", 5), ("place", 6)]) (vs1 := [6]) (g := gName 5) (g1 := gName 6) (tt := tYes) (tt1 := tYes) (wi1 := iTup K (tVar 5)) (te := tVar 6) rfl sc_P_init.nd (pi_values (pe_fld (pv 0) rfl)) (blkOk_by (own := [("pair", 5), ("place", 6)]) (N := N_P_init) (sc := defScope s_P_init) (by decide +kernel)) (by decide)
        (fun _ _ _ _ _ => pg_name (i := 5) sc_P_init.nd rfl (Or.inl rfl)) (fun _ _ _ _ _ => pts_nil) (fun _ _ _ _ _ => pi_tup (pv 5)) (fun _ _ _ _ _ => pg_name (i := 6) sc_P_init.nd rfl (Or.inl rfl)) (fun _ _ _ _ _ => pts_nil) (fun _ _ _ _ _ => pv 6))) pa_nil)) (by rfl))
      (pss_cons (ps_if (PW.pt (pw_or (pt_not (pt_val (pe_f DW hr1 pass0 (pa_cons (pv 2) pa_nil)))) (pw_or1 (pt_cmpR op_notIn_seq (pv 2) (pe_fld (pv 0) rfl) (by rfl))))) (pss_one ps_never) pss_nil)
      (pss_cons (ps_if (pt_not (pt_val (pe_m (pv 0) L.cl DAE hr pass0 (pa_cons (pv 3) pa_nil)))) (pss_one ps_never) pss_nil)
      (pss_cons (ps_fld (pv 0) (pv 2) (by rfl))
      (pss_cons (ps_fld (pv 0) (pe_callB cr_sortedS (by rfl) B.sorted (by decide +kernel) (pa_cons (pv 3) pa_nil)) (by rfl))
      (pss_cons (ps_fld (pv 0) (pe_dc (own := [("place", 6)]) (g := gName 6) (tt := tYes) (tk := tVar 6) (tv := tM CP "ways_at" (spWaysAt CP) E0 (tVar 0) (tCons (tVar 6) (tCons (tC (.int 0)) tNil))) rfl sc_P_init.nd (pi_list (pe_fld (pv 0) rfl)) (blkOk_by (own := [("place", 6)]) (N := N_P_init) (sc := defScope s_P_init) (by decide +kernel))
        (fun _ _ _ _ _ => pg_name (i := 6) sc_P_init.nd rfl (Or.inl rfl)) (fun _ _ _ _ _ => pts_nil) (fun _ _ _ _ _ => pv 6) (fun _ _ _ _ _ => pe_m (pv 0) L.cl DA hr1 pass0 (pa_cons (pv 6) (pa_cons pe_int pa_nil)))) (by rfl))
      (pss_cons (ps_fld (pv 0) (pe_dc (own := [("place", 6)]) (g := gName 6) (tt := tYes) (tk := tVar 6) (tv := tM CP "ways_at" (spWaysAt CP) E0 (tVar 0) (tCons (tVar 6) (tCons (tC (.int 1)) tNil))) rfl sc_P_init.nd (pi_list (pe_fld (pv 0) rfl)) (blkOk_by (own := [("place", 6)]) (N := N_P_init) (sc := defScope s_P_init) (by decide +kernel))
        (fun _ _ _ _ _ => pg_name (i := 6) sc_P_init.nd rfl (Or.inl rfl)) (fun _ _ _ _ _ => pts_nil) (fun _ _ _ _ _ => pv 6) (fun _ _ _ _ _ => pe_m (pv 0) L.cl DA hr1 pass0 (pa_cons (pv 6) (pa_cons pe_int pa_nil)))) (by rfl))
      (pss_cons (ps_setDc (i := 7) (own := [("place", 6)]) (g := gName 6) (tt := tYes) (tk := tVar 6) (tv := tLc (iList K (tDGet (tFld K (tVar 0) "outs") (tVar 6))) (gName 4) tYes (tOp (rIxT K) (tDGet (tFld K (tVar 0) "pairs") (tVar 4)) (tC (.int 1))) [4]) rfl sc_P_init.nd rfl rfl (sw_trueD rfl rfl rfl (by decide +kernel)) (pi_list (pe_fld (pv 0) rfl)) (blkOk_by (own := [("place", 6)]) (N := N_P_init) (sc := defScope s_P_init) (by decide +kernel))
        (fun _ _ _ _ _ => pg_name (i := 6) sc_P_init.nd rfl (Or.inl rfl)) (fun _ _ _ _ _ => pts_nil) (fun _ _ _ _ _ => pv 6)
        (fun _ _ _ _ _ => pe_lc (own := [("way", 4)]) rfl sc_P_init.nd (pi_list (pe_dget hu (pe_fld (pv 0) rfl) (pv 6) (fun _ _ => rfl))) (blkOk_by (own := [("way", 4)]) (N := N_P_init) (by rfl)) (fun _ _ _ _ _ => pg_name (i := 4) sc_P_init.nd rfl (Or.inl rfl)) (fun _ _ _ _ _ => pts_nil)
          (fun _ _ _ _ _ => pe_ix ix_tup (pe_dget hu (pe_fld (pv 0) rfl) (pv 4) (fun _ _ => rfl)) pe_int (fun _ _ => rfl))))
      (pss_cons (ps_if (pt_cmpR op_lt (pe_callB call_len (by rfl) B.len (by decide +kernel) (pa_cons (pe_f DC hr1 pass0 (pa_cons (pe_lst (pa_cons (pv 2) pa_nil)) (pa_cons (pv 7) pa_nil))) pa_nil)) (pe_callB call_len (by rfl) B.len (by decide +kernel) (pa_cons (pe_fld (pv 0) rfl) pa_nil)) (nomark _)) (pss_one ps_never) pss_nil)
      (pss_cons (ps_setDc (i := 8) (own := [("place", 6)]) (g := gName 6) (tt := tYes) (tk := tVar 6) (tv := tLc (iList K (tDGet (tFld K (tVar 0) "ins") (tVar 6))) (gName 4) tYes (tOp (rIxT K) (tDGet (tFld K (tVar 0) "pairs") (tVar 4)) (tC (.int 0))) [4]) rfl sc_P_init.nd rfl rfl (sw_trueD rfl rfl rfl (by decide +kernel)) (pi_list (pe_fld (pv 0) rfl)) (blkOk_by (own := [("place", 6)]) (N := N_P_init) (sc := defScope s_P_init) (by decide +kernel))
        (fun _ _ _ _ _ => pg_name (i := 6) sc_P_init.nd rfl (Or.inl rfl)) (fun _ _ _ _ _ => pts_nil) (fun _ _ _ _ _ => pv 6)
        (fun _ _ _ _ _ => pe_lc (own := [("way", 4)]) rfl sc_P_init.nd (pi_list (pe_dget hu (pe_fld (pv 0) rfl) (pv 6) (fun _ _ => rfl))) (blkOk_by (own := [("way", 4)]) (N := N_P_init) (by rfl)) (fun _ _ _ _ _ => pg_name (i := 4) sc_P_init.nd rfl (Or.inl rfl)) (fun _ _ _ _ _ => pts_nil)
          (fun _ _ _ _ _ => pe_ix ix_tup (pe_dget hu (pe_fld (pv 0) rfl) (pv 4) (fun _ _ => rfl)) pe_int (fun _ _ => rfl))))
      (pss_one (ps_if (pt_cmpR op_lt (pe_callB call_len (by rfl) B.len (by decide +kernel) (pa_cons (pe_f DC hr1 pass0 (pa_cons (pe_fld (pv 0) rfl) (pa_cons (pv 8) pa_nil))) pa_nil)) (pe_callB call_len (by rfl) B.len (by decide +kernel) (pa_cons (pe_fld (pv 0) rfl) pa_nil)) (nomark _)) (pss_one ps_never) pss_nil))))))))))))), ?_⟩
    have ksL : ks.length ≤ 40 := by rw [kp.length_eq]; exact ok.wsL
    have ksE : ks ≠ [] := fun e => ok.wsE (by rw [e] at kp; exact (List.nil_perm.mp kp))
    have exsN : exs.Nodup := ep.nodup_iff.mpr ok.exN
    have exsL : exs.length ≤ 40 := by rw [ep.length_eq]; exact ok.exL
    have exsE : exs ≠ [] := fun e => F.exE (by rw [e] at ep; exact (List.nil_perm.mp ep))
    have exsP : ∀ x ∈ exs, x ∈ G.pl := fun x hx => ok.exP x (ep.mem_iff.mp hx)
    refine ⟨_, rfl, dw, ks, G.fr, G.to, rfl, hw.mono s0, ksE, ksL, fun x hx => ?_, fun H1 s1 => ⟨true, rfl, iteF ?_⟩⟩
    · have m := kp.mem_iff.mp hx
      exact ⟨ok.wsW x m, ok.plW _ (ok.frP x m), ok.plW _ (ok.toP x m)⟩
    -- pairs
    obtain ⟨g, hd, hg⟩ := id hw
    have s01 := s0.trans s1
    refine ⟨_, rfl, dw, _, ks, rfl, .inl (s01 _ _ hd), kd_keys _ _, by omega, fun ys lx hperm hsort hlx => ⟨lx, rfl, ⟨_, SqL.of upd_same⟩, fun dp hdp => ?_⟩⟩
    have fr1 : H0 dp = none := (s01.trans (Same.new (o := .lst (ys.map V.str)) hlx)).free hdp
    have e1 : ys = G.ws := sorted_unique hsort ok.wsS (hperm.trans kp)
    subst e1
    have s02 := s01.trans (Same.new (o := .lst (G.ws.map V.str)) hlx)
    refine dc_si (si_list (B := upd H1 lx (.lst (G.ws.map V.str))) upd_same) (Same.refl _) hdp (Nat.le_trans ok.wsL (by decide)) ok.wsN (fun x => .ref (g x)) (fun _ => rfl) (fun y _ => pu_var rfl) (fun y hy => ?_) fun H2 s2 hD2 => ?_
    · intro H3 s3 Q' q
      exact ⟨_, rfl, _, rfl, dw, _, rfl, .inl ⟨_, Sum.inr y, .inl ((s02.trans s3) _ _ hd), rfl, (kd_in (v := fun z => V.ref (g z)) (kp.mem_iff.mpr hy)).symm⟩, q _ (Same.refl _)⟩
    have s03 := s02.trans s2
    have hp2 : H2 p = some (.ins CP dx []) := s2 _ _ (Same.new (o := .lst (G.ws.map V.str)) hlx _ _ (s1 _ _ hp))
    refine ⟨_, rfl, p, CP, dx, [], rfl, hp2, L.cl, Z.pairs, (by show 0 < 1000; decide), ?_⟩
    rw [pput1]
    have c1 : Same H0 (hide p H2) := hide_up s03 h0
    have fP : RU (hide p H2) dp G.ws (tupO G.fr G.to) := RU.hide ⟨g, hD2, fun x hx => s03 _ _ (hg x (kp.mem_iff.mpr hx))⟩ hp2 tup_ni
    have n1 : Same (hide p H2) (upd H2 p (.ins CP dx (pf1 (.ref dp)))) := hide_upd
    have hpN : upd H2 p (.ins CP dx (pf1 (.ref dp))) p = some (.ins CP dx (pf1 (.ref dp))) := upd_same
    have b0 : hide p H2 p = none := hide_none
    generalize hide p H2 = B1 at c1 fP n1 b0
    generalize upd H2 p (.ins CP dx (pf1 (.ref dp))) = N1 at n1 hpN ⊢
    clear hD2 hg hd
    -- own_places
    obtain ⟨g1, fP1, fP2⟩ := id fP
    have d1 := n1 _ _ fP1
    refine ⟨dp, _, d1, trivial, fun od => ?_⟩
    have npd : p ≠ dp := ne_of hpN d1 (by intro z; cases z)
    have l1 : upd N1 dp (.frz od (.dK (kd G.ws fun k => .ref (g1 k)))) dp = some (.frz od (.dK (kd G.ws fun k => .ref (g1 k)))) := upd_same
    have l2 : upd N1 dp (.frz od (.dK (kd G.ws fun k => .ref (g1 k)))) p = some (.ins CP dx (pf1 (.ref dp))) := by rw [upd_ne npd]; exact hpN
    have l3 : ∀ x ∈ G.ws, upd N1 dp (.frz od (.dK (kd G.ws fun k => .ref (g1 k)))) (g1 x) = some (tupO G.fr G.to x) := fun x hx => by
      rw [upd_ne (ne_of (n1 _ _ (fP2 x hx)) d1 (by intro z; cases z))]
      exact n1 _ _ (fP2 x hx)
    have back : ∀ H', Same (upd N1 dp (.frz od (.dK (kd G.ws fun k => .ref (g1 k))))) H' → Same N1 (upd H' dp (.dK (kd G.ws fun k => .ref (g1 k)))) := fun H' s' b o hb => by
      by_cases e : b = dp
      · rw [e, d1] at hb
        cases hb
        rw [e, upd_same]
      · rw [upd_ne e]
        exact s' _ _ (by rw [upd_ne e]; exact hb)
    refine ⟨_, rfl, p, CP, dx, _, _, rfl, l2, L.cl, Z.pairs, plook1_1, dp, od, _, rfl, l1, ?_⟩
    generalize upd N1 dp (.frz od (.dK (kd G.ws fun k => .ref (g1 k)))) = Hl at l1 l2 l3 back ⊢
    intro D hD
    have ndD : dp ≠ D := ne_of_none l1 hD
    refine scG_any (n := G.ws.length) (fun i H' => Same Hl H' ∧ ∃ S, H' D = some (SetO w D S) ∧ S.Nodup ∧ ∀ x, x ∈ S ↔ ∃ y ∈ G.ws.take i, x = G.fr y ∨ x = G.to y) ⟨Same.new hD, [], upd_same, List.nodup_nil, fun x => by simp⟩
      (fun i H' hi p' => ⟨p'.1 _ _ l1, by rw [kd_len]; exact hi⟩) (fun H' p' => ⟨p'.1 _ _ l1, by rw [kd_len]; exact Nat.le_refl _⟩) ?_ ?_
    · rintro i H' v H3 hi ⟨t1, S, t2, t3, t4⟩ ⟨rfl, kk, hkv⟩
      obtain ⟨y, hy, e⟩ := getMap hkv
      cases e
      have ym := List.mem_of_getElem? hy
      have ht := t1 _ _ (l3 y ym)
      refine ⟨rfl, _, rfl, g1 y, rfl, ⟨_, SqT.of ht⟩, ?_⟩
      have it : StrIt (Itt K (g1 y)) [G.fr y, G.to y] (one (g1 y) (tupO G.fr G.to y)) := si_tup (xs := [G.fr y, G.to y]) one_at
      refine nest_any (n := 2) (fun j H' => Same Hl H' ∧ ∃ S, H' D = some (SetO w D S) ∧ S.Nodup ∧ ∀ x, x ∈ S ↔ (∃ y ∈ G.ws.take i, x = G.fr y ∨ x = G.to y) ∨ x ∈ [G.fr y, G.to y].take j) ⟨t1, S, t2, t3, fun x => by rw [t4 x]; simp⟩
        (fun j H' hj p' => it.go j H' (same_one (p'.1 _ _ (l3 y ym))) hj) (fun H' p' => it.stop H' (same_one (p'.1 _ _ (l3 y ym)))) ?_ ?_
      · rintro j H' v H3 hj ⟨u1, S, u2, u3, u4⟩ hyl
        obtain ⟨rfl, x, hx, rfl⟩ := it.yld j H' v H3 (same_one (u1 _ _ (l3 y ym))) hyl
        have Ssub : ∀ z ∈ S, z ∈ G.pl := fun z hz => by
          rcases (u4 z).mp hz with ⟨a, ha, h | h⟩ | h
          · rw [h]; exact ok.frP a (List.mem_of_mem_take ha)
          · rw [h]; exact ok.toP a (List.mem_of_mem_take ha)
          · have h2 := List.mem_of_mem_take h
            rcases List.mem_cons.mp h2 with e | h2
            · rw [e]; exact ok.frP y ym
            · rw [List.mem_singleton.mp h2]; exact ok.toP y ym
        have SL : S.length ≤ 40 := Nat.le_trans (subset_len u3 Ssub) ok.plL
        refine ⟨rfl, _, rfl, x, S, rfl, u2, Nat.lt_of_le_of_lt (show S.length + 1 ≤ 41 by omega) (by decide), u1.mut hD, insS S x, upd_same, insS_nd u3, fun z => ?_⟩
        rw [mem_insS, u4 z, take_snoc hx, List.mem_append, List.mem_singleton, or_assoc]
      · rintro H' ⟨u1, S, u2, u3, u4⟩
        refine ⟨u1, S, u2, u3, fun x => ?_⟩
        rw [u4 x, take_snoc hy]
        constructor
        · rintro (⟨a, ha, h⟩ | h)
          · exact ⟨a, List.mem_append_left _ ha, h⟩
          · refine ⟨y, List.mem_append_right _ List.mem_cons_self, ?_⟩
            have h2 : x ∈ [G.fr y, G.to y] := List.mem_of_mem_take h
            rcases List.mem_cons.mp h2 with e | h2
            · exact .inl e
            · exact .inr (List.mem_singleton.mp h2)
        · rintro ⟨a, ha, h⟩
          rcases List.mem_append.mp ha with ha | ha
          · exact .inl ⟨a, ha, h⟩
          · rw [List.mem_singleton.mp ha] at h
            right
            show x ∈ [G.fr y, G.to y]
            rcases h with h | h
            · rw [h]; exact List.mem_cons_self
            · rw [h]; exact List.mem_cons_of_mem _ List.mem_cons_self
    rintro H3 ⟨t1, S, t2, t3, t4⟩
    rw [List.take_length] at t4
    have Sm : ∀ x, x ∈ S ↔ x ∈ G.pl := fun x => by
      rw [t4 x]
      constructor
      · rintro ⟨a, ha, h | h⟩
        · rw [h]; exact ok.frP a ha
        · rw [h]; exact ok.toP a ha
      · exact fun h => F.plM x h
    have SL : S.length ≤ 40 := Nat.le_trans (subset_len t3 fun x hx => (Sm x).mp hx) ok.plL
    refine ⟨t1 _ _ l1, D, S, rfl, by rw [upd_ne ndD.symm]; exact t2, by omega, fun ys lp hperm hsort hlp => ?_⟩
    have e2 : ys = G.pl := sorted_same hsort F.plS (hperm.nodup_iff.mpr t3) ok.plN fun x => by rw [hperm.mem_iff, Sm x]
    subst e2
    have n2 := (back _ t1).trans (Same.new (o := .lst (G.pl.map V.str)) hlp)
    have hp3 := n2 _ _ hpN
    have lpF : upd (upd H3 dp (.dK (kd G.ws fun k => .ref (g1 k)))) lp (.lst (G.pl.map V.str)) lp = some (strL G.pl) := upd_same
    generalize upd (upd H3 dp (.dK (kd G.ws fun k => .ref (g1 k)))) lp (.lst (G.pl.map V.str)) = Hc at n2 hp3 lpF ⊢
    clear t1 t2 t4 hlp back l1 l2 l3
    refine ⟨_, rfl, p, CP, dx, _, rfl, hp3, L.cl, Z.own_places, (by show 1 < 1000; decide), ?_⟩
    rw [pput2]
    have c2 : Same B1 (hide p Hc) := hide_up (n1.trans n2) b0
    have fL : hide p Hc lp = some (strL G.pl) := hide_get hp3 lpF strL_ni
    have b2 : hide p Hc p = none := hide_none
    have n3 : Same (hide p Hc) (upd Hc p (.ins CP dx (pf2 (.ref dp) (.ref lp)))) := hide_upd
    have hpN2 : upd Hc p (.ins CP dx (pf2 (.ref dp) (.ref lp))) p = some (.ins CP dx (pf2 (.ref dp) (.ref lp))) := upd_same
    have c02 : Same H0 (hide p Hc) := c1.trans c2
    have fP := fP.mono c2
    generalize hide p Hc = B2 at c2 fL b2 n3 c02 fP
    generalize upd Hc p (.ins CP dx (pf2 (.ref dp) (.ref lp))) = N2 at n3 hpN2 ⊢
    -- begin, exits
    refine ⟨_, rfl, G.bg, rfl, ok.plW _ ok.bgP, fun H4 s4 => ⟨true, rfl, iteF ?_⟩⟩
    have n4 := n3.trans s4
    refine ⟨_, rfl, _, rfl, p, CP, dx, _, _, rfl, s4 _ _ hpN2, L.cl, Z.own_places, plook2_2, lp, _, rfl, .inl (SqL.of (n4 _ _ fL)), rfl, flat_strs _, false, ?_, iteF ?_⟩
    · show V.bl (!inV (.str G.bg) (G.pl.map V.str)) = V.bl false
      rw [inV_str, decide_eq_true ok.bgP]
      rfl
    refine ⟨_, rfl, ⟨p, dx, _, rfl, s4 _ _ hpN2, pnone2 (by decide +kernel)⟩, _, rfl, p, dx, _, lp, le, G.pl, exs, rfl, s4 _ _ hpN2, plook2_2, n4 _ _ fL, n4 _ _ (c02 _ _ hle), exsE, exsN, exsL, fun x hx => ⟨ok.plW _ (exsP x hx), exsP x hx⟩, fun H5 s5 => ⟨true, rfl, iteF ?_⟩⟩
    have n5 := n4.trans s5
    refine ⟨_, rfl, _, rfl, p, CP, dx, _, rfl, s5 _ _ (s4 _ _ hpN2), L.cl, Z.own_begin, (by show 2 < 1000; decide), ?_⟩
    rw [pput3]
    have n6 := n5.mut (o := .ins CP dx (pf3 (.ref dp) (.ref lp) (.str G.bg))) b2
    have hp6 : upd H5 p (.ins CP dx (pf3 (.ref dp) (.ref lp) (.str G.bg))) p = some (.ins CP dx (pf3 (.ref dp) (.ref lp) (.str G.bg))) := upd_same
    generalize upd H5 p (.ins CP dx (pf3 (.ref dp) (.ref lp) (.str G.bg))) = N3 at n6 hp6 ⊢
    refine ⟨_, rfl, le, exs, rfl, SqL.of (n6 _ _ (c02 _ _ hle)), by omega, fun ys lx hperm hsort hlx => ?_⟩
    have e3 : ys = G.ex := sorted_unique hsort F.exS (hperm.trans ep)
    subst e3
    have n7 := n6.trans (Same.new (o := .lst (G.ex.map V.str)) hlx)
    have hp7 := Same.new (o := .lst (G.ex.map V.str)) hlx _ _ hp6
    refine ⟨_, rfl, p, CP, dx, _, rfl, hp7, L.cl, Z.own_exits, (by show 3 < 1000; decide), ?_⟩
    rw [pput4]
    have fE : hide p (upd N3 lx (.lst (G.ex.map V.str))) lx = some (strL G.ex) := hide_get hp7 upd_same strL_ni
    have c4 : Same B2 (hide p (upd N3 lx (.lst (G.ex.map V.str)))) := hide_up n7 b2
    have b4 : hide p (upd N3 lx (.lst (G.ex.map V.str))) p = none := hide_none
    have n8 : Same (hide p (upd N3 lx (.lst (G.ex.map V.str)))) (upd (upd N3 lx (.lst (G.ex.map V.str))) p (.ins CP dx (pf4 (.ref dp) (.ref lp) (.str G.bg) (.ref lx)))) := hide_upd
    have hp8 : upd (upd N3 lx (.lst (G.ex.map V.str))) p (.ins CP dx (pf4 (.ref dp) (.ref lp) (.str G.bg) (.ref lx))) p = some (.ins CP dx (pf4 (.ref dp) (.ref lp) (.str G.bg) (.ref lx))) := upd_same
    have c04 := c02.trans c4
    have fP := fP.mono c4
    have fL := c4 _ _ fL
    generalize hide p (upd N3 lx (.lst (G.ex.map V.str))) = B4 at fE c4 b4 n8 c04 fP fL
    generalize upd (upd N3 lx (.lst (G.ex.map V.str))) p (.ins CP dx (pf4 (.ref dp) (.ref lp) (.str G.bg) (.ref lx))) = N4 at n8 hp8 ⊢
    -- outs
    refine ⟨_, rfl, p, CP, dx, _, _, rfl, hp8, L.cl, Z.own_places, plook4_2, lp, rfl, ⟨_, SqL.of (n8 _ _ fL)⟩, fun do_ hdo => ?_⟩
    have ndo : dp ≠ do_ := by
      obtain ⟨g2, z, _⟩ := fP
      exact ne_of_none (n8 _ _ z) hdo
    have fr2 : H0 do_ = none := (c04.trans n8).free hdo
    refine dc_siR (si_list (B := N4) (n8 _ _ fL)) (Same.refl _) hdo (Nat.le_trans ok.plL (by decide)) ok.plN (fun x => strL (G.leav x)) (fun _ => rfl) (fun y _ => pu_var rfl) (fun x hx H2 s2 Q' q ⟨kvs, hDk⟩ => ?_) fun H6 s6 hO => ?_
    · exact ⟨_, rfl, ⟨p, dx, _, rfl, s2 _ _ hp8, pnone4 (by decide +kernel)⟩, _, rfl, p, dx, _, dp, G.ws, G.fr, G.to, x, 0, G.fr, rfl, s2 _ _ hp8, plook4_1, fP.mono (n8.trans s2), ok.wsL, fun _ => rfl, fun l H3 s3 hl hl' => q l H3 s3 (ne_of_none hDk hl).symm hl'⟩
    have hp9 := s6 _ _ hp8
    refine ⟨_, rfl, p, CP, dx, _, rfl, hp9, L.cl, Z.outs, (by show 4 < 1000; decide), ?_⟩
    rw [pput5]
    have c5 : Same B4 (hide p H6) := hide_up (n8.trans s6) b4
    have fO : RU (hide p H6) do_ G.pl fun x => strL (G.leav x) := hO.hide hp9 fun _ => strL_ni
    have b5 : hide p H6 p = none := hide_none
    have n9 : Same (hide p H6) (upd H6 p (.ins CP dx (pf5 (.ref dp) (.ref lp) (.str G.bg) (.ref lx) (.ref do_)))) := hide_upd
    have hp10 : upd H6 p (.ins CP dx (pf5 (.ref dp) (.ref lp) (.str G.bg) (.ref lx) (.ref do_))) p = some (.ins CP dx (pf5 (.ref dp) (.ref lp) (.str G.bg) (.ref lx) (.ref do_))) := upd_same
    have c05 := c04.trans c5
    have fP := fP.mono c5
    have fL := c5 _ _ fL
    have fE := c5 _ _ fE
    generalize hide p H6 = B5 at c5 fO b5 n9 c05 fP fL fE
    generalize upd H6 p (.ins CP dx (pf5 (.ref dp) (.ref lp) (.str G.bg) (.ref lx) (.ref do_))) = N5 at n9 hp10 ⊢
    -- ins
    refine ⟨_, rfl, p, CP, dx, _, _, rfl, hp10, L.cl, Z.own_places, plook5_2, lp, rfl, ⟨_, SqL.of (n9 _ _ fL)⟩, fun di hdi => ?_⟩
    refine dc_siR (si_list (B := N5) (n9 _ _ fL)) (Same.refl _) hdi (Nat.le_trans ok.plL (by decide)) ok.plN (fun x => strL (G.ente x)) (fun _ => rfl) (fun y _ => pu_var rfl) (fun x hx H2 s2 Q' q ⟨kvs, hDk⟩ => ?_) fun H7 s7 hI => ?_
    · exact ⟨_, rfl, ⟨p, dx, _, rfl, s2 _ _ hp10, pnone5 (by decide +kernel)⟩, _, rfl, p, dx, _, dp, G.ws, G.fr, G.to, x, 1, G.to, rfl, s2 _ _ hp10, plook5_1, fP.mono (n9.trans s2), ok.wsL, fun _ => rfl, fun l H3 s3 hl hl' => q l H3 s3 (ne_of_none hDk hl).symm hl'⟩
    have hp11 := s7 _ _ hp10
    refine ⟨_, rfl, p, CP, dx, _, rfl, hp11, L.cl, Z.ins, (by show 5 < 1000; decide), ?_⟩
    rw [pput6]
    have c6 : Same B5 (hide p H7) := hide_up (n9.trans s7) b5
    have fI : RU (hide p H7) di G.pl fun x => strL (G.ente x) := hI.hide hp11 fun _ => strL_ni
    have n10 : Same (hide p H7) (upd H7 p (.ins CP dx (pgF dp lp G.bg lx do_ di))) := hide_upd
    have hp12 : upd H7 p (.ins CP dx (pgF dp lp G.bg lx do_ di)) p = some (.ins CP dx (pgF dp lp G.bg lx do_ di)) := upd_same
    have c06 := c05.trans c6
    have fP := (fP.mono c6).mono n10
    have fL := n10 _ _ (c6 _ _ fL)
    have fE := n10 _ _ (c6 _ _ fE)
    have fO := (fO.mono c6).mono n10
    have fI := fI.mono n10
    have c0N := c06.trans n10
    generalize upd H7 p (.ins CP dx (pgF dp lp G.bg lx do_ di)) = N6 at hp12 fP fL fE fO fI c0N ⊢
    clear n10 c06 c6 n9 c05 c5
    -- ahead
    refine ⟨_, rfl, p, CP, dx, _, _, rfl, hp12, L.cl, Z.own_places, pgf_places, lp, rfl, ⟨_, SqL.of fL⟩, fun da hda => ?_⟩
    refine dc_siR (si_list (B := N6) fL) (Same.refl _) hda (Nat.le_trans ok.plL (by decide)) ok.plN (fun x => strL ((G.leav x).map G.to)) (fun _ => rfl) (fun y _ => pu_var rfl) (fun x hx H2 s2 Q' q ⟨kvs, hDk⟩ => ?_) fun H8 s8 hA => ?_
    · obtain ⟨t, ht, ho⟩ := pcs (fO.mono s2).rd hx
      refine ⟨_, rfl, p, CP, dx, _, _, rfl, s2 _ _ hp12, L.cl, Z.outs, pgf_outs, _, rfl, do_, _, rfl, ht, t, rfl, ⟨_, SqL.of ho⟩, fun D2 hD2 => ?_⟩
      refine lc_si (si_list ho) (Same.refl _) hD2 (ok_leav_len ok x) (fun _ => true) (fun y => .str (G.to y)) (fun _ => rfl) (fun _ _ => puT_yes) (fun y hy _ => ?_) fun H5 s5 hD5 => ?_
      · intro H3 s3 Q2 q2
        obtain ⟨t, ht, ho⟩ := pcs (fP.mono (s2.trans s3)).rd (Prg.mem_leav.mp hy).1
        exact ⟨_, rfl, p, CP, dx, _, _, rfl, (s2.trans s3) _ _ hp12, L.cl, Z.pairs, pgf_pairs, _, rfl, dp, _, rfl, ht, t, _, 1, _, rfl, rfl, SqT.of ho, atI_nat (j := 1) rfl, q2 _ (Same.refl _)⟩
      · rw [filter_yes] at hD5
        refine q D2 H5 s5 (ne_of_none hDk hD2).symm ?_
        unfold strL
        rw [List.map_map]
        exact hD5
    have fL8 := s8 _ _ fL
    refine ⟨_, rfl, (by show 1 ≤ sizeLine; decide), fun l1 hl1 => ?_⟩
    have s9 := s8.trans (Same.new (o := .lst [V.str G.bg]) hl1)
    refine ⟨_, rfl, l1, da, [G.bg], G.pl, (fun x => (G.leav x).map G.to), rfl, upd_same, hA.mono (Same.new hl1), List.nodup_cons.mpr ⟨List.not_mem_nil, List.nodup_nil⟩, fun x hx => by rw [List.mem_singleton.mp hx]; exact ok.bgP, fun x hx z hz => ?_, ok.plL, fun l ys H9 s10 hys cm cl => ?_⟩
    · obtain ⟨y, hy, rfl⟩ := List.mem_map.mp hz
      exact (leav_pl ok hy).1
    have s10' := s9.trans s10
    have big : G.pl.length ≤ ys.length := subset_len ok.plN fun x hx => reach_all F (cm.up _ List.mem_cons_self) (fun y hy w hw => cl y hy _ (List.mem_map.mpr ⟨w, hw, rfl⟩)) 6 x hx (ok.top x hx)
    refine ⟨_, _, rfl, .inl ⟨_, SqL.of hys, rfl⟩, _, rfl, p, CP, dx, _, _, rfl, s10' _ _ hp12, L.cl, Z.own_places, pgf_places, _, _, rfl, .inl ⟨_, SqL.of (s10' _ _ fL), rfl⟩, _, _, rfl, rfl, false, ?_, iteF ?_⟩
    · rw [List.length_map, List.length_map]
      show V.bl (decide ((ys.length : Int) < (G.pl.length : Int))) = V.bl false
      rw [decide_eq_false (by omega)]
    have hp12 := s10' _ _ hp12
    have fP := fP.mono s10'
    have fL := s10' _ _ fL
    have fE := s10' _ _ fE
    have fO := fO.mono s10'
    have fI := fI.mono s10'
    have c0N := c0N.trans s10'
    clear s9 s10 s10' hys fL8 hA s8
    -- back
    refine ⟨_, rfl, p, CP, dx, _, _, rfl, hp12, L.cl, Z.own_places, pgf_places, lp, rfl, ⟨_, SqL.of fL⟩, fun db hdb => ?_⟩
    refine dc_siR (si_list (B := H9) fL) (Same.refl _) hdb (Nat.le_trans ok.plL (by decide)) ok.plN (fun x => strL ((G.ente x).map G.fr)) (fun _ => rfl) (fun y _ => pu_var rfl) (fun x hx H2 s2 Q' q ⟨kvs, hDk⟩ => ?_) fun H8 s8 hA => ?_
    · obtain ⟨t, ht, ho⟩ := pcs (fI.mono s2).rd hx
      refine ⟨_, rfl, p, CP, dx, _, _, rfl, s2 _ _ hp12, L.cl, Z.ins, pgf_ins, _, rfl, di, _, rfl, ht, t, rfl, ⟨_, SqL.of ho⟩, fun D2 hD2 => ?_⟩
      refine lc_si (si_list ho) (Same.refl _) hD2 (Nat.le_trans (List.length_filter_le _ _) (Nat.le_trans ok.wsL (by decide))) (fun _ => true) (fun y => .str (G.fr y)) (fun _ => rfl) (fun _ _ => puT_yes) (fun y hy _ => ?_) fun H5 s5 hD5 => ?_
      · intro H3 s3 Q2 q2
        obtain ⟨t, ht, ho⟩ := pcs (fP.mono (s2.trans s3)).rd (List.mem_filter.mp hy).1
        exact ⟨_, rfl, p, CP, dx, _, _, rfl, (s2.trans s3) _ _ hp12, L.cl, Z.pairs, pgf_pairs, _, rfl, dp, _, rfl, ht, t, _, 0, _, rfl, rfl, SqT.of ho, atI_nat (j := 0) rfl, q2 _ (Same.refl _)⟩
      · rw [filter_yes] at hD5
        refine q D2 H5 s5 (ne_of_none hDk hD2).symm ?_
        unfold strL
        rw [List.map_map]
        exact hD5
    refine ⟨_, rfl, p, CP, dx, _, _, rfl, s8 _ _ hp12, L.cl, Z.own_exits, pgf_exits, _, rfl, lx, db, G.ex, G.pl, (fun x => (G.ente x).map G.fr), rfl, s8 _ _ fE, hA, ok.exN, ok.exP, fun x hx z hz => ?_, ok.plL, fun l ys H10 s10 hys cm cl => ?_⟩
    · obtain ⟨y, hy, rfl⟩ := List.mem_map.mp hz
      exact ok.frP y (List.mem_filter.mp hy).1
    have s10' := s8.trans s10
    have big : G.pl.length ≤ ys.length := subset_len ok.plN fun x hx => leave_all F (fun y hy => cm.up y hy) (fun y hy w hw => cl y hy _ (List.mem_map.mpr ⟨w, hw, rfl⟩)) 6 x hx (Nat.sub_le _ _)
    refine ⟨_, _, rfl, .inl ⟨_, SqL.of hys, rfl⟩, _, rfl, p, CP, dx, _, _, rfl, s10' _ _ hp12, L.cl, Z.own_places, pgf_places, _, _, rfl, .inl ⟨_, SqL.of (s10' _ _ fL), rfl⟩, _, _, rfl, rfl, false, ?_, iteF ?_⟩
    · rw [List.length_map, List.length_map]
      show V.bl (decide ((ys.length : Int) < (G.pl.length : Int))) = V.bl false
      rw [decide_eq_false (by omega)]
    exact k _ (c0N.trans s10') ⟨dx, dp, lp, lx, do_, di, s10' _ _ hp12, fP.mono s10', s10' _ _ fL, s10' _ _ fE, fO.mono s10', ndo.symm, fr1, fr2, h0⟩
end
end K23
namespace K23
open PySem PySem.Spec PyProof.Rows L2
/-! The law's own defs: numbers, the pool, a draw. -/
section
variable {P : PySem.Program} {w : World} {K : PySem.W.Frag} {mg : Str → Option Value} {base : Heap} {CP CM : Addr} {f : Addr} {fd : FuncData}
theorem anyT {tt : TT} {σ : L2.St} {H : Hp} {Q : Bool → Hp → Prop} (h : ∀ Q' : Bool → Hp → Prop, (∀ b, Q' b H) → tt σ H Q') (k : ∀ b, Q b H) : tt σ H Q := h Q k
theorem modB (i : Int) {j : Int} (h : 0 < j) : 0 ≤ i % j ∧ i % j < j := ⟨Int.emod_nonneg i (by omega), Int.emod_lt_of_pos i h⟩
def intL (ns : List Int) : HO := .lst (ns.map V.int)
def spNumbers : Sp := fun vs H Q _ => ∃ c s ls n, vs = [.int c, .int s, .ref ls] ∧ 0 ≤ s ∧ s ≤ 63 ∧ H ls = some (intL (List.replicate n 420)) ∧ n ≤ 100 ∧ ∀ l ns H', Same H H' → H l = none → H' l = some (intL ns) → ns.length = n → Q (.ref l) H'
theorem ok_law_numbers (B : Blt mg) (T : FnT K mg "_law_numbers" s_law_numbers p_law_numbers f fd) : FnD P w K mg base CX0 1 "_law_numbers" p_law_numbers spNumbers := by
  refine .of T (T.fn.ok sc_law_numbers (fun vs H Q E h => ?_) (fun cdv A outer s0 H vs Q E hr h => ?_))
  · obtain ⟨c, s, ls, n, rfl, _⟩ := h
    rfl
  · obtain ⟨c, s, ls, n, rfl, z0, z1, hls, n100, k⟩ := h
    refine ⟨_, pss_cons (ps_set (i := 3) sc_law_numbers.nd rfl (Or.inl rfl) (pe_callB (call_max2 rfl) (by rfl) B.max (by decide +kernel) (pa_cons (pe_callTy call_int1 (by rfl) B.int (by decide +kernel) (pa_cons (pv 0) pa_nil)) (pa_cons (pe_callTy call_int1 (by rfl) B.int (by decide +kernel) (pa_cons (pe_op op_sub (pe_un un_neg pe_int) (pv 0)) pa_nil)) pa_nil)))) <|
      pss_cons (ps_set (i := 4) sc_law_numbers.nd rfl (Or.inl rfl) (pv 3)) <|
      pss_cons (ps_set (i := 5) sc_law_numbers.nd rfl (Or.inl rfl) (pe_lst pa_nil)) <|
      pss_cons (ps_for PassesOwn.never rfl (pi_range1 (by rfl) B.range (pa_cons (pe_callB call_len (by rfl) B.len (by decide +kernel) (pa_cons (pv 2) pa_nil)) pa_nil)) (pg_name (i := 6) sc_law_numbers.nd rfl (Or.inl rfl))
        (pss_one (ps_if (PW.pt (pw_and (pt_cmpR op_ge (pv 3) (pe_op op_pow pe_int pe_int) (nomark _)) (pw_and1 (pt_cmpR op_gt (pv 4) pe_int (nomark _)))))
          (pss_cons (ps_expr (pe_bm PySem.F.plainAttrs_list PySem.F.slot_list_append PySem.F.type_list_append mt_append (pv 5) (pa_cons (pe_op op_mod (pe_callTy call_int1 (by rfl) B.int (by decide +kernel) (pa_cons (pv 4) pa_nil)) (pe_ix ix_list (pv 2) (pv 6) (fun _ _ => rfl))) pa_nil))) <|
            pss_one (ps_set (i := 4) sc_law_numbers.nd rfl (Or.inl rfl) (pe_op op_fdiv (pv 4) (pe_ix ix_list (pv 2) (pv 6) (fun _ _ => rfl)))))
          (pss_cons (ps_set (i := 7) sc_law_numbers.nd rfl (Or.inl rfl) (pe_op op_pow (pe_op op_add (pe_op op_add (pe_op op_mod (pe_callTy call_int1 (by rfl) B.int (by decide +kernel) (pa_cons (pv 3) pa_nil)) pe_int) (pe_op op_mul pe_int (pv 1))) pe_int) pe_int)) <|
          pss_cons (ps_set (i := 7) sc_law_numbers.nd rfl (Or.inl rfl) (pe_op op_mul (pe_op op_add (pe_op op_mod (pe_callTy call_int1 (by rfl) B.int (by decide +kernel) (pa_cons (pv 7) pa_nil)) pe_int) (pe_op op_mul pe_int (pe_op op_add (pv 6) pe_int))) (pe_op op_add (pv 6) pe_int))) <|
          pss_cons (ps_set (i := 7) sc_law_numbers.nd rfl (Or.inl rfl) (pe_op op_mod (pe_callTy call_int1 (by rfl) B.int (by decide +kernel) (pa_cons (pv 7) pa_nil)) pe_int)) <|
          pss_cons (ps_set (i := 7) sc_law_numbers.nd rfl (Or.inl rfl) (pe_op op_mul (pe_op op_mod (pe_callTy call_int1 (by rfl) B.int (by decide +kernel) (pa_cons (pe_op op_pow (pv 7) pe_int) pa_nil)) pe_int) pe_int)) <|
          pss_cons (ps_set (i := 7) sc_law_numbers.nd rfl (Or.inl rfl) (pe_op op_mod (pe_callTy call_int1 (by rfl) B.int (by decide +kernel) (pa_cons (pv 7) pa_nil)) pe_int)) <|
          pss_one (ps_expr (pe_bm PySem.F.plainAttrs_list PySem.F.slot_list_append PySem.F.type_list_append mt_append (pv 5) (pa_cons (pe_op op_mod (pe_callTy call_int1 (by rfl) B.int (by decide +kernel) (pa_cons (pe_op op_fdiv (pv 7) pe_int) pa_nil)) (pe_ix ix_list (pv 2) (pv 6) (fun _ _ => rfl))) pa_nil))))))) <|
      pss_one (ps_ret (pv 5)), ?_⟩
    refine ⟨_, rfl, .inl ⟨_, rfl, _, rfl, _, rfl, _, _, rfl, rfl, .inl ⟨_, rfl, _, _, rfl, ?_⟩⟩⟩
    refine ⟨_, rfl, Nat.zero_le _, fun lr hlr => ?_⟩
    have s1 := Same.new (o := .lst []) hlr
    refine ⟨_, rfl, _, _, rfl, .inl ⟨_, SqL.of (s1 _ _ hls), rfl⟩, _, rfl, ?_, ?_, ?_⟩
    · omega
    · rw [List.length_map, List.length_replicate]; omega
    generalize (if (-1 - c : Int) > c then -1 - c else c) = whole
    refine for_any (n := n) (fun i σ' H' => ∃ (left : Int) (ns : List Int) (v6 v7 : Option V), σ' = [some (.int c), some (.int s), some (.ref ls), some (.int whole), some (.int left), some (.ref lr), v6, v7] ∧ Same H H' ∧ H' lr = some (intL ns) ∧ ns.length = i)
      ⟨whole, [], none, none, rfl, s1, upd_same, rfl⟩ (fun i σ' H' hi _ => by show i < _; rw [List.length_map, List.length_replicate]; omega) (fun σ' H' _ => by show _ ≤ n; rw [List.length_map, List.length_replicate]; omega) ?_ ?_
    · rintro i σ' H1 x H2 hi ⟨left, ns, v6, v7, rfl, t1, t2, t3⟩ ⟨rfl, rfl⟩
      have sz : atI ((List.replicate n (420 : Int)).map V.int) ((0 : Int) + (i : Int)) = some (.int 420) := by
        rw [Int.zero_add]
        refine atI_nat ?_
        rw [List.getElem?_map, List.getElem?_replicate, if_pos hi]
        rfl
      have ll : (ns.map V.int).length < sizeLine := by rw [List.length_map, t3]; exact Nat.lt_trans (Nat.lt_of_lt_of_le hi n100) (by decide)
      have fin : ∀ (z : Int), upd H2 lr (.lst (ns.map V.int ++ [V.int z])) lr = some (intL (ns ++ [z])) := fun z => by rw [upd_same]; unfold intL; rw [List.map_append]; rfl
      have fln : ∀ (z : Int), (ns ++ [z]).length = i + 1 := fun z => by rw [List.length_append, t3]; rfl
      show tIfS _ _ _ _ _ _
      show tAnd _ _ _ _ _
      refine anyT (fun Q' q => ?_) fun b => ?_
      · refine ⟨_, rfl, _, _, rfl, rfl, ⟨by decide, by decide, by decide⟩, _, _, rfl, rfl, _, rfl, ?_⟩
        exact ite2 (fun _ => ⟨_, rfl, _, _, rfl, rfl, _, rfl, q _⟩) (fun _ => q _)
      cases b with
      | true =>
        refine iteT ⟨_, rfl, .inl ⟨rfl, _, SqL.of t2⟩, _, rfl, .inl ⟨_, rfl, _, rfl, _, rfl, ls, _, _, _, rfl, rfl, SqL.of (t1 _ _ hls), sz, _, _, rfl, rfl, (by decide : (0 : Int) < 420), ?_⟩⟩
        refine ⟨lr, _, _, rfl, rfl, t2, ll, ?_⟩
        have u1 := t1.mut (o := .lst (ns.map V.int ++ [V.int (left % 420)])) hlr
        refine ⟨_, rfl, _, rfl, _, rfl, ls, _, _, _, rfl, rfl, SqL.of (u1 _ _ hls), sz, _, _, rfl, rfl, ⟨(by decide : (0 : Int) < 420), (by decide : (420 : Int) < 1073741824)⟩, ?_⟩
        exact ⟨_, _, _, _, rfl, u1, fin _, fln _⟩
      | false =>
        refine iteF ?_
        have m1 := modB whole (j := 2147483629) (by decide)
        refine ⟨_, rfl, .inl ⟨_, rfl, _, _, rfl, rfl, (by decide : (0 : Int) < 2147483629), _, rfl, _, _, rfl, rfl, .inl ⟨by decide, by decide⟩, _, _, rfl, rfl, _, _, rfl, rfl, _, _, rfl, rfl, ⟨by decide, by decide, ?_⟩, ?_⟩⟩
        · show (whole % 2147483629 + 7919 * s + 1).natAbs < 2 ^ 64
          omega
        refine ⟨_, rfl, .inl ⟨_, rfl, _, _, rfl, rfl, (by decide : (0 : Int) < 2147483647), _, rfl, _, _, rfl, rfl, _, _, rfl, rfl, .inl ⟨by decide, by decide⟩, _, _, rfl, rfl, _, rfl, _, _, rfl, rfl, _, _, rfl, rfl, .inr ⟨?_, ?_⟩, ?_⟩⟩
        · show -(2 ^ 64) < ((0 : Int) + (i : Int)) + 3
          omega
        · show ((0 : Int) + (i : Int)) + 3 < 2 ^ 64
          omega
        refine ⟨_, rfl, .inl ⟨_, rfl, _, _, rfl, rfl, (by decide : (0 : Int) < 2147483629), ?_⟩⟩
        generalize hone : ((whole % 2147483629 + 7919 * s + 1) ^ (3 : Int).toNat % 2147483647 + 104729 * ((0 : Int) + (i : Int) + 1)) * ((0 : Int) + (i : Int) + 3) = one1
        have m2 := modB one1 (j := 2147483629) (by decide)
        refine ⟨_, rfl, _, _, rfl, rfl, ⟨by decide, by decide, ?_⟩, .inl ⟨_, rfl, _, _, rfl, rfl, (by decide : (0 : Int) < 2147483647), _, _, rfl, rfl, .inr ⟨by decide, by decide⟩, ?_⟩⟩
        · show (one1 % 2147483629).natAbs < 2 ^ 64
          omega
        refine ⟨_, rfl, .inl ⟨_, rfl, _, _, rfl, rfl, (by decide : (0 : Int) < 2147483629), ?_⟩⟩
        refine ⟨_, rfl, .inl ⟨rfl, _, SqL.of t2⟩, _, rfl, _, _, rfl, rfl, ⟨(by decide : (0 : Int) < 16), (by decide : (16 : Int) < 1073741824)⟩, .inl ⟨_, rfl, _, rfl, _, rfl, ls, _, _, _, rfl, rfl, SqL.of (t1 _ _ hls), sz, _, _, rfl, rfl, (by decide : (0 : Int) < 420), ?_⟩⟩
        refine ⟨lr, _, _, rfl, rfl, t2, ll, ?_⟩
        exact ⟨_, _, _, _, rfl, t1.mut hlr, fin _, fln _⟩
    · rintro σ' H1 ⟨left, ns, v6, v7, rfl, t1, t2, t3⟩
      exact ⟨_, rfl, k lr ns _ t1 hlr t2 t3⟩
end
end K23
namespace K23
open PySem PySem.Spec PyProof.Rows L2
section
variable {P : PySem.Program} {w : World} {K : PySem.W.Frag} {mg : Str → Option Value} {base : Heap} {CP CM : Addr} {f : Addr} {fd : FuncData}
/-- a pool: numbers, and the place of the next -/
def PoolAt (H : Hp) (p : Addr) : Prop := ∃ l ns at_, H p = some (.lst [.ref l, .int at_]) ∧ H l = some (intL ns) ∧ 0 ≤ at_ ∧ ns ≠ []
theorem PoolAt.mono {H H' : Hp} {p : Addr} (s : Same H H') (h : PoolAt H p) : PoolAt H' p := by
  obtain ⟨l, ns, a, h1, h2, h3⟩ := h
  exact ⟨l, ns, a, s _ _ h1, s _ _ h2, h3⟩
/-- a list without ints changes -/
theorem PoolAt.putL {H : Hp} {p d : Addr} {xs : List V} {o : HO} (h : PoolAt H p) (hd : H d = some (.lst xs)) (hx : ∀ i, V.int i ∉ xs) : PoolAt (upd H d o) p := by
  obtain ⟨l, ns, a, h1, h2, h3⟩ := h
  have n1 : p ≠ d := ne_of h1 hd fun z => by
    have z' := HO.lst.inj z
    rw [← z'] at hx
    exact hx a (List.mem_cons_of_mem _ List.mem_cons_self)
  have n2 : l ≠ d := ne_of h2 hd fun z => by
    have z' := HO.lst.inj z
    rw [← z'] at hx
    cases e : ns with
    | nil => exact h3.2 e
    | cons x y => exact hx x (List.mem_map.mpr ⟨x, by rw [e]; exact List.mem_cons_self, rfl⟩)
  exact ⟨l, ns, a, by rw [upd_ne n1]; exact h1, by rw [upd_ne n2]; exact h2, h3⟩
theorem PoolAt.ne {H : Hp} {p d : Addr} {xs : List V} (h : PoolAt H p) (hd : H d = some (.lst xs)) (hx : ∀ i, V.int i ∉ xs) : d ≠ p := fun e => by
  obtain ⟨l, ns, a, h1, h2, h3⟩ := h
  rw [e, h1] at hd
  have z' := HO.lst.inj (Option.some.inj hd)
  rw [← z'] at hx
  exact hx a (List.mem_cons_of_mem _ List.mem_cons_self)
/-- a dict changes -/
theorem PoolAt.put {H : Hp} {p d : Addr} {kvs : List (Key × V)} {o : HO} (h : PoolAt H p) (hd : H d = some (.dK kvs)) : PoolAt (upd H d o) p := by
  obtain ⟨l, ns, a, h1, h2, h3⟩ := h
  exact ⟨l, ns, a, by rw [upd_ne (ne_of h1 hd (by intro z; cases z))]; exact h1, by rw [upd_ne (ne_of h2 hd (by intro z; cases z))]; exact h2, h3⟩
theorem PoolAt.some {H : Hp} {p : Addr} (h : PoolAt H p) : ∃ o, H p = some o := by
  obtain ⟨l, ns, a, h1, _⟩ := h
  exact ⟨_, h1⟩
/-- what a draw leaves -/
theorem hide_base {p : Addr} {B H H' : Hp} (s : Same B H) (h : B p = none) (s' : Same (hide p H) H') : Same B H' := (hide_up s h).trans s'
theorem hide_free {p q : Addr} {H H' : Hp} (s' : Same (hide p H) H') (hp : ∃ o, H p = some o) (h' : ∃ o, H' p = some o) (h : H' q = none) : H q = none := by
  by_cases e : q = p
  · obtain ⟨o, ho⟩ := h'
    rw [e, ho] at h
    cases h
  · cases hq : H q with
    | none => rfl
    | some o =>
      have := s' q o (by rw [hide_at e]; exact hq)
      rw [this] at h
      cases h
theorem flat_one {α : Type} (x : α) : ∀ n : Nat, (List.replicate n [x]).flatten = List.replicate n x
  | 0 => rfl
  | n + 1 => by
    rw [List.replicate_succ, List.flatten_cons, flat_one x n, List.replicate_succ]
    rfl
def spPool : Sp := fun vs H Q _ => ∃ c s, ∃ n : Nat, vs = [.int c, .int s, .int (n : Int)] ∧ 0 ≤ s ∧ s ≤ 63 ∧ 1 ≤ n ∧ n ≤ 100 ∧ ∀ p H', Same H H' → H p = none → PoolAt H' p → Q (.ref p) H'
theorem ok_law_pool (D : FnD P w K mg base CX0 1 "_law_numbers" p_law_numbers spNumbers) (T : FnT K mg "_law_pool" s_law_pool p_law_pool f fd) : FnD P w K mg base CX0 2 "_law_pool" p_law_pool spPool := by
  refine .of T (T.fn.ok sc_law_pool (fun vs H Q E h => ?_) (fun cdv A outer s0 H vs Q E hr h => ?_))
  · obtain ⟨c, s, n, rfl, _⟩ := h
    rfl
  · obtain ⟨c, s, n, rfl, z0, z1, n1, n100, k⟩ := h
    refine ⟨_, pss_one (ps_ret (pe_lst (pa_cons (pe_f D hr pass0 (pa_cons (pv 0) (pa_cons (pv 1) (pa_cons (pe_op op_rep (pe_lst (pa_cons pe_int pa_nil)) (pv 2)) pa_nil)))) (pa_cons pe_int pa_nil)))), ?_⟩
    refine ⟨_, rfl, _, rfl, (by show 1 ≤ sizeLine; decide), fun l1 hl1 => ⟨_, rfl, l1, n, _, rfl, rfl, upd_same, by omega, by omega, ?_, fun l2 hl2 => ?_⟩⟩
    · show 1 * (n : Int).toNat ≤ sizeLine
      rw [Int.toNat_natCast, Nat.one_mul]
      exact Nat.le_trans n100 (by decide)
    have s1 := (Same.new (o := .lst [V.int 420]) hl1).trans (Same.new (o := .lst (List.replicate ((n : Int).toNat) [V.int 420]).flatten) hl2)
    refine ⟨c, s, l2, n, rfl, z0, z1, ?_, n100, fun l ns H' s2 hl hl' hlen => ⟨(by show 2 ≤ sizeLine; decide), fun p hp => k p _ ((s1.trans s2).trans (Same.new hp)) ((s1.trans s2).free hp) ⟨l, ns, 0, upd_same, Same.new hp _ _ hl', Int.le_refl 0, fun e => by rw [e] at hlen; simp at hlen; omega⟩⟩⟩
    rw [upd_same, flat_one, Int.toNat_natCast]
    unfold intL
    rw [List.map_replicate]
def spDraw : Sp := fun vs H Q _ => ∃ p m, vs = [.ref p, .int m] ∧ PoolAt H p ∧ 1 ≤ m ∧ ∀ i H', 0 ≤ i → i < m → Same (hide p H) H' → PoolAt H' p → Q (.int i) H'
theorem ok_law_draw (B : Blt mg) (T : FnT K mg "_law_draw" s_law_draw p_law_draw f fd) : FnD P w K mg base CX0 1 "_law_draw" p_law_draw spDraw := by
  refine .of T (T.fn.ok sc_law_draw (fun vs H Q E h => ?_) (fun cdv A outer s0 H vs Q E hr h => ?_))
  · obtain ⟨p, m, rfl, _⟩ := h
    rfl
  · obtain ⟨p, m, rfl, ⟨l, ns, a, h1, h2, h3, h4⟩, m1, k⟩ := h
    refine ⟨_, pss_cons (ps_set (i := 2) sc_law_draw.nd rfl (Or.inl rfl) (pe_ix ix_list (pv 0) pe_int (fun _ _ => rfl))) <|
      pss_cons (ps_asg (pe_op op_add (pv 2) pe_int) (pg_sub (pv 0) pe_int set_list)) <|
      pss_one (ps_ret (pe_ifExp (pt_cmpR op_lt (pv 2) (pe_callB call_len (by rfl) B.len (by decide +kernel) (pa_cons (pe_ix ix_list (pv 0) pe_int (fun _ _ => rfl)) pa_nil)) (nomark _))
        (pe_op op_mod (pe_callTy call_int1 (by rfl) B.int (by decide +kernel) (pa_cons (pe_ix ix_list (pe_ix ix_list (pv 0) pe_int (fun _ _ => rfl)) (pv 2) (fun _ _ => rfl)) pa_nil)) (pv 1)) pe_int)), ?_⟩
    refine ⟨_, rfl, p, _, 1, .int a, rfl, rfl, SqL.of h1, atI_nat (j := 1) rfl, ?_⟩
    refine ⟨_, rfl, _, _, rfl, rfl, _, rfl, p, _, 1, 1, rfl, rfl, h1, rfl, ?_⟩
    have hp : upd H p (.lst ([V.ref l, V.int a].set 1 (V.int (a + 1)))) p = some (.lst [.ref l, .int (a + 1)]) := upd_same
    have nl : l ≠ p := ne_of h2 h1 (by
      intro z
      unfold intL at z
      have z' := HO.lst.inj z
      cases ns with
      | nil => cases z'
      | cons x y => cases (List.cons.inj z').1)
    have hl : upd H p (.lst ([V.ref l, V.int a].set 1 (V.int (a + 1)))) l = some (intL ns) := by rw [upd_ne nl]; exact h2
    have sd : Same (hide p H) (upd H p (.lst ([V.ref l, V.int a].set 1 (V.int (a + 1))))) := hide_upd
    have pa : PoolAt (upd H p (.lst ([V.ref l, V.int a].set 1 (V.int (a + 1))))) p := ⟨l, ns, a + 1, hp, hl, by omega, h4⟩
    refine ⟨_, rfl, _, rfl, p, _, 0, _, rfl, rfl, SqL.of hp, atI_nat (j := 0) rfl, _, _, rfl, .inl ⟨_, SqL.of hl, rfl⟩, _, _, rfl, rfl, _, rfl, ?_⟩
    rw [List.length_map]
    refine ite2 (fun hb => ?_) (fun _ => ?_)
    · have hlt := of_decide_eq_true hb
      obtain ⟨j, rfl⟩ : ∃ j : Nat, a = (j : Int) := ⟨a.toNat, by omega⟩
      have jl : j < ns.length := by omega
      obtain ⟨x, hx⟩ : ∃ x, ns[j]? = some x := ⟨_, List.getElem?_eq_getElem jl⟩
      refine ⟨_, rfl, p, _, 0, _, rfl, rfl, SqL.of hp, atI_nat (j := 0) rfl, _, rfl, l, _, _, .int x, rfl, rfl, SqL.of hl, atI_nat (by rw [List.getElem?_map, hx]; rfl), .inl ⟨_, rfl, _, rfl, _, _, rfl, rfl, (by omega : (0 : Int) < m), ?_⟩⟩
      have mb := modB x (j := m) (by omega)
      exact k _ _ mb.1 mb.2 sd pa
    · exact k 0 _ (Int.le_refl 0) (by omega) sd pa
def spOpened (K : PySem.W.Frag) : Sp := fun vs H Q _ => ∃ a ns, ∃ j n : Nat, vs = [.ref a, .int (j : Int), .int (n : Int)] ∧ SqL K H a (List.map V.int ns) ∧ (ns = [] ∨ j < ns.length) ∧ j ≤ 63 ∧ 1 ≤ n ∧ n ≤ 100 ∧ ∀ p H', Same H H' → H p = none → PoolAt H' p → Q (.ref p) H'
theorem sql_same {K : PySem.W.Frag} {H H' : Hp} {a : Addr} {xs : List V} (s : Same H H') (h : SqL K H a xs) : SqL K H' a xs := by
  rcases h with (h | ⟨o, h⟩) | h
  · exact .inl (.inl (s _ _ h))
  · exact .inl (.inr ⟨o, s _ _ h⟩)
  · exact .inr h
theorem dp_ints {K : PySem.W.Frag} {H : Hp} : ∀ ns : List Int, DpAll K H (ns.map V.int) (ns.map PyData.int)
  | [] => .nil
  | x :: l => .cons (.int x) (dp_ints l)
theorem ok_law_opened (B : Blt mg) (D : FnD P w K mg base CX0 2 "_law_pool" p_law_pool spPool) (T : FnT K mg "_law_opened" s_law_opened p_law_opened f fd) : FnD P w K mg base CX0 3 "_law_opened" p_law_opened (spOpened K) := by
  refine .of T (T.fn.ok sc_law_opened (fun vs H Q E h => ?_) (fun cdv A outer s0 H vs Q E hr h => ?_))
  · obtain ⟨a, ns, j, n, rfl, _⟩ := h
    rfl
  · obtain ⟨a, ns, j, n, rfl, hs, hj, j63, n1, n100, k⟩ := h
    refine ⟨_, pss_cons (ps_set (i := 3) sc_law_opened.nd rfl (Or.inl rfl) (pe_ifExp (pt_cmpR (op_neD hr.units) (pv 0) (pe_lst pa_nil) (nomark _)) (pe_ix ix_list (pv 0) (pv 1) (fun _ _ => rfl)) pe_int)) <|
      pss_one (ps_ret (pe_f D hr pass0 (pa_cons (pv 3) (pa_cons (pv 1) (pa_cons (pv 2) pa_nil))))), ?_⟩
    refine ⟨_, rfl, Nat.zero_le _, fun l hl => ⟨.list (ns.map PyData.int), .list [], .lst (sql_same (Same.new hl) hs) (dp_ints ns), .lst (SqL.of (xs := []) upd_same) .nil, PySem.W.ke_shaped_ints ns, by rfl, _, rfl, ?_⟩⟩
    have s1 := Same.new (o := .lst []) hl
    have fin : ∀ c H1, Same H H1 → spPool [.int c, .int (j : Int), .int (n : Int)] H1 Q E0 := fun c H1 s1 => ⟨c, _, n, rfl, by omega, by omega, n1, n100, fun p H' s2 hp hpa => k p H' (s1.trans s2) (s1.free hp) hpa⟩
    refine ite2 (fun hb => ?_) (fun _ => ?_)
    · have jl : j < ns.length := hj.resolve_left fun e => by
        rw [e] at hb
        exact absurd hb (by decide)
      obtain ⟨x, hx⟩ : ∃ x, ns[j]? = some x := ⟨_, List.getElem?_eq_getElem jl⟩
      exact ⟨_, rfl, _, rfl, a, _, _, .int x, rfl, rfl, sql_same s1 hs, atI_nat (by rw [List.getElem?_map, hx]; rfl), _, rfl, _, rfl, _, rfl, fin x _ s1⟩
    · exact ⟨_, rfl, _, rfl, _, rfl, fin 7 _ s1⟩
end
end K23
namespace K23
open PySem PySem.Spec PyProof.Rows L2
def wA : List Str := ["a", "b", "c", "d", "e", "f", "g"]
def wB : List Str := ["x", "way", "runs", "stop", "b", "zz", "place"]
def wN : List Str := ["p", "q", "r", "s", "t", "u", "v", "x", "b", "a", "way", "none"]
def wordB (z : Str) : Bool := decide (1 ≤ z.length) && decide (z.length ≤ 8) && z.cps.toList.all fun c => decide (97 ≤ c) && decide (c ≤ 122)
theorem wordB_ok {z : Str} (h : wordB z = true) : Word z := by
  unfold wordB at h
  rw [Bool.and_eq_true, Bool.and_eq_true, List.all_eq_true] at h
  obtain ⟨⟨h1, h2⟩, h3⟩ := h
  refine ⟨of_decide_eq_true h1, of_decide_eq_true h2, fun c hc => ?_⟩
  have := h3 c hc
  rw [Bool.and_eq_true] at this
  exact ⟨of_decide_eq_true this.1, of_decide_eq_true this.2⟩
theorem words_of {l : List Str} (h : l.all wordB = true) : ∀ x ∈ l, Word x := fun x hx => wordB_ok (List.all_eq_true.mp h x hx)
theorem wA_w : ∀ x ∈ wA, Word x := words_of (by decide +kernel)
theorem wB_w : ∀ x ∈ wB, Word x := words_of (by decide +kernel)
theorem wN_w : ∀ x ∈ wN, Word x := words_of (by decide +kernel)
theorem wA_n : wA.Nodup := by decide +kernel
theorem wB_n : wB.Nodup := by decide +kernel
theorem wN_n : wN.Nodup := by decide +kernel
/-- the list turned, and cut -/
def turnL (ws : List Str) (a m : Nat) : List Str := (ws.drop a ++ ws.take a).take m
theorem turnL_p (ws : List Str) (a m : Nat) : (ws.drop a ++ ws.take a).Perm ws := by
  have := List.perm_append_comm (l₁ := ws.drop a) (l₂ := ws.take a)
  rw [List.take_append_drop] at this
  exact this
theorem turnL_len {ws : List Str} {a m : Nat} (h : m ≤ ws.length) : (turnL ws a m).length = m := by
  unfold turnL
  rw [List.length_take, (turnL_p ws a m).length_eq]
  omega
theorem turnL_nd {ws : List Str} {a m : Nat} (h : ws.Nodup) : (turnL ws a m).Nodup := ((turnL_p ws a m).nodup_iff.mpr h).sublist (List.take_sublist _ _)
theorem turnL_mem {ws : List Str} {a m : Nat} {x : Str} (h : x ∈ turnL ws a m) : x ∈ ws := (turnL_p ws a m).mem_iff.mp (List.mem_of_mem_take h)
theorem cut_from (xs : List V) {a : Nat} (h : a ≤ xs.length) : cutV xs (some (a : Int)) none = xs.drop a := by
  unfold cutV
  rw [HT.sIx_nat, HT.sIx_none, Nat.min_eq_left h]
  exact List.take_of_length_le (by rw [List.length_drop]; exact Nat.le_refl _)
theorem cut_to (xs : List V) (a : Nat) : cutV xs none (some (a : Int)) = xs.take a := by
  unfold cutV
  rw [HT.sIx_nat, HT.sIx_none, List.drop_zero, Nat.sub_zero]
  by_cases c : a ≤ xs.length
  · rw [Nat.min_eq_left c]
  · rw [Nat.min_eq_right (by omega), List.take_of_length_le (Nat.le_refl _), List.take_of_length_le (by omega)]
section
variable {P : PySem.Program} {w : World} {K : PySem.W.Frag} {mg : Str → Option Value} {base : Heap} {CP CM : Addr} {f : Addr} {fd : FuncData}
/-- the last line of both: (some[at:] + some[:at])[:many], some at i, at at j, many at 1 -/
theorem turn_read {σ : L2.St} {H : Hp} {i j l : Nat} {ls : Addr} {ws : List Str} {a m : Nat} {Q : VK} (hi : σ[i]? = some (some (.ref ls))) (hj : σ[j]? = some (some (.int (a : Int)))) (hm : σ[1]? = some (some (.int (m : Int)))) (hs : H ls = some (strL ws)) (ha : a ≤ ws.length) (hl : ws.length ≤ 100)
    (k : ∀ l H', Same H H' → H l = none → H' l = some (strL (turnL ws a m)) → Q (.ref l) H') :
    tSl (rSlL K) (tOp rCat (tSl (rSlL K) (tVar i) (tPart (tVar j)) tNoPart) (tSl (rSlL K) (tVar i) tNoPart (tPart (tVar j)))) tNoPart (tPart (tVar 1)) σ H Q := by
  have la : a ≤ (ws.map V.str).length := by rw [List.length_map]; exact ha
  refine ⟨_, hi, _, hj, _, rfl, ls, _, rfl, SqL.of hs, fun p1 hp1 => ?_⟩
  rw [cut_from _ la]
  have s1 := Same.new (o := .lst ((ws.map V.str).drop a)) hp1
  refine ⟨_, hi, _, hj, _, rfl, ls, _, rfl, SqL.of (s1 _ _ hs), fun p2 hp2 => ?_⟩
  rw [cut_to]
  have s2 := Same.new (o := .lst ((ws.map V.str).take a)) hp2
  refine ⟨p1, p2, _, _, rfl, rfl, s2 _ _ upd_same, upd_same, ?_, fun p3 hp3 => ?_⟩
  · rw [List.length_drop, List.length_take, List.length_map]
    exact Nat.le_trans (show _ ≤ 100 by omega) (by decide)
  have s3 := Same.new (o := .lst ((ws.map V.str).drop a ++ (ws.map V.str).take a)) hp3
  refine ⟨_, hm, _, rfl, p3, _, rfl, SqL.of upd_same, fun p4 hp4 => ?_⟩
  rw [cut_to]
  have s4 := Same.new (o := .lst (((ws.map V.str).drop a ++ (ws.map V.str).take a).take m)) hp4
  have s14 := ((s1.trans s2).trans s3).trans s4
  refine k p4 _ s14 (((s1.trans s2).trans s3).free hp4) ?_
  rw [upd_same]
  unfold strL turnL
  rw [List.map_take, List.map_append, List.map_drop, List.map_take]
def spWords : Sp := fun vs H Q _ => ∃ p, ∃ m : Nat, vs = [.ref p, .int (m : Int)] ∧ m ≤ 7 ∧ PoolAt H p ∧ ∀ l ws H', Same (hide p H) H' → PoolAt H' p → H l = none → H' l = some (strL ws) → ws.length = m → ws.Nodup → (∀ x ∈ ws, Word x) → Q (.ref l) H'
theorem ok_law_words (D : FnD P w K mg base CX0 1 "_law_draw" p_law_draw spDraw) (T : FnT K mg "_law_words" s_law_words p_law_words f fd) : FnD P w K mg base CX0 2 "_law_words" p_law_words spWords := by
  refine .of T (T.fn.ok sc_law_words (fun vs H Q E h => ?_) (fun cdv A outer s0 H vs Q E hr h => ?_))
  · obtain ⟨p, m, rfl, _⟩ := h
    rfl
  · obtain ⟨p, m, rfl, m7, hp, k⟩ := h
    refine ⟨_, pss_cons (ps_set (i := 2) sc_law_words.nd rfl (Or.inl rfl) (pe_lst (pa_cons (pe_lst (pa_cons pe_str (pa_cons pe_str (pa_cons pe_str (pa_cons pe_str (pa_cons pe_str (pa_cons pe_str (pa_cons pe_str pa_nil))))))))
        (pa_cons (pe_lst (pa_cons pe_str (pa_cons pe_str (pa_cons pe_str (pa_cons pe_str (pa_cons pe_str (pa_cons pe_str (pa_cons pe_str pa_nil)))))))) pa_nil)))) <|
      pss_cons (ps_par (i := 3) (j := 4) rfl sc_law_words.nd rfl rfl (by decide) rfl rfl (pa_cons (pe_ix ix_list (pv 2) (pe_f D hr pass0 (pa_cons (pv 0) (pa_cons pe_int pa_nil))) (fun _ _ => rfl)) (pa_cons (pe_f D hr pass0 (pa_cons (pv 0) (pa_cons pe_int pa_nil))) pa_nil)) (by rfl)) <|
      pss_one (ps_ret (pe_slice sl_list (pe_op op_cat (pe_slice sl_list (pv 3) (po_some (pv 4)) po_none) (pe_slice sl_list (pv 3) po_none (po_some (pv 4)))) po_none (po_some (pv 1)))), ?_⟩
    refine ⟨(by show 7 ≤ sizeLine; decide), fun lA hlA => ⟨(by show 7 ≤ sizeLine; decide), fun lB hlB => ⟨(by show 2 ≤ sizeLine; decide), fun lm hlm => ?_⟩⟩⟩
    have s1 := Same.new (o := strL wA) hlA
    have s2 := Same.new (o := strL wB) hlB
    have s3 := Same.new (o := .lst [.ref lA, .ref lB]) hlm
    have s13 := (s1.trans s2).trans s3
    have hA : upd (upd (upd H lA (strL wA)) lB (strL wB)) lm (.lst [.ref lA, .ref lB]) lA = some (strL wA) := (s2.trans s3) _ _ upd_same
    have hB : upd (upd (upd H lA (strL wA)) lB (strL wB)) lm (.lst [.ref lA, .ref lB]) lB = some (strL wB) := s3 _ _ upd_same
    have hm : upd (upd (upd H lA (strL wA)) lB (strL wB)) lm (.lst [.ref lA, .ref lB]) lm = some (.lst [.ref lA, .ref lB]) := upd_same
    have hp3 : PoolAt (upd (upd (upd H lA (strL wA)) lB (strL wB)) lm (.lst [.ref lA, .ref lB])) p := hp.mono s13
    show tSeq _ _ _ _ (upd (upd (upd H lA (strL wA)) lB (strL wB)) lm (.lst [.ref lA, .ref lB]))
    have n0 : ∀ q, upd (upd (upd H lA (strL wA)) lB (strL wB)) lm (.lst [.ref lA, .ref lB]) q = none → H q = none := fun q => s13.free
    have sb : Same (hide p H) (hide p (upd (upd (upd H lA (strL wA)) lB (strL wB)) lm (.lst [.ref lA, .ref lB]))) := hide_up (hide_same.trans s13) hide_none
    generalize upd (upd (upd H lA (strL wA)) lB (strL wB)) lm (.lst [.ref lA, .ref lB]) = H3 at hA hB hm hp3 n0 sb
    have np : ∀ {x : Addr} {o : HO}, H3 x = some o → (∀ a b, o ≠ .lst [.ref a, .int b]) → hide p H3 x = some o := fun {x o} hx ho => by
      rw [hide_at ?_]
      · exact hx
      · intro e
        obtain ⟨l, ns, a, z, _⟩ := hp3
        rw [e, z] at hx
        exact ho _ _ (Option.some.inj hx).symm
    have hA' := np hA (by intro a b z; cases z)
    have hB' := np hB (by intro a b z; cases z)
    have hm' := np hm (by intro a b z; cases z)
    refine ⟨_, rfl, _, rfl, p, 2, rfl, hp3, by decide, fun i H4 i0 i2 s4 hp4 => ?_⟩
    obtain ⟨ls, ws, hsel, hls, lw, nw, ww⟩ : ∃ ls ws, atI [V.ref lA, V.ref lB] i = some (.ref ls) ∧ hide p H3 ls = some (strL ws) ∧ ws.length = 7 ∧ ws.Nodup ∧ ∀ x ∈ ws, Word x := by
      have : i = 0 ∨ i = 1 := by omega
      rcases this with rfl | rfl
      · exact ⟨lA, wA, rfl, hA', rfl, wA_n, wA_w⟩
      · exact ⟨lB, wB, rfl, hB', rfl, wB_n, wB_w⟩
    refine ⟨lm, _, i, _, rfl, rfl, SqL.of (s4 _ _ hm'), hsel, ?_⟩
    refine ⟨_, rfl, p, 7, rfl, hp4, by decide, fun j H5 j0 j7 s5 hp5 => ⟨_, _, rfl, ?_⟩⟩
    obtain ⟨a, rfl⟩ : ∃ a : Nat, j = (a : Int) := ⟨j.toNat, by omega⟩
    have s45 : Same (hide p H3) H5 := hide_base s4 hide_none s5
    refine turn_read (l := 0) (i := 3) (j := 4) (a := a) (m := m) rfl rfl rfl (s45 _ _ hls) (by omega) (by omega) fun l H6 s6 hl6 hl6' => ?_
    refine k l _ H6 ((sb.trans s45).trans s6) (hp5.mono s6) ?_ hl6' (turnL_len (by omega)) (turnL_nd nw) fun x hx => ww x (turnL_mem hx)
    refine n0 l ?_
    exact hide_free s4 hp3.some hp4.some (hide_free s5 hp4.some hp5.some hl6)
def spNames : Sp := fun vs H Q _ => ∃ p, ∃ m : Nat, vs = [.ref p, .int (m : Int)] ∧ m ≤ 12 ∧ PoolAt H p ∧ ∀ l ws H', Same (hide p H) H' → PoolAt H' p → H l = none → H' l = some (strL ws) → ws.length = m → ws.Nodup → (∀ x ∈ ws, Word x) → Q (.ref l) H'
theorem ok_law_names (D : FnD P w K mg base CX0 1 "_law_draw" p_law_draw spDraw) (T : FnT K mg "_law_names" s_law_names p_law_names f fd) : FnD P w K mg base CX0 2 "_law_names" p_law_names spNames := by
  refine .of T (T.fn.ok sc_law_names (fun vs H Q E h => ?_) (fun cdv A outer s0 H vs Q E hr h => ?_))
  · obtain ⟨p, m, rfl, _⟩ := h
    rfl
  · obtain ⟨p, m, rfl, m12, hp, k⟩ := h
    refine ⟨_, pss_cons (ps_set (i := 2) sc_law_names.nd rfl (Or.inl rfl) (pe_lst (pa_cons pe_str (pa_cons pe_str (pa_cons pe_str (pa_cons pe_str (pa_cons pe_str (pa_cons pe_str (pa_cons pe_str (pa_cons pe_str (pa_cons pe_str (pa_cons pe_str (pa_cons pe_str (pa_cons pe_str pa_nil)))))))))))))) <|
      pss_cons (ps_set (i := 3) sc_law_names.nd rfl (Or.inl rfl) (pe_f D hr pass0 (pa_cons (pv 0) (pa_cons pe_int pa_nil)))) <|
      pss_one (ps_ret (pe_slice sl_list (pe_op op_cat (pe_slice sl_list (pv 2) (po_some (pv 3)) po_none) (pe_slice sl_list (pv 2) po_none (po_some (pv 3)))) po_none (po_some (pv 1)))), ?_⟩
    refine ⟨(by show 12 ≤ sizeLine; decide), fun lA hlA => ?_⟩
    have s1 := Same.new (o := strL wN) hlA
    have hA : upd H lA (strL wN) lA = some (strL wN) := upd_same
    have hp3 := hp.mono s1
    show tSeq _ _ _ _ (upd H lA (strL wN))
    have n0 : ∀ q, upd H lA (strL wN) q = none → H q = none := fun q => s1.free
    have sb : Same (hide p H) (hide p (upd H lA (strL wN))) := hide_up (hide_same.trans s1) hide_none
    generalize upd H lA (strL wN) = H3 at hA hp3 n0 sb
    have hA' : hide p H3 lA = some (strL wN) := by
      rw [hide_at ?_]
      · exact hA
      · intro e
        obtain ⟨l, ns, a, z, _⟩ := hp3
        rw [e, z] at hA
        cases hA
    refine ⟨_, rfl, p, 12, rfl, hp3, by decide, fun j H5 j0 j7 s5 hp5 => ?_⟩
    obtain ⟨a, rfl⟩ : ∃ a : Nat, j = (a : Int) := ⟨j.toNat, by omega⟩
    have l12 : wN.length = 12 := rfl
    refine turn_read (l := 0) (i := 2) (j := 3) (a := a) (m := m) rfl rfl rfl (s5 _ _ hA') (by omega) (by omega) fun l H6 s6 hl6 hl6' => ?_
    refine k l _ H6 ((sb.trans s5).trans s6) (hp5.mono s6) ?_ hl6' (turnL_len (by omega)) (turnL_nd wN_n) fun x hx => wN_w x (turnL_mem hx)
    exact n0 l (hide_free s5 hp3.some hp5.some hl6)
end
end K23
/-! A drawn program as plain data. -/
namespace K23
open PySem PySem.Spec PyProof.Rows L2
def rkL : List Str → Str → Nat
  | [], _ => 0
  | y :: l, x => if y = x then 0 else rkL l x + 1
theorem rkL_at : ∀ {l : List Str} {i : Nat} {x : Str}, l.Nodup → l[i]? = some x → rkL l x = i
  | [], i, x, _, h => by simp at h
  | y :: l, 0, x, _, h => by
    have e : y = x := by simpa using h
    unfold rkL
    rw [if_pos e]
  | y :: l, i + 1, x, nd, h => by
    obtain ⟨n1, n2⟩ := List.nodup_cons.mp nd
    have h' : l[i]? = some x := by simpa using h
    have ne : ¬ y = x := fun e => n1 (e ▸ List.mem_of_getElem? h')
    unfold rkL
    rw [if_neg ne, rkL_at n2 h']
/-- what the draws have made, the places pls, the ways ks, starts os, exits es -/
structure Raw (pls ks : List Str) (fr to : Str → Str) (os : List Str) : Prop where
  ksN : ks.Nodup
  ends : ∀ k ∈ ks, ∃ s t : Nat, s < t ∧ pls[s]? = some (fr k) ∧ pls[t]? = some (to k)
  os : ∀ x ∈ os, ∃ k ∈ ks, fr k = x
theorem full_of {pls ks es os : List Str} {fr to : Str → Str} (R : Raw pls ks fr to os) (nd : pls.Nodup) (n2 : 2 ≤ pls.length) (n6 : pls.length ≤ 6) (kl : ks.length ≤ 40) (wp : ∀ x ∈ pls, Word x) (wk : ∀ k ∈ ks, Word k) (inn : ∀ t, 1 ≤ t → t < pls.length → ∃ k ∈ ks, pls[t]? = some (to k))
    (esN : es.Nodup) (esP : ∀ x ∈ es, x ∈ pls) (esO : ∀ x ∈ pls, x ∉ os → x ∈ es) : ∃ G : Prg, G.Full ∧ ks.Perm G.ws ∧ es.Perm G.ex ∧ G.fr = fr ∧ G.to = to ∧ pls[0]? = some G.bg := by
  obtain ⟨ws, hw, sw⟩ := sort_ex ks
  obtain ⟨pl, hp, sp⟩ := sort_ex pls
  obtain ⟨ex, he, se⟩ := sort_ex es
  obtain ⟨b, hb⟩ : ∃ b, pls[0]? = some b := ⟨_, List.getElem?_eq_getElem (by omega)⟩
  have mw : ∀ x, x ∈ ws ↔ x ∈ ks := fun x => hw.mem_iff
  have mp : ∀ x, x ∈ pl ↔ x ∈ pls := fun x => hp.mem_iff
  have me : ∀ x, x ∈ ex ↔ x ∈ es := fun x => he.mem_iff
  have inG : ∀ {i : Nat} {x : Str}, pls[i]? = some x → x ∈ pls := fun h => List.mem_of_getElem? h
  have esL : es.length ≤ 40 := Nat.le_trans (subset_len esN esP) (by omega)
  -- the last place is an exit
  have last : ∃ z, pls[pls.length - 1]? = some z ∧ z ∈ es := by
    obtain ⟨z, hz⟩ : ∃ z, pls[pls.length - 1]? = some z := ⟨_, List.getElem?_eq_getElem (by omega)⟩
    refine ⟨z, hz, esO z (inG hz) fun h => ?_⟩
    obtain ⟨k, hk, e⟩ := R.os z h
    obtain ⟨s, t, st, h1, h2⟩ := R.ends k hk
    rw [e] at h1
    have a1 := rkL_at nd h1
    have a2 := rkL_at nd hz
    have a3 := at_len h2
    omega
  have ok : Prg.Ok ⟨ws, fr, to, pl, b, ex, rkL pls⟩ := {
    wsN := hw.nodup_iff.mpr R.ksN
    wsS := sw
    plN := hp.nodup_iff.mpr nd
    exN := he.nodup_iff.mpr esN
    wsW := fun k hk => wk k ((mw k).mp hk)
    plW := fun x hx => wp x ((mp x).mp hx)
    frP := fun k hk => by
      obtain ⟨s, t, st, h1, h2⟩ := R.ends k ((mw k).mp hk)
      exact (mp _).mpr (inG h1)
    toP := fun k hk => by
      obtain ⟨s, t, st, h1, h2⟩ := R.ends k ((mw k).mp hk)
      exact (mp _).mpr (inG h2)
    bgP := (mp b).mpr (inG hb)
    exP := fun x hx => (mp x).mpr (esP x ((me x).mp hx))
    on := fun x hx => by
      by_cases c : x ∈ os
      · obtain ⟨k, hk, e⟩ := R.os x c
        exact .inr ⟨k, (mw k).mpr hk, e⟩
      · exact .inl ((me x).mpr (esO x ((mp x).mp hx) c))
    up := fun k hk => by
      obtain ⟨s, t, st, h1, h2⟩ := R.ends k ((mw k).mp hk)
      show rkL pls (fr k) < rkL pls (to k)
      rw [rkL_at nd h1, rkL_at nd h2]
      exact st
    top := fun x hx => by
      obtain ⟨i, hi⟩ := List.mem_iff_getElem?.mp ((mp x).mp hx)
      show rkL pls x < 6
      rw [rkL_at nd hi]
      exact Nat.lt_of_lt_of_le (at_len hi) n6
    wsL := by show ws.length ≤ 40; rw [hw.length_eq]; exact kl
    plL := by show pl.length ≤ 40; rw [hp.length_eq]; omega
    exL := by show ex.length ≤ 40; rw [he.length_eq]; exact esL
    wsE := fun e => by
      have e : ws = [] := e
      obtain ⟨k, hk, _⟩ := inn 1 (Nat.le_refl _) (by omega)
      have := (mw k).mpr hk
      rw [e] at this
      cases this }
  refine ⟨⟨ws, fr, to, pl, b, ex, rkL pls⟩, { ok := ok, plS := sp, exS := se, plM := fun x hx => ?_, rc := fun x hx => ?_, exE := fun e => ?_ }, hw.symm, he.symm, rfl, rfl, hb⟩
  · obtain ⟨i, hi⟩ := List.mem_iff_getElem?.mp ((mp x).mp hx)
    by_cases c : 1 ≤ i
    · obtain ⟨k, hk, h⟩ := inn i c (at_len hi)
      rw [hi] at h
      exact ⟨k, (mw k).mpr hk, .inr (Option.some.inj h)⟩
    · have e : i = 0 := by omega
      subst e
      obtain ⟨k, hk, h⟩ := inn 1 (Nat.le_refl _) (by omega)
      obtain ⟨s, t, st, h1, h2⟩ := R.ends k hk
      have a1 := rkL_at nd h
      have a2 := rkL_at nd h2
      have : s = 0 := by omega
      subst this
      rw [hi] at h1
      exact ⟨k, (mw k).mpr hk, .inl (Option.some.inj h1)⟩
  · obtain ⟨i, hi⟩ := List.mem_iff_getElem?.mp ((mp x).mp hx)
    by_cases c : 1 ≤ i
    · obtain ⟨k, hk, h⟩ := inn i c (at_len hi)
      rw [hi] at h
      exact .inr ⟨k, (mw k).mpr hk, (Option.some.inj h).symm⟩
    · have e : i = 0 := by omega
      subst e
      rw [hb] at hi
      exact .inl (Option.some.inj hi).symm
  · have e : ex = [] := e
    obtain ⟨z, _, hz⟩ := last
    have := (me z).mpr hz
    rw [e] at this
    cases this
/-- one way more -/
theorem Raw.add {pls ks os : List Str} {fr to : Str → Str} (R : Raw pls ks fr to os) {k x y : Str} {s t : Nat} (nk : k ∉ ks) (st : s < t) (hs : pls[s]? = some x) (ht : pls[t]? = some y) : Raw pls (ks ++ [k]) (setF fr k x) (setF to k y) os where
  ksN := nd_snoc R.ksN nk
  ends := fun z hz => by
    rcases List.mem_append.mp hz with h | h
    · have ne : z ≠ k := fun e => nk (e ▸ h)
      rw [setF_ne ne, setF_ne ne]
      exact R.ends z h
    · rw [List.mem_singleton.mp h, setF_same, setF_same]
      exact ⟨s, t, st, hs, ht⟩
  os := fun z hz => by
    obtain ⟨j, hj, e⟩ := R.os z hz
    refine ⟨j, List.mem_append_left _ hj, ?_⟩
    have ne : j ≠ k := fun e => nk (e ▸ hj)
    rw [setF_ne ne]
    exact e
theorem Raw.start {pls ks os : List Str} {fr to : Str → Str} (R : Raw pls ks fr to os) {k : Str} (hk : k ∈ ks) : Raw pls ks fr to (if fr k ∈ os then os else os ++ [fr k]) where
  ksN := R.ksN
  ends := R.ends
  os := fun z hz => by
    split at hz
    · exact R.os z hz
    · rcases List.mem_append.mp hz with h | h
      · exact R.os z h
      · rw [List.mem_singleton.mp h]
        exact ⟨k, hk, rfl⟩
end K23
namespace K23
open PySem PySem.Spec PyProof.Rows L2
theorem hide_keep {p a : Addr} {H : Hp} {o : HO} (hp : PoolAt H p) (ha : H a = some o) (ho : ∀ xs, o ≠ .lst xs) : hide p H a = some o := by
  rw [hide_at ?_]
  · exact ha
  · intro e
    obtain ⟨l, ns, t, z, _⟩ := hp
    rw [e, z] at ha
    exact ho _ (Option.some.inj ha).symm
theorem RU.hideP {p : Addr} {H : Hp} {d : Addr} {ks : List Str} {f : Str → HO} (h : RU H d ks f) (hp : PoolAt H p) (hf : ∀ k xs, f k ≠ .lst xs) : RU (K23.hide p H) d ks f := by
  obtain ⟨g, h1, h2⟩ := h
  exact ⟨g, hide_keep hp h1 (by intro _ z; cases z), fun k hk => hide_keep hp (h2 k hk) (hf k)⟩
theorem tup_nl {fr to : Str → Str} : ∀ k xs, tupO fr to k ≠ .lst xs := by
  intro k xs z
  cases z
/-- what stands while a program is drawn -/
structure PSt (B : Hp) (p dp do_ : Addr) (ks : List Str) (fr to : Str → Str) (os : List Str) (H : Hp) : Prop where
  same : Same B H
  pool : PoolAt H p
  prs : RU H dp ks (tupO fr to)
  outs : H do_ = some (.dK (kd os fun _ => .bl true))
section
variable {B H H' : Hp} {p dp do_ : Addr} {ks os : List Str} {fr to : Str → Str}
theorem PSt.mono (S : PSt B p dp do_ ks fr to os H) (s : Same H H') : PSt B p dp do_ ks fr to os H' := ⟨S.same.trans s, S.pool.mono s, S.prs.mono s, s _ _ S.outs⟩
theorem PSt.draw (S : PSt B p dp do_ ks fr to os H) (hb : B p = none) (s : Same (hide p H) H') (hp : PoolAt H' p) : PSt B p dp do_ ks fr to os H' :=
  ⟨hide_base S.same hb s, hp, (S.prs.hideP S.pool tup_nl).mono s, s _ _ (hide_keep S.pool S.outs (by intro _ z; cases z))⟩
/-- a way more -/
theorem PSt.put (S : PSt B p dp do_ ks fr to os H) (hb : B dp = none) (nd : dp ≠ do_) {k x y : Str} {T : Addr} (nk : k ∉ ks) (hT : H T = some (.tup [.str x, .str y])) (kl : ks.length ≤ 40) : ∃ H', DPut H dp (.str k) (.ref T) H' ∧ PSt B p dp do_ (ks ++ [k]) (setF fr k x) (setF to k y) os H' := by
  obtain ⟨g, h1, h2⟩ := S.prs
  refine ⟨_, DPut.k (k := Sum.inr k) h1 (by rw [kd_len]; exact Nat.lt_of_le_of_lt kl (by decide)), S.same.mut hb, S.pool.put h1, ⟨setF g k T, ?_, fun z hz => ?_⟩, by rw [upd_ne nd.symm]; exact S.outs⟩
  · rw [upd_same, kd_put_new nk]
    congr 2
    refine kd_congr fun z _ => ?_
    by_cases e : z = k
    · rw [e, setF_same, setF_same]
    · rw [setF_ne e, setF_ne e]
  · rcases List.mem_append.mp hz with h | h
    · have ne : z ≠ k := fun e => nk (e ▸ h)
      rw [setF_ne ne, upd_ne (ne_of (h2 z h) h1 (by intro q; cases q))]
      refine (h2 z h).trans ?_
      unfold tupO
      rw [setF_ne ne, setF_ne ne]
    · rw [List.mem_singleton.mp h, setF_same, upd_ne (ne_of hT h1 (by intro q; cases q))]
      refine hT.trans ?_
      unfold tupO
      rw [setF_same, setF_same]
/-- a start more -/
theorem PSt.out (S : PSt B p dp do_ ks fr to os H) (hb : B do_ = none) (nd : dp ≠ do_) {x : Str} (ol : os.length ≤ 40) : ∃ H', DPut H do_ (.str x) (.bl true) H' ∧ PSt B p dp do_ ks fr to (if x ∈ os then os else os ++ [x]) H' := by
  obtain ⟨g, h1, h2⟩ := S.prs
  refine ⟨_, DPut.k (k := Sum.inr x) S.outs (by rw [kd_len]; exact Nat.lt_of_le_of_lt ol (by decide)), S.same.mut hb, S.pool.put S.outs, ⟨g, by rw [upd_ne nd]; exact h1, fun z hz => ?_⟩, ?_⟩
  · rw [upd_ne (ne_of (h2 z hz) S.outs (by intro q; cases q))]
    exact h2 z hz
  · rw [upd_same, kd_put]
    congr 2
    refine kd_congr fun z _ => ?_
    unfold setF
    split <;> rfl
end
/-- the dict that tells a program -/
def pgD (dw : Addr) (b : Str) (le : Addr) : List (Key × V) := [(.inr "ways", .ref dw), (.inr "begin", .str b), (.inr "exits", .ref le)]
def ProgU (H : Hp) (d : Addr) (ks es : List Str) (G : Prg) : Prop := ∃ dw le, H d = some (.dK (pgD dw G.bg le)) ∧ RU H dw ks (tupO G.fr G.to) ∧ H le = some (strL es)
section
variable {P : PySem.Program} {w : World} {K : PySem.W.Frag} {mg : Str → Option Value} {base : Heap} {CP CM : Addr} {f : Addr} {fd : FuncData}
def spProgram : Sp := fun vs H Q _ => ∃ p, vs = [.ref p, .int 6, .int 4, .bl false] ∧ PoolAt H p ∧ ∀ d ks es G H', Same (hide p H) H' → PoolAt H' p → ProgU H' d ks es G → G.Full → ks.Perm G.ws → es.Perm G.ex → Q (.ref d) H'
theorem ok_law_program (B : Blt mg) (DD : FnD P w K mg base CX0 1 "_law_draw" p_law_draw spDraw) (DWo : FnD P w K mg base CX0 2 "_law_words" p_law_words spWords) (DNm : FnD P w K mg base CX0 2 "_law_names" p_law_names spNames)
    (T : FnT K mg "_law_program" s_law_program p_law_program f fd) : FnD P w K mg base CX0 3 "_law_program" p_law_program spProgram := by
  refine .of T (T.fn.ok sc_law_program (fun vs H Q E h => ?_) (fun cdv A outer s0 H vs Q E hr h => ?_))
  · obtain ⟨p, rfl, _⟩ := h
    rfl
  · obtain ⟨p, rfl, hp, k⟩ := h
    have hu := hu_of hr
    have hr1 : Room 1 _ := hr.mono (by decide)
    refine ⟨_, pss_cons (ps_set (i := 4) sc_law_program.nd rfl (Or.inl rfl) (pe_f DWo hr pass0 (pa_cons (pv 0) (pa_cons (pe_op op_add pe_int (pe_f DD hr1 pass0 (pa_cons (pv 0) (pa_cons (pe_op op_sub (pv 1) pe_int) pa_nil)))) pa_nil)))) <|
      pss_cons (ps_asg (pe_tup (pa_cons (pe_f DNm hr pass0 (pa_cons (pv 0) (pa_cons (pe_op op_add (pe_op op_sub (pe_callB call_len (by rfl) B.len (by decide +kernel) (pa_cons (pv 4) pa_nil)) pe_int) (pv 2)) pa_nil))) (pa_cons pe_dnewK (pa_cons pe_dnewK pa_nil))))
        (pg_tup (by rfl) (pgs_cons (pg_name (i := 5) sc_law_program.nd rfl (Or.inl rfl)) (pgs_cons (pg_name (i := 6) sc_law_program.nd rfl (Or.inl rfl)) (pgs_cons (pg_name (i := 7) sc_law_program.nd rfl (Or.inr rfl)) pgs_nil))))) <|
      pss_cons (ps_for PassesOwn.never rfl (pi_range2 (by rfl) B.range (pa_cons pe_int (pa_cons (pe_callB call_len (by rfl) B.len (by decide +kernel) (pa_cons (pv 4) pa_nil)) pa_nil))) (pg_name (i := 8) sc_law_program.nd rfl (Or.inl rfl))
        (pss_cons (ps_set (i := 9) sc_law_program.nd rfl (Or.inl rfl) (pe_ix ix_list (pv 4) (pe_f DD hr1 pass0 (pa_cons (pv 0) (pa_cons (pv 8) pa_nil))) (fun _ _ => rfl))) <|
        pss_one (ps_asg (pe_tup (pa_cons (pe_tup (pa_cons (pv 9) (pa_cons (pe_ix ix_list (pv 4) (pv 8) (fun _ _ => rfl)) pa_nil))) (pa_cons pe_bl pa_nil)))
          (pg_tup (by rfl) (pgs_cons (pg_sub (pv 6) (pe_ix ix_list (pv 5) (pe_op op_sub (pv 8) pe_int) (fun _ _ => rfl)) (set_dK hu)) (pgs_cons (pg_sub (pv 7) (pv 9) (set_dK hu)) pgs_nil)))))) <|
      pss_cons (ps_for PassesOwn.never rfl (pi_range1 (by rfl) B.range (pa_cons (pe_f DD hr1 pass0 (pa_cons (pv 0) (pa_cons (pe_op op_add (pv 2) pe_int) pa_nil))) pa_nil)) (pg_name (i := 8) sc_law_program.nd rfl (Or.inl rfl))
        (pss_cons (ps_par (i := 10) (j := 11) rfl sc_law_program.nd rfl rfl (by decide) rfl rfl (pa_cons (pe_f DD hr1 pass0 (pa_cons (pv 0) (pa_cons (pe_callB call_len (by rfl) B.len (by decide +kernel) (pa_cons (pv 4) pa_nil)) pa_nil))) (pa_cons (pe_f DD hr1 pass0 (pa_cons (pv 0) (pa_cons (pe_callB call_len (by rfl) B.len (by decide +kernel) (pa_cons (pv 4) pa_nil)) pa_nil))) pa_nil)) (by rfl)) <|
        pss_one (ps_if (PW.pt (pw_or (pt_val (pv 3)) (pw_or1 (pt_cmpR op_ne (pv 10) (pv 11) (nomark _)))))
          (pss_cons (ps_asg (pe_ifExp (pt_val (pv 3)) (pe_tup (pa_cons (pv 10) (pa_cons (pv 11) pa_nil))) (pe_tup (pa_cons (pe_callB (call_min2 rfl) (by rfl) B.min (by decide +kernel) (pa_cons (pv 10) (pa_cons (pv 11) pa_nil))) (pa_cons (pe_callB (call_max2 rfl) (by rfl) B.max (by decide +kernel) (pa_cons (pv 10) (pa_cons (pv 11) pa_nil))) pa_nil))))
            (pg_tup (by rfl) (pgs_cons (pg_name (i := 12) sc_law_program.nd rfl (Or.inl rfl)) (pgs_cons (pg_name (i := 13) sc_law_program.nd rfl (Or.inl rfl)) pgs_nil)))) <|
          pss_one (ps_dput hu (pv 6) (pe_ix ix_list (pv 5) (pe_op op_add (pe_op op_sub (pe_callB call_len (by rfl) B.len (by decide +kernel) (pa_cons (pv 4) pa_nil)) pe_int) (pv 8)) (fun _ _ => rfl)) (pe_tup (pa_cons (pe_ix ix_list (pv 4) (pv 12) (fun _ _ => rfl)) (pa_cons (pe_ix ix_list (pv 4) (pv 13) (fun _ _ => rfl)) pa_nil))) rfl)) pss_nil))) <|
      pss_cons (ps_setLc (i := 15) (own := [("place", 14)]) (g := gName 14) (te := tVar 14) rfl sc_law_program.nd rfl rfl (sw_true rfl rfl rfl (by decide +kernel)) (pi_list (pv 4)) (blkOk_by (own := [("place", 14)]) (N := N_law_program) (sc := defScope s_law_program) (by decide +kernel))
        (fun _ _ _ _ _ => pg_name (i := 14) sc_law_program.nd rfl (Or.inl rfl)) (fun _ _ _ _ _ => pts_one (PW.pt (pw_or (pt_cmp (pc_dnotin hu (pv 14) (pv 7)) (by rfl)) (pw_or1 (pt_cmpR op_eq (pe_f DD hr1 pass0 (pa_cons (pv 0) (pa_cons pe_int pa_nil))) pe_int (nomark _)))))) (fun _ _ _ _ _ => pv 14)) <|
      pss_one (ps_ret (pe_disp (pps_cons pe_str (pv 6) (pps_cons pe_str (pe_ix ix_list (pv 4) pe_int (fun _ _ => rfl)) (pps_cons pe_str (pv 15) pps_nil))) (by rfl) (by rfl) (fun z => by cases z) (by decide))), ?_⟩
    -- places
    refine ⟨_, rfl, _, rfl, _, rfl, _, _, rfl, rfl, p, _, rfl, hp, by decide, fun i H1 i0 i5 s1 hp1 => ?_⟩
    obtain ⟨a, rfl⟩ : ∃ a : Nat, i = (a : Int) := ⟨i.toNat, by omega⟩
    have a5 : a < 5 := by
      have : (a : Int) < 6 - 1 := i5
      omega
    refine ⟨_, _, rfl, rfl, p, 2 + a, by rw [Int.natCast_add]; rfl, by omega, hp1, fun lp pls H2 s2 hp2 flp hlp pln pnd pw => ?_⟩
    have sB1 : Same (hide p H) H2 := (hide_base s1 hide_none s2)
    -- names, the dicts
    refine ⟨_, rfl, _, rfl, _, _, rfl, .inl ⟨_, SqL.of hlp, rfl⟩, _, _, rfl, rfl, _, rfl, _, _, rfl, rfl, ?_⟩
    refine ⟨p, pls.length + 3, ?_, by omega, hp2, fun ln nm H3 s3 hp3 fln hln nml nnd nw => ?_⟩
    · rw [List.length_map]
      show [V.ref p, V.int ((pls.length : Int) - 1 + 4)] = [V.ref p, V.int ((pls.length + 3 : Nat) : Int)]
      rw [show ((pls.length : Int) - 1 + 4) = ((pls.length + 3 : Nat) : Int) from by omega]
    intro dp hdp do_ hdo
    refine ⟨(by show 3 ≤ sizeLine; decide), fun tt htt => ?_⟩
    have nd : dp ≠ do_ := ne_of_none upd_same hdo
    have t1 := Same.new (o := .dK []) hdp
    have t2 := Same.new (o := .dK []) hdo
    have t3 := Same.new (o := .tup [V.ref ln, V.ref dp, V.ref do_]) htt
    refine ⟨tt, _, rfl, SqT.of upd_same, rfl, _, _, rfl, _, _, rfl, _, _, rfl, rfl, ?_⟩
    -- the base
    have klp : hide p H2 lp = some (strL pls) := by
      rw [hide_at fun e => ?_]
      · exact hlp
      · obtain ⟨l, ns, u, z, _⟩ := hp2
        rw [e, z] at hlp
        have z' := HO.lst.inj (Option.some.inj hlp)
        cases pls with
        | nil => cases z'
        | cons x y => cases (List.cons.inj z').1
    have slp3 := s3 _ _ klp
    have kln : hide p H3 ln = some (strL nm) := by
      rw [hide_at fun e => ?_]
      · exact hln
      · obtain ⟨l, ns, u, z, _⟩ := hp3
        rw [e, z] at hln
        have z' := HO.lst.inj (Option.some.inj hln)
        cases nm with
        | nil => cases z'
        | cons x y => cases (List.cons.inj z').1
    have slp : hide p H3 lp = some (strL pls) := by
      rw [hide_at fun e => ?_]
      · exact slp3
      · obtain ⟨l, ns, u, z, _⟩ := hp3
        rw [e, z] at slp3
        have z' := HO.lst.inj (Option.some.inj slp3)
        cases pls with
        | nil => cases z'
        | cons x y => cases (List.cons.inj z').1
    have sB : Same (hide p H) (hide p H3) := hide_up (hide_base sB1 hide_none s3) hide_none
    have bp : hide p H3 p = none := hide_none
    have bdp : hide p H3 dp = none := by
      by_cases e : dp = p
      · rw [e]; exact bp
      · rw [hide_at e]; exact hdp
    have hdo3 : H3 do_ = none := by
      rw [upd_ne nd.symm] at hdo
      exact hdo
    have bdo : hide p H3 do_ = none := by
      by_cases e : do_ = p
      · rw [e]; exact bp
      · rw [hide_at e]; exact hdo3
    have S0 : PSt (hide p H3) p dp do_ [] (fun x => x) (fun x => x) [] (upd (upd (upd H3 dp (.dK [])) do_ (.dK [])) tt (.tup [V.ref ln, V.ref dp, V.ref do_])) :=
      ⟨((hide_same.trans t1).trans t2).trans t3, ((hp3.mono t1).mono t2).mono t3, ⟨fun _ => 0, t3 _ _ (t2 _ _ upd_same), fun k hk => absurd hk List.not_mem_nil⟩, t3 _ _ upd_same⟩
    generalize upd (upd (upd H3 dp (.dK [])) do_ (.dK [])) tt (.tup [V.ref ln, V.ref dp, V.ref do_]) = H4 at S0 ⊢
    generalize hB : hide p H3 = Bs at sB bp bdp bdo S0 kln slp
    clear t1 t2 t3 s3 hln slp3 klp s2 hlp s1 hp1 hp2 hp3 sB1
    have lenI : (((List.map V.str pls).length : Nat) : Int) = (pls.length : Int) := by rw [List.length_map]
    have atP : ∀ {t : Nat} {z : Str}, pls[t]? = some z → atI (pls.map V.str) (t : Int) = some (.str z) := fun h => atI_nat (by rw [List.getElem?_map, h]; rfl)
    have atN : ∀ {t : Nat} {z : Str}, nm[t]? = some z → atI (nm.map V.str) (t : Int) = some (.str z) := fun h => atI_nat (by rw [List.getElem?_map, h]; rfl)
    have getP : ∀ {t : Nat}, t < pls.length → ∃ z, pls[t]? = some z := fun h => ⟨_, List.getElem?_eq_getElem h⟩
    have getN : ∀ {t : Nat}, t < nm.length → ∃ z, nm[t]? = some z := fun h => ⟨_, List.getElem?_eq_getElem h⟩
    -- the tree
    refine ⟨_, rfl, _, _, rfl, .inl ⟨_, SqL.of (S0.same _ _ slp), rfl⟩, _, _, rfl, ⟨by decide, by decide, by omega, by omega⟩, ?_⟩
    rw [lenI]
    refine for_any (n := pls.length - 1) (fun i σ' H' => ∃ (ks os : List Str) (fr to : Str → Str) (v8 v9 : Option V), σ' = [some (.ref p), some (.int 6), some (.int 4), some (.bl false), some (.ref lp), some (.ref ln), some (.ref dp), some (.ref do_), v8, v9, none, none, none, none, none, none] ∧ PSt Bs p dp do_ ks fr to os H' ∧ Raw pls ks fr to os ∧ (∀ x ∈ ks, x ∈ nm.take i) ∧ (∀ t, 1 ≤ t → t < i + 1 → ∃ k ∈ ks, pls[t]? = some (to k)) ∧ os.length ≤ i)
      ⟨[], [], _, _, none, none, rfl, S0, ⟨List.nodup_nil, fun k hk => absurd hk List.not_mem_nil, fun x hx => absurd hx List.not_mem_nil⟩, fun x hx => absurd hx List.not_mem_nil, fun t h1 h2 => by omega, Nat.le_refl _⟩
      (fun i σ' H' hi _ => by show i < ((pls.length : Int) - 1).toNat; omega) (fun σ' H' _ => by show ((pls.length : Int) - 1).toNat ≤ _; omega) ?_ ?_
    · rintro i σ' H' x H5 hi ⟨ks, os, fr, to, v8, v9, rfl, S, R, sub, inn, osi⟩ ⟨rfl, rfl⟩
      have ksL : ks.length ≤ 12 := by
        have := subset_len R.ksN sub
        rw [List.length_take] at this
        omega
      refine ⟨_, rfl, _, rfl, _, rfl, p, _, rfl, S.pool, by omega, fun j H6 j0 ji s6 hp6 => ?_⟩
      obtain ⟨b, rfl⟩ : ∃ b : Nat, j = (b : Int) := ⟨j.toNat, by omega⟩
      have S6 := S.draw bp s6 hp6
      obtain ⟨zs, hzs⟩ := getP (t := b) (by omega)
      obtain ⟨zt, hzt⟩ := getP (t := i + 1) (by omega)
      obtain ⟨kn, hkn⟩ := getN (t := i) (by omega)
      have e1 : (1 : Int) + (i : Int) = ((i + 1 : Nat) : Int) := by omega
      refine ⟨lp, _, _, _, rfl, rfl, SqL.of (S6.same _ _ slp), atP hzs, ?_⟩
      refine ⟨_, rfl, _, rfl, _, rfl, lp, _, _, _, rfl, rfl, SqL.of (S6.same _ _ slp), by rw [e1]; exact atP hzt, (by show 2 ≤ sizeLine; decide), fun T1 hT1 => ⟨(by show 2 ≤ sizeLine; decide), fun T2 hT2 => ?_⟩⟩
      have u1 := Same.new (o := .tup [V.str zs, V.str zt]) hT1
      have u2 := Same.new (o := .tup [V.ref T1, V.bl true]) hT2
      have S7 := S6.mono (u1.trans u2)
      have nk : kn ∉ ks := fun h => take_not nnd hkn (sub kn h)
      obtain ⟨H8, hput, S8⟩ := S7.put bdp nd (x := zs) (y := zt) (T := T1) nk (u2 _ _ upd_same) (by omega)
      refine ⟨T2, _, rfl, SqT.of upd_same, rfl, _, _, rfl, ?_⟩
      refine ⟨_, rfl, _, rfl, _, rfl, _, _, rfl, rfl, ln, _, _, .str kn, rfl, rfl, SqL.of (S7.same _ _ kln), ?_, dp, H8, rfl, hput, ?_⟩
      · rw [show (1 : Int) + (i : Int) - 1 = (i : Int) from by omega]
        exact atN hkn
      have R8 := R.add nk (show b < i + 1 by omega) hzs hzt
      have osN : os.length ≤ 40 := by omega
      obtain ⟨H9, hput9, S9⟩ := S8.out bdo nd (x := zs) osN
      refine ⟨_, _, rfl, _, rfl, _, rfl, do_, H9, rfl, hput9, rfl, ?_⟩
      have R9 := R8.start (k := kn) (List.mem_append_right _ List.mem_cons_self)
      rw [setF_same] at R9
      refine ⟨_, _, _, _, _, _, rfl, S9, R9, fun z hz => ?_, fun t h1 h2 => ?_, ?_⟩
      · rw [take_snoc hkn]
        rcases List.mem_append.mp hz with h | h
        · exact List.mem_append_left _ (sub z h)
        · exact List.mem_append_right _ h
      · by_cases c : t < i + 1
        · obtain ⟨q, hq, e⟩ := inn t h1 c
          refine ⟨q, List.mem_append_left _ hq, ?_⟩
          rw [setF_ne (fun z : q = kn => nk (z ▸ hq))]
          exact e
        · have : t = i + 1 := by omega
          rw [this]
          exact ⟨kn, List.mem_append_right _ List.mem_cons_self, by rw [setF_same]; exact hzt⟩
      · split
        · omega
        · rw [List.length_append, List.length_singleton]; omega
    rintro σ' H5 ⟨ks, os, fr, to, v8, v9, rfl, S, R, sub, inn, osi⟩
    clear S0
    -- more ways
    refine ⟨_, rfl, _, rfl, _, _, rfl, rfl, p, _, rfl, S.pool, by decide, fun m H6 m0 m5 s6 hp6 => ⟨_, rfl, by omega, by omega, ?_⟩⟩
    obtain ⟨m, rfl⟩ : ∃ b : Nat, m = (b : Int) := ⟨m.toNat, by omega⟩
    have m4 : m ≤ 4 := by
      have : (m : Int) < 4 + 1 := m5
      omega
    refine for_any (n := m) (fun i σ' H' => ∃ (ks : List Str) (fr to : Str → Str) (v8 v9 v10 v11 v12 v13 : Option V), σ' = [some (.ref p), some (.int 6), some (.int 4), some (.bl false), some (.ref lp), some (.ref ln), some (.ref dp), some (.ref do_), v8, v9, v10, v11, v12, v13, none, none] ∧ PSt Bs p dp do_ ks fr to os H' ∧ Raw pls ks fr to os ∧ (∀ x ∈ ks, x ∈ nm.take (pls.length - 1 + i)) ∧ ∀ t, 1 ≤ t → t < pls.length → ∃ k ∈ ks, pls[t]? = some (to k))
      ⟨ks, fr, to, v8, v9, none, none, none, none, rfl, S.draw bp s6 hp6, R, sub, fun t h1 h2 => inn t h1 (by omega)⟩
      (fun i σ' H' hi _ => by show i < (m : Int).toNat; omega) (fun σ' H' _ => by show (m : Int).toNat ≤ m; omega) ?_ ?_
    · clear S R sub inn
      rintro i σ' H' x H5 hi ⟨ks, fr, to, v8, v9, v10, v11, v12, v13, rfl, S, R, sub, inn⟩ ⟨rfl, rfl⟩
      have ksL : ks.length ≤ 12 := by
        have := subset_len R.ksN sub
        rw [List.length_take] at this
        omega
      refine ⟨_, rfl, _, rfl, _, _, rfl, .inl ⟨_, SqL.of (S.same _ _ slp), rfl⟩, p, _, rfl, S.pool, by rw [lenI]; omega, fun o1 H7 a0 a1 s7 hp7 => ?_⟩
      have S7 := S.draw bp s7 hp7
      refine ⟨_, rfl, _, rfl, _, _, rfl, .inl ⟨_, SqL.of (S7.same _ _ slp), rfl⟩, p, _, rfl, S7.pool, by rw [lenI]; omega, fun o2 H8 b0 b1 s8 hp8 => ⟨_, _, rfl, ?_⟩⟩
      have S8 := S7.draw bp s8 hp8
      rw [lenI] at a1 b1
      refine ⟨_, rfl, false, rfl, iteF ?_⟩
      refine ⟨_, rfl, _, rfl, rfl, _, rfl, ?_⟩
      refine ite2 (fun hb => ?_) (fun _ => ?_)
      · have ne : o1 ≠ o2 := fun e => by
          rw [e] at hb
          simp at hb
        obtain ⟨sx, tx, stx, txl, e1, e2⟩ : ∃ s t : Nat, s < t ∧ t < pls.length ∧ (if o2 < o1 then o2 else o1) = (s : Int) ∧ (if o2 > o1 then o2 else o1) = (t : Int) := by
          by_cases c : o2 < o1
          · exact ⟨o2.toNat, o1.toNat, by omega, by omega, by rw [if_pos c]; omega, by rw [if_neg (by omega)]; omega⟩
          · exact ⟨o1.toNat, o2.toNat, by omega, by omega, by rw [if_neg c]; omega, by rw [if_pos (by omega)]; omega⟩
        obtain ⟨zs, hzs⟩ := getP (t := sx) (by omega)
        obtain ⟨zt, hzt⟩ := getP (t := tx) (by omega)
        obtain ⟨kn, hkn⟩ := getN (t := pls.length - 1 + i) (by omega)
        refine ⟨_, rfl, false, rfl, iteF ?_⟩
        refine ⟨_, rfl, _, rfl, _, _, rfl, _, rfl, _, rfl, _, _, rfl, (by show 2 ≤ sizeLine; decide), fun T0 hT0 => ⟨T0, _, rfl, SqT.of upd_same, rfl, _, _, rfl, _, _, rfl, rfl, ?_⟩⟩
        rw [e1, e2]
        have S9 := S8.mono (Same.new (o := .tup [V.int (sx : Int), V.int (tx : Int)]) hT0)
        refine ⟨_, rfl, _, rfl, lp, _, _, _, rfl, rfl, SqL.of (S9.same _ _ slp), atP hzs, _, rfl, _, rfl, lp, _, _, _, rfl, rfl, SqL.of (S9.same _ _ slp), atP hzt, (by show 2 ≤ sizeLine; decide), fun T1 hT1 => ?_⟩
        have S10 := S9.mono (Same.new (o := .tup [V.str zs, V.str zt]) hT1)
        have nk : kn ∉ ks := fun h => take_not nnd hkn (sub kn h)
        obtain ⟨H11, hput, S11⟩ := S10.put bdp nd (x := zs) (y := zt) (T := T1) nk upd_same (by omega)
        refine ⟨_, rfl, _, rfl, _, rfl, _, _, rfl, .inl ⟨_, SqL.of (S10.same _ _ slp), rfl⟩, _, _, rfl, rfl, _, rfl, _, _, rfl, rfl, ln, _, _, .str kn, rfl, rfl, SqL.of (S10.same _ _ kln), ?_, dp, H11, rfl, hput, ?_⟩
        · rw [lenI, show (pls.length : Int) - 1 + ((0 : Int) + (i : Int)) = ((pls.length - 1 + i : Nat) : Int) from by omega]
          exact atN hkn
        refine ⟨_, _, _, _, _, _, _, _, _, rfl, S11, R.add nk stx hzs hzt, fun z hz => ?_, fun t h1 h2 => ?_⟩
        · rw [← Nat.add_assoc, take_snoc hkn]
          rcases List.mem_append.mp hz with h | h
          · exact List.mem_append_left _ (sub z h)
          · exact List.mem_append_right _ h
        · obtain ⟨q, hq, e⟩ := inn t h1 h2
          refine ⟨q, List.mem_append_left _ hq, ?_⟩
          rw [setF_ne (fun z : q = kn => nk (z ▸ hq))]
          exact e
      · refine ⟨ks, fr, to, _, _, _, _, _, _, rfl, S8, R, fun z hz => ?_, inn⟩
        have := sub z hz
        rw [← Nat.add_assoc]
        by_cases c : pls.length - 1 + i < nm.length
        · obtain ⟨kn, hkn⟩ := getN c
          rw [take_snoc hkn]
          exact List.mem_append_left _ this
        · rw [List.take_of_length_le (by omega)]
          exact List.mem_of_mem_take this
    clear S R sub inn ks fr to
    rintro σ' H7 ⟨ks, fr, to, v8, v9, v10, v11, v12, v13, rfl, S, R, sub, inn⟩
    have ksL : ks.length ≤ 12 := by
      have := subset_len R.ksN sub
      rw [List.length_take] at this
      omega
    -- the exits
    refine ⟨_, rfl, lp, rfl, ⟨_, SqL.of (S.same _ _ slp)⟩, fun D hD => ?_⟩
    have bD : Bs D = none := S.same.free hD
    have noI : ∀ (es : List Str) (i : Int), V.int i ∉ es.map V.str := fun es i h => by
      obtain ⟨x, _, e⟩ := List.mem_map.mp h
      cases e
    have putD : ∀ {H' : Hp} {es : List Str} {o : HO}, PSt Bs p dp do_ ks fr to os H' → H' D = some (strL es) → PSt Bs p dp do_ ks fr to os (upd H' D o) := fun {H' es o} S' hd => by
      obtain ⟨g, h1, h2⟩ := S'.prs
      exact ⟨S'.same.mut bD, S'.pool.putL hd (noI es), ⟨g, by rw [upd_ne (ne_of h1 hd (by intro z; cases z))]; exact h1, fun x hx => by rw [upd_ne (ne_of (h2 x hx) hd (by intro z; cases z))]; exact h2 x hx⟩, by rw [upd_ne (ne_of S'.outs hd (by intro z; cases z))]; exact S'.outs⟩
    refine lc_any (n := pls.length) (fun i H' => PSt Bs p dp do_ ks fr to os H' ∧ ∃ es : List Str, H' D = some (strL es) ∧ es.Nodup ∧ (∀ x ∈ es, x ∈ pls.take i) ∧ ∀ x ∈ pls.take i, x ∉ os → x ∈ es) ⟨S.mono (Same.new hD), [], upd_same, List.nodup_nil, fun x hx => absurd hx List.not_mem_nil, fun x hx => absurd hx (by simp)⟩
      (fun i H' hi p' => (si_list (K := K) slp).go i H' p'.1.same hi) (fun H' p' => (si_list (K := K) slp).stop H' p'.1.same) ?_ ?_
    · rintro i H' v H8 hi ⟨S1, es, hd, end_, esub, eos⟩ y
      obtain ⟨rfl, x, hx, rfl⟩ := (si_list (K := K) slp).yld i H' v H8 S1.same y
      have xp := List.mem_of_getElem? hx
      have nx : x ∉ es := fun h => take_not pnd hx (esub x h)
      have yes : ∀ H9, PSt Bs p dp do_ ks fr to os H9 → H9 D = some (strL es) → ∃ acc, H9 D = some (.lst acc) ∧ acc.length < sizeLine ∧ PSt Bs p dp do_ ks fr to os (upd H9 D (.lst (acc ++ [V.str x]))) ∧ ∃ es : List Str, upd H9 D (.lst (acc ++ [V.str x])) D = some (strL es) ∧ es.Nodup ∧ (∀ x ∈ es, x ∈ pls.take (i + 1)) ∧ ∀ x ∈ pls.take (i + 1), x ∉ os → x ∈ es := fun H9 S9 hd9 => by
        refine ⟨_, hd9, ?_, putD S9 hd9, es ++ [x], ?_, nd_snoc end_ nx, fun z hz => ?_, fun z hz ho => ?_⟩
        · rw [List.length_map]
          have := subset_len end_ esub
          rw [List.length_take] at this
          exact Nat.lt_of_le_of_lt (show es.length ≤ 6 by omega) (by decide)
        · rw [upd_same]
          unfold strL
          rw [List.map_append]
          rfl
        · rw [take_snoc hx]
          rcases List.mem_append.mp hz with h | h
          · exact List.mem_append_left _ (esub z h)
          · exact List.mem_append_right _ h
        · rw [take_snoc hx] at hz
          rcases List.mem_append.mp hz with h | h
          · exact List.mem_append_left _ (eos z h ho)
          · exact List.mem_append_right _ h
      refine ⟨rfl, ?_⟩
      refine ⟨_, rfl, _, rfl, do_, _, rfl, .inl ⟨_, Sum.inr x, .inl S1.outs, rfl, rfl⟩, _, rfl, ?_⟩
      rw [kd_val]
      by_cases c : x ∈ os
      · rw [if_pos c]
        refine iteF ⟨_, rfl, p, 5, rfl, S1.pool, by decide, fun j H9 _ _ s9 hp9 => ⟨rfl, _, rfl, ?_⟩⟩
        have S9 := S1.draw bp s9 hp9
        have hd9 : H9 D = some (strL es) := s9 _ _ (by rw [hide_at (S1.pool.ne hd (noI es))]; exact hd)
        refine ite2 (fun _ => ⟨_, rfl, yes H9 S9 hd9⟩) (fun _ => ⟨S9, es, hd9, end_, fun z hz => ?_, fun z hz ho => ?_⟩)
        · rw [take_snoc hx]
          exact List.mem_append_left _ (esub z hz)
        · rw [take_snoc hx] at hz
          rcases List.mem_append.mp hz with h | h
          · exact eos z h ho
          · rw [List.mem_singleton.mp h] at ho
            exact absurd c ho
      · rw [if_neg c]
        exact iteT (iteT ⟨_, rfl, yes _ S1 hd⟩)
    rintro H8 ⟨S8, es, hd, end_, esub, eos⟩
    rw [List.take_length] at esub eos
    obtain ⟨G, F, pk, pe, rfl, rfl, hbg⟩ := full_of R pnd (by omega) (by omega) (by omega) pw (fun x hx => nw x (List.mem_of_mem_take (sub x hx))) inn end_ esub eos
    -- the dict that is given back
    intro dd hdd
    have s9 := Same.new (o := .dK []) hdd
    refine ⟨_, rfl, _, rfl, lp, _, 0, _, rfl, rfl, SqL.of (s9 _ _ (S8.same _ _ slp)), atP (t := 0) hbg, _, rfl, upd_same, [(.inr "ways", .ref dp), (.inr "begin", .str G.bg), (.inr "exits", .ref D)], rfl, (by show 3 ≤ 15; decide), ?_⟩
    have em : mergeK [] [((.inr "ways" : Key), V.ref dp), (.inr "begin", .str G.bg), (.inr "exits", .ref D)] = pgD dp G.bg D := by rfl
    rw [em]
    have sN : Same H8 (upd (upd H8 dd (.dK [])) dd (.dK (pgD dp G.bg D))) := s9.mut hdd
    exact k dd ks es G _ (sB.trans (S8.same.trans sN)) (S8.pool.mono sN) ⟨dp, D, upd_same, S8.prs.mono sN, sN _ _ hd⟩ F pk pe
end
end K23
namespace K23
open PySem PySem.Spec PyProof.Rows L2
theorem pgd_ways {dw le : Addr} {b : Str} : valV (pgD dw b le) (.inr "ways") = some (.ref dw) := valV_pos rfl
theorem pgd_begin {dw le : Addr} {b : Str} : valV (pgD dw b le) (.inr "begin") = some (.str b) := by
  unfold pgD
  rw [valV_neg (fun e => absurd (Sum.inr.inj e) (by decide +kernel)), valV_pos rfl]
theorem pgd_exits {dw le : Addr} {b : Str} : valV (pgD dw b le) (.inr "exits") = some (.ref le) := by
  unfold pgD
  rw [valV_neg (fun e => absurd (Sum.inr.inj e) (by decide +kernel)), valV_neg (fun e => absurd (Sum.inr.inj e) (by decide +kernel)), valV_pos rfl]
/-- a program's dict, its ways locked or not -/
def ProgR (H : Hp) (d dw le : Addr) (ks es : List Str) (G : Prg) : Prop := H d = some (.dK (pgD dw G.bg le)) ∧ RD H dw ks (tupO G.fr G.to) ∧ H le = some (strL es)
theorem ProgU.mono {H H' : Hp} {d : Addr} {ks es : List Str} {G : Prg} (s : Same H H') (h : ProgU H d ks es G) : ProgU H' d ks es G := by
  obtain ⟨dw, le, h1, h2, h3⟩ := h
  exact ⟨dw, le, s _ _ h1, h2.mono s, s _ _ h3⟩
theorem ProgR.mono {H H' : Hp} {d dw le : Addr} {ks es : List Str} {G : Prg} (s : Same H H') (h : ProgR H d dw le ks es G) : ProgR H' d dw le ks es G := ⟨s _ _ h.1, h.2.1.mono s, s _ _ h.2.2⟩
theorem ProgU.r {H : Hp} {d : Addr} {ks es : List Str} {G : Prg} (h : ProgU H d ks es G) : ∃ dw le, ProgR H d dw le ks es G := by
  obtain ⟨dw, le, h1, h2, h3⟩ := h
  exact ⟨dw, le, h1, h2.rd, h3⟩
theorem ProgR.ways {H : Hp} {d dw le : Addr} {ks es : List Str} {G : Prg} (h : ProgR H d dw le ks es G) : DGet H d (.str "ways") (some (.ref dw)) := .inl ⟨_, Sum.inr "ways", .inl h.1, rfl, pgd_ways.symm⟩
theorem ProgR.begin {H : Hp} {d dw le : Addr} {ks es : List Str} {G : Prg} (h : ProgR H d dw le ks es G) : DGet H d (.str "begin") (some (.str G.bg)) := .inl ⟨_, Sum.inr "begin", .inl h.1, rfl, pgd_begin.symm⟩
theorem ProgR.exits {H : Hp} {d dw le : Addr} {ks es : List Str} {G : Prg} (h : ProgR H d dw le ks es G) : DGet H d (.str "exits") (some (.ref le)) := .inl ⟨_, Sum.inr "exits", .inl h.1, rfl, pgd_exits.symm⟩
/-- the ways locked -/
theorem ProgU.lock {H : Hp} {d : Addr} {ks es : List Str} {G : Prg} (h : ProgU H d ks es G) (ne : ks ≠ []) : ∃ (dw le : Addr) (g : Str → Addr), H dw = some (.dK (kd ks fun k => .ref (g k))) ∧ DGet H d (.str "ways") (some (.ref dw)) ∧ (∀ od, ProgR (upd H dw (.frz od (.dK (kd ks fun k => .ref (g k))))) d dw le ks es G) := by
  obtain ⟨dw, le, h1, ⟨g, h2, h2'⟩, h3⟩ := h
  refine ⟨dw, le, g, h2, .inl ⟨_, Sum.inr "ways", .inl h1, rfl, pgd_ways.symm⟩, fun od => ⟨?_, ⟨g, .inr ⟨od, upd_same⟩, fun k hk => ?_⟩, ?_⟩⟩
  · rw [upd_ne (ne_of h1 h2 (by
      intro z
      have z' := HO.dK.inj z
      cases ks with
      | nil => exact ne rfl
      | cons a r =>
        have z2 := (List.cons.inj z').2
        cases r with
        | nil => cases z2
        | cons b r =>
          have z3 := (List.cons.inj z2).1
          cases (Prod.mk.inj z3).2))]
    exact h1
  · rw [upd_ne (ne_of (h2' k hk) h2 (by intro z; cases z))]
    exact h2' k hk
  · rw [upd_ne (ne_of h3 h2 (by intro z; cases z))]
    exact h3
/-- .. and open again -/
theorem lock_back {H H' : Hp} {d : Addr} {u : HO} {od : Obj} (h : H d = some u) (s : Same (upd H d (.frz od u)) H') : Same H (upd H' d u) := fun b o hb => by
  by_cases e : b = d
  · rw [e, h] at hb
    cases hb
    rw [e, upd_same]
  · rw [upd_ne e]
    exact s _ _ (by rw [upd_ne e]; exact hb)
/-! ### dict([(x, e) for x in texts]) -/
theorem merge_kd {v : Str → V} : ∀ {xs ys : List Str}, (ys ++ xs).Nodup → mergeK (kd ys v) (kd xs v) = kd (ys ++ xs) v
  | [], ys, _ => by rw [List.append_nil]; rfl
  | x :: xs, ys, nd => by
    have nx : x ∉ ys := fun h => (List.nodup_append.mp nd).2.2 x h x List.mem_cons_self rfl
    show mergeK (putK (kd ys v) (.inr x) (v x)) (kd xs v) = _
    have e : ys ++ x :: xs = (ys ++ [x]) ++ xs := by simp
    rw [kd_snoc nx, e]
    exact merge_kd (by rw [← e]; exact nd)
theorem paired_map {α β γ : Type} {R : β → γ → Prop} {f : α → β} {g : α → γ} : ∀ {l : List α}, (∀ x ∈ l, R (f x) (g x)) → Paired R (l.map f) (l.map g)
  | [], _ => .nil
  | x :: l, h => .cons (h x List.mem_cons_self) (paired_map fun y hy => h y (List.mem_cons_of_mem _ hy))
/-- a list of pairs -/
def PairL (H : Hp) (a : Addr) (xs : List Str) (v : Str → V) : Prop := ∃ tf : Str → Addr, H a = some (.lst (xs.map fun x => V.ref (tf x))) ∧ ∀ x ∈ xs, H (tf x) = some (.tup [.str x, v x])
theorem dictP_of {K : PySem.W.Frag} {H : Hp} {a : Addr} {xs : List Str} {v : Str → V} (h : PairL H a xs v) (nd : xs.Nodup) :
    ∃ (ps : List Addr) (kvs : List (Key × V)), SqL K H a (ps.map V.ref) ∧ Paired (fun p kv => SqT K H p [kV kv.1, kv.2]) ps kvs ∧ mergeK [] kvs = kd xs v := by
  obtain ⟨tf, h1, h2⟩ := h
  exact ⟨xs.map tf, kd xs v, SqL.of (by rw [List.map_map]; exact h1), paired_map fun x hx => SqT.of (h2 x hx), merge_kd (ys := []) nd⟩
/-- [(x, e) for x in texts] -/
theorem lc_tup {J : It} {xs : List Str} {B : Hp} {j : Nat} {tv : TE} {vs : List Nat} {σ : L2.St} {H1 : Hp} {D : Addr} {Qd : Hp → Prop} (hJ : StrIt J xs B) (sB : Same B H1) (hD : H1 D = none) (hl : xs.length ≤ 1000) (nd : xs.Nodup) (v : Str → V)
    (hw : ∀ x, wipe ((wipe σ vs).set j (some x)) vs = wipe σ vs) (hj : ∀ x, ((wipe σ vs).set j (some x))[j]? = some (some x)) (he : ∀ x ∈ xs, Pu tv ((wipe σ vs).set j (some (.str x))) H1 (v x))
    (hd : ∀ H', Same H1 H' → PairL H' D xs v → Qd H') :
    ∃ W : Nat → Nat → Hp → Prop, (∃ m, W 0 m (upd H1 D (.lst []))) ∧ ∀ i m H, W i m H →
      (J.stop i H ∧ Qd H) ∨ (J.go i H ∧ ∃ Nx : Hp → Prop, (∀ H', Nx H' → ∃ m', m' < m ∧ W (i + 1) m' H') ∧ ∀ x H', J.yld i H x H' → (gName j) x (wipe σ vs) H' fun σ2 H2 => wipe σ2 vs = wipe σ vs ∧ tYes σ2 H2 fun b H3 =>
        if b = true then (tTup (tCons (tVar j) (tCons tv tNil))) σ2 H3 fun y H4 => ∃ acc, H4 D = some (.lst acc) ∧ acc.length < sizeLine ∧ Nx (upd H4 D (.lst (acc ++ [y]))) else Nx H3) := by
  refine lc_any (n := xs.length) (fun i H' => Same H1 H' ∧ PairL H' D (xs.take i) v) ⟨Same.new hD, fun _ => 0, upd_same, fun x hx => absurd hx (by simp)⟩ (fun i H hi p => hJ.go i H (sB.trans p.1) hi) (fun H p => hJ.stop H (sB.trans p.1)) ?_ fun H p => hd H p.1 (by have := p.2; rwa [List.take_length] at this)
  rintro i H y H2 hi ⟨s1, tf, h1, h2⟩ yl
  obtain ⟨rfl, x, hx, rfl⟩ := hJ.yld i H y H2 (sB.trans s1) yl
  have xm := List.mem_of_getElem? hx
  have nx := take_not nd hx
  refine ⟨hw _, ?_⟩
  refine ⟨_, hj _, ?_⟩
  refine he x xm H2 s1 _ fun H3 s3 => ⟨(by show 2 ≤ sizeLine; decide), fun T hT => ?_⟩
  have s4 := s3.trans (Same.new (o := .tup [V.str x, v x]) hT)
  refine ⟨_, s4 _ _ h1, ?_, (s1.trans s4).mut hD, setF tf x T, ?_, fun z hz => ?_⟩
  · rw [List.length_map, List.length_take]
    exact Nat.lt_of_le_of_lt (show _ ≤ 1000 by omega) (by decide)
  · rw [upd_same, take_snoc hx, List.map_append]
    congr 2
    · congr 1
      · exact List.map_congr_left fun z hz => by rw [setF_ne (fun e : z = x => nx (e ▸ hz))]
      · simp [setF_same]
  · rw [take_snoc hx] at hz
    rcases List.mem_append.mp hz with h | h
    · have ne : z ≠ x := fun e => nx (e ▸ h)
      rw [setF_ne ne, upd_ne (ne_of (s4 _ _ (h2 z h)) (s4 _ _ h1) (by intro q; cases q))]
      exact s4 _ _ (h2 z h)
    · rw [List.mem_singleton.mp h, setF_same, upd_ne (ne_of upd_same (s4 _ _ h1) (by intro q; cases q))]
      exact upd_same
section
variable {P : PySem.Program} {w : World} {K : PySem.W.Frag} {mg : Str → Option Value} {base : Heap} {CP CM : Addr} {f : Addr} {fd : FuncData}
/-! ### _law_made -/
def spMade (CP : Addr) : Sp := fun vs H Q _ => ∃ d ks es G, vs = [.ref d] ∧ ProgU H d ks es G ∧ G.Full ∧ ks.Perm G.ws ∧ es.Perm G.ex ∧ ∀ p H', Same H H' → PgV CP H H' p G → Q (.ref p) H'
theorem ok_law_made (L : ClT K mg "Program" CP) (B : Blt mg) (DI : MeD P w K mg base CX0 3 CP "__init__" p_P_init (spPInit CP)) (T : FnT K mg "_law_made" s_law_made p_law_made f fd) : FnD P w K mg base CX0 5 "_law_made" p_law_made (spMade CP) := by
  refine .of T (T.fn.ok sc_law_made (fun vs H Q E h => ?_) (fun cdv A outer s0 H vs Q E hr h => ?_))
  · obtain ⟨d, ks, es, G, rfl, _⟩ := h
    rfl
  · obtain ⟨d, ks, es, G, rfl, hU, F, pk, pe, k⟩ := h
    have hu := hu_of hr
    refine ⟨_, pss_one (ps_ret (pe_new L DI hr pass0 (pa_cons (pe_callTy call_dictD (by rfl) B.dict (by decide +kernel) (pa_cons (pe_dget hu (pv 0) pe_str (fun _ _ => rfl)) pa_nil)) (pa_cons (pe_dget hu (pv 0) pe_str (fun _ _ => rfl)) (pa_cons (pe_callTy call_list_of (by rfl) B.list (by decide +kernel) (pa_cons (pe_dget hu (pv 0) pe_str (fun _ _ => rfl)) pa_nil)) pa_nil))))), ?_⟩
    obtain ⟨dw, le, h1, ⟨g, h2, h2'⟩, h3⟩ := id hU
    have hR : ProgR H d dw le ks es G := ⟨h1, ⟨g, .inl h2, h2'⟩, h3⟩
    refine ⟨_, rfl, d, _, rfl, hR.ways, dw, _, rfl, .inl h2, fun dc hdc => ?_⟩
    have s1 := Same.new (o := .dK (kd ks fun k => .ref (g k))) hdc
    refine ⟨_, rfl, d, _, rfl, (hR.mono s1).begin, _, rfl, d, _, rfl, (hR.mono s1).exits, le, _, rfl, .inl (SqL.of (s1 _ _ h3)), fun lc hlc => ?_⟩
    have s2 := s1.trans (Same.new (o := .lst (es.map V.str)) hlc)
    intro p dx hp hdx ndx
    refine ⟨_, p, dx, dc, ks, lc, es, G, rfl, ((Same.new hdx).mut hp), hp, upd_same, ⟨g, Same.new (o := .lst (es.map V.str)) hlc _ _ upd_same, fun x hx => s2 _ _ (h2' x hx)⟩, upd_same, pk, pe, F, fun H' s3 hV => ⟨rfl, k p H' (s2.trans s3) ?_⟩⟩
    obtain ⟨dx', dp, lp, le', do_, di, v1, v2, v3, v4, v5, v6, v7, v8, v9⟩ := hV
    exact ⟨dx', dp, lp, le', do_, di, v1, v2, v3, v4, v5, v6, s2.free v7, s2.free v8, s2.free v9⟩
/-! ### _law_places -/
def spLPlaces : Sp := fun vs H Q _ => ∃ d ks es G, vs = [.ref d] ∧ ProgU H d ks es G ∧ G.Full ∧ ks.Perm G.ws ∧ ∀ l H', Same H H' → H l = none → H' l = some (strL G.pl) → Q (.ref l) H'
theorem ok_law_places (B : Blt mg) (T : FnT K mg "_law_places" s_law_places p_law_places f fd) : FnD P w K mg base CX0 1 "_law_places" p_law_places spLPlaces := by
  refine .of T (T.fn.ok sc_law_places (fun vs H Q E h => ?_) (fun cdv A outer s0 H vs Q E hr h => ?_))
  · obtain ⟨d, ks, es, G, rfl, _⟩ := h
    rfl
  · obtain ⟨d, ks, es, G, rfl, hU, F, pk, k⟩ := h
    have hu := hu_of hr
    have ok := F.ok
    refine ⟨_, pss_cons (ps_set (i := 1) sc_law_places.nd rfl (Or.inr rfl) (pe_lst pa_nil)) <|
      pss_cons (ps_lock (ps_for PassesOwn.never rfl (pi_keys (pe_dget hu (pv 0) pe_str (fun _ _ => rfl))) (pg_name (i := 2) sc_law_places.nd rfl (Or.inl rfl))
        (pss_one (ps_set (i := 1) sc_law_places.nd rfl (Or.inr rfl) (pe_op op_cat (pv 1) (pe_lc (own := [("place", 3)]) (g := gName 3) (tt := tTest (tOp (rIn K true) (tVar 3) (tVar 1))) (te := tVar 3) rfl sc_law_places.nd (pi_tup (pe_dget hu (pe_dget hu (pv 0) pe_str (fun _ _ => rfl)) (pv 2) (fun _ _ => rfl))) (blkOk_by (own := [("place", 3)]) (N := N_law_places) (sc := defScope s_law_places) (by decide +kernel))
          (fun _ _ _ _ _ => pg_name (i := 3) sc_law_places.nd rfl (Or.inl rfl)) (fun _ _ _ _ _ => pts_one (pt_cmpR op_notIn_seq (pv 3) (pv 1) (by rfl))) (fun _ _ _ _ _ => pv 3))))))) <|
      pss_one (ps_ret (pe_callB cr_sortedS (by rfl) B.sorted (by decide +kernel) (pa_cons (pv 1) pa_nil))), ?_⟩
    have kne : ks ≠ [] := fun e => ok.wsE (by rw [e] at pk; exact List.nil_perm.mp pk)
    refine ⟨Nat.zero_le _, fun l0 hl0 => ?_⟩
    have s1 := Same.new (o := .lst []) hl0
    obtain ⟨dw, le, g, h2, hw, hL⟩ := (hU.mono s1).lock kne
    refine ⟨dw, _, h2, trivial, fun od => ?_⟩
    have l1 : upd (upd H l0 (.lst [])) dw (.frz od (.dK (kd ks fun k => .ref (g k)))) dw = some (.frz od (.dK (kd ks fun k => .ref (g k)))) := upd_same
    have l2 := hL od
    have l3 : upd (upd H l0 (.lst [])) dw (.frz od (.dK (kd ks fun k => .ref (g k)))) l0 = some (strL []) := by rw [upd_ne (ne_of upd_same h2 (by intro z; cases z))]; exact upd_same
    have bk : ∀ H', Same (upd (upd H l0 (.lst [])) dw (.frz od (.dK (kd ks fun k => .ref (g k))))) H' → Same H (upd H' dw (.dK (kd ks fun k => .ref (g k)))) := fun H' s' => s1.trans (lock_back h2 s')
    refine ⟨_, rfl, d, _, rfl, l2.ways, dw, od, rfl, .inl ⟨_, l1, ?_⟩⟩
    generalize upd (upd H l0 (.lst [])) dw (.frz od (.dK (kd ks fun k => .ref (g k)))) = Hb at l1 l2 l3 bk ⊢
    refine for_si (si_keys l1) (fun i σ' H' => ∃ (lf : Addr) (fs : List Str) (v2 v3 : Option V), σ' = [some (.ref d), some (.ref lf), v2, v3] ∧ Same Hb H' ∧ H' lf = some (strL fs) ∧ fs.Nodup ∧ ∀ x, x ∈ fs ↔ ∃ y ∈ ks.take i, x = G.fr y ∨ x = G.to y)
      ⟨l0, [], none, none, rfl, Same.refl _, l3, List.nodup_nil, fun x => by simp⟩ (fun i σ' H' ⟨_, _, _, _, _, z, _⟩ => z) ?_ ?_
    · rintro i x σ' H' hx ⟨lf, fs, v2, v3, rfl, t1, t2, t3, t4⟩
      have xk := List.mem_of_getElem? hx
      have xw := pk.mem_iff.mp xk
      have lR := l2.mono t1
      obtain ⟨t, ht, ho⟩ := pcs lR.2.1 xk
      have fsP : ∀ z ∈ fs, z ∈ G.pl := fun z hz => by
        obtain ⟨y, hy, h | h⟩ := (t4 z).mp hz
        · rw [h]; exact ok.frP y (pk.mem_iff.mp (List.mem_of_mem_take hy))
        · rw [h]; exact ok.toP y (pk.mem_iff.mp (List.mem_of_mem_take hy))
      have fsL : fs.length ≤ 40 := Nat.le_trans (subset_len t3 fsP) ok.plL
      refine ⟨_, rfl, _, rfl, d, _, rfl, lR.ways, _, rfl, dw, _, rfl, ht, t, rfl, ⟨_, SqT.of ho⟩, fun D hD => ?_⟩
      have it : StrIt (Itt K t) [G.fr x, G.to x] H' := si_tup (xs := [G.fr x, G.to x]) ho
      refine lc_si it (Same.refl _) hD (by show 2 ≤ 1000; decide) (fun y => !decide (y ∈ fs)) V.str (fun _ => rfl) (fun y hy => ?_) (fun y hy _ => pu_var rfl) fun H3 s3 hD3 => ?_
      · intro H3 s3 Q' q
        refine ⟨_, rfl, _, rfl, lf, _, rfl, .inl (SqL.of (s3 _ _ t2)), rfl, flat_strs _, _, rfl, ?_⟩
        have := q H3 (Same.refl _)
        rw [← inV_str] at this
        exact this
      have fl : ([G.fr x, G.to x].filter fun y => !decide (y ∈ fs)).length ≤ 2 := List.length_filter_le _ _
      refine ⟨lf, D, _, _, rfl, rfl, s3 _ _ t2, hD3, ?_, fun l3 hl3 => ?_⟩
      · rw [List.length_map, List.length_map]
        exact Nat.le_trans (show _ ≤ 42 by omega) (by decide)
      refine ⟨l3, fs ++ ([G.fr x, G.to x].filter fun y => !decide (y ∈ fs)), _, _, rfl, (t1.trans s3).trans (Same.new hl3), ?_, ?_, fun z => ?_⟩
      · rw [upd_same]
        unfold strL
        rw [List.map_append]
      · have up := ok.up x xw
        have ne : G.fr x ≠ G.to x := fun e => by rw [e] at up; exact Nat.lt_irrefl _ up
        refine List.nodup_append.mpr ⟨t3, ?_, fun a ha b hb e => ?_⟩
        · exact (List.nodup_cons.mpr ⟨fun h => ne (List.mem_singleton.mp h), List.nodup_cons.mpr ⟨List.not_mem_nil, List.nodup_nil⟩⟩ : [G.fr x, G.to x].Nodup).filter _
        · subst e
          have := (List.mem_filter.mp hb).2
          simp [ha] at this
      · rw [List.mem_append, t4 z, take_snoc hx, List.mem_filter]
        constructor
        · rintro (⟨y, hy, h⟩ | ⟨h, _⟩)
          · exact ⟨y, List.mem_append_left _ hy, h⟩
          · refine ⟨x, List.mem_append_right _ List.mem_cons_self, ?_⟩
            rcases List.mem_cons.mp h with e | h
            · exact .inl e
            · exact .inr (List.mem_singleton.mp h)
        · rintro ⟨y, hy, h⟩
          rcases List.mem_append.mp hy with hy | hy
          · exact .inl ⟨y, hy, h⟩
          · rw [List.mem_singleton.mp hy] at h
            by_cases c : z ∈ fs
            · exact .inl ((t4 z).mp c)
            · refine .inr ⟨?_, by simp [c]⟩
              rcases h with h | h
              · rw [h]; exact List.mem_cons_self
              · rw [h]; exact List.mem_cons_of_mem _ List.mem_cons_self
    · rintro σ' H' ⟨lf, fs, v2, v3, rfl, t1, t2, t3, t4⟩
      rw [List.take_length] at t4
      refine ⟨t1 _ _ l1, ?_⟩
      have e1 : upd H' dw (.dK (kd ks fun k => .ref (g k))) lf = some (strL fs) := by rw [upd_ne (ne_of t2 (t1 _ _ l1) (by intro z; cases z))]; exact t2
      have fsM : ∀ x, x ∈ fs ↔ x ∈ G.pl := fun x => by
        rw [t4 x]
        constructor
        · rintro ⟨y, hy, h | h⟩
          · rw [h]; exact ok.frP y (pk.mem_iff.mp hy)
          · rw [h]; exact ok.toP y (pk.mem_iff.mp hy)
        · intro h
          obtain ⟨y, hy, h⟩ := F.plM x h
          exact ⟨y, pk.mem_iff.mpr hy, h⟩
      have fsL : fs.length ≤ 40 := Nat.le_trans (subset_len t3 fun x hx => (fsM x).mp hx) ok.plL
      refine ⟨_, rfl, lf, fs, rfl, SqL.of e1, by omega, fun ys l hperm hsort hl => ?_⟩
      have e2 : ys = G.pl := sorted_same hsort F.plS (hperm.nodup_iff.mpr t3) ok.plN fun x => by rw [hperm.mem_iff, fsM x]
      subst e2
      have sN := bk _ t1
      exact k l _ (sN.trans (Same.new hl)) (sN.free hl) upd_same
end
end K23
namespace K23
open PySem PySem.Spec PyProof.Rows L2
theorem refs_noI {xs : List Str} {tf : Str → Addr} : ∀ i, V.int i ∉ xs.map fun x => V.ref (tf x) := fun i h => by
  obtain ⟨x, _, e⟩ := List.mem_map.mp h
  cases e
theorem strs_noI {xs : List Str} : ∀ i, V.int i ∉ xs.map V.str := fun i h => by
  obtain ⟨x, _, e⟩ := List.mem_map.mp h
  cases e
theorem PairL.draw {H H' : Hp} {p D : Addr} {xs : List Str} {v : Str → V} (h : PairL H D xs v) (hp : PoolAt H p) (s : Same (hide p H) H') : PairL H' D xs v := by
  obtain ⟨tf, h1, h2⟩ := h
  exact ⟨tf, s _ _ (by rw [hide_at (hp.ne h1 refs_noI)]; exact h1), fun x hx => s _ _ (hide_keep hp (h2 x hx) (by intro _ z; cases z))⟩
theorem PairL.snoc {H : Hp} {D T : Addr} {xs : List Str} {i : Nat} {x : Str} {v : Str → V} {z : V} (h : PairL H D (xs.take i) v) (nx : x ∉ xs.take i) (hx : xs[i]? = some x) (hT : H T = some (.tup [.str x, z])) :
    ∃ acc, H D = some (.lst acc) ∧ acc.length = (xs.take i).length ∧ (∀ n, V.int n ∉ acc) ∧ PairL (upd H D (.lst (acc ++ [V.ref T]))) D (xs.take (i + 1)) (setF v x z) := by
  obtain ⟨tf, h1, h2⟩ := h
  refine ⟨_, h1, by rw [List.length_map], refs_noI, setF tf x T, ?_, fun y hy => ?_⟩
  · rw [upd_same, take_snoc hx, List.map_append]
    congr 2
    · congr 1
      · exact List.map_congr_left fun y hy => by rw [setF_ne (fun e : y = x => nx (e ▸ hy))]
      · simp [setF_same]
  · rw [take_snoc hx] at hy
    rcases List.mem_append.mp hy with h | h
    · have ne : y ≠ x := fun e => nx (e ▸ h)
      rw [setF_ne ne, setF_ne ne, upd_ne (ne_of (h2 y h) h1 (by intro q; cases q))]
      exact h2 y h
    · rw [List.mem_singleton.mp h, setF_same, setF_same, upd_ne (ne_of hT h1 (by intro q; cases q))]
      exact hT
def intOf : V → Int | .int i => i | _ => 0
section
variable {P : PySem.Program} {w : World} {K : PySem.W.Frag} {mg : Str → Option Value} {base : Heap} {CP CM : Addr} {f : Addr} {fd : FuncData}
def spLevels : Sp := fun vs H Q _ => ∃ p d ks es G, vs = [.ref p, .ref d] ∧ PoolAt H p ∧ ProgU H d ks es G ∧ G.Full ∧ ks.Perm G.ws ∧ es.Perm G.ex ∧ ∀ dl lv H', Same (hide p H) H' → PoolAt H' p → ID H' dl G.pl lv → (∀ x ∈ G.bg :: G.ex, lv x = 0) → H dl = none → Q (.ref dl) H'
theorem ok_law_levels (B : Blt mg) (DD : FnD P w K mg base CX0 1 "_law_draw" p_law_draw spDraw) (DP : FnD P w K mg base CX0 1 "_law_places" p_law_places spLPlaces) (T : FnT K mg "_law_levels" s_law_levels p_law_levels f fd) : FnD P w K mg base CX0 2 "_law_levels" p_law_levels spLevels := by
  refine .of T (T.fn.ok sc_law_levels (fun vs H Q E h => ?_) (fun cdv A outer s0 H vs Q E hr h => ?_))
  · obtain ⟨p, d, ks, es, G, rfl, _⟩ := h
    rfl
  · obtain ⟨p, d, ks, es, G, rfl, hp, hU, F, pk, pe, k⟩ := h
    have hu := hu_of hr
    have ok := F.ok
    refine ⟨_, pss_cons (ps_set (i := 3) sc_law_levels.nd rfl (Or.inl rfl) (pe_callTy (call_dictP rfl) (by rfl) B.dict (by decide +kernel) (pa_cons
        (pe_lc (own := [("place", 2)]) (g := gName 2) (tt := tYes) rfl sc_law_levels.nd (pi_list (pe_f DP hr pass0 (pa_cons (pv 1) pa_nil))) (blkOk_by (own := [("place", 2)]) (N := N_law_levels) (sc := defScope s_law_levels) (by decide +kernel))
          (fun _ _ _ _ _ => pg_name (i := 2) sc_law_levels.nd rfl (Or.inl rfl)) (fun _ _ _ _ _ => pts_nil) (fun _ _ _ _ _ => pe_tup (pa_cons (pv 2) (pa_cons (pe_op op_sub (pe_f DD hr pass0 (pa_cons (pv 0) (pa_cons pe_int pa_nil))) pe_int) pa_nil)))) pa_nil))) <|
      pss_cons (ps_for PassesOwn.never rfl (pi_list (pe_op op_cat (pe_dget hu (pv 1) pe_str (fun _ _ => rfl)) (pe_lst (pa_cons (pe_dget hu (pv 1) pe_str (fun _ _ => rfl)) pa_nil)))) (pg_name (i := 2) sc_law_levels.nd rfl (Or.inl rfl))
        (pss_one (ps_dput hu (pv 3) (pv 2) pe_int rfl))) <|
      pss_one (ps_ret (pv 3)), ?_⟩
    refine ⟨_, rfl, d, ks, es, G, rfl, hU, F, pk, fun lp H1 s1 flp hlp => ⟨lp, rfl, ⟨_, SqL.of hlp⟩, fun D hD => ?_⟩⟩
    have hp1 := hp.mono s1
    obtain ⟨dw, le, u1, u2, u3⟩ := hU.mono s1
    have klp : hide p H1 lp = some (strL G.pl) := by rw [hide_at (hp1.ne hlp strs_noI)]; exact hlp
    have kd1 : hide p H1 d = some (.dK (pgD dw G.bg le)) := hide_keep hp1 u1 (by intro _ z; cases z)
    have kle : hide p H1 le = some (strL es) := by rw [hide_at (hp1.ne u3 strs_noI)]; exact u3
    have bD : hide p H1 D = none := hide_same.free hD
    have b0 : hide p H1 p = none := hide_none
    have sH : Same (hide p H) (hide p H1) := hide_up (hide_same.trans s1) hide_none
    have S0 : Same (hide p H1) H1 := hide_same
    have f0 : ∀ q, hide p H1 q = none → q ≠ p → H q = none := fun q hq ne => s1.free (by rw [hide_at ne] at hq; exact hq)
    generalize hide p H1 = Bs at klp kd1 kle bD b0 sH S0 f0
    refine lc_any (n := G.pl.length) (fun i H' => Same Bs H' ∧ PoolAt H' p ∧ ∃ v : Str → V, PairL H' D (G.pl.take i) v ∧ ∀ x ∈ G.pl.take i, isInt (v x) = true) ⟨S0.trans (Same.new hD), hp1.mono (Same.new hD), fun _ => .non, ⟨fun _ => 0, upd_same, fun x hx => absurd hx (by simp)⟩, fun x hx => absurd hx (by simp)⟩
      (fun i H' hi p' => (si_list (K := K) klp).go i H' p'.1 hi) (fun H' p' => (si_list (K := K) klp).stop H' p'.1) ?_ ?_
    · rintro i H' y H2 hi ⟨t1, t2, v, t3, t4⟩ yl
      obtain ⟨rfl, x, hx, rfl⟩ := (si_list (K := K) klp).yld i H' y H2 t1 yl
      have nx := take_not ok.plN hx
      refine ⟨rfl, _, rfl, _, rfl, p, 40, rfl, t2, by decide, fun j H3 j0 j40 s3 hp3 => ⟨_, _, rfl, rfl, (by show 2 ≤ sizeLine; decide), fun Tp hT => ?_⟩⟩
      have t5 := (t3.draw t2 s3)
      have sT := Same.new (o := .tup [V.str x, V.int (j - 20)]) hT
      have t6 : PairL (upd H3 Tp (.tup [V.str x, V.int (j - 20)])) D (G.pl.take i) v := by
        obtain ⟨tf, a1, a2⟩ := t5
        exact ⟨tf, sT _ _ a1, fun z hz => sT _ _ (a2 z hz)⟩
      obtain ⟨acc, a1, a2, a3, a4⟩ := t6.snoc nx hx upd_same
      refine ⟨acc, a1, ?_, ((hide_base t1 b0 s3).trans sT).mut bD, (hp3.mono sT).putL a1 a3, _, a4, fun z hz => ?_⟩
      · rw [a2, List.length_take]
        have := ok.plL
        exact Nat.lt_of_le_of_lt (show _ ≤ 40 by omega) (by decide)
      · by_cases c : z = x
        · rw [c, setF_same]; rfl
        · rw [setF_ne c]
          rw [take_snoc hx] at hz
          exact t4 z ((List.mem_append.mp hz).resolve_right fun h => c (List.mem_singleton.mp h))
    rintro H2 ⟨t1, t2, v, t3, t4⟩
    rw [List.take_length] at t3 t4
    obtain ⟨ps, kvs, c1, c2, c3⟩ := dictP_of (K := K) t3 ok.plN
    refine ⟨D, ps, kvs, rfl, c1, c2, fun dl hdl => ?_⟩
    rw [c3]
    have s2 := Same.new (o := .dK (kd G.pl v)) hdl
    have ndl : dl ≠ p := by
      obtain ⟨o, ho⟩ := t2.some
      exact (ne_of_none ho hdl).symm
    have bdl : Bs dl = none := t1.free hdl
    have t7 := t1.trans s2
    have t8 := t2.mono s2
    have e1 : (.dK (kd G.pl v) : HO) = .dK (kd G.pl fun x => .int (intOf (v x))) := by
      congr 1
      refine kd_congr fun x hx => ?_
      obtain ⟨n, hn⟩ := isInt_of (t4 x hx)
      rw [hn]
      rfl
    have hI : ID (upd H2 dl (.dK (kd G.pl v))) dl G.pl (fun x => intOf (v x)) := by
      unfold ID
      rw [upd_same, e1]
    generalize upd H2 dl (.dK (kd G.pl v)) = H3 at t7 t8 hI ⊢
    clear t1 t2 t3 s2 hdl e1
    refine ⟨_, rfl, d, _, rfl, .inl ⟨_, Sum.inr "exits", .inl (t7 _ _ kd1), rfl, pgd_exits.symm⟩, _, rfl, d, _, rfl, .inl ⟨_, Sum.inr "begin", .inl (t7 _ _ kd1), rfl, pgd_begin.symm⟩, (by show 1 ≤ sizeLine; decide), fun l1 hl1 => ?_⟩
    have s4 := Same.new (o := .lst [V.str G.bg]) hl1
    have esL : es.length ≤ 40 := by rw [pe.length_eq]; exact ok.exL
    refine ⟨le, l1, _, _, rfl, rfl, s4 _ _ (t7 _ _ kle), upd_same, ?_, fun l2 hl2 => ?_⟩
    · rw [List.length_map]
      exact Nat.le_trans (show es.length + 1 ≤ 41 by omega) (by decide)
    have s5 := s4.trans (Same.new (o := .lst (es.map V.str ++ [V.str G.bg])) hl2)
    have hl : upd (upd H3 l1 (.lst [V.str G.bg])) l2 (.lst (es.map V.str ++ [V.str G.bg])) l2 = some (strL (es ++ [G.bg])) := by
      rw [upd_same]
      unfold strL
      rw [List.map_append]
      rfl
    have t9 := t7.trans s5
    have t10 := t8.mono s5
    have hI := hI.mono s5
    generalize upd (upd H3 l1 (.lst [V.str G.bg])) l2 (.lst (es.map V.str ++ [V.str G.bg])) = H4 at t9 t10 hI hl ⊢
    refine ⟨l2, rfl, ⟨_, SqL.of hl⟩, ?_⟩
    refine for_si (si_list one_at) (fun i σ' H' => ∃ (v2 : Option V) (lv : Str → Int), σ' = [some (.ref p), some (.ref d), v2, some (.ref dl)] ∧ Same Bs H' ∧ PoolAt H' p ∧ H' l2 = some (strL (es ++ [G.bg])) ∧ ID H' dl G.pl lv ∧ ∀ x ∈ (es ++ [G.bg]).take i, lv x = 0)
      ⟨none, _, rfl, t9, t10, hl, hI, fun x hx => absurd hx (by simp)⟩ (fun i σ' H' ⟨_, _, _, _, _, z, _⟩ => same_one z) ?_ ?_
    · rintro i x σ' H' hx ⟨v2, lv, rfl, a1, a2, a3, a4, a5⟩
      have xm := List.mem_of_getElem? hx
      have xp : x ∈ G.pl := by
        rcases List.mem_append.mp xm with h | h
        · exact ok.exP x (pe.mem_iff.mp h)
        · rw [List.mem_singleton.mp h]; exact ok.bgP
      refine ⟨_, rfl, _, rfl, dl, _, rfl, DPut.k (k := Sum.inr x) a4 (by rw [kd_len]; exact Nat.lt_of_le_of_lt ok.plL (by decide)), ?_⟩
      refine ⟨_, setF lv x 0, rfl, a1.mut bdl, a2.put a4, by rw [upd_ne (ne_of a3 a4 (by intro z; cases z))]; exact a3, ?_, fun z hz => ?_⟩
      · unfold ID
        rw [upd_same, kd_put_in xp]
        congr 2
        refine kd_congr fun z _ => ?_
        unfold setF
        split <;> rfl
      · by_cases c : z = x
        · rw [c, setF_same]
        · rw [setF_ne c]
          rw [take_snoc hx] at hz
          exact a5 z ((List.mem_append.mp hz).resolve_right fun h => c (List.mem_singleton.mp h))
    · rintro σ' H' ⟨v2, lv, rfl, a1, a2, a3, a4, a5⟩
      rw [List.take_length] at a5
      refine ⟨_, rfl, k dl lv H' (sH.trans a1) a2 a4 (fun x hx => a5 x ?_) (f0 dl bdl ndl)⟩
      rcases List.mem_cons.mp hx with e | h
      · rw [e]; exact List.mem_append_right _ List.mem_cons_self
      · exact List.mem_append_left _ (pe.mem_iff.mpr h)
end
end K23
namespace K23
open PySem PySem.Spec PyProof.Rows L2
/-! ### what is refused -/
/-- x == x: None, an int, an empty list, a dict of texts -/
def rSelf (K : PySem.W.Frag) : R2 := fun x y H Q => rEq x y H Q ∨ rEqD K x y H Q ∨ rEqDA x y H Q
theorem op_self {X : Cx} (hu : X.A.units + 64 < cLine) : OpR X (compareOp .Eq) (rSelf X.K) := by
  intro pins s σ H x y v u Q I rx ry h
  rcases h with h | h | h
  · exact op_eq pins s σ H x y v u Q I rx ry h
  · exact op_eqD hu pins s σ H x y v u Q I rx ry h
  · exact op_eq_dictA (by omega) pins s σ H x y v u Q I rx ry h
/-- a value that levels may be -/
inductive Odd (H : Hp) : V → Prop
  | non : Odd H .non
  | int (i : Int) : Odd H (.int i)
  | lst {a : Addr} : H a = some (.lst []) → Odd H (.ref a)
  | dct {a : Addr} {ks : List Str} {v : Str → V} : H a = some (.dK (kd ks v)) → (∀ k ∈ ks, flatB (v k) = true) → Odd H (.ref a)
theorem Odd.mono {H H' : Hp} {v : V} (s : Same H H') (h : Odd H v) : Odd H' v := by
  cases h with
  | non => exact .non
  | int i => exact .int i
  | lst h => exact .lst (s _ _ h)
  | dct h h' => exact .dct (s _ _ h) h'
theorem Odd.eq {K : PySem.W.Frag} {H : Hp} {v : V} {Q : VK} (h : Odd H v) (q : Q (.bl true) H) : rSelf K v v H Q := by
  cases h with
  | non =>
    refine .inl ⟨rfl, ?_⟩
    rw [decide_eq_true rfl]
    exact q
  | int i =>
    refine .inl ⟨rfl, ?_⟩
    rw [decide_eq_true rfl]
    exact q
  | @lst a h =>
    refine .inr (.inl (eqD_strs (xs := []) (ys := []) h h (fun x hx => absurd hx List.not_mem_nil) (fun x hx => absurd hx List.not_mem_nil) ?_))
    rw [decide_eq_true rfl]
    exact q
  | @dct a ks v h h' =>
    refine .inr (.inr ⟨a, a, _, _, rfl, rfl, h, h, rfl, fun p hp => ?_, q⟩)
    obtain ⟨x, hx, rfl⟩ := List.mem_map.mp hp
    exact ⟨kd_in (v := v) hx, h' x hx⟩
/-- what moved refuses -/
def BadV (H : Hp) (G : Prg) (v : V) : Prop := Odd H v ∧ (Lev G.pl H v false ∨ ∃ dl lv, v = .ref dl ∧ ID H dl G.pl lv ∧ ∃ x ∈ G.bg :: G.ex, lv x ≠ 0)
theorem BadV.mono {H H' : Hp} {G : Prg} {v : V} (s : Same H H') (h : BadV H G v) : BadV H' G v := by
  refine ⟨h.1.mono s, ?_⟩
  rcases h.2 with h | ⟨dl, lv, e, h, r⟩
  · exact .inl (h.mono s)
  · exact .inr ⟨dl, lv, e, h.mono s, r⟩
section
variable {P : PySem.Program} {w : World} {K : PySem.W.Frag} {mg : Str → Option Value} {base : Heap} {CP CM CB fB : Addr} {f : Addr} {fd : FuncData}
def spTold (CP CM : Addr) : Sp := fun vs H Q _ => ∃ q p d3 G st v, vs = [.ref q, v] ∧ NuAt CP CM H q p d3 G st ∧ G.Ok ∧ BadV H G v ∧ ∀ H', Same H H' → Q (.bl true) H'
theorem ok_law_told (L : ClT K mg "Numbering" CM) (V0 : PySem.LvX.LvT K mg CB fB) (DM : MeD P w K mg base (L2.CX P w) 9 CM "moved" p_M_moved (spMoved CP CM CB)) (T : FnT K mg "_law_told" s_law_told p_law_told f fd) : FnD P w K mg base CX0 10 "_law_told" p_law_told (spTold CP CM) := by
  refine .of T (T.fn.ok sc_law_told (fun vs H Q E h => ?_) (fun cdv A outer s0 H vs Q E hr h => ?_))
  · obtain ⟨q, p, d3, G, st, v, rfl, _⟩ := h
    rfl
  · obtain ⟨q, p, d3, G, st, v, rfl, hN, ok, hB, k⟩ := h
    refine ⟨_, pss_cons (ps_try_as (i := 2) (tb := fun W => tDrop (tMS CM "moved" (spMoved CP CM CB) (WE W) (tVar 0) (tCons (tVar 1) tNil))) (ts := fun a cls d => tRet (tOp (rSelf K) (tByLv CB a cls d (tVar 2)) (tVar 1))) (Wout := fun _ _ _ _ => False) rfl rfl sc_law_told.nd rfl rfl ⟨rfl, by decide, Or.inl V0.gC⟩ takes0
        (fun W pn xe tk _ => pss_one (ps_expr (pe_mS (pv 0) L.cl DM hr (fun σ => passAt tk σ) (pa_cons (pv 1) pa_nil))))
        (fun a oe cls d pn hz hf => pss_one (ps_ret (pe_cmpR (op_self hr.units) (pe_byLv V0 hz hf (pv 2)) (pv 1) (nomark _))))) <|
      pss_one (ps_ret pe_str), ?_⟩
    refine ⟨_, rfl, hN.isO, _, rfl, q, p, d3, G, st, v, rfl, hN, ok, .inl ⟨hB.2, fun d H' s1 hd => ?_⟩⟩
    refine ⟨true, V0.te, fun _ a0 _ => ?_, fun z => Bool.noConfusion z⟩
    refine ⟨_, rfl, rfl, rfl, d, _, rfl, hd, _, rfl, (hB.1.mono s1).eq (k _ s1)⟩
end
end K23
namespace K23
open PySem PySem.Spec PyProof.Rows L2
theorem passF {X : Cx} : Passes (L2.CX X.prog X.w) X (fun _ _ _ => False) := fun pins σ H s e s' I h => passAt takes0 σ pins H s e s' I h
theorem PairL.unlock {H : Hp} {D d : Addr} {u u' : HO} {xs : List Str} {v : Str → V} (h : PairL H D xs v) (hd : H d = some u) (hu : ∀ ys, u ≠ .lst ys) (ht : ∀ ys, u ≠ .tup ys) : PairL (upd H d u') D xs v := by
  obtain ⟨tf, h1, h2⟩ := h
  exact ⟨tf, by rw [upd_ne (ne_of h1 hd (fun z => hu _ z.symm))]; exact h1, fun x hx => by rw [upd_ne (ne_of (h2 x hx) hd (fun z => ht _ z.symm))]; exact h2 x hx⟩
/-- dict([(x, c) for x in d]) -/
theorem read_const {K : PySem.W.Frag} {σ : L2.St} {H : Hp} {i j : Nat} {dz : Addr} {xs : List Str} {u : Str → V} {c : V} {Q : VK} (hi : σ[i]? = some (some (.ref dz))) (hz : H dz = some (.dK (kd xs u))) (nd : xs.Nodup) (hl : xs.length ≤ 1000)
    (hw : ∀ x, wipe ((wipe σ [j]).set j (some x)) [j] = wipe σ [j]) (hj : ∀ x, ((wipe σ [j]).set j (some x))[j]? = some (some x)) (k : ∀ p H', Same H H' → H p = none → H' p = some (.dK (kd xs fun _ => c)) → Q (.ref p) H') :
    tCB (fun vs H Q => ∃ (a : Addr) (ps : List Addr) (kvs : List (Key × V)), vs = [.ref a] ∧ SqL K H a (ps.map V.ref) ∧ Paired (fun p kv => SqT K H p [kV kv.1, kv.2]) ps kvs ∧ ∀ p, H p = none → Q (.ref p) (upd H p (.dK (mergeK [] kvs))))
      (tCons (tLockE (tLc (iKeys (tVar i)) (gName j) tYes (tTup (tCons (tVar j) (tCons (tC c) tNil))) [j])) tNil) σ H Q := by
  refine ⟨dz, _, hz, trivial, fun od => ?_⟩
  have l1 : upd H dz (.frz od (.dK (kd xs u))) dz = some (.frz od (.dK (kd xs u))) := upd_same
  refine ⟨_, hi, dz, od, rfl, .inl ⟨_, l1, fun D hD => ?_⟩⟩
  refine lc_tup (si_keys l1) (Same.refl _) hD hl nd (fun _ => c) hw hj (fun x hx H1 s1 Q' q => q _ (Same.refl _)) fun H' s' hP => ?_
  have e1 := s' _ _ l1
  refine ⟨e1, ?_⟩
  have hP' := hP.unlock (u' := .dK (kd xs u)) e1 (by intro _ z; cases z) (by intro _ z; cases z)
  obtain ⟨ps, kvs, c1, c2, c3⟩ := dictP_of (K := K) hP' nd
  refine ⟨D, ps, kvs, rfl, c1, c2, fun p hp => ?_⟩
  rw [c3]
  have sb := lock_back hz s'
  exact k p _ (sb.trans (Same.new hp)) (sb.free hp) upd_same
theorem two_pl {G : Prg} (ok : G.Ok) : 2 ≤ G.pl.length := by
  cases e : G.ws with
  | nil => exact absurd e ok.wsE
  | cons x r =>
    have xm : x ∈ G.ws := by rw [e]; exact List.mem_cons_self
    have up := ok.up x xm
    have nd : [G.fr x, G.to x].Nodup := List.nodup_cons.mpr ⟨fun h => by rw [← List.mem_singleton.mp h] at up; exact Nat.lt_irrefl _ up, List.nodup_cons.mpr ⟨List.not_mem_nil, List.nodup_nil⟩⟩
    exact subset_len nd fun z hz => by
      rcases List.mem_cons.mp hz with h | h
      · rw [h]; exact ok.frP x xm
      · rw [List.mem_singleton.mp h]; exact ok.toP x xm
section
variable {P : PySem.Program} {w : World} {K : PySem.W.Frag} {mg : Str → Option Value} {base : Heap} {CP CM CB fB : Addr} {f : Addr} {fd : FuncData}
def spRefused (CP CM : Addr) : Sp := fun vs H Q _ => ∃ d ks es q p d3 G st, vs = [.ref d, .ref q] ∧ ProgU H d ks es G ∧ G.Full ∧ ks.Perm G.ws ∧ es.Perm G.ex ∧ NuAt CP CM H q p d3 G st ∧ ∀ H', Same H H' → Q (.bl true) H'
theorem ok_law_refused (L : ClT K mg "Numbering" CM) (B : Blt mg) (DP : FnD P w K mg base CX0 1 "_law_places" p_law_places spLPlaces) (DT : FnD P w K mg base CX0 10 "_law_told" p_law_told (spTold CP CM))
    (DM : MeD P w K mg base (L2.CX P w) 9 CM "moved" p_M_moved (spMoved CP CM CB)) (DE : MeD P w K mg base CX0 3 CM "__eq__" p_M_eq (spNuEq CP CM)) (T : FnT K mg "_law_refused" s_law_refused p_law_refused f fd) : FnD P w K mg base CX0 11 "_law_refused" p_law_refused (spRefused CP CM) := by
  refine .of T (T.fn.ok sc_law_refused (fun vs H Q E h => ?_) (fun cdv A outer s0 H vs Q E hr h => ?_))
  · obtain ⟨d, ks, es, q, p, d3, G, st, rfl, _⟩ := h
    rfl
  · obtain ⟨d, ks, es, q, p, d3, G, st, rfl, hU, F, pk, pe, hN, k⟩ := h
    have hu := hu_of hr
    have hr1 : Room 1 _ := hr.mono (by decide)
    have hr3 : Room 3 _ := hr.mono (by decide)
    have hr9 : Room 9 _ := hr.mono (by decide)
    have ok := F.ok
    refine ⟨_, pss_cons (ps_set (i := 3) sc_law_refused.nd rfl (Or.inl rfl) (pe_callTy (call_dictP rfl) (by rfl) B.dict (by decide +kernel) (pa_cons
        (pe_lc (own := [("place", 2)]) (g := gName 2) (tt := tYes) rfl sc_law_refused.nd (pi_list (pe_f DP hr1 pass0 (pa_cons (pv 0) pa_nil))) (blkOk_by (own := [("place", 2)]) (N := N_law_refused) (sc := defScope s_law_refused) (by decide +kernel))
          (fun _ _ _ _ _ => pg_name (i := 2) sc_law_refused.nd rfl (Or.inl rfl)) (fun _ _ _ _ _ => pts_nil) (fun _ _ _ _ _ => pe_tup (pa_cons (pv 2) (pa_cons pe_int pa_nil)))) pa_nil))) <|
      pss_cons (ps_par (i := 4) (j := 5) rfl sc_law_refused.nd rfl rfl (by decide) rfl rfl (pa_cons (pe_callTy (call_dictP rfl) (by rfl) B.dict (by decide +kernel) (pa_cons
        (pe_lock (pe_lc (own := [("place", 2)]) (g := gName 2) (tt := tYes) rfl sc_law_refused.nd (pi_keys (pv 3)) (blkOk_by (own := [("place", 2)]) (N := N_law_refused) (sc := defScope s_law_refused) (by decide +kernel))
          (fun _ _ _ _ _ => pg_name (i := 2) sc_law_refused.nd rfl (Or.inl rfl)) (fun _ _ _ _ _ => pts_nil) (fun _ _ _ _ _ => pe_tup (pa_cons (pv 2) (pa_cons pe_int pa_nil))))) pa_nil)) (pa_cons (pe_callTy (call_dictP rfl) (by rfl) B.dict (by decide +kernel) (pa_cons
        (pe_lc (own := [("place", 2)]) (g := gName 2) (tt := tYes) rfl sc_law_refused.nd (pi_list (pe_slice sl_list (pe_callB (call_sortedD rfl) (by rfl) B.sorted (by decide +kernel) (pa_cons (pv 3) pa_nil)) (po_some pe_int) po_none)) (blkOk_by (own := [("place", 2)]) (N := N_law_refused) (sc := defScope s_law_refused) (by decide +kernel))
          (fun _ _ _ _ _ => pg_name (i := 2) sc_law_refused.nd rfl (Or.inl rfl)) (fun _ _ _ _ _ => pts_nil) (fun _ _ _ _ _ => pe_tup (pa_cons (pv 2) (pa_cons pe_int pa_nil)))) pa_nil)) pa_nil)) (by rfl)) <|
      pss_cons (ps_dput hu (pv 4) (pe_dget hu (pv 0) pe_str (fun _ _ => rfl)) pe_int rfl) <|
      pss_cons (ps_set (i := 6) sc_law_refused.nd rfl (Or.inl rfl) (pe_callTy (call_dictP rfl) (by rfl) B.dict (by decide +kernel) (pa_cons
        (pe_lock (pe_lc (own := [("place", 2)]) (g := gName 2) (tt := tYes) rfl sc_law_refused.nd (pi_keys (pv 3)) (blkOk_by (own := [("place", 2)]) (N := N_law_refused) (sc := defScope s_law_refused) (by decide +kernel))
          (fun _ _ _ _ _ => pg_name (i := 2) sc_law_refused.nd rfl (Or.inl rfl)) (fun _ _ _ _ _ => pts_nil) (fun _ _ _ _ _ => pe_tup (pa_cons (pv 2) (pa_cons pe_int pa_nil))))) pa_nil))) <|
      pss_cons (ps_dput hu (pv 6) (pe_ix ix_list (pe_dget hu (pv 0) pe_str (fun _ _ => rfl)) pe_int (fun _ _ => rfl)) (pe_un un_neg pe_int) rfl) <|
      pss_cons (ps_for PassesOwn.never rfl (pi_list (pe_lst (pa_cons pe_non (pa_cons pe_int (pa_cons (pe_lst pa_nil) (pa_cons pe_dnewK (pa_cons (pv 4) (pa_cons (pv 6) (pa_cons (pv 5) (pa_cons (pe_disp (pps_cons pe_str pe_int pps_nil) (by rfl) (by rfl) (fun z => by cases z) (by decide)) (pa_cons (pe_callTy (call_dictP rfl) (by rfl) B.dict (by decide +kernel) (pa_cons
        (pe_lock (pe_lc (own := [("place", 2)]) (g := gName 2) (tt := tYes) rfl sc_law_refused.nd (pi_keys (pv 3)) (blkOk_by (own := [("place", 2)]) (N := N_law_refused) (sc := defScope s_law_refused) (by decide +kernel))
          (fun _ _ _ _ _ => pg_name (i := 2) sc_law_refused.nd rfl (Or.inl rfl)) (fun _ _ _ _ _ => pts_nil) (fun _ _ _ _ _ => pe_tup (pa_cons (pv 2) (pa_cons pe_non pa_nil))))) pa_nil)) pa_nil))))))))))) (pg_name (i := 7) sc_law_refused.nd rfl (Or.inl rfl))
        (pss_one (ps_if (pt_cmpR op_notBl (pe_f DT hr pass0 (pa_cons (pv 1) (pa_cons (pv 7) pa_nil))) pe_bl (nomark _)) (pss_one (ps_ret pe_bl)) pss_nil))) <|
      pss_one (ps_ret (pe_cmpR (op_eqOwn (E := E0) DE hr3 pass0) (pe_m (pv 1) L.cl DM hr9 passF (pa_cons (pv 3) pa_nil)) (pv 1) (by rfl))), ?_⟩
    -- zero
    refine ⟨_, rfl, d, ks, es, G, rfl, hU, F, pk, fun lp H1 s1 flp hlp => ⟨lp, rfl, ⟨_, SqL.of hlp⟩, fun D hD => ?_⟩⟩
    have plL : G.pl.length ≤ 1000 := Nat.le_trans ok.plL (by decide)
    refine lc_tup (si_list hlp) (Same.refl _) hD plL ok.plN (fun _ => V.int 0) (fun _ => rfl) (fun _ => by rfl) (fun x hx H1 s1 Q' q => q _ (Same.refl _)) fun H2 s2 hP2 => ?_
    obtain ⟨ps, kvs, c1, c2, c3⟩ := dictP_of (K := K) hP2 ok.plN
    refine ⟨D, ps, kvs, rfl, c1, c2, fun dz hdz => ?_⟩
    rw [c3]
    have s3 := (s1.trans s2).trans (Same.new (o := .dK (kd G.pl fun _ => V.int 0)) hdz)
    have fz := (s1.trans s2).free hdz
    have z3 : upd H2 dz (.dK (kd G.pl fun _ => V.int 0)) dz = some (.dK (kd G.pl fun _ => V.int 0)) := upd_same
    generalize upd H2 dz (.dK (kd G.pl fun _ => V.int 0)) = H3 at s3 z3 ⊢
    clear c1 c2 c3 hP2 hD
    -- other, fewer
    refine ⟨dz, _, z3, trivial, fun od => ?_⟩
    have k1 : upd H3 dz (.frz od (.dK (kd G.pl fun _ => V.int 0))) dz = some (.frz od (.dK (kd G.pl fun _ => V.int 0))) := upd_same
    refine ⟨_, rfl, dz, od, rfl, .inl ⟨_, k1, fun Dx hDx => ?_⟩⟩
    refine lc_tup (si_keys k1) (Same.refl _) hDx plL ok.plN (fun _ => V.int 0) (fun _ => rfl) (fun _ => by rfl) (fun x hx H1 s1 Q' q => q _ (Same.refl _)) fun Hx sx hPx => ?_
    refine ⟨sx _ _ k1, ?_⟩
    obtain ⟨ps, kvs, c1, c2, c3⟩ := dictP_of (K := K) (hPx.unlock (u' := .dK (kd G.pl fun _ => V.int 0)) (sx _ _ k1) (by intro _ z; cases z) (by intro _ z; cases z)) ok.plN
    refine ⟨Dx, ps, kvs, rfl, c1, c2, fun do_ hdo_ => ?_⟩
    rw [c3]
    have sb := lock_back z3 sx
    have s4 := sb.trans (Same.new (o := .dK (kd G.pl fun _ => V.int 0)) hdo_)
    have fo := sb.free hdo_
    have hdo : upd (upd Hx dz (.dK (kd G.pl fun _ => V.int 0))) do_ (.dK (kd G.pl fun _ => V.int 0)) do_ = some (.dK (kd G.pl fun _ => V.int 0)) := upd_same
    generalize upd (upd Hx dz (.dK (kd G.pl fun _ => V.int 0))) do_ (.dK (kd G.pl fun _ => V.int 0)) = H4 at s4 hdo ⊢
    clear c1 c2 c3 hPx sb hdo_ hDx sx k1
    have z4 := s4 _ _ z3
    refine ⟨_, rfl, dz, _, G.pl, rfl, .inl z4, kd_keys _ _, by have := ok.plL; omega, fun ys ly hperm hsort hly => ?_⟩
    have e1 : ys = G.pl := sorted_unique hsort F.plS hperm
    subst e1
    have s5 := Same.new (o := .lst (G.pl.map V.str)) hly
    refine ⟨_, rfl, ly, _, rfl, SqL.of upd_same, fun lc hlc => ?_⟩
    have e2 : cutV (G.pl.map V.str) (some (1 : Int)) none = (G.pl.drop 1).map V.str := by
      have := cut_from (G.pl.map V.str) (a := 1) (by rw [List.length_map]; have := two_pl ok; omega)
      rw [List.map_drop]
      exact this
    rw [e2]
    have s6 := s5.trans (Same.new (o := .lst ((G.pl.drop 1).map V.str)) hlc)
    refine ⟨lc, rfl, ⟨_, SqL.of upd_same⟩, fun D5 hD5 => ?_⟩
    have nd1 : (G.pl.drop 1).Nodup := ok.plN.sublist (List.drop_sublist _ _)
    refine lc_tup (si_list (B := upd (upd H4 ly (.lst (G.pl.map V.str))) lc (.lst ((G.pl.drop 1).map V.str))) upd_same) (Same.refl _) hD5 (by rw [List.length_drop]; omega) nd1 (fun _ => V.int 0) (fun _ => rfl) (fun _ => by rfl) (fun x hx H1 s1 Q' q => q _ (Same.refl _)) fun H5 s7 hP5 => ?_
    obtain ⟨ps, kvs, c1, c2, c3⟩ := dictP_of (K := K) hP5 nd1
    refine ⟨D5, ps, kvs, rfl, c1, c2, fun df hdf => ?_⟩
    rw [c3]
    have s8 := (s6.trans s7).trans (Same.new (o := .dK (kd (G.pl.drop 1) fun _ => V.int 0)) hdf)
    have ff := (s6.trans s7).free hdf
    have f8 : upd H5 df (.dK (kd (G.pl.drop 1) fun _ => V.int 0)) df = some (.dK (kd (G.pl.drop 1) fun _ => V.int 0)) := upd_same
    generalize upd H5 df (.dK (kd (G.pl.drop 1) fun _ => V.int 0)) = H6 at s8 f8 ⊢
    clear c1 c2 c3 hP5 hD5 e2 s5 s6 s7 hdf hlc hly
    refine ⟨_, _, rfl, ?_⟩
    -- other[begin] = 1
    have o6 := s8 _ _ hdo
    have z6 := s8 _ _ z4
    have nzo : dz ≠ do_ := ne_of_none z3 fo
    have nof : do_ ≠ df := ne_of_none hdo ff
    obtain ⟨dw, le, u1, u2, u3⟩ := id hU
    have hR : ProgR H d dw le ks es G := ⟨u1, u2.rd, u3⟩
    have sH6 := (s3.trans s4).trans s8
    refine ⟨_, rfl, _, rfl, d, _, rfl, (hR.mono sH6).begin, do_, _, rfl, DPut.k (k := Sum.inr G.bg) o6 (by rw [kd_len]; exact Nat.lt_of_le_of_lt ok.plL (by decide)), ?_⟩
    have Ho : H do_ = none := s3.free fo
    have s9 := sH6.mut (o := .dK (putK (kd G.pl fun _ => V.int 0) (.inr G.bg) (.int 1))) Ho
    have o9 : ID (upd H6 do_ (.dK (putK (kd G.pl fun _ => V.int 0) (.inr G.bg) (.int 1)))) do_ G.pl (setF (fun _ => 0) G.bg 1) := by
      unfold ID
      rw [upd_same, kd_put_in ok.bgP]
      congr 2
      refine kd_congr fun z _ => ?_
      unfold setF
      split <;> rfl
    have z9 : upd H6 do_ (.dK (putK (kd G.pl fun _ => V.int 0) (.inr G.bg) (.int 1))) dz = some (.dK (kd G.pl fun _ => V.int 0)) := by rw [upd_ne nzo]; exact z6
    have f9 : upd H6 do_ (.dK (putK (kd G.pl fun _ => V.int 0) (.inr G.bg) (.int 1))) df = some (.dK (kd (G.pl.drop 1) fun _ => V.int 0)) := by rw [upd_ne nof.symm]; exact f8
    generalize upd H6 do_ (.dK (putK (kd G.pl fun _ => V.int 0) (.inr G.bg) (.int 1))) = H9 at s9 o9 z9 f9 ⊢
    clear s8 f8 s4 z4 hdo o6 z6 sH6
    -- more
    refine ⟨dz, _, z9, trivial, fun od => ?_⟩
    have k1 : upd H9 dz (.frz od (.dK (kd G.pl fun _ => V.int 0))) dz = some (.frz od (.dK (kd G.pl fun _ => V.int 0))) := upd_same
    refine ⟨_, rfl, dz, od, rfl, .inl ⟨_, k1, fun Dx hDx => ?_⟩⟩
    refine lc_tup (si_keys k1) (Same.refl _) hDx plL ok.plN (fun _ => V.int 0) (fun _ => rfl) (fun _ => by rfl) (fun x hx H1 s1 Q' q => q _ (Same.refl _)) fun Hx sx hPx => ?_
    refine ⟨sx _ _ k1, ?_⟩
    obtain ⟨ps, kvs, c1, c2, c3⟩ := dictP_of (K := K) (hPx.unlock (u' := .dK (kd G.pl fun _ => V.int 0)) (sx _ _ k1) (by intro _ z; cases z) (by intro _ z; cases z)) ok.plN
    refine ⟨Dx, ps, kvs, rfl, c1, c2, fun dm gdm => ?_⟩
    rw [c3]
    have sb := lock_back z9 sx
    have s10 := sb.trans (Same.new (o := .dK (kd G.pl fun _ => V.int 0)) gdm)
    have fm := sb.free gdm
    have hdm : upd (upd Hx dz (.dK (kd G.pl fun _ => V.int 0))) dm (.dK (kd G.pl fun _ => V.int 0)) dm = some (.dK (kd G.pl fun _ => V.int 0)) := upd_same
    generalize upd (upd Hx dz (.dK (kd G.pl fun _ => V.int 0))) dm (.dK (kd G.pl fun _ => V.int 0)) = H10 at s10 hdm ⊢
    clear c1 c2 c3 hPx sb gdm hDx sx k1
    obtain ⟨x0, r0, ex0⟩ : ∃ x r, es = x :: r := by
      cases e : es with
      | nil =>
        rw [e] at pe
        exact absurd (List.nil_perm.mp pe) F.exE
      | cons x r => exact ⟨x, r, rfl⟩
    have x0e : x0 ∈ G.ex := pe.mem_iff.mp (by rw [ex0]; exact List.mem_cons_self)
    have s10' := s9.trans s10
    refine ⟨_, rfl, _, rfl, _, rfl, d, _, rfl, (hR.mono s10').exits, le, _, 0, .str x0, rfl, rfl, SqL.of (s10' _ _ u3), atI_nat (j := 0) (by rw [ex0]; rfl), dm, _, rfl, DPut.k (k := Sum.inr x0) hdm (by rw [kd_len]; exact Nat.lt_of_le_of_lt ok.plL (by decide)), ?_⟩
    have Hm : H dm = none := s9.free fm
    have s11 := s10'.mut (o := .dK (putK (kd G.pl fun _ => V.int 0) (.inr x0) (.int (-1)))) Hm
    have m11 : ID (upd H10 dm (.dK (putK (kd G.pl fun _ => V.int 0) (.inr x0) (.int (-1))))) dm G.pl (setF (fun _ => 0) x0 (-1)) := by
      unfold ID
      rw [upd_same, kd_put_in (ok.exP x0 x0e)]
      congr 2
      refine kd_congr fun z _ => ?_
      unfold setF
      split <;> rfl
    have keep : ∀ {a : Addr} {o : HO}, H9 a = some o → upd H10 dm (.dK (putK (kd G.pl fun _ => V.int 0) (.inr x0) (.int (-1)))) a = some o := fun h => by
      rw [upd_ne (ne_of_none h fm)]
      exact s10 _ _ h
    have o11 : ID (upd H10 dm (.dK (putK (kd G.pl fun _ => V.int 0) (.inr x0) (.int (-1))))) do_ G.pl (setF (fun _ => 0) G.bg 1) := keep o9
    have z11 := keep z9
    have f11 := keep f9
    show tSeq _ _ _ _ (upd H10 dm (.dK (putK (kd G.pl fun _ => V.int 0) (.inr x0) (.int (-1)))))
    generalize upd H10 dm (.dK (putK (kd G.pl fun _ => V.int 0) (.inr x0) (.int (-1)))) = H11 at s11 m11 o11 z11 f11 ⊢
    clear keep s10 s10' hdm s9 o9 z9 f9
    -- the odd ones
    refine ⟨Nat.zero_le _, fun l0 hl0 => ?_⟩
    have t1 := Same.new (o := .lst []) hl0
    intro d0 hd0
    have t2 := t1.trans (Same.new (o := .dK []) hd0)
    refine ⟨_, rfl, _, rfl, _, rfl, ?_⟩
    intro dq hdq
    have t3 := t2.trans (Same.new (o := .dK []) hdq)
    refine ⟨upd_same, [(.inr "zzzzz", .int 0)], rfl, (by show 1 ≤ 15; decide), ?_⟩
    have t4 : Same H11 (upd (upd (upd (upd H11 l0 (.lst [])) d0 (.dK [])) dq (.dK [])) dq (.dK (mergeK [] [((.inr "zzzzz" : Key), V.int 0)]))) := t3.mut (t2.free hdq)
    have q4 : upd (upd (upd (upd H11 l0 (.lst [])) d0 (.dK [])) dq (.dK [])) dq (.dK (mergeK [] [((.inr "zzzzz" : Key), V.int 0)])) dq = some (.dK (kd ["zzzzz"] fun _ => .int 0)) := upd_same
    have n1 : l0 ≠ d0 := ne_of_none upd_same hd0
    have n2 : l0 ≠ dq := ne_of_none (Same.new (o := .dK []) hd0 _ _ upd_same) hdq
    have n3 : d0 ≠ dq := ne_of_none upd_same hdq
    have l4 : upd (upd (upd (upd H11 l0 (.lst [])) d0 (.dK [])) dq (.dK [])) dq (.dK (mergeK [] [((.inr "zzzzz" : Key), V.int 0)])) l0 = some (.lst []) := by rw [upd_ne n2, upd_ne n2, upd_ne n1, upd_same]
    have d4 : upd (upd (upd (upd H11 l0 (.lst [])) d0 (.dK [])) dq (.dK [])) dq (.dK (mergeK [] [((.inr "zzzzz" : Key), V.int 0)])) d0 = some (.dK (kd [] fun _ => .int 0)) := by rw [upd_ne n3, upd_ne n3, upd_same]; rfl
    generalize upd (upd (upd (upd H11 l0 (.lst [])) d0 (.dK [])) dq (.dK [])) dq (.dK (mergeK [] [((.inr "zzzzz" : Key), V.int 0)])) = H12 at t4 q4 l4 d4 ⊢
    clear t3 t2 t1
    refine ⟨dz, _, (t4 _ _ z11), trivial, fun od => ?_⟩
    have k1 : upd H12 dz (.frz od (.dK (kd G.pl fun _ => V.int 0))) dz = some (.frz od (.dK (kd G.pl fun _ => V.int 0))) := upd_same
    refine ⟨_, rfl, dz, od, rfl, .inl ⟨_, k1, fun Dx hDx => ?_⟩⟩
    refine lc_tup (si_keys k1) (Same.refl _) hDx plL ok.plN (fun _ => V.non) (fun _ => rfl) (fun _ => by rfl) (fun x hx H1 s1 Q' q => q _ (Same.refl _)) fun Hx sx hPx => ?_
    refine ⟨sx _ _ k1, ?_⟩
    obtain ⟨ps, kvs, c1, c2, c3⟩ := dictP_of (K := K) (hPx.unlock (u' := .dK (kd G.pl fun _ => V.int 0)) (sx _ _ k1) (by intro _ z; cases z) (by intro _ z; cases z)) ok.plN
    refine ⟨Dx, ps, kvs, rfl, c1, c2, fun dn gdn => ?_⟩
    rw [c3]
    have sb := lock_back (t4 _ _ z11) sx
    have s13 := sb.trans (Same.new (o := .dK (kd G.pl fun _ => V.non)) gdn)
    have fn := sb.free gdn
    have hdn : upd (upd Hx dz (.dK (kd G.pl fun _ => V.int 0))) dn (.dK (kd G.pl fun _ => V.non)) dn = some (.dK (kd G.pl fun _ => V.non)) := upd_same
    generalize upd (upd Hx dz (.dK (kd G.pl fun _ => V.int 0))) dn (.dK (kd G.pl fun _ => V.non)) = H13 at s13 hdn ⊢
    clear c1 c2 c3 hPx sb gdn hDx sx k1
    refine ⟨(by show 9 ≤ sizeLine; decide), fun ll hll => ?_⟩
    have s14 := s13.trans (Same.new (o := .lst [.non, .int 5, .ref l0, .ref d0, .ref do_, .ref dm, .ref df, .ref dq, .ref dn]) hll)
    have sl : Same H13 (upd H13 ll (.lst [.non, .int 5, .ref l0, .ref d0, .ref do_, .ref dm, .ref df, .ref dq, .ref dn])) := Same.new hll
    have hx14 : upd H13 ll (.lst [.non, .int 5, .ref l0, .ref d0, .ref do_, .ref dm, .ref df, .ref dq, .ref dn]) ll = some (.lst [.non, .int 5, .ref l0, .ref d0, .ref do_, .ref dm, .ref df, .ref dq, .ref dn]) := upd_same
    have n14 := sl _ _ hdn
    generalize upd H13 ll (.lst [.non, .int 5, .ref l0, .ref d0, .ref do_, .ref dm, .ref df, .ref dq, .ref dn]) = H14 at s14 sl hx14 n14 ⊢
    have s15 := t4.trans s14
    have p2 := two_pl ok
    have short : ∀ {a : Addr} {xs : List Str}, H14 a = some (.dK (kd xs fun _ => V.int 0)) → xs.length ≠ G.pl.length → BadV H14 G (.ref a) := fun {a xs} h hne => by
      refine ⟨.dct h fun _ _ => rfl, .inl ?_⟩
      have e : wholeD G.pl (kd xs fun _ => V.int 0) = false := by
        unfold wholeD
        rw [kd_len, decide_eq_false hne, Bool.false_and]
      rw [← e]
      refine .dct h fun x v hv => ?_
      rw [kd_val] at hv
      split at hv
      · cases hv
        exact .inl rfl
      · cases hv
    have bad : ∀ x ∈ [V.non, .int 5, .ref l0, .ref d0, .ref do_, .ref dm, .ref df, .ref dq, .ref dn], BadV H14 G x := fun x hx => by
      simp only [List.mem_cons, List.not_mem_nil, or_false] at hx
      rcases hx with rfl | rfl | rfl | rfl | rfl | rfl | rfl | rfl | rfl
      · exact ⟨.non, .inl .non⟩
      · exact ⟨.int 5, .inl (.int 5)⟩
      · exact ⟨.lst (s14 _ _ l4), .inl (.lst (s14 _ _ l4))⟩
      · exact short (s14 _ _ d4) (by simp; omega)
      · refine ⟨.dct (s15 _ _ o11) fun _ _ => rfl, .inr ⟨_, _, rfl, s15 _ _ o11, G.bg, List.mem_cons_self, ?_⟩⟩
        rw [setF_same]
        decide
      · refine ⟨.dct (s15 _ _ m11) fun _ _ => rfl, .inr ⟨_, _, rfl, s15 _ _ m11, x0, List.mem_cons_of_mem _ x0e, ?_⟩⟩
        rw [setF_same]
        decide
      · exact short (s15 _ _ f11) (by rw [List.length_drop]; omega)
      · exact short (s14 _ _ q4) (by simp; omega)
      · refine ⟨.dct n14 fun _ _ => rfl, .inl ?_⟩
        have e : wholeD G.pl (kd G.pl fun _ => V.non) = false := by
          unfold wholeD
          rw [Bool.and_eq_false_iff]
          right
          rw [List.all_eq_false]
          refine ⟨G.bg, ok.bgP, ?_⟩
          unfold intAt
          rw [kd_in (v := fun _ => V.non) ok.bgP]
          decide
        rw [← e]
        refine .dct n14 fun x v hv => ?_
        rw [kd_val] at hv
        split at hv
        · cases hv
          exact .inr rfl
        · cases hv
    have sAll := s11.trans s15
    have zA := s15 _ _ z11
    refine ⟨ll, rfl, ⟨_, SqL.of hx14⟩, ?_⟩
    refine for_list (xs := [V.non, .int 5, .ref l0, .ref d0, .ref do_, .ref dm, .ref df, .ref dq, .ref dn]) (fun i σ' H' => ∃ v7 : Option V, σ' = [some (.ref d), some (.ref q), none, some (.ref dz), some (.ref do_), some (.ref df), some (.ref dm), v7] ∧ Same H14 H')
      ⟨none, rfl, Same.refl _⟩ (fun i σ' H' _ ⟨_, _, z⟩ => SqL.of (z _ _ hx14)) ?_ ?_
    · rintro i x σ' H' hi ⟨v7, rfl, a1⟩
      have b := bad x (List.mem_of_getElem? hi)
      refine ⟨_, rfl, _, rfl, q, p, d3, G, st, x, rfl, hN.mono (sAll.trans a1), ok, b.mono a1, fun H15 a2 => ⟨true, true, rfl, rfl, false, rfl, iteF ⟨_, rfl, a1.trans a2⟩⟩⟩
    · rintro σ' H' ⟨v7, rfl, a1⟩
      have hN' := hN.mono (sAll.trans a1)
      refine ⟨_, rfl, hN'.isO, _, rfl, q, p, d3, G, st, .ref dz, rfl, hN', ok, .inr ⟨dz, fun _ => 0, rfl, a1 _ _ zA, fun _ _ => rfl, fun q' d3' H15 a2 f1 hX => ?_⟩⟩
      have hN2 := hN'.mono a2
      refine ⟨_, rfl, hX.at.isI, hN2.isI, q', q, p, d3', d3, G, _, st, rfl, hX.at, hN2, fun H16 a3 => ⟨_, rfl, ?_⟩⟩
      have e : eqSt G.ws (movS G st fun _ => 0) st = true := by
        unfold eqSt
        rw [List.all_eq_true]
        intro x _
        exact decide_eq_true (by show st x = st x + 0 - 0; omega)
      rw [e]
      exact k _ (((sAll.trans a1).trans a2).trans a3)
end
end K23
/-! What stands while the law runs: a base that nobody writes, and beside it the pool (p), the ways (dw, locked at times), the first steps (df) and the steps kept along (ds). -/
namespace K23
open PySem PySem.Spec PyProof.Rows L2
structure LS (p dw df ds : Addr) (ks : List Str) (g : Str → Addr) (G : Prg) (Bt : Hp) (st : Str → Int) (H : Hp) : Prop where
  same : Same Bt H
  bp : Bt p = none
  bw : Bt dw = none
  bf : Bt df = none
  bs : Bt ds = none
  pool : PoolAt H p
  ways : H dw = some (.dK (kd ks fun k => .ref (g k)))
  fst : ID H df ks G.base
  stp : ID H ds ks st
def hide4 (p dw df ds : Addr) (H : Hp) : Hp := hide ds (hide df (hide dw (hide p H)))
section
variable {p dw df ds : Addr} {ks : List Str} {g : Str → Addr} {G : Prg} {Bt : Hp} {st : Str → Int} {H H' : Hp}
theorem hide4_at {a : Addr} (h1 : a ≠ p) (h2 : a ≠ dw) (h3 : a ≠ df) (h4 : a ≠ ds) : hide4 p dw df ds H a = H a := by
  unfold hide4
  rw [hide_at h4, hide_at h3, hide_at h2, hide_at h1]
theorem hide4_same : Same (hide4 p dw df ds H) H := ((hide_same.trans hide_same).trans hide_same).trans hide_same
theorem hide4_p : hide4 p dw df ds H p = none := by
  unfold hide4
  exact hide_same.free (hide_same.free (hide_same.free hide_none))
theorem hide4_w : hide4 p dw df ds H dw = none := by
  unfold hide4
  exact hide_same.free (hide_same.free hide_none)
theorem hide4_f : hide4 p dw df ds H df = none := by
  unfold hide4
  exact hide_same.free hide_none
theorem hide4_s : hide4 p dw df ds H ds = none := hide_none
theorem LS.mono (S : LS p dw df ds ks g G Bt st H) (s : Same H H') : LS p dw df ds ks g G Bt st H' := ⟨S.same.trans s, S.bp, S.bw, S.bf, S.bs, S.pool.mono s, s _ _ S.ways, S.fst.mono s, S.stp.mono s⟩
theorem LS.draw (S : LS p dw df ds ks g G Bt st H) (s : Same (hide p H) H') (hp : PoolAt H' p) : LS p dw df ds ks g G Bt st H' :=
  ⟨hide_base S.same S.bp s, S.bp, S.bw, S.bf, S.bs, hp, s _ _ (hide_keep S.pool S.ways (by intro _ z; cases z)), s _ _ (hide_keep S.pool S.fst (by intro _ z; cases z)), s _ _ (hide_keep S.pool S.stp (by intro _ z; cases z))⟩
theorem LS.up (S : LS p dw df ds ks g G Bt st H) : Same Bt (hide4 p dw df ds H) := hide_up (hide_up (hide_up (hide_up S.same S.bp) S.bw) S.bf) S.bs
theorem LS.grow (S : LS p dw df ds ks g G Bt st H) : LS p dw df ds ks g G (hide4 p dw df ds H) st H := ⟨hide4_same, hide4_p, hide4_w, hide4_f, hide4_s, S.pool, S.ways, S.fst, S.stp⟩
theorem LS.put (S : LS p dw df ds ks g G Bt st H) (nf : df ≠ ds) (nw : dw ≠ ds) {st' : Str → Int} : LS p dw df ds ks g G Bt st' (upd H ds (.dK (kd ks fun k => .int (st' k)))) :=
  ⟨S.same.mut S.bs, S.bp, S.bw, S.bf, S.bs, S.pool.put S.stp, by rw [upd_ne nw]; exact S.ways, by unfold ID; rw [upd_ne nf]; exact S.fst, upd_same⟩
/-- an address that is new is none of the four -/
theorem LS.new (S : LS p dw df ds ks g G Bt st H) {a : Addr} (h : H a = none) : hide4 p dw df ds H' a = H' a := by
  obtain ⟨o, hp⟩ := S.pool.some
  exact hide4_at (ne_of_none hp h).symm (ne_of_none S.ways h).symm (ne_of_none S.fst h).symm (ne_of_none S.stp h).symm
/-- a numbering made anew -/
theorem LS.num {CP CM : Addr} {q pp d3 : Addr} {st' : Str → Int} (S : LS p dw df ds ks g G Bt st H) (hX : NuX CP CM H H' q pp d3 G st') (hq : H q = none) (hP : PgU CP Bt pp G) (s : Same Bt (hide4 p dw df ds H')) : NuAt CP CM (hide4 p dw df ds H') q pp d3 G st' := by
  obtain ⟨dx, d1, d2, h1, h2, ⟨kO, h3, h3'⟩, h4, h5, _, _, f1, f2, f3⟩ := hX
  refine ⟨dx, d1, d2, by rw [S.new hq]; exact h1, hP.mono s, ⟨kO, ?_, h3'⟩, ?_, ?_⟩
  · unfold ID
    rw [S.new f1]
    exact h3
  · unfold ID
    rw [S.new f2]
    exact h4
  · unfold ID
    rw [S.new f3]
    exact h5
end
/-- the law's program, as far as the base knows it -/
structure LB (CP CM : Addr) (d dw le pp q d3 : Addr) (ks es : List Str) (g : Str → Addr) (G : Prg) (Bt : Hp) : Prop where
  prog : Bt d = some (.dK (pgD dw G.bg le))
  exs : Bt le = some (strL es)
  tups : ∀ k ∈ ks, Bt (g k) = some (tupO G.fr G.to k)
  num : NuAt CP CM Bt q pp d3 G G.base
theorem LB.mono {CP CM : Addr} {d dw le pp q d3 : Addr} {ks es : List Str} {g : Str → Addr} {G : Prg} {Bt Bt' : Hp} (h : LB CP CM d dw le pp q d3 ks es g G Bt) (s : Same Bt Bt') : LB CP CM d dw le pp q d3 ks es g G Bt' := ⟨s _ _ h.prog, s _ _ h.exs, fun k hk => s _ _ (h.tups k hk), h.num.mono s⟩
theorem LB.progU {CP CM : Addr} {p d dw le pp q d3 df ds : Addr} {ks es : List Str} {g : Str → Addr} {G : Prg} {Bt H : Hp} {st : Str → Int} (h : LB CP CM d dw le pp q d3 ks es g G Bt) (S : LS p dw df ds ks g G Bt st H) : ProgU H d ks es G := ⟨dw, le, S.same _ _ h.prog, ⟨g, S.ways, fun k hk => S.same _ _ (h.tups k hk)⟩, S.same _ _ h.exs⟩
theorem eqSt_perm {ks ws : List Str} {a b : Str → Int} (h : ks.Perm ws) : eqSt ks a b = eqSt ws a b := by
  unfold eqSt
  rw [Bool.eq_iff_iff, List.all_eq_true, List.all_eq_true]
  exact ⟨fun q x hx => q x (h.mem_iff.mpr hx), fun q x hx => q x (h.mem_iff.mp hx)⟩
end K23
namespace K23
open PySem PySem.Spec PyProof.Rows L2
def spLaw (K : PySem.W.Frag) : Sp := fun vs H Q _ => ∃ (a : Addr) (ns : List Int), vs = [.ref a] ∧ SqL K H a (ns.map V.int) ∧ ns.length ≤ 63 ∧ ∀ H', Q (.bl true) H'
theorem prog_ne {H : Hp} {d dw le : Addr} {b : Str} {ks : List Str} {g : Str → Addr} (h1 : H d = some (.dK (pgD dw b le))) (h2 : H dw = some (.dK (kd ks fun k => .ref (g k)))) (ne : ks ≠ []) : d ≠ dw := ne_of h1 h2 (by
  intro z
  have z' := HO.dK.inj z
  cases ks with
  | nil => exact ne rfl
  | cons a r =>
    have z2 := (List.cons.inj z').2
    cases r with
    | nil => cases z2
    | cons b r =>
      have z3 := (List.cons.inj z2).1
      cases (Prod.mk.inj z3).2)
theorem filter_no {α : Type} (l : List α) : (l.filter fun _ => false) = [] := List.filter_eq_nil_iff.mpr fun _ _ h => Bool.noConfusion h
section
variable {P : PySem.Program} {w : World} {K : PySem.W.Frag} {mg : Str → Option Value} {base : Heap} {CP CM CB fB : Addr} {f : Addr} {fd : FuncData}
theorem ok_law (LP : ClT K mg "Program" CP) (L : ClT K mg "Numbering" CM) (B : Blt mg) (DO : FnD P w K mg base CX0 3 "_law_opened" p_law_opened (spOpened K)) (DPr : FnD P w K mg base CX0 3 "_law_program" p_law_program spProgram)
    (DMd : FnD P w K mg base CX0 5 "_law_made" p_law_made (spMade CP)) (DN : MeD P w K mg base CX0 6 CM "__init__" p_M_init (spNuInit CP CM)) (DG : MeD P w K mg base CX0 3 CM "__getitem__" p_M_getitem (spNuGet CP CM)) (DD : FnD P w K mg base CX0 1 "_law_draw" p_law_draw spDraw)
    (DL : FnD P w K mg base CX0 2 "_law_levels" p_law_levels spLevels) (DMv : MeD P w K mg base (L2.CX P w) 9 CM "moved" p_M_moved (spMoved CP CM CB)) (DMy : PrD P w K mg base CX0 3 CM "many" p_M_many (spMany CP CM)) (DF : MeD P w K mg base CX0 2 CM "free" p_M_free (spFree CP CM))
    (DR : MeD P w K mg base CX0 5 CM "run" p_M_run (spNuRun CP CM)) (DC : MeD P w K mg base CX0 7 CM "__call__" p_M_call (spNuCall CP CM)) (DE : MeD P w K mg base CX0 3 CM "__eq__" p_M_eq (spNuEq CP CM)) (DRf : FnD P w K mg base CX0 11 "_law_refused" p_law_refused (spRefused CP CM))
    (T : FnT K mg "law" s_law p_law f fd) : FnOk P w K mg base CX0 12 f fd ["script"] (spLaw K) := by
  refine T.fn.ok sc_law (fun vs H Q E h => ?_) (fun cdv A outer s0 H vs Q E hr h => ?_)
  · obtain ⟨a, ns, rfl, _⟩ := h
    rfl
  · obtain ⟨a, ns, rfl, hs, n63, k⟩ := h
    have hu := hu_of hr
    have hr1 : Room 1 _ := hr.mono (by decide)
    have hr2 : Room 2 _ := hr.mono (by decide)
    have hr3 : Room 3 _ := hr.mono (by decide)
    have hr4 : Room 4 _ := hr.mono (by decide)
    have hr5 : Room 5 _ := hr.mono (by decide)
    have hr7 : Room 7 _ := hr.mono (by decide)
    have hr9 : Room 9 _ := hr.mono (by decide)
    refine ⟨_, pss_cons (ps_for PassesOwn.never rfl (pi_range1 (by rfl) B.range (pa_cons (pe_callB (call_max2 rfl) (by rfl) B.max (by decide +kernel) (pa_cons pe_int (pa_cons (pe_callB (call_min2 rfl) (by rfl) B.min (by decide +kernel) (pa_cons (pe_callB call_len (by rfl) B.len (by decide +kernel) (pa_cons (pv 0) pa_nil)) (pa_cons pe_int pa_nil))) pa_nil))) pa_nil)) (pg_name (i := 1) sc_law.nd rfl (Or.inl rfl))
        (pss_cons (ps_set (i := 2) sc_law.nd rfl (Or.inl rfl) (pe_f DO hr3 pass0 (pa_cons (pv 0) (pa_cons (pv 1) (pa_cons pe_int pa_nil))))) <|
        pss_cons (ps_set (i := 3) sc_law.nd rfl (Or.inl rfl) (pe_f DPr hr3 pass0 (pa_cons (pv 2) (pa_cons pe_int (pa_cons pe_int (pa_cons pe_bl pa_nil)))))) <|
        pss_cons (ps_set (i := 4) sc_law.nd rfl (Or.inr rfl) (pe_new L DN hr7 pass0 (pa_cons (pe_f DMd hr5 pass0 (pa_cons (pv 3) pa_nil)) pa_nil))) <|
        pss_cons (ps_set (i := 6) sc_law.nd rfl (Or.inr rfl) (pe_callTy (call_dictP rfl) (by rfl) B.dict (by decide +kernel) (pa_cons
          (pe_lock (pe_lc (own := [("way", 5)]) (g := gName 5) (tt := tYes) rfl sc_law.nd (pi_keys (pe_dget hu (pv 3) pe_str (fun _ _ => rfl))) (blkOk_by (own := [("way", 5)]) (N := N_law) (sc := defScope s_law) (by decide +kernel))
            (fun _ _ _ _ _ => pg_name (i := 5) sc_law.nd rfl (Or.inl rfl)) (fun _ _ _ _ _ => pts_nil) (fun _ _ _ _ _ => pe_tup (pa_cons (pv 5) (pa_cons (pe_gi (E := E0) (pv 4) (pv 5) DG hr4 pass0) pa_nil))))) pa_nil))) <|
        pss_cons (ps_asg (pe_tup (pa_cons (pe_callTy (call_dictP rfl) (by rfl) B.dict (by decide +kernel) (pa_cons
          (pe_lock (pe_lc (own := [("way", 5)]) (g := gName 5) (tt := tYes) rfl sc_law.nd (pi_keys (pv 6)) (blkOk_by (own := [("way", 5)]) (N := N_law) (sc := defScope s_law) (by decide +kernel))
            (fun _ _ _ _ _ => pg_name (i := 5) sc_law.nd rfl (Or.inl rfl)) (fun _ _ _ _ _ => pts_nil) (fun _ _ _ _ _ => pe_tup (pa_cons (pv 5) (pa_cons (pe_dget hu (pv 6) (pv 5) (fun _ _ => rfl)) pa_nil))))) pa_nil)) (pa_cons (pv 4) pa_nil)))
          (pg_tup (by rfl) (pgs_cons (pg_name (i := 7) sc_law.nd rfl (Or.inr rfl)) (pgs_cons (pg_name (i := 8) sc_law.nd rfl (Or.inr rfl)) pgs_nil)))) <|
        pss_cons (ps_for PassesOwn.never rfl (pi_range1 (by rfl) B.range (pa_cons (pe_f DD hr1 pass0 (pa_cons (pv 2) (pa_cons pe_int pa_nil))) pa_nil)) (pg_name (i := 9) sc_law.nd rfl (Or.inl rfl))
          (pss_cons (ps_set (i := 10) sc_law.nd rfl (Or.inl rfl) (pe_f DL hr2 pass0 (pa_cons (pv 2) (pa_cons (pv 3) pa_nil)))) <|
          pss_cons (ps_set (i := 8) sc_law.nd rfl (Or.inr rfl) (pe_m (pv 8) L.cl DMv hr9 passF (pa_cons (pv 10) pa_nil))) <|
          pss_cons (ps_for PassesOwn.never rfl (pi_list (pe_callB (call_sortedD rfl) (by rfl) B.sorted (by decide +kernel) (pa_cons (pe_dget hu (pv 3) pe_str (fun _ _ => rfl)) pa_nil))) (pg_name (i := 5) sc_law.nd rfl (Or.inl rfl))
            (pss_cons (ps_asg (pe_dget hu (pe_dget hu (pv 3) pe_str (fun _ _ => rfl)) (pv 5) (fun _ _ => rfl)) (pg_tup (by rfl) (pgs_cons (pg_name (i := 11) sc_law.nd rfl (Or.inl rfl)) (pgs_cons (pg_name (i := 12) sc_law.nd rfl (Or.inl rfl)) pgs_nil)))) <|
            pss_one (ps_dput hu (pv 7) (pv 5) (pe_op op_sub (pe_op op_add (pe_dget hu (pv 7) (pv 5) (fun _ _ => rfl)) (pe_dget hu (pv 10) (pv 12) (fun _ _ => rfl))) (pe_dget hu (pv 10) (pv 11) (fun _ _ => rfl))) rfl))) <|
          pss_cons (ps_if (pt_cmpR (op_neD hr.units) (pe_lock (pe_lc (own := [("way", 5)]) (g := gName 5) (te := tVar 5) rfl sc_law.nd (pi_keys (pv 7)) (blkOk_by (own := [("way", 5)]) (N := N_law) (sc := defScope s_law) (by decide +kernel))
            (fun _ _ _ _ _ => pg_name (i := 5) sc_law.nd rfl (Or.inl rfl)) (fun _ _ _ _ _ => pts_one (pt_cmpR op_ne (pe_gi (E := E0) (pv 8) (pv 5) DG hr4 pass0) (pe_dget hu (pv 7) (pv 5) (fun _ _ => rfl)) (nomark _))) (fun _ _ _ _ _ => pv 5))) (pe_lst pa_nil) (nomark _)) (pss_one (ps_ret pe_bl)) pss_nil) <|
          pss_cons (ps_if (pt_cmpR op_ne (pe_p (pv 8) L.cl DMy hr4 pass0) (pe_p (pv 4) L.cl DMy hr4 pass0) (nomark _)) (pss_one (ps_ret pe_bl)) pss_nil) <|
          pss_one (ps_if (pt_cmpR (op_neD hr.units) (pe_m0 (pv 8) L.cl DF hr2 pass0) (pe_lc (own := [("way", 5)]) (g := gName 5) (te := tVar 5) rfl sc_law.nd (pi_list (pe_callB (call_sortedD rfl) (by rfl) B.sorted (by decide +kernel) (pa_cons (pv 7) pa_nil))) (blkOk_by (own := [("way", 5)]) (N := N_law) (sc := defScope s_law) (by decide +kernel))
            (fun _ _ _ _ _ => pg_name (i := 5) sc_law.nd rfl (Or.inl rfl)) (fun _ _ _ _ _ => pts_one (pt_cmpR op_eq (pe_dget hu (pv 7) (pv 5) (fun _ _ => rfl)) pe_int (nomark _))) (fun _ _ _ _ _ => pv 5)) (nomark _)) (pss_one (ps_ret pe_bl)) pss_nil))) <|
        pss_cons (ps_for PassesOwn.never rfl (pi_range1 (by rfl) B.range (pa_cons (pe_callB (call_min2 rfl) (by rfl) B.min (by decide +kernel) (pa_cons (pe_p (pv 4) L.cl DMy hr4 pass0) (pa_cons pe_int pa_nil))) pa_nil)) (pg_name (i := 13) sc_law.nd rfl (Or.inl rfl))
          (pss_cons (ps_set (i := 14) sc_law.nd rfl (Or.inl rfl) (pe_m (pv 8) L.cl DR hr5 pass0 (pa_cons (pv 13) pa_nil))) <|
          pss_cons (ps_if (PW.pt (pw_or (pt_cmpR (op_neD hr.units) (pv 14) (pe_m (pv 4) L.cl DR hr5 pass0 (pa_cons (pv 13) pa_nil)) (nomark _)) (pw_or1 (pt_cmpR op_ne (pe_o (E := E0) (pv 8) DC hr7 pass0 (pa_cons (pv 14) pa_nil)) (pv 13) (nomark _))))) (pss_one (ps_ret pe_bl)) pss_nil) <|
          pss_one (ps_if (pt_cmpR op_ne (pe_callB (cr_sum rfl) (by rfl) B.sum (by decide +kernel) (pa_cons (pe_lc (own := [("way", 5)]) (g := gName 5) (tt := tYes) (te := tDGet (tVar 7) (tVar 5)) rfl sc_law.nd (pi_list (pv 14)) (blkOk_by (own := [("way", 5)]) (N := N_law) (sc := defScope s_law) (by decide +kernel))
            (fun _ _ _ _ _ => pg_name (i := 5) sc_law.nd rfl (Or.inl rfl)) (fun _ _ _ _ _ => pts_nil) (fun _ _ _ _ _ => pe_dget hu (pv 7) (pv 5) (fun _ _ => rfl))) pa_nil)) (pv 13) (nomark _)) (pss_one (ps_ret pe_bl)) pss_nil))) <|
        pss_cons (ps_if (pt_cmpR (op_neD hr.units) (pe_lock (pe_lc (own := [("way", 5)]) (g := gName 5) (te := tVar 5) rfl sc_law.nd (pi_keys (pv 6)) (blkOk_by (own := [("way", 5)]) (N := N_law) (sc := defScope s_law) (by decide +kernel))
            (fun _ _ _ _ _ => pg_name (i := 5) sc_law.nd rfl (Or.inl rfl)) (fun _ _ _ _ _ => pts_one (pt_cmpR op_ne (pe_gi (E := E0) (pv 4) (pv 5) DG hr4 pass0) (pe_dget hu (pv 6) (pv 5) (fun _ _ => rfl)) (nomark _))) (fun _ _ _ _ _ => pv 5))) (pe_lst pa_nil) (nomark _)) (pss_one (ps_ret pe_bl)) pss_nil) <|
        pss_cons (ps_if (pt_cmpR op_ne (pe_cmpR (op_eqOwn (E := E0) DE hr3 pass0) (pv 8) (pv 4) (by rfl)) (pe_cmpR (op_eqDI (Nat.lt_of_succ_lt hu)) (pv 7) (pv 6) (by rfl)) (by rfl)) (pss_one (ps_ret pe_bl)) pss_nil) <|
        pss_one (ps_if (pt_not (pt_val (pe_f DRf hr pass0 (pa_cons (pv 3) (pa_cons (pv 8) pa_nil))))) (pss_one (ps_ret pe_bl)) pss_nil))) <|
      pss_one (ps_ret pe_bl), ?_⟩
    -- how many cells
    refine ⟨_, rfl, _, _, rfl, .inl ⟨_, hs, rfl⟩, _, _, rfl, _, _, rfl, ?_⟩
    obtain ⟨j, hj, j1, j4, jn⟩ : ∃ j : Nat, (if (if (4 : Int) < ((ns.map V.int).length : Int) then (4 : Int) else ((ns.map V.int).length : Int)) > 1 then (if (4 : Int) < ((ns.map V.int).length : Int) then (4 : Int) else ((ns.map V.int).length : Int)) else 1) = (j : Int) ∧ 1 ≤ j ∧ j ≤ 4 ∧ (ns = [] ∨ j ≤ ns.length) := by
      rw [List.length_map]
      cases ns with
      | nil => exact ⟨1, by simp, Nat.le_refl _, by decide, .inl rfl⟩
      | cons x r =>
        rw [List.length_cons]
        by_cases c : (4 : Int) < ((r.length + 1 : Nat) : Int)
        · exact ⟨4, by rw [if_pos c]; decide, by decide, by decide, .inr (by omega)⟩
        · refine ⟨r.length + 1, ?_, by omega, by omega, .inr (Nat.le_refl _)⟩
          rw [if_neg c]
          split <;> omega
    refine ⟨_, rfl, ?_⟩
    rw [hj]
    refine ⟨by omega, by omega, ?_⟩
    rw [Int.toNat_natCast]
    refine for_any (n := j) (fun i σ' H' => ∃ (v1 v2 v3 v4 v5 v6 v7 v8 v9 v10 v11 v12 v13 v14 : Option V), σ' = [some (.ref a), v1, v2, v3, v4, v5, v6, v7, v8, v9, v10, v11, v12, v13, v14] ∧ Same H H')
      ⟨_, _, _, _, _, _, _, _, _, _, _, _, _, _, rfl, Same.refl _⟩ (fun i σ' H' hi _ => hi) (fun σ' H' _ => Nat.le_refl _) ?_ (fun σ' H' _ => k H')
    rintro i σ' Hk x Hk2 hi ⟨v1, v2, v3, v4, v5, v6, v7, v8, v9, v10, v11, v12, v13, v14, rfl, sk⟩ ⟨rfl, rfl⟩
    -- the pool, the program, its numbering
    refine ⟨_, rfl, _, rfl, a, ns, i, 90, ?_, sql_same sk hs, ?_, by omega, by decide, by decide, fun p H1 s1 fp hp => ?_⟩
    · show [V.ref a, V.int ((0 : Int) + (i : Int)), V.int 90] = [V.ref a, V.int (i : Int), V.int 90]
      rw [Int.zero_add]
    · exact jn.imp id fun h => Nat.lt_of_lt_of_le hi h
    refine ⟨_, rfl, p, rfl, hp, fun d ks es G H2 s2 hp2 hU F pk pe => ?_⟩
    have ok := F.ok
    have kne : ks ≠ [] := fun e => ok.wsE (by rw [e] at pk; exact List.nil_perm.mp pk)
    have ksN : ks.Nodup := pk.nodup_iff.mpr ok.wsN
    have ksL : ks.length ≤ 40 := by rw [pk.length_eq]; exact ok.wsL
    have ksW : ∀ {x : Str}, x ∈ ks → x ∈ G.ws := fun h => pk.mem_iff.mp h
    refine ⟨_, rfl, d, ks, es, G, rfl, hU, F, pk, pe, fun pp H3 s3 hV => ?_⟩
    intro q dxq hq hdx ndx
    obtain ⟨dxp, dp, lp, lx, do_, di, w1, ⟨gp, w2, w2'⟩, w3, w4, ⟨go, w5, w5'⟩, w6, w7, w8, w9⟩ := hV
    refine ⟨H3, q, dxq, pp, G, rfl, (Same.new hdx).mut hq, hq, upd_same, ⟨dxp, dp, lp, lx, do_, di, w1, ⟨gp, w2, w2'⟩, w3, w4, ⟨go, w5, w5'⟩, w6⟩, ok, fun d3 H4 s4 hX => ⟨rfl, ?_⟩⟩
    obtain ⟨dw, le, u1, ⟨g, u2, u2'⟩, u3⟩ := hU
    have s24 := s3.trans s4
    have hp4 := hp2.mono s24
    have ways4 := s24 _ _ u2
    -- the base
    obtain ⟨po, hpo⟩ := hp2.some
    have b1p : hide dw (hide p H4) p = none := hide_same.free hide_none
    have b1w : hide dw (hide p H4) dw = none := hide_none
    have sB1 : Same (hide dw (hide p H4)) H4 := hide_same.trans hide_same
    have nb : ∀ {b : Addr}, b ≠ p → b ≠ dw → hide dw (hide p H4) b = H4 b := fun h1 h2 => by rw [hide_at h2, hide_at h1]
    have new2 : ∀ {b : Addr} {o : HO}, H2 b = none → H4 b = some o → hide dw (hide p H4) b = some o := fun h h' => by rw [nb (ne_of_none hpo h).symm (ne_of_none u2 h).symm]; exact h'
    have keepT : ∀ {b : Addr} {o : HO}, H4 b = some o → (∀ xs, o ≠ .lst xs) → (∀ kvs, o ≠ .dK kvs) → hide dw (hide p H4) b = some o := fun {b o} h h1 h2 => by
      rw [hide_at (ne_of h ways4 (fun z => h2 _ z))]
      exact hide_keep hp4 h h1
    have keepS : ∀ {b : Addr} {xs : List Str}, H4 b = some (strL xs) → hide dw (hide p H4) b = some (strL xs) := fun {b xs} h => by
      rw [nb (hp4.ne h strs_noI) (ne_of h ways4 (by intro z; cases z))]
      exact h
    have LB1 : LB CP CM d dw le pp q d3 ks es g G (hide dw (hide p H4)) := by
      refine ⟨?_, keepS (s24 _ _ u3), fun x hx => keepT (s24 _ _ (u2' x hx)) (by intro _ z; cases z) (by intro _ z; cases z), ?_⟩
      · rw [hide_at (prog_ne (s24 _ _ u1) ways4 kne)]
        exact hide_keep hp4 (s24 _ _ u1) (by intro _ z; cases z)
      · obtain ⟨dxn, d1, d2, x1, x2, ⟨kO, x3, x3'⟩, x4, x5, _, _, f1, f2, f3⟩ := hX
        refine ⟨dxn, d1, d2, new2 (s3.free hq) x1, ⟨dxp, dp, lp, lx, do_, di, new2 w9 (s4 _ _ w1), ⟨gp, new2 w7 (s4 _ _ w2), fun x hx => keepT (s4 _ _ (w2' x hx)) (by intro _ z; cases z) (by intro _ z; cases z)⟩, keepS (s4 _ _ w3), keepS (s4 _ _ w4), ⟨go, new2 w8 (s4 _ _ w5), fun x hx => keepS (s4 _ _ (w5' x hx))⟩, w6⟩,
          ⟨kO, new2 (s3.free f1) x3, x3'⟩, new2 (s3.free f2) x4, new2 (s3.free f3) x5⟩
    have sk4 : ∀ b o, Hk2 b = some o → (b = dw ∧ H4 dw = some o) ∨ hide dw (hide p H4) b = some o := fun b o hb => by
      have e1 := s1 b o hb
      have np : b ≠ p := ne_of_none hb fp
      have e2 := s24 _ _ (s2 b o (by rw [hide_at np]; exact e1))
      by_cases c : b = dw
      · exact .inl ⟨c, by rw [← c]; exact e2⟩
      · exact .inr (by rw [nb np c]; exact e2)
    generalize hide dw (hide p H4) = B1 at b1p b1w sB1 LB1 sk4
    clear nb new2 keepT keepS s1 s2 s3 s4 hX w1 w2 w2' w3 w4 w5 w5' w6 w7 w8 w9 hq hdx ndx u1 u2 u2' u3 hp2 hp fp hpo s24
    -- the first steps
    refine ⟨dw, _, ways4, trivial, fun od => ?_⟩
    have k1 : upd H4 dw (.frz od (.dK (kd ks fun k => .ref (g k)))) dw = some (.frz od (.dK (kd ks fun k => .ref (g k)))) := upd_same
    have sl : Same B1 (upd H4 dw (.frz od (.dK (kd ks fun k => .ref (g k))))) := sB1.mut b1w
    refine ⟨_, rfl, d, _, rfl, .inl ⟨_, Sum.inr "ways", .inl (sl _ _ LB1.prog), rfl, pgd_ways.symm⟩, dw, od, rfl, .inl ⟨_, k1, fun Dx hDx => ?_⟩⟩
    refine lc_tup (si_keys k1) (Same.refl _) hDx (Nat.le_trans ksL (by decide)) ksN (fun x => V.int (G.base x)) (fun _ => rfl) (fun _ => by rfl) (fun x hx H1 s1 Q' c => ?_) fun Hx sx hPx => ?_
    · have nu := LB1.num.mono (sl.trans s1)
      exact ⟨_, rfl, _, rfl, nu.isI, q, pp, d3, G, G.base, x, rfl, nu, ok, ksW hx, fun H' s' => c _ s'⟩
    refine ⟨sx _ _ k1, ?_⟩
    obtain ⟨ps, kvs, c1, c2, c3⟩ := dictP_of (K := K) (hPx.unlock (u' := .dK (kd ks fun k => .ref (g k))) (sx _ _ k1) (by intro _ z; cases z) (by intro _ z; cases z)) ksN
    refine ⟨Dx, ps, kvs, rfl, c1, c2, fun df gdf => ?_⟩
    rw [c3]
    have sb := lock_back ways4 sx
    have s5 := sb.trans (Same.new (o := .dK (kd ks fun x => V.int (G.base x))) gdf)
    have fdf := sb.free gdf
    have hdf : upd (upd Hx dw (.dK (kd ks fun k => .ref (g k)))) df (.dK (kd ks fun x => V.int (G.base x))) df = some (.dK (kd ks fun x => V.int (G.base x))) := upd_same
    generalize upd (upd Hx dw (.dK (kd ks fun k => .ref (g k)))) df (.dK (kd ks fun x => V.int (G.base x))) = H5 at s5 hdf ⊢
    clear c1 c2 c3 hPx sb gdf hDx sx k1 sl
    -- the steps kept along
    refine ⟨df, _, hdf, trivial, fun od => ?_⟩
    have k1 : upd H5 df (.frz od (.dK (kd ks fun x => V.int (G.base x)))) df = some (.frz od (.dK (kd ks fun x => V.int (G.base x)))) := upd_same
    refine ⟨_, rfl, df, od, rfl, .inl ⟨_, k1, fun Dx hDx => ?_⟩⟩
    refine lc_tup (si_keys k1) (Same.refl _) hDx (Nat.le_trans ksL (by decide)) ksN (fun x => V.int (G.base x)) (fun _ => rfl) (fun _ => by rfl) (fun x hx H1 s1 Q' c => ?_) fun Hx sx hPx => ?_
    · exact ⟨_, rfl, _, rfl, df, _, rfl, .inl ⟨_, Sum.inr x, .inr ⟨od, s1 _ _ k1⟩, rfl, (kd_in (v := fun z => V.int (G.base z)) hx).symm⟩, c _ (Same.refl _)⟩
    refine ⟨sx _ _ k1, ?_⟩
    obtain ⟨ps, kvs, c1, c2, c3⟩ := dictP_of (K := K) (hPx.unlock (u' := .dK (kd ks fun x => V.int (G.base x))) (sx _ _ k1) (by intro _ z; cases z) (by intro _ z; cases z)) ksN
    refine ⟨Dx, ps, kvs, rfl, c1, c2, fun ds gds => ?_⟩
    rw [c3]
    have sb := lock_back hdf sx
    have s6 := sb.trans (Same.new (o := .dK (kd ks fun x => V.int (G.base x))) gds)
    have fds := sb.free gds
    have hds : upd (upd Hx df (.dK (kd ks fun x => V.int (G.base x)))) ds (.dK (kd ks fun x => V.int (G.base x))) ds = some (.dK (kd ks fun x => V.int (G.base x))) := upd_same
    generalize upd (upd Hx df (.dK (kd ks fun x => V.int (G.base x)))) ds (.dK (kd ks fun x => V.int (G.base x))) = H6 at s6 hds ⊢
    clear c1 c2 c3 hPx sb gds hDx sx k1
    refine ⟨_, rfl, (by show 2 ≤ sizeLine; decide), fun T hT => ⟨T, _, rfl, SqT.of upd_same, rfl, _, _, rfl, _, _, rfl, rfl, ?_⟩⟩
    have s7 := Same.new (o := .tup [V.ref ds, V.ref q]) hT
    have s47 := (s5.trans s6).trans s7
    have ndf : dw ≠ df := ne_of_none ways4 fdf
    have nds : dw ≠ ds := ne_of_none (s5 _ _ ways4) fds
    have nfs : df ≠ ds := ne_of_none hdf fds
    have S7 : LS p dw df ds ks g G B1 G.base (upd H6 T (.tup [V.ref ds, V.ref q])) :=
      ⟨sB1.trans s47, b1p, b1w, sB1.free fdf, (sB1.trans s5).free fds, hp4.mono s47, s47 _ _ ways4, (s6.trans s7) _ _ hdf, s7 _ _ hds⟩
    generalize upd H6 T (.tup [V.ref ds, V.ref q]) = H7 at S7 ⊢
    clear s47 s7 hds hdf s6 s5 fds fdf hT hp4
    have m1 := many_one ok ok.bgP
    -- the turns
    refine ⟨_, rfl, p, 4, rfl, S7.pool, by decide, fun m H8 m0 m4 s8 hp8 => ⟨_, rfl, by omega, by omega, ?_⟩⟩
    refine for_any (n := m.toNat) (fun t σ' H' => ∃ (Bt : Hp) (q' d3' : Addr) (st lv : Str → Int) (v5 v9 v10 v11 v12 : Option V), σ' = [some (.ref a), some (.int ((0 : Int) + (i : Int))), some (.ref p), some (.ref d), some (.ref q), v5, some (.ref df), some (.ref ds), some (.ref q'), v9, v10, v11, v12, v13, v14] ∧ LS p dw df ds ks g G Bt st H' ∧ Same B1 Bt ∧ NuAt CP CM Bt q' pp d3' G st ∧ (∀ x ∈ G.bg :: G.ex, lv x = 0) ∧ ∀ x ∈ G.ws, st x = G.base x + lv (G.to x) - lv (G.fr x))
      ⟨B1, q, d3, G.base, fun _ => 0, _, _, _, _, _, rfl, S7.draw s8 hp8, Same.refl _, LB1.num, fun _ _ => rfl, fun x _ => by show G.base x = G.base x + 0 - 0; omega⟩ (fun t σ' H' hi _ => hi) (fun σ' H' _ => Nat.le_refl _) ?_ ?_
    · clear S7 s8 hp8
      rintro t σ' H8' x H9 hi ⟨Bt, q', d3', st, lv, v5, v9, v10, v11, v12, rfl, S, sBt, nu, hz, hst⟩ ⟨rfl, rfl⟩
      have hb := LB1.mono sBt
      refine ⟨_, rfl, _, rfl, p, d, ks, es, G, rfl, S.pool, hb.progU S, F, pk, pe, fun dl lv2 H10 s10 hp10 hI hz2 fdl => ?_⟩
      have S10 := S.draw s10 hp10
      have nu10 := nu.mono S10.same
      refine ⟨_, rfl, nu10.isO, _, rfl, q', pp, d3', G, st, .ref dl, rfl, nu10, ok, .inr ⟨dl, lv2, rfl, hI, hz2, fun q2 d32 H11 s11 f2 hX => ?_⟩⟩
      have S11 := S10.mono s11
      have sG := S11.up
      have hPU : PgU CP Bt pp G := by
        obtain ⟨_, _, _, _, z, _⟩ := nu
        exact z
      have nu2 := S10.num hX f2 hPU sG
      have Sg := S11.grow
      have hIg : ID (hide4 p dw df ds H11) dl G.pl lv2 := by
        unfold ID
        rw [S.new fdl]
        exact hI.mono s11
      have hb2 := hb.mono sG
      have sB2 := sBt.trans sG
      generalize hide4 p dw df ds H11 = Bn at sG nu2 Sg hIg hb2 sB2
      clear S11 S10 hX s10 hp10 hI s11 nu10
      -- the steps kept along
      refine ⟨_, rfl, d, _, rfl, .inl ⟨_, Sum.inr "ways", .inl (Sg.same _ _ hb2.prog), rfl, pgd_ways.symm⟩, dw, _, ks, rfl, .inl Sg.ways, kd_keys _ _, by omega, fun ys ly hperm hsort hly => ⟨ly, rfl, ⟨_, SqL.of upd_same⟩, ?_⟩⟩
      have e1 : ys = G.ws := sorted_unique hsort ok.wsS (hperm.trans pk)
      subst e1
      have S12 := Sg.mono (Same.new (o := .lst (G.ws.map V.str)) hly)
      refine for_si (si_list one_at) (fun u σ' H' => ∃ (v5 v11 v12 : Option V), σ' = [some (.ref a), some (.int ((0 : Int) + (i : Int))), some (.ref p), some (.ref d), some (.ref q), v5, some (.ref df), some (.ref ds), some (.ref q2), some (.int ((0 : Int) + (t : Int))), some (.ref dl), v11, v12, v13, v14] ∧ H' ly = some (strL G.ws) ∧ LS p dw df ds ks g G Bn (fun x => if x ∈ G.ws.take u then movS G st lv2 x else st x) H')
        ⟨v5, v11, v12, rfl, upd_same, ⟨S12.same, S12.bp, S12.bw, S12.bf, S12.bs, S12.pool, S12.ways, S12.fst, by
          refine S12.stp.trans ?_
          congr 2⟩⟩ (fun u σ' H' ⟨_, _, _, _, z, _⟩ => same_one z) ?_ ?_
      · clear S12 hly
        rintro u x σ' H' hx ⟨v5, v11, v12, rfl, hly, S12⟩
        have xw := List.mem_of_getElem? hx
        have xk := pk.mem_iff.mpr xw
        have nx := take_not ok.wsN hx
        refine ⟨_, rfl, d, _, rfl, .inl ⟨_, Sum.inr "ways", .inl (S12.same _ _ hb2.prog), rfl, pgd_ways.symm⟩, _, rfl, dw, _, rfl, .inl ⟨_, Sum.inr x, .inl S12.ways, rfl, (kd_in (v := fun z => V.ref (g z)) xk).symm⟩, g x, _, rfl, SqT.of (S12.same _ _ (hb2.tups x xk)), rfl, _, _, rfl, _, _, rfl, rfl, ?_⟩
        refine ⟨_, rfl, _, rfl, ds, _, rfl, .inl ⟨_, Sum.inr x, .inl S12.stp, rfl, (kd_in (v := fun z => V.int (if z ∈ G.ws.take u then movS G st lv2 z else st z)) xk).symm⟩, ?_⟩
        refine ⟨_, rfl, _, rfl, dl, _, rfl, .inl ⟨_, Sum.inr (G.to x), .inl (S12.same _ _ hIg), rfl, (kd_in (v := fun z => V.int (lv2 z)) (ok.toP x xw)).symm⟩, _, _, rfl, rfl, ?_⟩
        refine ⟨_, rfl, _, rfl, dl, _, rfl, .inl ⟨_, Sum.inr (G.fr x), .inl (S12.same _ _ hIg), rfl, (kd_in (v := fun z => V.int (lv2 z)) (ok.frP x xw)).symm⟩, _, _, rfl, rfl, ?_⟩
        refine ⟨_, rfl, _, rfl, ds, _, rfl, DPut.k (k := Sum.inr x) S12.stp (by rw [kd_len]; exact Nat.lt_of_le_of_lt ksL (by decide)), ?_⟩
        have e3 : putK (kd ks fun z => V.int (if z ∈ G.ws.take u then movS G st lv2 z else st z)) (.inr x) (.int ((if x ∈ G.ws.take u then movS G st lv2 x else st x) + lv2 (G.to x) - lv2 (G.fr x))) = kd ks fun z => .int (if z ∈ G.ws.take (u + 1) then movS G st lv2 z else st z) := by
          rw [kd_put_in xk]
          refine kd_congr fun z hz => ?_
          by_cases c : z = x
          · subst c
            rw [setF_same, if_neg nx, if_pos (by rw [take_snoc hx]; exact List.mem_append_right _ List.mem_cons_self)]
            rfl
          · rw [setF_ne c]
            have : z ∈ G.ws.take (u + 1) ↔ z ∈ G.ws.take u := by
              rw [take_snoc hx, List.mem_append]
              exact ⟨fun h => h.elim id fun h => absurd (List.mem_singleton.mp h) c, .inl⟩
            simp only [this]
        have S13 := S12.put nfs nds (st' := fun z => if z ∈ G.ws.take (u + 1) then movS G st lv2 z else st z)
        refine ⟨_, _, _, rfl, ?_, ?_⟩
        · rw [upd_ne (ne_of hly S12.stp (by intro z; cases z))]
          exact hly
        · rw [← e3] at S13
          exact S13
      clear S12 hly
      rintro σ' H12 ⟨v5, v11, v12, rfl, hly, S12⟩
      have S13 : LS p dw df ds ks g G Bn (movS G st lv2) H12 := ⟨S12.same, S12.bp, S12.bw, S12.bf, S12.bs, S12.pool, S12.ways, S12.fst, by
        refine S12.stp.trans ?_
        congr 2
        refine kd_congr fun z hz => ?_
        show V.int (if z ∈ G.ws.take G.ws.length then movS G st lv2 z else st z) = _
        rw [List.take_length, if_pos (ksW hz)]⟩
      clear S12 hly
      -- [..] != []
      refine ⟨ds, _, S13.stp, trivial, fun od => ?_⟩
      have k1 : upd H12 ds (.frz od (.dK (kd ks fun z => V.int (movS G st lv2 z)))) ds = some (.frz od (.dK (kd ks fun z => V.int (movS G st lv2 z)))) := upd_same
      have sl : Same Bn (upd H12 ds (.frz od (.dK (kd ks fun z => V.int (movS G st lv2 z))))) := S13.same.mut S13.bs
      refine ⟨_, rfl, ds, od, rfl, .inl ⟨_, k1, fun Dx hDx => ?_⟩⟩
      refine lc_si (si_keys k1) (Same.refl _) hDx (Nat.le_trans ksL (by decide)) (fun _ => false) V.str (fun _ => rfl) (fun y hy => ?_) (fun y hy z => Bool.noConfusion z) fun Hx sx hDx' => ?_
      · intro H1 s1 Q' c
        have nu3 := nu2.mono (sl.trans s1)
        refine ⟨_, rfl, _, rfl, nu3.isI, q2, pp, d32, G, _, y, rfl, nu3, ok, ksW hy, fun H' s' => ⟨_, rfl, _, rfl, ds, _, rfl, .inl ⟨_, Sum.inr y, .inr ⟨od, s' _ _ (s1 _ _ k1)⟩, rfl, (kd_in (v := fun z => V.int (movS G st lv2 z)) hy).symm⟩, rfl, _, rfl, ?_⟩⟩
        rw [decide_eq_true rfl]
        exact c _ s'
      rw [filter_no] at hDx'
      refine ⟨sx _ _ k1, ?_⟩
      have sb := lock_back S13.stp sx
      have hDy : upd Hx ds (.dK (kd ks fun z => V.int (movS G st lv2 z))) Dx = some (strL []) := by rw [upd_ne (ne_of hDx' (sx _ _ k1) (by intro z; cases z))]; exact hDx'
      refine ⟨Nat.zero_le _, fun le0 hle0 => ?_⟩
      have sb2 := sb.trans (Same.new (o := strL []) hle0)
      refine neD_strs (Same.new (o := strL []) hle0 _ _ hDy) upd_same (fun x hx => absurd hx List.not_mem_nil) (fun x hx => absurd hx List.not_mem_nil) ⟨_, rfl, ?_⟩
      rw [decide_eq_true rfl]
      refine iteF ?_
      have S14 := S13.mono sb2
      show tSeq _ _ _ _ (upd (upd Hx ds (.dK (kd ks fun z => V.int (movS G st lv2 z)))) le0 (strL []))
      generalize upd (upd Hx ds (.dK (kd ks fun z => V.int (movS G st lv2 z)))) le0 (strL []) = H14 at S14 ⊢
      clear sb2 hle0 hDy sb sx hDx' hDx k1 sl S13
      -- many
      have nu4 := nu2.mono S14.same
      have num4 := hb2.num.mono S14.same
      refine ⟨_, rfl, nu4.isI, q2, pp, d32, G, _, rfl, nu4, ok, _, rfl, num4.isI, q, pp, d3, G, G.base, rfl, num4, ok, rfl, _, rfl, ?_⟩
      rw [decide_eq_true rfl]
      refine iteF ?_
      -- free
      refine ⟨_, rfl, nu4.isO, q2, pp, d32, G, _, rfl, nu4, ok, fun l1 H15 s15 fl1 hl1 => ?_⟩
      have S15 := S14.mono s15
      refine ⟨_, rfl, ds, _, ks, rfl, .inl S15.stp, kd_keys _ _, by omega, fun ys ly hperm hsort hly => ⟨ly, rfl, ⟨_, SqL.of upd_same⟩, fun Dx hDx => ?_⟩⟩
      have e1 : ys = G.ws := sorted_unique hsort ok.wsS (hperm.trans pk)
      subst e1
      have s16 := Same.new (o := .lst (G.ws.map V.str)) hly
      refine lc_si (si_list (B := upd H15 ly (.lst (G.ws.map V.str))) upd_same) (Same.refl _) hDx (Nat.le_trans ok.wsL (by decide)) (fun y => decide (movS G st lv2 y = 0)) V.str (fun _ => rfl) (fun y hy => ?_) (fun y hy _ => pu_var rfl) fun Hx sx hDx' => ?_
      · intro H1 s1 Q' c
        refine ⟨_, rfl, _, rfl, ds, _, rfl, .inl ⟨_, Sum.inr y, .inl ((s16.trans s1) _ _ S15.stp), rfl, (kd_in (v := fun z => V.int (movS G st lv2 z)) (pk.mem_iff.mpr hy)).symm⟩, rfl, _, rfl, ?_⟩
        have e : decide (V.int (movS G st lv2 y) = V.int 0) = decide (movS G st lv2 y = 0) := by simp
        rw [e]
        exact c _ (Same.refl _)
      have s17 := s16.trans sx
      have wf : ∀ x ∈ (G.ws.filter fun x => decide (movS G st lv2 x = 0)), Word x := fun x hx => ok.wsW x (List.mem_filter.mp hx).1
      refine neD_strs (s17 _ _ hl1) hDx' wf wf ⟨_, rfl, ?_⟩
      rw [decide_eq_true rfl]
      refine iteF ?_
      have S16 := S15.mono s17
      refine ⟨Bn, q2, d32, movS G st lv2, fun x => lv x + lv2 x, _, _, _, _, _, rfl, S16, sB2, nu2, fun x hx => ?_, fun x hx => ?_⟩
      · show lv x + lv2 x = 0
        rw [hz x hx, hz2 x hx]
        rfl
      · show st x + lv2 (G.to x) - lv2 (G.fr x) = G.base x + (lv (G.to x) + lv2 (G.to x)) - (lv (G.fr x) + lv2 (G.fr x))
        rw [hst x hx]
        omega
    clear S7 s8 hp8
    rintro σ' H8 ⟨Bt, q', d3', st, lv, v5, v9, v10, v11, v12, rfl, S, sBt, nu, hz, hst⟩
    have hb := LB1.mono sBt
    -- the runs
    have num := hb.num.mono S.same
    have nuN := nu.mono S.same
    refine ⟨_, rfl, num.isI, q, pp, d3, G, G.base, rfl, num, ok, _, _, rfl, ?_⟩
    obtain ⟨r, hr0, r30, rm⟩ : ∃ r : Nat, (if (30 : Int) < G.many G.bg then (30 : Int) else G.many G.bg) = (r : Int) ∧ r ≤ 30 ∧ (r : Int) ≤ G.many G.bg := by
      by_cases c : (30 : Int) < G.many G.bg
      · exact ⟨30, by rw [if_pos c]; rfl, Nat.le_refl _, by omega⟩
      · exact ⟨(G.many G.bg).toNat, by rw [if_neg c]; omega, by omega, by omega⟩
    rw [hr0]
    refine ⟨_, rfl, by omega, by omega, ?_⟩
    rw [Int.toNat_natCast]
    refine for_any (n := r) (fun u σ' H' => ∃ v13 v14 : Option V, σ' = [some (.ref a), some (.int ((0 : Int) + (i : Int))), some (.ref p), some (.ref d), some (.ref q), v5, some (.ref df), some (.ref ds), some (.ref q'), v9, v10, v11, v12, v13, v14] ∧ Same H8 H')
      ⟨_, _, rfl, Same.refl _⟩ (fun u σ' H' hi _ => hi) (fun σ' H' _ => Nat.le_refl _) ?_ ?_
    · rintro u σ' H9 x H10 hu2 ⟨v13, v14, rfl, s9⟩ ⟨rfl, rfl⟩
      have nu9 := nuN.mono s9
      have a0 : (0 : Int) ≤ (0 : Int) + (u : Int) := by omega
      have a1 : (0 : Int) + (u : Int) < G.many G.bg := by omega
      obtain ⟨e, wk, ex, sm⟩ := runL_ok ok 6 G.bg ((0 : Int) + (u : Int)) ok.bgP (Nat.sub_le _ _) a0 a1
      have wr : ∀ x ∈ G.runOf ((0 : Int) + (u : Int)), Word x := fun x hx => ok.wsW x (walk_mem wk x hx)
      have sumst : ((G.runOf ((0 : Int) + (u : Int))).map st).sum = (0 : Int) + (u : Int) := by
        have := moved_sum hst wk
        rw [hz e (List.mem_cons_of_mem _ ex), hz G.bg List.mem_cons_self] at this
        unfold Prg.runOf
        omega
      have rl : (G.runOf ((0 : Int) + (u : Int))).length ≤ 1000 := by
        have := walk_len ok ok.bgP wk
        unfold Prg.runOf
        omega
      refine ⟨_, rfl, nu9.isO, _, rfl, q', pp, d3', G, st, _, rfl, nu9, ok, a0, a1, fun l1 H11 s11 fl1 hl1 => ?_⟩
      have num11 := num.mono (s9.trans s11)
      refine ⟨_, rfl, _, rfl, num11.isO, _, rfl, q, pp, d3, G, G.base, _, rfl, num11, ok, a0, a1, fun l2 H12 s12 fl2 hl2 => ?_⟩
      refine neD_strs (s12 _ _ hl1) hl2 wr wr ⟨_, rfl, ?_⟩
      rw [decide_eq_true rfl]
      refine iteF ?_
      have s912 := (s9.trans s11).trans s12
      have nu12 := nuN.mono s912
      refine ⟨_, rfl, q', rfl, _, rfl, nu12.isI, q', pp, d3', G, st, l1, _, e, rfl, nu12, ok, s12 _ _ hl1, wk, ex, fun H13 s13 => ?_⟩
      have sumst' : ((G.runL 6 G.bg ((0 : Int) + (u : Int))).map st).sum = (0 : Int) + (u : Int) := sumst
      refine ⟨_, rfl, rfl, _, rfl, ?_⟩
      rw [show decide (V.int (List.map st (G.runOf ((0 : Int) + (u : Int)))).sum = V.int ((0 : Int) + (u : Int))) = true from decide_eq_true (by rw [sumst])]
      refine iteF ?_
      have hl13 := s13 _ _ (s12 _ _ hl1)
      have S13 := S.mono (s912.trans s13)
      refine ⟨_, rfl, l1, rfl, ⟨_, SqL.of hl13⟩, fun Dx hDx => lc_si (si_list hl13) (Same.refl _) hDx rl (fun _ => true) (fun y => .int (st y)) (fun _ => rfl) (fun _ _ => puT_yes) (fun y hy _ => ?_) fun H14 s14 hD14 => ?_⟩
      · intro H1 s1 Q' c
        exact ⟨_, rfl, _, rfl, ds, _, rfl, .inl ⟨_, Sum.inr y, .inl (s1 _ _ S13.stp), rfl, (kd_in (v := fun z => V.int (st z)) (pk.mem_iff.mpr (walk_mem wk y hy))).symm⟩, c _ (Same.refl _)⟩
      rw [filter_yes] at hD14
      refine ⟨Dx, (G.runOf ((0 : Int) + (u : Int))).map st, rfl, SqL.of (by rw [List.map_map]; exact hD14), _, rfl, rfl, _, rfl, ?_⟩
      rw [show decide (V.int (List.map st (G.runOf ((0 : Int) + (u : Int)))).sum = V.int ((0 : Int) + (u : Int))) = true from decide_eq_true (by rw [sumst])]
      exact iteF ⟨_, _, rfl, (s912.trans s13).trans s14⟩
    rintro σ' H9 ⟨v13, v14, rfl, s9⟩
    have S9 := S.mono s9
    -- the first numbering
    refine ⟨df, _, S9.fst, trivial, fun od => ?_⟩
    have k1 : upd H9 df (.frz od (.dK (kd ks fun z => V.int (G.base z)))) df = some (.frz od (.dK (kd ks fun z => V.int (G.base z)))) := upd_same
    have sl : Same Bt (upd H9 df (.frz od (.dK (kd ks fun z => V.int (G.base z))))) := S9.same.mut S9.bf
    refine ⟨_, rfl, df, od, rfl, .inl ⟨_, k1, fun Dx hDx => ?_⟩⟩
    refine lc_si (si_keys k1) (Same.refl _) hDx (Nat.le_trans ksL (by decide)) (fun _ => false) V.str (fun _ => rfl) (fun y hy => ?_) (fun y hy z => Bool.noConfusion z) fun Hx sx hDx' => ?_
    · intro H1 s1 Q' c
      have nu3 := hb.num.mono (sl.trans s1)
      refine ⟨_, rfl, _, rfl, nu3.isI, q, pp, d3, G, _, y, rfl, nu3, ok, ksW hy, fun H' s' => ⟨_, rfl, _, rfl, df, _, rfl, .inl ⟨_, Sum.inr y, .inr ⟨od, s' _ _ (s1 _ _ k1)⟩, rfl, (kd_in (v := fun z => V.int (G.base z)) hy).symm⟩, rfl, _, rfl, ?_⟩⟩
      rw [decide_eq_true rfl]
      exact c _ s'
    rw [filter_no] at hDx'
    refine ⟨sx _ _ k1, ?_⟩
    have sb := lock_back S9.fst sx
    have hDy : upd Hx df (.dK (kd ks fun z => V.int (G.base z))) Dx = some (strL []) := by rw [upd_ne (ne_of hDx' (sx _ _ k1) (by intro z; cases z))]; exact hDx'
    refine ⟨Nat.zero_le _, fun le0 hle0 => ?_⟩
    have sb2 := sb.trans (Same.new (o := strL []) hle0)
    refine neD_strs (Same.new (o := strL []) hle0 _ _ hDy) upd_same (fun x hx => absurd hx List.not_mem_nil) (fun x hx => absurd hx List.not_mem_nil) ⟨_, rfl, ?_⟩
    rw [decide_eq_true rfl]
    refine iteF ?_
    have S14 := S9.mono sb2
    show tSeq _ _ _ _ (upd (upd Hx df (.dK (kd ks fun z => V.int (G.base z)))) le0 (strL []))
    generalize upd (upd Hx df (.dK (kd ks fun z => V.int (G.base z)))) le0 (strL []) = H14 at S14 ⊢
    clear sb2 hle0 hDy sb sx hDx' hDx k1 sl S9
    -- equal movings
    have nu14 := nu.mono S14.same
    have num14 := hb.num.mono S14.same
    refine ⟨_, rfl, _, rfl, nu14.isI, num14.isI, q', q, pp, d3', d3, G, st, G.base, rfl, nu14, num14, fun H15 s15 => ⟨_, rfl, ?_⟩⟩
    have S15 := S14.mono s15
    refine ⟨_, rfl, _, rfl, ds, df, _, _, rfl, rfl, S15.stp, S15.fst, by rw [kd_len, kd_len], kd_isInt, kd_isInt', rfl, _, rfl, ?_⟩
    rw [show decide (V.bl (eqSt G.ws st G.base) = V.bl ((kd ks fun k => V.int (st k)).all fun p => decide (valV (kd ks fun k => V.int (G.base k)) p.1 = some p.2))) = true from decide_eq_true (by rw [kd_all, eqSt_perm pk])]
    refine iteF ?_
    -- what is refused
    refine ⟨_, rfl, _, rfl, d, ks, es, q', pp, d3', G, st, rfl, hb.progU S15, F, pk, pe, nu.mono S15.same, fun H16 s16 => ⟨true, rfl, iteF ?_⟩⟩
    have S16 := S15.mono s16
    refine ⟨_, _, _, _, _, _, _, _, _, _, _, _, _, _, rfl, sk.trans fun b o hb' => ?_⟩
    rcases sk4 b o hb' with ⟨c, h⟩ | h
    · rw [ways4] at h
      cases h
      rw [c]
      exact S16.ways
    · exact S16.same _ _ (sBt _ _ h)
end
end K23
namespace K23
open PySem L2
def lawLevel : Nat := 40
theorem law_all {P : PySem.Program} {w : World} {K : PySem.W.Frag} {mg : Str → Option Value} {base : Heap} {CP CM CB fB : Addr} (L_P : ClT K mg "Program" CP) (L_M : ClT K mg "Numbering" CM) (B : Blt mg) (Z : Fld K CP CM) (V : PySem.LvX.LvT K mg CB fB)
    {f_is_integer : Addr} {d_is_integer : FuncData} (D_is_integer : FnT K mg "is_integer" s_is_integer p_is_integer f_is_integer d_is_integer)
    {f_is_word : Addr} {d_is_word : FuncData} (D_is_word : FnT K mg "is_word" s_is_word p_is_word f_is_word d_is_word)
    {f_are_ways : Addr} {d_are_ways : FuncData} (D_are_ways : FnT K mg "are_ways" s_are_ways p_are_ways f_are_ways d_are_ways)
    {f_come_to : Addr} {d_come_to : FuncData} (D_come_to : FnT K mg "come_to" s_come_to p_come_to f_come_to d_come_to)
    {f_check_program : Addr} {d_check_program : FuncData} (D_check_program : FnT K mg "check_program" s_check_program p_check_program f_check_program d_check_program)
    {f_end_of : Addr} {d_end_of : FuncData} (D_end_of : FnT K mg "end_of" s_end_of p_end_of f_end_of d_end_of)
    {f_is_run : Addr} {d_is_run : FuncData} (D_is_run : FnT K mg "is_run" s_is_run p_is_run f_is_run d_is_run)
    {f_check_rings : Addr} {d_check_rings : FuncData} (D_check_rings : FnT K mg "check_rings" s_check_rings p_check_rings f_check_rings d_check_rings)
    {f_ways_on : Addr} {d_ways_on : FuncData} (D_ways_on : FnT K mg "ways_on" s_ways_on p_ways_on f_ways_on d_ways_on)
    {f_first_steps : Addr} {d_first_steps : FuncData} (D_first_steps : FnT K mg "first_steps" s_first_steps p_first_steps f_first_steps d_first_steps)
    {f_are_whole : Addr} {d_are_whole : FuncData} (D_are_whole : FnT K mg "are_whole" s_are_whole p_are_whole f_are_whole d_are_whole)
    {f_law_numbers : Addr} {d_law_numbers : FuncData} (D_law_numbers : FnT K mg "_law_numbers" s_law_numbers p_law_numbers f_law_numbers d_law_numbers)
    {f_law_pool : Addr} {d_law_pool : FuncData} (D_law_pool : FnT K mg "_law_pool" s_law_pool p_law_pool f_law_pool d_law_pool)
    {f_law_draw : Addr} {d_law_draw : FuncData} (D_law_draw : FnT K mg "_law_draw" s_law_draw p_law_draw f_law_draw d_law_draw)
    {f_law_opened : Addr} {d_law_opened : FuncData} (D_law_opened : FnT K mg "_law_opened" s_law_opened p_law_opened f_law_opened d_law_opened)
    {f_law_words : Addr} {d_law_words : FuncData} (D_law_words : FnT K mg "_law_words" s_law_words p_law_words f_law_words d_law_words)
    {f_law_names : Addr} {d_law_names : FuncData} (D_law_names : FnT K mg "_law_names" s_law_names p_law_names f_law_names d_law_names)
    {f_law_program : Addr} {d_law_program : FuncData} (D_law_program : FnT K mg "_law_program" s_law_program p_law_program f_law_program d_law_program)
    {f_law_made : Addr} {d_law_made : FuncData} (D_law_made : FnT K mg "_law_made" s_law_made p_law_made f_law_made d_law_made)
    {f_law_places : Addr} {d_law_places : FuncData} (D_law_places : FnT K mg "_law_places" s_law_places p_law_places f_law_places d_law_places)
    {f_law_levels : Addr} {d_law_levels : FuncData} (D_law_levels : FnT K mg "_law_levels" s_law_levels p_law_levels f_law_levels d_law_levels)
    {f_law_told : Addr} {d_law_told : FuncData} (D_law_told : FnT K mg "_law_told" s_law_told p_law_told f_law_told d_law_told)
    {f_law_refused : Addr} {d_law_refused : FuncData} (D_law_refused : FnT K mg "_law_refused" s_law_refused p_law_refused f_law_refused d_law_refused)
    {f_law : Addr} {d_law : FuncData} (D_law : FnT K mg "law" s_law p_law f_law d_law)
    {f_P_init : Addr} {d_P_init : FuncData} (D_P_init : MeT K CP "__init__" "Program.__init__" s_P_init p_P_init f_P_init d_P_init)
    {f_P_are_exits : Addr} {d_P_are_exits : FuncData} (D_P_are_exits : MeT K CP "are_exits" "Program.are_exits" s_P_are_exits p_P_are_exits f_P_are_exits d_P_are_exits)
    {f_P_ways_at : Addr} {d_P_ways_at : FuncData} (D_P_ways_at : MeT K CP "ways_at" "Program.ways_at" s_P_ways_at p_P_ways_at f_P_ways_at d_P_ways_at)
    {f_P_ways : Addr} {d_P_ways : FuncData} (D_P_ways : MeT K CP "ways" "Program.ways" s_P_ways p_P_ways f_P_ways d_P_ways)
    {f_P_places : Addr} {d_P_places : FuncData} (D_P_places : MeT K CP "places" "Program.places" s_P_places p_P_places f_P_places d_P_places)
    {f_P_exits : Addr} {d_P_exits : FuncData} (D_P_exits : MeT K CP "exits" "Program.exits" s_P_exits p_P_exits f_P_exits d_P_exits)
    {f_P_contains : Addr} {d_P_contains : FuncData} (D_P_contains : MeT K CP "__contains__" "Program.__contains__" s_P_contains p_P_contains f_P_contains d_P_contains)
    {f_P_getitem : Addr} {d_P_getitem : FuncData} (D_P_getitem : MeT K CP "__getitem__" "Program.__getitem__" s_P_getitem p_P_getitem f_P_getitem d_P_getitem)
    {f_P_check_place : Addr} {d_P_check_place : FuncData} (D_P_check_place : MeT K CP "check_place" "Program.check_place" s_P_check_place p_P_check_place f_P_check_place d_P_check_place)
    {f_P_leaving : Addr} {d_P_leaving : FuncData} (D_P_leaving : MeT K CP "leaving" "Program.leaving" s_P_leaving p_P_leaving f_P_leaving d_P_leaving)
    {f_P_eq : Addr} {d_P_eq : FuncData} (D_P_eq : MeT K CP "__eq__" "Program.__eq__" s_P_eq p_P_eq f_P_eq d_P_eq)
    {f_P_path : Addr} {d_P_path : FuncData} (D_P_path : MeT K CP "path" "Program.path" s_P_path p_P_path f_P_path d_P_path)
    {f_P_find_ring : Addr} {d_P_find_ring : FuncData} (D_P_find_ring : MeT K CP "find_ring" "Program.find_ring" s_P_find_ring p_P_find_ring f_P_find_ring d_P_find_ring)
    {f_M_init : Addr} {d_M_init : FuncData} (D_M_init : MeT K CM "__init__" "Numbering.__init__" s_M_init p_M_init f_M_init d_M_init)
    {f_M_getitem : Addr} {d_M_getitem : FuncData} (D_M_getitem : MeT K CM "__getitem__" "Numbering.__getitem__" s_M_getitem p_M_getitem f_M_getitem d_M_getitem)
    {f_M_call : Addr} {d_M_call : FuncData} (D_M_call : MeT K CM "__call__" "Numbering.__call__" s_M_call p_M_call f_M_call d_M_call)
    {f_M_run : Addr} {d_M_run : FuncData} (D_M_run : MeT K CM "run" "Numbering.run" s_M_run p_M_run f_M_run d_M_run)
    {f_M_with_levels : Addr} {d_M_with_levels : FuncData} (D_M_with_levels : MeT K CM "with_levels" "Numbering.with_levels" s_M_with_levels p_M_with_levels f_M_with_levels d_M_with_levels)
    {f_M_moved : Addr} {d_M_moved : FuncData} (D_M_moved : MeT K CM "moved" "Numbering.moved" s_M_moved p_M_moved f_M_moved d_M_moved)
    {f_M_free : Addr} {d_M_free : FuncData} (D_M_free : MeT K CM "free" "Numbering.free" s_M_free p_M_free f_M_free d_M_free)
    {f_M_eq : Addr} {d_M_eq : FuncData} (D_M_eq : MeT K CM "__eq__" "Numbering.__eq__" s_M_eq p_M_eq f_M_eq d_M_eq)
    {q_P_begin f_P_begin : Addr} {d_P_begin : FuncData} (D_P_begin : PrT K CP "begin" "Program.begin" s_P_begin p_P_begin q_P_begin f_P_begin d_P_begin)
    {q_M_many f_M_many : Addr} {d_M_many : FuncData} (D_M_many : PrT K CM "many" "Numbering.many" s_M_many p_M_many q_M_many f_M_many d_M_many)
    : FnOk P w K mg base CX0 lawLevel f_law d_law ["script"] (spLaw K) := by
  have i_is_integer := ok_is_integer (P := P) (w := w) (base := base) B D_is_integer
  have i_is_word := ok_is_word (P := P) (w := w) (base := base) B D_is_word
  have i_begin := ok_P_begin (P := P) (w := w) (base := base) L_P Z D_P_begin
  have i_ways := ok_P_ways (P := P) (w := w) (base := base) L_P Z B D_P_ways
  have i_places := ok_P_places (P := P) (w := w) (base := base) L_P Z B D_P_places
  have i_exits := ok_P_exits (P := P) (w := w) (base := base) L_P Z B D_P_exits
  have i_contains := ok_P_contains (P := P) (w := w) (base := base) L_P Z i_is_word D_P_contains
  have i_get := ok_P_getitem (P := P) (w := w) (base := base) L_P Z i_contains D_P_getitem
  have i_check_place := ok_P_check_place (P := P) (w := w) (base := base) L_P Z i_is_word D_P_check_place
  have i_leaving := ok_P_leaving (P := P) (w := w) (base := base) L_P Z B i_check_place D_P_leaving
  have i_path := ok_P_path (P := P) (w := w) (base := base) L_P Z B D_P_path
  have i_find_ring := ok_P_find_ring (P := P) (w := w) (base := base) L_P Z i_path D_P_find_ring
  have i_check_program := ok_check_program (P := P) (w := w) (base := base) L_P B D_check_program
  have i_eqP := ok_P_eq (P := P) (w := w) (base := base) L_P Z B D_P_eq
  have i_check_rings := ok_check_rings (P := P) (w := w) (base := base) L_P i_find_ring D_check_rings
  have i_end_of := ok_end_of (P := P) (w := w) (base := base) L_P B i_begin i_contains i_get D_end_of
  have i_is_run := ok_is_run (P := P) (w := w) (base := base) L_P i_check_program i_end_of i_exits D_is_run
  have i_ways_on := ok_ways_on (P := P) (w := w) (base := base) L_P B i_places i_exits i_leaving i_get D_ways_on
  have i_first := ok_first_steps (P := P) (w := w) (base := base) L_P B i_places i_ways i_exits i_leaving i_get D_first_steps
  have i_are_whole := ok_are_whole (P := P) (w := w) (base := base) B i_is_integer D_are_whole
  have i_initM := ok_M_init (P := P) (w := w) (base := base) L_P L_M Z B i_check_program i_check_rings i_ways_on i_first D_M_init
  have i_many := ok_M_many (P := P) (w := w) (base := base) L_P L_M Z i_begin D_M_many
  have i_getM := ok_M_getitem (P := P) (w := w) (base := base) L_P L_M Z i_contains D_M_getitem
  have i_call := ok_M_call (P := P) (w := w) (base := base) L_P L_M Z B i_is_run D_M_call
  have i_free := ok_M_free (P := P) (w := w) (base := base) L_P L_M Z i_ways D_M_free
  have i_eqM := ok_M_eq (P := P) (w := w) (base := base) L_P L_M Z B i_eqP D_M_eq
  have i_run := ok_M_run (P := P) (w := w) (base := base) L_P L_M Z i_is_integer i_many i_begin i_exits i_leaving i_get D_M_run
  have i_with := ok_M_with_levels (P := P) (w := w) (base := base) L_P L_M Z i_initM i_get D_M_with_levels
  have i_moved := ok_M_moved (P := P) (w := w) (base := base) L_P L_M B Z V i_are_whole i_places i_exits i_begin i_with D_M_moved
  have i_are_ways := ok_are_ways (P := P) (w := w) (base := base) B i_is_word D_are_ways
  have i_ways_at := ok_P_ways_at (P := P) (w := w) (base := base) L_P Z D_P_ways_at
  have i_are_exits := ok_P_are_exits (P := P) (w := w) (base := base) L_P Z B i_is_word D_P_are_exits
  have i_come_to := ok_come_to (P := P) (w := w) (base := base) B D_come_to
  have i_initP := ok_P_init (P := P) (w := w) (base := base) L_P Z B i_is_word i_are_ways i_come_to i_are_exits i_ways_at D_P_init
  have i_numbers := ok_law_numbers (P := P) (w := w) (base := base) B D_law_numbers
  have i_pool := ok_law_pool (P := P) (w := w) (base := base) i_numbers D_law_pool
  have i_draw := ok_law_draw (P := P) (w := w) (base := base) B D_law_draw
  have i_opened := ok_law_opened (P := P) (w := w) (base := base) B i_pool D_law_opened
  have i_words := ok_law_words (P := P) (w := w) (base := base) i_draw D_law_words
  have i_names := ok_law_names (P := P) (w := w) (base := base) i_draw D_law_names
  have i_program := ok_law_program (P := P) (w := w) (base := base) B i_draw i_words i_names D_law_program
  have i_made := ok_law_made (P := P) (w := w) (base := base) L_P B i_initP D_law_made
  have i_lplaces := ok_law_places (P := P) (w := w) (base := base) B D_law_places
  have i_levels := ok_law_levels (P := P) (w := w) (base := base) B i_draw i_lplaces D_law_levels
  have i_told := ok_law_told (P := P) (w := w) (base := base) L_M V i_moved D_law_told
  have i_refused := ok_law_refused (P := P) (w := w) (base := base) L_M B i_lplaces i_told i_moved i_eqM D_law_refused
  exact (ok_law (P := P) (w := w) (base := base) L_P L_M B i_opened i_program i_made i_initM i_getM i_draw i_levels i_moved i_many i_free i_run i_call i_eqM i_refused D_law).mono (by decide)
end K23
namespace K23
open PySem L2
/-! ### The end: all facts of the top -/
theorem all_mk {P : PySem.Program} {w : World} {K : PySem.W.Frag} {h : Heap} {mg : Str → Option Value} {CP CM : Addr} (X : K.In h) (G : h.Ns mainGlobals mg) {fa : Addr} (hfa : mg "law" = some (.ref fa))
    {f_is_integer : Addr} {oc_is_integer kV_is_integer dc_is_integer pm_is_integer cd_is_integer ct_is_integer : Value} {od_is_integer an_is_integer : Option Addr} {sl_is_integer : Array (Option Value)}
    {f_is_word : Addr} {oc_is_word kV_is_word dc_is_word pm_is_word cd_is_word ct_is_word : Value} {od_is_word an_is_word : Option Addr} {sl_is_word : Array (Option Value)}
    {f_are_ways : Addr} {oc_are_ways kV_are_ways dc_are_ways pm_are_ways cd_are_ways ct_are_ways : Value} {od_are_ways an_are_ways : Option Addr} {sl_are_ways : Array (Option Value)}
    {f_come_to : Addr} {oc_come_to kV_come_to dc_come_to pm_come_to cd_come_to ct_come_to : Value} {od_come_to an_come_to : Option Addr} {sl_come_to : Array (Option Value)}
    {f_check_program : Addr} {oc_check_program kV_check_program dc_check_program pm_check_program cd_check_program ct_check_program : Value} {od_check_program an_check_program : Option Addr} {sl_check_program : Array (Option Value)}
    {f_end_of : Addr} {oc_end_of kV_end_of dc_end_of pm_end_of cd_end_of ct_end_of : Value} {od_end_of an_end_of : Option Addr} {sl_end_of : Array (Option Value)}
    {f_is_run : Addr} {oc_is_run kV_is_run dc_is_run pm_is_run cd_is_run ct_is_run : Value} {od_is_run an_is_run : Option Addr} {sl_is_run : Array (Option Value)}
    {f_check_rings : Addr} {oc_check_rings kV_check_rings dc_check_rings pm_check_rings cd_check_rings ct_check_rings : Value} {od_check_rings an_check_rings : Option Addr} {sl_check_rings : Array (Option Value)}
    {f_ways_on : Addr} {oc_ways_on kV_ways_on dc_ways_on pm_ways_on cd_ways_on ct_ways_on : Value} {od_ways_on an_ways_on : Option Addr} {sl_ways_on : Array (Option Value)}
    {f_first_steps : Addr} {oc_first_steps kV_first_steps dc_first_steps pm_first_steps cd_first_steps ct_first_steps : Value} {od_first_steps an_first_steps : Option Addr} {sl_first_steps : Array (Option Value)}
    {f_are_whole : Addr} {oc_are_whole kV_are_whole dc_are_whole pm_are_whole cd_are_whole ct_are_whole : Value} {od_are_whole an_are_whole : Option Addr} {sl_are_whole : Array (Option Value)}
    {f_law_numbers : Addr} {oc_law_numbers kV_law_numbers dc_law_numbers pm_law_numbers cd_law_numbers ct_law_numbers : Value} {od_law_numbers an_law_numbers : Option Addr} {sl_law_numbers : Array (Option Value)}
    {f_law_pool : Addr} {oc_law_pool kV_law_pool dc_law_pool pm_law_pool cd_law_pool ct_law_pool : Value} {od_law_pool an_law_pool : Option Addr} {sl_law_pool : Array (Option Value)}
    {f_law_draw : Addr} {oc_law_draw kV_law_draw dc_law_draw pm_law_draw cd_law_draw ct_law_draw : Value} {od_law_draw an_law_draw : Option Addr} {sl_law_draw : Array (Option Value)}
    {f_law_opened : Addr} {oc_law_opened kV_law_opened dc_law_opened pm_law_opened cd_law_opened ct_law_opened : Value} {od_law_opened an_law_opened : Option Addr} {sl_law_opened : Array (Option Value)}
    {f_law_words : Addr} {oc_law_words kV_law_words dc_law_words pm_law_words cd_law_words ct_law_words : Value} {od_law_words an_law_words : Option Addr} {sl_law_words : Array (Option Value)}
    {f_law_names : Addr} {oc_law_names kV_law_names dc_law_names pm_law_names cd_law_names ct_law_names : Value} {od_law_names an_law_names : Option Addr} {sl_law_names : Array (Option Value)}
    {f_law_program : Addr} {oc_law_program kV_law_program dc_law_program pm_law_program cd_law_program ct_law_program : Value} {od_law_program an_law_program : Option Addr} {sl_law_program : Array (Option Value)}
    {f_law_made : Addr} {oc_law_made kV_law_made dc_law_made pm_law_made cd_law_made ct_law_made : Value} {od_law_made an_law_made : Option Addr} {sl_law_made : Array (Option Value)}
    {f_law_places : Addr} {oc_law_places kV_law_places dc_law_places pm_law_places cd_law_places ct_law_places : Value} {od_law_places an_law_places : Option Addr} {sl_law_places : Array (Option Value)}
    {f_law_levels : Addr} {oc_law_levels kV_law_levels dc_law_levels pm_law_levels cd_law_levels ct_law_levels : Value} {od_law_levels an_law_levels : Option Addr} {sl_law_levels : Array (Option Value)}
    {f_law_told : Addr} {oc_law_told kV_law_told dc_law_told pm_law_told cd_law_told ct_law_told : Value} {od_law_told an_law_told : Option Addr} {sl_law_told : Array (Option Value)}
    {f_law_refused : Addr} {oc_law_refused kV_law_refused dc_law_refused pm_law_refused cd_law_refused ct_law_refused : Value} {od_law_refused an_law_refused : Option Addr} {sl_law_refused : Array (Option Value)}
    {f_law : Addr} {oc_law kV_law dc_law pm_law cd_law ct_law : Value} {od_law an_law : Option Addr} {sl_law : Array (Option Value)}
    {f_P_init : Addr} {oc_P_init kV_P_init dc_P_init pm_P_init cd_P_init ct_P_init : Value} {od_P_init an_P_init : Option Addr} {sl_P_init : Array (Option Value)}
    {f_P_are_exits : Addr} {oc_P_are_exits kV_P_are_exits dc_P_are_exits pm_P_are_exits cd_P_are_exits ct_P_are_exits : Value} {od_P_are_exits an_P_are_exits : Option Addr} {sl_P_are_exits : Array (Option Value)}
    {f_P_ways_at : Addr} {oc_P_ways_at kV_P_ways_at dc_P_ways_at pm_P_ways_at cd_P_ways_at ct_P_ways_at : Value} {od_P_ways_at an_P_ways_at : Option Addr} {sl_P_ways_at : Array (Option Value)}
    {f_P_ways : Addr} {oc_P_ways kV_P_ways dc_P_ways pm_P_ways cd_P_ways ct_P_ways : Value} {od_P_ways an_P_ways : Option Addr} {sl_P_ways : Array (Option Value)}
    {f_P_places : Addr} {oc_P_places kV_P_places dc_P_places pm_P_places cd_P_places ct_P_places : Value} {od_P_places an_P_places : Option Addr} {sl_P_places : Array (Option Value)}
    {f_P_exits : Addr} {oc_P_exits kV_P_exits dc_P_exits pm_P_exits cd_P_exits ct_P_exits : Value} {od_P_exits an_P_exits : Option Addr} {sl_P_exits : Array (Option Value)}
    {f_P_contains : Addr} {oc_P_contains kV_P_contains dc_P_contains pm_P_contains cd_P_contains ct_P_contains : Value} {od_P_contains an_P_contains : Option Addr} {sl_P_contains : Array (Option Value)}
    {f_P_getitem : Addr} {oc_P_getitem kV_P_getitem dc_P_getitem pm_P_getitem cd_P_getitem ct_P_getitem : Value} {od_P_getitem an_P_getitem : Option Addr} {sl_P_getitem : Array (Option Value)}
    {f_P_check_place : Addr} {oc_P_check_place kV_P_check_place dc_P_check_place pm_P_check_place cd_P_check_place ct_P_check_place : Value} {od_P_check_place an_P_check_place : Option Addr} {sl_P_check_place : Array (Option Value)}
    {f_P_leaving : Addr} {oc_P_leaving kV_P_leaving dc_P_leaving pm_P_leaving cd_P_leaving ct_P_leaving : Value} {od_P_leaving an_P_leaving : Option Addr} {sl_P_leaving : Array (Option Value)}
    {f_P_eq : Addr} {oc_P_eq kV_P_eq dc_P_eq pm_P_eq cd_P_eq ct_P_eq : Value} {od_P_eq an_P_eq : Option Addr} {sl_P_eq : Array (Option Value)}
    {f_P_path : Addr} {oc_P_path kV_P_path dc_P_path pm_P_path cd_P_path ct_P_path : Value} {od_P_path an_P_path : Option Addr} {sl_P_path : Array (Option Value)}
    {f_P_find_ring : Addr} {oc_P_find_ring kV_P_find_ring dc_P_find_ring pm_P_find_ring cd_P_find_ring ct_P_find_ring : Value} {od_P_find_ring an_P_find_ring : Option Addr} {sl_P_find_ring : Array (Option Value)}
    {f_M_init : Addr} {oc_M_init kV_M_init dc_M_init pm_M_init cd_M_init ct_M_init : Value} {od_M_init an_M_init : Option Addr} {sl_M_init : Array (Option Value)}
    {f_M_getitem : Addr} {oc_M_getitem kV_M_getitem dc_M_getitem pm_M_getitem cd_M_getitem ct_M_getitem : Value} {od_M_getitem an_M_getitem : Option Addr} {sl_M_getitem : Array (Option Value)}
    {f_M_call : Addr} {oc_M_call kV_M_call dc_M_call pm_M_call cd_M_call ct_M_call : Value} {od_M_call an_M_call : Option Addr} {sl_M_call : Array (Option Value)}
    {f_M_run : Addr} {oc_M_run kV_M_run dc_M_run pm_M_run cd_M_run ct_M_run : Value} {od_M_run an_M_run : Option Addr} {sl_M_run : Array (Option Value)}
    {f_M_with_levels : Addr} {oc_M_with_levels kV_M_with_levels dc_M_with_levels pm_M_with_levels cd_M_with_levels ct_M_with_levels : Value} {od_M_with_levels an_M_with_levels : Option Addr} {sl_M_with_levels : Array (Option Value)}
    {f_M_moved : Addr} {oc_M_moved kV_M_moved dc_M_moved pm_M_moved cd_M_moved ct_M_moved : Value} {od_M_moved an_M_moved : Option Addr} {sl_M_moved : Array (Option Value)}
    {f_M_free : Addr} {oc_M_free kV_M_free dc_M_free pm_M_free cd_M_free ct_M_free : Value} {od_M_free an_M_free : Option Addr} {sl_M_free : Array (Option Value)}
    {f_M_eq : Addr} {oc_M_eq kV_M_eq dc_M_eq pm_M_eq cd_M_eq ct_M_eq : Value} {od_M_eq an_M_eq : Option Addr} {sl_M_eq : Array (Option Value)}
    {f_P_begin : Addr} {oc_P_begin kV_P_begin dc_P_begin pm_P_begin cd_P_begin ct_P_begin : Value} {od_P_begin an_P_begin : Option Addr} {sl_P_begin : Array (Option Value)}
    {q_P_begin : Addr} {rs_P_begin : List Value}
    {f_M_many : Addr} {oc_M_many kV_M_many dc_M_many pm_M_many cd_M_many ct_M_many : Value} {od_M_many an_M_many : Option Addr} {sl_M_many : Array (Option Value)}
    {q_M_many : Addr} {rs_M_many : List Value}
    {tL tM tW : Tok}
    {CB fB : Addr} {nmB qB : Str} {NB : Addr} {bsB bmB : List Value} {snB : List Str} {subB : List Value} {abB : Bool} {colB : Option Bool} {ddB : Option Addr} {m0 m1 m2 m3 m5 : Option Value} {ocB dcB pmB cdB ctB : Value} {odB anB : Option Addr} {slB : Array (Option Value)} {pB1 pB2 pB3 pB4 pB5 pB6 : Pos}
    (ns_P : PySem.W.nsIn K mainGlobals "Program" = some (some (.ref CP)))
    (pg_P : PySem.W.plainGet K CP Str.empty = true)
    (hd_P : PySem.W.hasDictIn K CP = true)
    (po_P : PySem.W.plainOver K CP = true)
    (sa_P : PySem.W.findIn K (.ref CP) "__setattr__" = some (some (.builtin "object.__setattr__")))
    (mk_P : PySem.W.makesIn K CP = true)
    (kc_P : PySem.W.keepIn K (.ref CP) = true)
    (ha_P : PySem.W.findIn K (.ref CP) "__class__" = some (some (.builtin "object.__class__")))
    (hm_P : PySem.W.mroIn K CP (.type "object") = some true)
    (nf_pairs : PySem.W.findIn K (.ref CP) "pairs" = some none)
    (nf_own_places : PySem.W.findIn K (.ref CP) "own_places" = some none)
    (nf_own_begin : PySem.W.findIn K (.ref CP) "own_begin" = some none)
    (nf_own_exits : PySem.W.findIn K (.ref CP) "own_exits" = some none)
    (nf_outs : PySem.W.findIn K (.ref CP) "outs" = some none)
    (nf_ins : PySem.W.findIn K (.ref CP) "ins" = some none)
    (ns_M : PySem.W.nsIn K mainGlobals "Numbering" = some (some (.ref CM)))
    (pg_M : PySem.W.plainGet K CM Str.empty = true)
    (hd_M : PySem.W.hasDictIn K CM = true)
    (po_M : PySem.W.plainOver K CM = true)
    (sa_M : PySem.W.findIn K (.ref CM) "__setattr__" = some (some (.builtin "object.__setattr__")))
    (mk_M : PySem.W.makesIn K CM = true)
    (kc_M : PySem.W.keepIn K (.ref CM) = true)
    (ha_M : PySem.W.findIn K (.ref CM) "__class__" = some (some (.builtin "object.__class__")))
    (hm_M : PySem.W.mroIn K CM (.type "object") = some true)
    (nf_own_program : PySem.W.findIn K (.ref CM) "own_program" = some none)
    (nf_onward : PySem.W.findIn K (.ref CM) "onward" = some none)
    (nf_base : PySem.W.findIn K (.ref CM) "base" = some none)
    (nf_steps : PySem.W.findIn K (.ref CM) "steps" = some none)
    (a_is_integer : PySem.W.nsIn K mainGlobals "is_integer" = some (some (.ref f_is_integer)))
    (l_is_integer : K.lookup f_is_integer = some ⟨oc_is_integer, od_is_integer, .func (PySem.W.fnOf "is_integer" "is_integer" (defArgs s_is_integer) (defBody s_is_integer) (defScope s_is_integer) .none kV_is_integer dc_is_integer pm_is_integer an_is_integer cd_is_integer ct_is_integer), sl_is_integer⟩)
    (c_is_integer : PySem.W.codeIn K cd_is_integer "is_integer" = true)
    (k_is_integer : PySem.W.keepIn K (.ref f_is_integer) = true)
    (a_is_word : PySem.W.nsIn K mainGlobals "is_word" = some (some (.ref f_is_word)))
    (l_is_word : K.lookup f_is_word = some ⟨oc_is_word, od_is_word, .func (PySem.W.fnOf "is_word" "is_word" (defArgs s_is_word) (defBody s_is_word) (defScope s_is_word) .none kV_is_word dc_is_word pm_is_word an_is_word cd_is_word ct_is_word), sl_is_word⟩)
    (c_is_word : PySem.W.codeIn K cd_is_word "is_word" = true)
    (k_is_word : PySem.W.keepIn K (.ref f_is_word) = true)
    (a_are_ways : PySem.W.nsIn K mainGlobals "are_ways" = some (some (.ref f_are_ways)))
    (l_are_ways : K.lookup f_are_ways = some ⟨oc_are_ways, od_are_ways, .func (PySem.W.fnOf "are_ways" "are_ways" (defArgs s_are_ways) (defBody s_are_ways) (defScope s_are_ways) .none kV_are_ways dc_are_ways pm_are_ways an_are_ways cd_are_ways ct_are_ways), sl_are_ways⟩)
    (c_are_ways : PySem.W.codeIn K cd_are_ways "are_ways" = true)
    (k_are_ways : PySem.W.keepIn K (.ref f_are_ways) = true)
    (a_come_to : PySem.W.nsIn K mainGlobals "come_to" = some (some (.ref f_come_to)))
    (l_come_to : K.lookup f_come_to = some ⟨oc_come_to, od_come_to, .func (PySem.W.fnOf "come_to" "come_to" (defArgs s_come_to) (defBody s_come_to) (defScope s_come_to) .none kV_come_to dc_come_to pm_come_to an_come_to cd_come_to ct_come_to), sl_come_to⟩)
    (c_come_to : PySem.W.codeIn K cd_come_to "come_to" = true)
    (k_come_to : PySem.W.keepIn K (.ref f_come_to) = true)
    (a_check_program : PySem.W.nsIn K mainGlobals "check_program" = some (some (.ref f_check_program)))
    (l_check_program : K.lookup f_check_program = some ⟨oc_check_program, od_check_program, .func (PySem.W.fnOf "check_program" "check_program" (defArgs s_check_program) (defBody s_check_program) (defScope s_check_program) .none kV_check_program dc_check_program pm_check_program an_check_program cd_check_program ct_check_program), sl_check_program⟩)
    (c_check_program : PySem.W.codeIn K cd_check_program "check_program" = true)
    (k_check_program : PySem.W.keepIn K (.ref f_check_program) = true)
    (a_end_of : PySem.W.nsIn K mainGlobals "end_of" = some (some (.ref f_end_of)))
    (l_end_of : K.lookup f_end_of = some ⟨oc_end_of, od_end_of, .func (PySem.W.fnOf "end_of" "end_of" (defArgs s_end_of) (defBody s_end_of) (defScope s_end_of) .none kV_end_of dc_end_of pm_end_of an_end_of cd_end_of ct_end_of), sl_end_of⟩)
    (c_end_of : PySem.W.codeIn K cd_end_of "end_of" = true)
    (k_end_of : PySem.W.keepIn K (.ref f_end_of) = true)
    (a_is_run : PySem.W.nsIn K mainGlobals "is_run" = some (some (.ref f_is_run)))
    (l_is_run : K.lookup f_is_run = some ⟨oc_is_run, od_is_run, .func (PySem.W.fnOf "is_run" "is_run" (defArgs s_is_run) (defBody s_is_run) (defScope s_is_run) .none kV_is_run dc_is_run pm_is_run an_is_run cd_is_run ct_is_run), sl_is_run⟩)
    (c_is_run : PySem.W.codeIn K cd_is_run "is_run" = true)
    (k_is_run : PySem.W.keepIn K (.ref f_is_run) = true)
    (a_check_rings : PySem.W.nsIn K mainGlobals "check_rings" = some (some (.ref f_check_rings)))
    (l_check_rings : K.lookup f_check_rings = some ⟨oc_check_rings, od_check_rings, .func (PySem.W.fnOf "check_rings" "check_rings" (defArgs s_check_rings) (defBody s_check_rings) (defScope s_check_rings) .none kV_check_rings dc_check_rings pm_check_rings an_check_rings cd_check_rings ct_check_rings), sl_check_rings⟩)
    (c_check_rings : PySem.W.codeIn K cd_check_rings "check_rings" = true)
    (k_check_rings : PySem.W.keepIn K (.ref f_check_rings) = true)
    (a_ways_on : PySem.W.nsIn K mainGlobals "ways_on" = some (some (.ref f_ways_on)))
    (l_ways_on : K.lookup f_ways_on = some ⟨oc_ways_on, od_ways_on, .func (PySem.W.fnOf "ways_on" "ways_on" (defArgs s_ways_on) (defBody s_ways_on) (defScope s_ways_on) .none kV_ways_on dc_ways_on pm_ways_on an_ways_on cd_ways_on ct_ways_on), sl_ways_on⟩)
    (c_ways_on : PySem.W.codeIn K cd_ways_on "ways_on" = true)
    (k_ways_on : PySem.W.keepIn K (.ref f_ways_on) = true)
    (a_first_steps : PySem.W.nsIn K mainGlobals "first_steps" = some (some (.ref f_first_steps)))
    (l_first_steps : K.lookup f_first_steps = some ⟨oc_first_steps, od_first_steps, .func (PySem.W.fnOf "first_steps" "first_steps" (defArgs s_first_steps) (defBody s_first_steps) (defScope s_first_steps) .none kV_first_steps dc_first_steps pm_first_steps an_first_steps cd_first_steps ct_first_steps), sl_first_steps⟩)
    (c_first_steps : PySem.W.codeIn K cd_first_steps "first_steps" = true)
    (k_first_steps : PySem.W.keepIn K (.ref f_first_steps) = true)
    (a_are_whole : PySem.W.nsIn K mainGlobals "are_whole" = some (some (.ref f_are_whole)))
    (l_are_whole : K.lookup f_are_whole = some ⟨oc_are_whole, od_are_whole, .func (PySem.W.fnOf "are_whole" "are_whole" (defArgs s_are_whole) (defBody s_are_whole) (defScope s_are_whole) .none kV_are_whole dc_are_whole pm_are_whole an_are_whole cd_are_whole ct_are_whole), sl_are_whole⟩)
    (c_are_whole : PySem.W.codeIn K cd_are_whole "are_whole" = true)
    (k_are_whole : PySem.W.keepIn K (.ref f_are_whole) = true)
    (a_law_numbers : PySem.W.nsIn K mainGlobals "_law_numbers" = some (some (.ref f_law_numbers)))
    (l_law_numbers : K.lookup f_law_numbers = some ⟨oc_law_numbers, od_law_numbers, .func (PySem.W.fnOf "_law_numbers" "_law_numbers" (defArgs s_law_numbers) (defBody s_law_numbers) (defScope s_law_numbers) .none kV_law_numbers dc_law_numbers pm_law_numbers an_law_numbers cd_law_numbers ct_law_numbers), sl_law_numbers⟩)
    (c_law_numbers : PySem.W.codeIn K cd_law_numbers "_law_numbers" = true)
    (k_law_numbers : PySem.W.keepIn K (.ref f_law_numbers) = true)
    (a_law_pool : PySem.W.nsIn K mainGlobals "_law_pool" = some (some (.ref f_law_pool)))
    (l_law_pool : K.lookup f_law_pool = some ⟨oc_law_pool, od_law_pool, .func (PySem.W.fnOf "_law_pool" "_law_pool" (defArgs s_law_pool) (defBody s_law_pool) (defScope s_law_pool) .none kV_law_pool dc_law_pool pm_law_pool an_law_pool cd_law_pool ct_law_pool), sl_law_pool⟩)
    (c_law_pool : PySem.W.codeIn K cd_law_pool "_law_pool" = true)
    (k_law_pool : PySem.W.keepIn K (.ref f_law_pool) = true)
    (a_law_draw : PySem.W.nsIn K mainGlobals "_law_draw" = some (some (.ref f_law_draw)))
    (l_law_draw : K.lookup f_law_draw = some ⟨oc_law_draw, od_law_draw, .func (PySem.W.fnOf "_law_draw" "_law_draw" (defArgs s_law_draw) (defBody s_law_draw) (defScope s_law_draw) .none kV_law_draw dc_law_draw pm_law_draw an_law_draw cd_law_draw ct_law_draw), sl_law_draw⟩)
    (c_law_draw : PySem.W.codeIn K cd_law_draw "_law_draw" = true)
    (k_law_draw : PySem.W.keepIn K (.ref f_law_draw) = true)
    (a_law_opened : PySem.W.nsIn K mainGlobals "_law_opened" = some (some (.ref f_law_opened)))
    (l_law_opened : K.lookup f_law_opened = some ⟨oc_law_opened, od_law_opened, .func (PySem.W.fnOf "_law_opened" "_law_opened" (defArgs s_law_opened) (defBody s_law_opened) (defScope s_law_opened) .none kV_law_opened dc_law_opened pm_law_opened an_law_opened cd_law_opened ct_law_opened), sl_law_opened⟩)
    (c_law_opened : PySem.W.codeIn K cd_law_opened "_law_opened" = true)
    (k_law_opened : PySem.W.keepIn K (.ref f_law_opened) = true)
    (a_law_words : PySem.W.nsIn K mainGlobals "_law_words" = some (some (.ref f_law_words)))
    (l_law_words : K.lookup f_law_words = some ⟨oc_law_words, od_law_words, .func (PySem.W.fnOf "_law_words" "_law_words" (defArgs s_law_words) (defBody s_law_words) (defScope s_law_words) .none kV_law_words dc_law_words pm_law_words an_law_words cd_law_words ct_law_words), sl_law_words⟩)
    (c_law_words : PySem.W.codeIn K cd_law_words "_law_words" = true)
    (k_law_words : PySem.W.keepIn K (.ref f_law_words) = true)
    (a_law_names : PySem.W.nsIn K mainGlobals "_law_names" = some (some (.ref f_law_names)))
    (l_law_names : K.lookup f_law_names = some ⟨oc_law_names, od_law_names, .func (PySem.W.fnOf "_law_names" "_law_names" (defArgs s_law_names) (defBody s_law_names) (defScope s_law_names) .none kV_law_names dc_law_names pm_law_names an_law_names cd_law_names ct_law_names), sl_law_names⟩)
    (c_law_names : PySem.W.codeIn K cd_law_names "_law_names" = true)
    (k_law_names : PySem.W.keepIn K (.ref f_law_names) = true)
    (a_law_program : PySem.W.nsIn K mainGlobals "_law_program" = some (some (.ref f_law_program)))
    (l_law_program : K.lookup f_law_program = some ⟨oc_law_program, od_law_program, .func (PySem.W.fnOf "_law_program" "_law_program" (defArgs s_law_program) (defBody s_law_program) (defScope s_law_program) .none kV_law_program dc_law_program pm_law_program an_law_program cd_law_program ct_law_program), sl_law_program⟩)
    (c_law_program : PySem.W.codeIn K cd_law_program "_law_program" = true)
    (k_law_program : PySem.W.keepIn K (.ref f_law_program) = true)
    (a_law_made : PySem.W.nsIn K mainGlobals "_law_made" = some (some (.ref f_law_made)))
    (l_law_made : K.lookup f_law_made = some ⟨oc_law_made, od_law_made, .func (PySem.W.fnOf "_law_made" "_law_made" (defArgs s_law_made) (defBody s_law_made) (defScope s_law_made) .none kV_law_made dc_law_made pm_law_made an_law_made cd_law_made ct_law_made), sl_law_made⟩)
    (c_law_made : PySem.W.codeIn K cd_law_made "_law_made" = true)
    (k_law_made : PySem.W.keepIn K (.ref f_law_made) = true)
    (a_law_places : PySem.W.nsIn K mainGlobals "_law_places" = some (some (.ref f_law_places)))
    (l_law_places : K.lookup f_law_places = some ⟨oc_law_places, od_law_places, .func (PySem.W.fnOf "_law_places" "_law_places" (defArgs s_law_places) (defBody s_law_places) (defScope s_law_places) .none kV_law_places dc_law_places pm_law_places an_law_places cd_law_places ct_law_places), sl_law_places⟩)
    (c_law_places : PySem.W.codeIn K cd_law_places "_law_places" = true)
    (k_law_places : PySem.W.keepIn K (.ref f_law_places) = true)
    (a_law_levels : PySem.W.nsIn K mainGlobals "_law_levels" = some (some (.ref f_law_levels)))
    (l_law_levels : K.lookup f_law_levels = some ⟨oc_law_levels, od_law_levels, .func (PySem.W.fnOf "_law_levels" "_law_levels" (defArgs s_law_levels) (defBody s_law_levels) (defScope s_law_levels) .none kV_law_levels dc_law_levels pm_law_levels an_law_levels cd_law_levels ct_law_levels), sl_law_levels⟩)
    (c_law_levels : PySem.W.codeIn K cd_law_levels "_law_levels" = true)
    (k_law_levels : PySem.W.keepIn K (.ref f_law_levels) = true)
    (a_law_told : PySem.W.nsIn K mainGlobals "_law_told" = some (some (.ref f_law_told)))
    (l_law_told : K.lookup f_law_told = some ⟨oc_law_told, od_law_told, .func (PySem.W.fnOf "_law_told" "_law_told" (defArgs s_law_told) (defBody s_law_told) (defScope s_law_told) .none kV_law_told dc_law_told pm_law_told an_law_told cd_law_told ct_law_told), sl_law_told⟩)
    (c_law_told : PySem.W.codeIn K cd_law_told "_law_told" = true)
    (k_law_told : PySem.W.keepIn K (.ref f_law_told) = true)
    (a_law_refused : PySem.W.nsIn K mainGlobals "_law_refused" = some (some (.ref f_law_refused)))
    (l_law_refused : K.lookup f_law_refused = some ⟨oc_law_refused, od_law_refused, .func (PySem.W.fnOf "_law_refused" "_law_refused" (defArgs s_law_refused) (defBody s_law_refused) (defScope s_law_refused) .none kV_law_refused dc_law_refused pm_law_refused an_law_refused cd_law_refused ct_law_refused), sl_law_refused⟩)
    (c_law_refused : PySem.W.codeIn K cd_law_refused "_law_refused" = true)
    (k_law_refused : PySem.W.keepIn K (.ref f_law_refused) = true)
    (a_law : PySem.W.nsIn K mainGlobals "law" = some (some (.ref f_law)))
    (l_law : K.lookup f_law = some ⟨oc_law, od_law, .func (PySem.W.fnOf "law" "law" (defArgs s_law) (defBody s_law) (defScope s_law) .none kV_law dc_law pm_law an_law cd_law ct_law), sl_law⟩)
    (c_law : PySem.W.codeIn K cd_law "law" = true)
    (k_law : PySem.W.keepIn K (.ref f_law) = true)
    (a_P_init : PySem.W.findIn K (.ref CP) "__init__" = some (some (.ref f_P_init)))
    (i_P_init : PySem.W.isFn K (.ref f_P_init) = true)
    (l_P_init : K.lookup f_P_init = some ⟨oc_P_init, od_P_init, .func (PySem.W.fnOf "__init__" "Program.__init__" (defArgs s_P_init) (defBody s_P_init) (defScope s_P_init) .none kV_P_init dc_P_init pm_P_init an_P_init cd_P_init ct_P_init), sl_P_init⟩)
    (c_P_init : PySem.W.codeIn K cd_P_init "Program.__init__" = true)
    (k_P_init : PySem.W.keepIn K (.ref f_P_init) = true)
    (a_P_are_exits : PySem.W.findIn K (.ref CP) "are_exits" = some (some (.ref f_P_are_exits)))
    (i_P_are_exits : PySem.W.isFn K (.ref f_P_are_exits) = true)
    (l_P_are_exits : K.lookup f_P_are_exits = some ⟨oc_P_are_exits, od_P_are_exits, .func (PySem.W.fnOf "are_exits" "Program.are_exits" (defArgs s_P_are_exits) (defBody s_P_are_exits) (defScope s_P_are_exits) .none kV_P_are_exits dc_P_are_exits pm_P_are_exits an_P_are_exits cd_P_are_exits ct_P_are_exits), sl_P_are_exits⟩)
    (c_P_are_exits : PySem.W.codeIn K cd_P_are_exits "Program.are_exits" = true)
    (k_P_are_exits : PySem.W.keepIn K (.ref f_P_are_exits) = true)
    (a_P_ways_at : PySem.W.findIn K (.ref CP) "ways_at" = some (some (.ref f_P_ways_at)))
    (i_P_ways_at : PySem.W.isFn K (.ref f_P_ways_at) = true)
    (l_P_ways_at : K.lookup f_P_ways_at = some ⟨oc_P_ways_at, od_P_ways_at, .func (PySem.W.fnOf "ways_at" "Program.ways_at" (defArgs s_P_ways_at) (defBody s_P_ways_at) (defScope s_P_ways_at) .none kV_P_ways_at dc_P_ways_at pm_P_ways_at an_P_ways_at cd_P_ways_at ct_P_ways_at), sl_P_ways_at⟩)
    (c_P_ways_at : PySem.W.codeIn K cd_P_ways_at "Program.ways_at" = true)
    (k_P_ways_at : PySem.W.keepIn K (.ref f_P_ways_at) = true)
    (a_P_ways : PySem.W.findIn K (.ref CP) "ways" = some (some (.ref f_P_ways)))
    (i_P_ways : PySem.W.isFn K (.ref f_P_ways) = true)
    (l_P_ways : K.lookup f_P_ways = some ⟨oc_P_ways, od_P_ways, .func (PySem.W.fnOf "ways" "Program.ways" (defArgs s_P_ways) (defBody s_P_ways) (defScope s_P_ways) .none kV_P_ways dc_P_ways pm_P_ways an_P_ways cd_P_ways ct_P_ways), sl_P_ways⟩)
    (c_P_ways : PySem.W.codeIn K cd_P_ways "Program.ways" = true)
    (k_P_ways : PySem.W.keepIn K (.ref f_P_ways) = true)
    (a_P_places : PySem.W.findIn K (.ref CP) "places" = some (some (.ref f_P_places)))
    (i_P_places : PySem.W.isFn K (.ref f_P_places) = true)
    (l_P_places : K.lookup f_P_places = some ⟨oc_P_places, od_P_places, .func (PySem.W.fnOf "places" "Program.places" (defArgs s_P_places) (defBody s_P_places) (defScope s_P_places) .none kV_P_places dc_P_places pm_P_places an_P_places cd_P_places ct_P_places), sl_P_places⟩)
    (c_P_places : PySem.W.codeIn K cd_P_places "Program.places" = true)
    (k_P_places : PySem.W.keepIn K (.ref f_P_places) = true)
    (a_P_exits : PySem.W.findIn K (.ref CP) "exits" = some (some (.ref f_P_exits)))
    (i_P_exits : PySem.W.isFn K (.ref f_P_exits) = true)
    (l_P_exits : K.lookup f_P_exits = some ⟨oc_P_exits, od_P_exits, .func (PySem.W.fnOf "exits" "Program.exits" (defArgs s_P_exits) (defBody s_P_exits) (defScope s_P_exits) .none kV_P_exits dc_P_exits pm_P_exits an_P_exits cd_P_exits ct_P_exits), sl_P_exits⟩)
    (c_P_exits : PySem.W.codeIn K cd_P_exits "Program.exits" = true)
    (k_P_exits : PySem.W.keepIn K (.ref f_P_exits) = true)
    (a_P_contains : PySem.W.findIn K (.ref CP) "__contains__" = some (some (.ref f_P_contains)))
    (i_P_contains : PySem.W.isFn K (.ref f_P_contains) = true)
    (l_P_contains : K.lookup f_P_contains = some ⟨oc_P_contains, od_P_contains, .func (PySem.W.fnOf "__contains__" "Program.__contains__" (defArgs s_P_contains) (defBody s_P_contains) (defScope s_P_contains) .none kV_P_contains dc_P_contains pm_P_contains an_P_contains cd_P_contains ct_P_contains), sl_P_contains⟩)
    (c_P_contains : PySem.W.codeIn K cd_P_contains "Program.__contains__" = true)
    (k_P_contains : PySem.W.keepIn K (.ref f_P_contains) = true)
    (a_P_getitem : PySem.W.findIn K (.ref CP) "__getitem__" = some (some (.ref f_P_getitem)))
    (i_P_getitem : PySem.W.isFn K (.ref f_P_getitem) = true)
    (l_P_getitem : K.lookup f_P_getitem = some ⟨oc_P_getitem, od_P_getitem, .func (PySem.W.fnOf "__getitem__" "Program.__getitem__" (defArgs s_P_getitem) (defBody s_P_getitem) (defScope s_P_getitem) .none kV_P_getitem dc_P_getitem pm_P_getitem an_P_getitem cd_P_getitem ct_P_getitem), sl_P_getitem⟩)
    (c_P_getitem : PySem.W.codeIn K cd_P_getitem "Program.__getitem__" = true)
    (k_P_getitem : PySem.W.keepIn K (.ref f_P_getitem) = true)
    (a_P_check_place : PySem.W.findIn K (.ref CP) "check_place" = some (some (.ref f_P_check_place)))
    (i_P_check_place : PySem.W.isFn K (.ref f_P_check_place) = true)
    (l_P_check_place : K.lookup f_P_check_place = some ⟨oc_P_check_place, od_P_check_place, .func (PySem.W.fnOf "check_place" "Program.check_place" (defArgs s_P_check_place) (defBody s_P_check_place) (defScope s_P_check_place) .none kV_P_check_place dc_P_check_place pm_P_check_place an_P_check_place cd_P_check_place ct_P_check_place), sl_P_check_place⟩)
    (c_P_check_place : PySem.W.codeIn K cd_P_check_place "Program.check_place" = true)
    (k_P_check_place : PySem.W.keepIn K (.ref f_P_check_place) = true)
    (a_P_leaving : PySem.W.findIn K (.ref CP) "leaving" = some (some (.ref f_P_leaving)))
    (i_P_leaving : PySem.W.isFn K (.ref f_P_leaving) = true)
    (l_P_leaving : K.lookup f_P_leaving = some ⟨oc_P_leaving, od_P_leaving, .func (PySem.W.fnOf "leaving" "Program.leaving" (defArgs s_P_leaving) (defBody s_P_leaving) (defScope s_P_leaving) .none kV_P_leaving dc_P_leaving pm_P_leaving an_P_leaving cd_P_leaving ct_P_leaving), sl_P_leaving⟩)
    (c_P_leaving : PySem.W.codeIn K cd_P_leaving "Program.leaving" = true)
    (k_P_leaving : PySem.W.keepIn K (.ref f_P_leaving) = true)
    (a_P_eq : PySem.W.findIn K (.ref CP) "__eq__" = some (some (.ref f_P_eq)))
    (i_P_eq : PySem.W.isFn K (.ref f_P_eq) = true)
    (l_P_eq : K.lookup f_P_eq = some ⟨oc_P_eq, od_P_eq, .func (PySem.W.fnOf "__eq__" "Program.__eq__" (defArgs s_P_eq) (defBody s_P_eq) (defScope s_P_eq) .none kV_P_eq dc_P_eq pm_P_eq an_P_eq cd_P_eq ct_P_eq), sl_P_eq⟩)
    (c_P_eq : PySem.W.codeIn K cd_P_eq "Program.__eq__" = true)
    (k_P_eq : PySem.W.keepIn K (.ref f_P_eq) = true)
    (a_P_path : PySem.W.findIn K (.ref CP) "path" = some (some (.ref f_P_path)))
    (i_P_path : PySem.W.isFn K (.ref f_P_path) = true)
    (l_P_path : K.lookup f_P_path = some ⟨oc_P_path, od_P_path, .func (PySem.W.fnOf "path" "Program.path" (defArgs s_P_path) (defBody s_P_path) (defScope s_P_path) .none kV_P_path dc_P_path pm_P_path an_P_path cd_P_path ct_P_path), sl_P_path⟩)
    (c_P_path : PySem.W.codeIn K cd_P_path "Program.path" = true)
    (k_P_path : PySem.W.keepIn K (.ref f_P_path) = true)
    (a_P_find_ring : PySem.W.findIn K (.ref CP) "find_ring" = some (some (.ref f_P_find_ring)))
    (i_P_find_ring : PySem.W.isFn K (.ref f_P_find_ring) = true)
    (l_P_find_ring : K.lookup f_P_find_ring = some ⟨oc_P_find_ring, od_P_find_ring, .func (PySem.W.fnOf "find_ring" "Program.find_ring" (defArgs s_P_find_ring) (defBody s_P_find_ring) (defScope s_P_find_ring) .none kV_P_find_ring dc_P_find_ring pm_P_find_ring an_P_find_ring cd_P_find_ring ct_P_find_ring), sl_P_find_ring⟩)
    (c_P_find_ring : PySem.W.codeIn K cd_P_find_ring "Program.find_ring" = true)
    (k_P_find_ring : PySem.W.keepIn K (.ref f_P_find_ring) = true)
    (a_M_init : PySem.W.findIn K (.ref CM) "__init__" = some (some (.ref f_M_init)))
    (i_M_init : PySem.W.isFn K (.ref f_M_init) = true)
    (l_M_init : K.lookup f_M_init = some ⟨oc_M_init, od_M_init, .func (PySem.W.fnOf "__init__" "Numbering.__init__" (defArgs s_M_init) (defBody s_M_init) (defScope s_M_init) .none kV_M_init dc_M_init pm_M_init an_M_init cd_M_init ct_M_init), sl_M_init⟩)
    (c_M_init : PySem.W.codeIn K cd_M_init "Numbering.__init__" = true)
    (k_M_init : PySem.W.keepIn K (.ref f_M_init) = true)
    (a_M_getitem : PySem.W.findIn K (.ref CM) "__getitem__" = some (some (.ref f_M_getitem)))
    (i_M_getitem : PySem.W.isFn K (.ref f_M_getitem) = true)
    (l_M_getitem : K.lookup f_M_getitem = some ⟨oc_M_getitem, od_M_getitem, .func (PySem.W.fnOf "__getitem__" "Numbering.__getitem__" (defArgs s_M_getitem) (defBody s_M_getitem) (defScope s_M_getitem) .none kV_M_getitem dc_M_getitem pm_M_getitem an_M_getitem cd_M_getitem ct_M_getitem), sl_M_getitem⟩)
    (c_M_getitem : PySem.W.codeIn K cd_M_getitem "Numbering.__getitem__" = true)
    (k_M_getitem : PySem.W.keepIn K (.ref f_M_getitem) = true)
    (a_M_call : PySem.W.findIn K (.ref CM) "__call__" = some (some (.ref f_M_call)))
    (i_M_call : PySem.W.isFn K (.ref f_M_call) = true)
    (l_M_call : K.lookup f_M_call = some ⟨oc_M_call, od_M_call, .func (PySem.W.fnOf "__call__" "Numbering.__call__" (defArgs s_M_call) (defBody s_M_call) (defScope s_M_call) .none kV_M_call dc_M_call pm_M_call an_M_call cd_M_call ct_M_call), sl_M_call⟩)
    (c_M_call : PySem.W.codeIn K cd_M_call "Numbering.__call__" = true)
    (k_M_call : PySem.W.keepIn K (.ref f_M_call) = true)
    (a_M_run : PySem.W.findIn K (.ref CM) "run" = some (some (.ref f_M_run)))
    (i_M_run : PySem.W.isFn K (.ref f_M_run) = true)
    (l_M_run : K.lookup f_M_run = some ⟨oc_M_run, od_M_run, .func (PySem.W.fnOf "run" "Numbering.run" (defArgs s_M_run) (defBody s_M_run) (defScope s_M_run) .none kV_M_run dc_M_run pm_M_run an_M_run cd_M_run ct_M_run), sl_M_run⟩)
    (c_M_run : PySem.W.codeIn K cd_M_run "Numbering.run" = true)
    (k_M_run : PySem.W.keepIn K (.ref f_M_run) = true)
    (a_M_with_levels : PySem.W.findIn K (.ref CM) "with_levels" = some (some (.ref f_M_with_levels)))
    (i_M_with_levels : PySem.W.isFn K (.ref f_M_with_levels) = true)
    (l_M_with_levels : K.lookup f_M_with_levels = some ⟨oc_M_with_levels, od_M_with_levels, .func (PySem.W.fnOf "with_levels" "Numbering.with_levels" (defArgs s_M_with_levels) (defBody s_M_with_levels) (defScope s_M_with_levels) .none kV_M_with_levels dc_M_with_levels pm_M_with_levels an_M_with_levels cd_M_with_levels ct_M_with_levels), sl_M_with_levels⟩)
    (c_M_with_levels : PySem.W.codeIn K cd_M_with_levels "Numbering.with_levels" = true)
    (k_M_with_levels : PySem.W.keepIn K (.ref f_M_with_levels) = true)
    (a_M_moved : PySem.W.findIn K (.ref CM) "moved" = some (some (.ref f_M_moved)))
    (i_M_moved : PySem.W.isFn K (.ref f_M_moved) = true)
    (l_M_moved : K.lookup f_M_moved = some ⟨oc_M_moved, od_M_moved, .func (PySem.W.fnOf "moved" "Numbering.moved" (defArgs s_M_moved) (defBody s_M_moved) (defScope s_M_moved) .none kV_M_moved dc_M_moved pm_M_moved an_M_moved cd_M_moved ct_M_moved), sl_M_moved⟩)
    (c_M_moved : PySem.W.codeIn K cd_M_moved "Numbering.moved" = true)
    (k_M_moved : PySem.W.keepIn K (.ref f_M_moved) = true)
    (a_M_free : PySem.W.findIn K (.ref CM) "free" = some (some (.ref f_M_free)))
    (i_M_free : PySem.W.isFn K (.ref f_M_free) = true)
    (l_M_free : K.lookup f_M_free = some ⟨oc_M_free, od_M_free, .func (PySem.W.fnOf "free" "Numbering.free" (defArgs s_M_free) (defBody s_M_free) (defScope s_M_free) .none kV_M_free dc_M_free pm_M_free an_M_free cd_M_free ct_M_free), sl_M_free⟩)
    (c_M_free : PySem.W.codeIn K cd_M_free "Numbering.free" = true)
    (k_M_free : PySem.W.keepIn K (.ref f_M_free) = true)
    (a_M_eq : PySem.W.findIn K (.ref CM) "__eq__" = some (some (.ref f_M_eq)))
    (i_M_eq : PySem.W.isFn K (.ref f_M_eq) = true)
    (l_M_eq : K.lookup f_M_eq = some ⟨oc_M_eq, od_M_eq, .func (PySem.W.fnOf "__eq__" "Numbering.__eq__" (defArgs s_M_eq) (defBody s_M_eq) (defScope s_M_eq) .none kV_M_eq dc_M_eq pm_M_eq an_M_eq cd_M_eq ct_M_eq), sl_M_eq⟩)
    (c_M_eq : PySem.W.codeIn K cd_M_eq "Numbering.__eq__" = true)
    (k_M_eq : PySem.W.keepIn K (.ref f_M_eq) = true)
    (a_P_begin : PySem.W.findIn K (.ref CP) "begin" = some (some (.ref q_P_begin)))
    (g_P_begin : PySem.W.specialIn K (.ref q_P_begin) "__get__" = some (some (.builtin "property.__get__")))
    (t_P_begin : PySem.W.takesIn K (.ref q_P_begin) = some true)
    (r_P_begin : PySem.W.recIn K q_P_begin "property" = some (.ref f_P_begin :: rs_P_begin))
    (l_P_begin : K.lookup f_P_begin = some ⟨oc_P_begin, od_P_begin, .func (PySem.W.fnOf "begin" "Program.begin" (defArgs s_P_begin) (defBody s_P_begin) (defScope s_P_begin) .none kV_P_begin dc_P_begin pm_P_begin an_P_begin cd_P_begin ct_P_begin), sl_P_begin⟩)
    (c_P_begin : PySem.W.codeIn K cd_P_begin "Program.begin" = true)
    (k_P_begin : PySem.W.keepIn K (.ref f_P_begin) = true)
    (a_M_many : PySem.W.findIn K (.ref CM) "many" = some (some (.ref q_M_many)))
    (g_M_many : PySem.W.specialIn K (.ref q_M_many) "__get__" = some (some (.builtin "property.__get__")))
    (t_M_many : PySem.W.takesIn K (.ref q_M_many) = some true)
    (r_M_many : PySem.W.recIn K q_M_many "property" = some (.ref f_M_many :: rs_M_many))
    (l_M_many : K.lookup f_M_many = some ⟨oc_M_many, od_M_many, .func (PySem.W.fnOf "many" "Numbering.many" (defArgs s_M_many) (defBody s_M_many) (defScope s_M_many) .none kV_M_many dc_M_many pm_M_many an_M_many cd_M_many ct_M_many), sl_M_many⟩)
    (c_M_many : PySem.W.codeIn K cd_M_many "Numbering.many" = true)
    (k_M_many : PySem.W.keepIn K (.ref f_M_many) = true)
    (hn_ : PySem.W.specialIn K (.builtin "object.__class__") "__get__" = some (some (.builtin "getset_descriptor.__get__")))
    (ht_ : PySem.W.takesIn K (.builtin "object.__class__") = some true)
    (z_isinstance : PySem.W.nsIn K mainGlobals "isinstance" = some none)
    (z_int : PySem.W.nsIn K mainGlobals "int" = some none)
    (z_bool : PySem.W.nsIn K mainGlobals "bool" = some none)
    (z_str : PySem.W.nsIn K mainGlobals "str" = some none)
    (z_len : PySem.W.nsIn K mainGlobals "len" = some none)
    (z_all : PySem.W.nsIn K mainGlobals "all" = some none)
    (z_dict : PySem.W.nsIn K mainGlobals "dict" = some none)
    (z_tuple : PySem.W.nsIn K mainGlobals "tuple" = some none)
    (z_list : PySem.W.nsIn K mainGlobals "list" = some none)
    (z_sorted : PySem.W.nsIn K mainGlobals "sorted" = some none)
    (z_any : PySem.W.nsIn K mainGlobals "any" = some none)
    (z_sum : PySem.W.nsIn K mainGlobals "sum" = some none)
    (z_max : PySem.W.nsIn K mainGlobals "max" = some none)
    (z_min : PySem.W.nsIn K mainGlobals "min" = some none)
    (z_range : PySem.W.nsIn K mainGlobals "range" = some none)
    (z_letters : PySem.W.nsIn K mainGlobals "LETTERS" = some (some (.str (PySem.Str.ofString "abcdefghijklmnopqrstuvwxyz") tL)))
    (z_mostL : PySem.W.nsIn K mainGlobals "MOST_LETTERS" = some (some (.int 8 tM)))
    (z_mostW : PySem.W.nsIn K mainGlobals "MOST_WAYS" = some (some (.int 40 tW)))
    (b_ns : PySem.W.nsIn K mainGlobals "BadLevels" = some (some (.ref CB)))
    (b_obj : K.lookup CB = some (PySem.excClassObj nmB qB CB NB bsB bmB true snB subB abB colB ddB m0 m1 m2 m3 m5 "Exception.__new__"))
    (b_sa : PySem.W.findIn K (.ref CB) "__setattr__" = some (some (.builtin "object.__setattr__")))
    (b_ga : PySem.W.findIn K (.ref CB) "__getattribute__" = some (some (.builtin "BaseException.__getattribute__")))
    (b_gg : PySem.W.findIn K (.ref CB) "__getattr__" = some none)
    (b_nv : PySem.W.findIn K (.ref CB) "value" = some none)
    (b_init : PySem.W.findIn K (.ref CB) "__init__" = some (some (.ref fB)))
    (b_ty : PySem.W.typeIn K (.ref fB) = some (.type "function"))
    (b_fn : K.lookup fB = some ⟨ocB, odB, .func (PySem.W.fnOf "__init__" "BadLevels.__init__" (PySem.LvX.iA pB1 pB2) (PySem.LvX.iB pB3 pB4 pB5 pB6) PySem.LvX.iS .none .none dcB pmB anB cdB ctB), slB⟩)
    (b_code : PySem.W.codeIn K cdB "BadLevels.__init__" = true)
    (b_kp : PySem.W.keepIn K (.ref CB) = true)
    (b_ex : PySem.W.subIn K (.ref CB) (.type "BaseException") = some true)
    (b_tc : PySem.W.typeIn K (.ref CB) = some (.type "type"))
    (b_hd : PySem.W.hasDictIn K CB = true)
    (b_ic : PySem.W.isClsIn K CB = true)
    (b_ss : PySem.W.subIn K (.ref CB) (.ref CB) = some true)
    (hbm : PySem.LvX.refsE bmB = true) :
    ∃ fd : FuncData, (∀ (s : Shared) (v : Value), BindsTo s fd ⟨[v], []⟩ [("script", v)]) ∧ ∀ base : Heap, K.In base → base.Ns mainGlobals mg → FnOk P w K mg base CX0 lawLevel fa fd ["script"] (spLaw K) := by
  have e := hfa.symm.trans (PySem.W.mg_of X G a_law)
  cases e
  have F_is_integer := fun_mk (st := s_is_integer) l_is_integer c_is_integer k_is_integer
  have b_is_integer := F_is_integer.binds (ps := p_is_integer) fun _ _ _ _ _ _ us hl => match us, hl with | [_], _ => rfl
  have D_is_integer : FnT K mg "is_integer" s_is_integer p_is_integer _ _ := ⟨F_is_integer, PySem.W.mg_of X G a_is_integer, b_is_integer⟩
  have F_is_word := fun_mk (st := s_is_word) l_is_word c_is_word k_is_word
  have b_is_word := F_is_word.binds (ps := p_is_word) fun _ _ _ _ _ _ us hl => match us, hl with | [_], _ => rfl
  have D_is_word : FnT K mg "is_word" s_is_word p_is_word _ _ := ⟨F_is_word, PySem.W.mg_of X G a_is_word, b_is_word⟩
  have F_are_ways := fun_mk (st := s_are_ways) l_are_ways c_are_ways k_are_ways
  have b_are_ways := F_are_ways.binds (ps := p_are_ways) fun _ _ _ _ _ _ us hl => match us, hl with | [_], _ => rfl
  have D_are_ways : FnT K mg "are_ways" s_are_ways p_are_ways _ _ := ⟨F_are_ways, PySem.W.mg_of X G a_are_ways, b_are_ways⟩
  have F_come_to := fun_mk (st := s_come_to) l_come_to c_come_to k_come_to
  have b_come_to := F_come_to.binds (ps := p_come_to) fun _ _ _ _ _ _ us hl => match us, hl with | [_, _], _ => rfl
  have D_come_to : FnT K mg "come_to" s_come_to p_come_to _ _ := ⟨F_come_to, PySem.W.mg_of X G a_come_to, b_come_to⟩
  have F_check_program := fun_mk (st := s_check_program) l_check_program c_check_program k_check_program
  have b_check_program := F_check_program.binds (ps := p_check_program) fun _ _ _ _ _ _ us hl => match us, hl with | [_], _ => rfl
  have D_check_program : FnT K mg "check_program" s_check_program p_check_program _ _ := ⟨F_check_program, PySem.W.mg_of X G a_check_program, b_check_program⟩
  have F_end_of := fun_mk (st := s_end_of) l_end_of c_end_of k_end_of
  have b_end_of := F_end_of.binds (ps := p_end_of) fun _ _ _ _ _ _ us hl => match us, hl with | [_, _], _ => rfl
  have D_end_of : FnT K mg "end_of" s_end_of p_end_of _ _ := ⟨F_end_of, PySem.W.mg_of X G a_end_of, b_end_of⟩
  have F_is_run := fun_mk (st := s_is_run) l_is_run c_is_run k_is_run
  have b_is_run := F_is_run.binds (ps := p_is_run) fun _ _ _ _ _ _ us hl => match us, hl with | [_, _], _ => rfl
  have D_is_run : FnT K mg "is_run" s_is_run p_is_run _ _ := ⟨F_is_run, PySem.W.mg_of X G a_is_run, b_is_run⟩
  have F_check_rings := fun_mk (st := s_check_rings) l_check_rings c_check_rings k_check_rings
  have b_check_rings := F_check_rings.binds (ps := p_check_rings) fun _ _ _ _ _ _ us hl => match us, hl with | [_], _ => rfl
  have D_check_rings : FnT K mg "check_rings" s_check_rings p_check_rings _ _ := ⟨F_check_rings, PySem.W.mg_of X G a_check_rings, b_check_rings⟩
  have F_ways_on := fun_mk (st := s_ways_on) l_ways_on c_ways_on k_ways_on
  have b_ways_on := F_ways_on.binds (ps := p_ways_on) fun _ _ _ _ _ _ us hl => match us, hl with | [_], _ => rfl
  have D_ways_on : FnT K mg "ways_on" s_ways_on p_ways_on _ _ := ⟨F_ways_on, PySem.W.mg_of X G a_ways_on, b_ways_on⟩
  have F_first_steps := fun_mk (st := s_first_steps) l_first_steps c_first_steps k_first_steps
  have b_first_steps := F_first_steps.binds (ps := p_first_steps) fun _ _ _ _ _ _ us hl => match us, hl with | [_, _], _ => rfl
  have D_first_steps : FnT K mg "first_steps" s_first_steps p_first_steps _ _ := ⟨F_first_steps, PySem.W.mg_of X G a_first_steps, b_first_steps⟩
  have F_are_whole := fun_mk (st := s_are_whole) l_are_whole c_are_whole k_are_whole
  have b_are_whole := F_are_whole.binds (ps := p_are_whole) fun _ _ _ _ _ _ us hl => match us, hl with | [_, _, _], _ => rfl
  have D_are_whole : FnT K mg "are_whole" s_are_whole p_are_whole _ _ := ⟨F_are_whole, PySem.W.mg_of X G a_are_whole, b_are_whole⟩
  have F_law_numbers := fun_mk (st := s_law_numbers) l_law_numbers c_law_numbers k_law_numbers
  have b_law_numbers := F_law_numbers.binds (ps := p_law_numbers) fun _ _ _ _ _ _ us hl => match us, hl with | [_, _, _], _ => rfl
  have D_law_numbers : FnT K mg "_law_numbers" s_law_numbers p_law_numbers _ _ := ⟨F_law_numbers, PySem.W.mg_of X G a_law_numbers, b_law_numbers⟩
  have F_law_pool := fun_mk (st := s_law_pool) l_law_pool c_law_pool k_law_pool
  have b_law_pool := F_law_pool.binds (ps := p_law_pool) fun _ _ _ _ _ _ us hl => match us, hl with | [_, _, _], _ => rfl
  have D_law_pool : FnT K mg "_law_pool" s_law_pool p_law_pool _ _ := ⟨F_law_pool, PySem.W.mg_of X G a_law_pool, b_law_pool⟩
  have F_law_draw := fun_mk (st := s_law_draw) l_law_draw c_law_draw k_law_draw
  have b_law_draw := F_law_draw.binds (ps := p_law_draw) fun _ _ _ _ _ _ us hl => match us, hl with | [_, _], _ => rfl
  have D_law_draw : FnT K mg "_law_draw" s_law_draw p_law_draw _ _ := ⟨F_law_draw, PySem.W.mg_of X G a_law_draw, b_law_draw⟩
  have F_law_opened := fun_mk (st := s_law_opened) l_law_opened c_law_opened k_law_opened
  have b_law_opened := F_law_opened.binds (ps := p_law_opened) fun _ _ _ _ _ _ us hl => match us, hl with | [_, _, _], _ => rfl
  have D_law_opened : FnT K mg "_law_opened" s_law_opened p_law_opened _ _ := ⟨F_law_opened, PySem.W.mg_of X G a_law_opened, b_law_opened⟩
  have F_law_words := fun_mk (st := s_law_words) l_law_words c_law_words k_law_words
  have b_law_words := F_law_words.binds (ps := p_law_words) fun _ _ _ _ _ _ us hl => match us, hl with | [_, _], _ => rfl
  have D_law_words : FnT K mg "_law_words" s_law_words p_law_words _ _ := ⟨F_law_words, PySem.W.mg_of X G a_law_words, b_law_words⟩
  have F_law_names := fun_mk (st := s_law_names) l_law_names c_law_names k_law_names
  have b_law_names := F_law_names.binds (ps := p_law_names) fun _ _ _ _ _ _ us hl => match us, hl with | [_, _], _ => rfl
  have D_law_names : FnT K mg "_law_names" s_law_names p_law_names _ _ := ⟨F_law_names, PySem.W.mg_of X G a_law_names, b_law_names⟩
  have F_law_program := fun_mk (st := s_law_program) l_law_program c_law_program k_law_program
  have b_law_program := F_law_program.binds (ps := p_law_program) fun _ _ _ _ _ _ us hl => match us, hl with | [_, _, _, _], _ => rfl
  have D_law_program : FnT K mg "_law_program" s_law_program p_law_program _ _ := ⟨F_law_program, PySem.W.mg_of X G a_law_program, b_law_program⟩
  have F_law_made := fun_mk (st := s_law_made) l_law_made c_law_made k_law_made
  have b_law_made := F_law_made.binds (ps := p_law_made) fun _ _ _ _ _ _ us hl => match us, hl with | [_], _ => rfl
  have D_law_made : FnT K mg "_law_made" s_law_made p_law_made _ _ := ⟨F_law_made, PySem.W.mg_of X G a_law_made, b_law_made⟩
  have F_law_places := fun_mk (st := s_law_places) l_law_places c_law_places k_law_places
  have b_law_places := F_law_places.binds (ps := p_law_places) fun _ _ _ _ _ _ us hl => match us, hl with | [_], _ => rfl
  have D_law_places : FnT K mg "_law_places" s_law_places p_law_places _ _ := ⟨F_law_places, PySem.W.mg_of X G a_law_places, b_law_places⟩
  have F_law_levels := fun_mk (st := s_law_levels) l_law_levels c_law_levels k_law_levels
  have b_law_levels := F_law_levels.binds (ps := p_law_levels) fun _ _ _ _ _ _ us hl => match us, hl with | [_, _], _ => rfl
  have D_law_levels : FnT K mg "_law_levels" s_law_levels p_law_levels _ _ := ⟨F_law_levels, PySem.W.mg_of X G a_law_levels, b_law_levels⟩
  have F_law_told := fun_mk (st := s_law_told) l_law_told c_law_told k_law_told
  have b_law_told := F_law_told.binds (ps := p_law_told) fun _ _ _ _ _ _ us hl => match us, hl with | [_, _], _ => rfl
  have D_law_told : FnT K mg "_law_told" s_law_told p_law_told _ _ := ⟨F_law_told, PySem.W.mg_of X G a_law_told, b_law_told⟩
  have F_law_refused := fun_mk (st := s_law_refused) l_law_refused c_law_refused k_law_refused
  have b_law_refused := F_law_refused.binds (ps := p_law_refused) fun _ _ _ _ _ _ us hl => match us, hl with | [_, _], _ => rfl
  have D_law_refused : FnT K mg "_law_refused" s_law_refused p_law_refused _ _ := ⟨F_law_refused, PySem.W.mg_of X G a_law_refused, b_law_refused⟩
  have F_law := fun_mk (st := s_law) l_law c_law k_law
  have b_law := F_law.binds (ps := p_law) fun _ _ _ _ _ _ us hl => match us, hl with | [_], _ => rfl
  have D_law : FnT K mg "law" s_law p_law _ _ := ⟨F_law, PySem.W.mg_of X G a_law, b_law⟩
  have F_P_init := fun_mk (st := s_P_init) l_P_init c_P_init k_P_init
  have b_P_init := F_P_init.binds (ps := p_P_init) fun _ _ _ _ _ _ us hl => match us, hl with | [_, _, _, _], _ => rfl
  have D_P_init : MeT K CP "__init__" "Program.__init__" s_P_init p_P_init f_P_init _ := ⟨F_P_init, a_P_init, i_P_init, (by unfold PySem.W.fnIn; rw [l_P_init]), b_P_init⟩
  have F_P_are_exits := fun_mk (st := s_P_are_exits) l_P_are_exits c_P_are_exits k_P_are_exits
  have b_P_are_exits := F_P_are_exits.binds (ps := p_P_are_exits) fun _ _ _ _ _ _ us hl => match us, hl with | [_, _], _ => rfl
  have D_P_are_exits : MeT K CP "are_exits" "Program.are_exits" s_P_are_exits p_P_are_exits f_P_are_exits _ := ⟨F_P_are_exits, a_P_are_exits, i_P_are_exits, (by unfold PySem.W.fnIn; rw [l_P_are_exits]), b_P_are_exits⟩
  have F_P_ways_at := fun_mk (st := s_P_ways_at) l_P_ways_at c_P_ways_at k_P_ways_at
  have b_P_ways_at := F_P_ways_at.binds (ps := p_P_ways_at) fun _ _ _ _ _ _ us hl => match us, hl with | [_, _, _], _ => rfl
  have D_P_ways_at : MeT K CP "ways_at" "Program.ways_at" s_P_ways_at p_P_ways_at f_P_ways_at _ := ⟨F_P_ways_at, a_P_ways_at, i_P_ways_at, (by unfold PySem.W.fnIn; rw [l_P_ways_at]), b_P_ways_at⟩
  have F_P_ways := fun_mk (st := s_P_ways) l_P_ways c_P_ways k_P_ways
  have b_P_ways := F_P_ways.binds (ps := p_P_ways) fun _ _ _ _ _ _ us hl => match us, hl with | [_], _ => rfl
  have D_P_ways : MeT K CP "ways" "Program.ways" s_P_ways p_P_ways f_P_ways _ := ⟨F_P_ways, a_P_ways, i_P_ways, (by unfold PySem.W.fnIn; rw [l_P_ways]), b_P_ways⟩
  have F_P_places := fun_mk (st := s_P_places) l_P_places c_P_places k_P_places
  have b_P_places := F_P_places.binds (ps := p_P_places) fun _ _ _ _ _ _ us hl => match us, hl with | [_], _ => rfl
  have D_P_places : MeT K CP "places" "Program.places" s_P_places p_P_places f_P_places _ := ⟨F_P_places, a_P_places, i_P_places, (by unfold PySem.W.fnIn; rw [l_P_places]), b_P_places⟩
  have F_P_exits := fun_mk (st := s_P_exits) l_P_exits c_P_exits k_P_exits
  have b_P_exits := F_P_exits.binds (ps := p_P_exits) fun _ _ _ _ _ _ us hl => match us, hl with | [_], _ => rfl
  have D_P_exits : MeT K CP "exits" "Program.exits" s_P_exits p_P_exits f_P_exits _ := ⟨F_P_exits, a_P_exits, i_P_exits, (by unfold PySem.W.fnIn; rw [l_P_exits]), b_P_exits⟩
  have F_P_contains := fun_mk (st := s_P_contains) l_P_contains c_P_contains k_P_contains
  have b_P_contains := F_P_contains.binds (ps := p_P_contains) fun _ _ _ _ _ _ us hl => match us, hl with | [_, _], _ => rfl
  have D_P_contains : MeT K CP "__contains__" "Program.__contains__" s_P_contains p_P_contains f_P_contains _ := ⟨F_P_contains, a_P_contains, i_P_contains, (by unfold PySem.W.fnIn; rw [l_P_contains]), b_P_contains⟩
  have F_P_getitem := fun_mk (st := s_P_getitem) l_P_getitem c_P_getitem k_P_getitem
  have b_P_getitem := F_P_getitem.binds (ps := p_P_getitem) fun _ _ _ _ _ _ us hl => match us, hl with | [_, _], _ => rfl
  have D_P_getitem : MeT K CP "__getitem__" "Program.__getitem__" s_P_getitem p_P_getitem f_P_getitem _ := ⟨F_P_getitem, a_P_getitem, i_P_getitem, (by unfold PySem.W.fnIn; rw [l_P_getitem]), b_P_getitem⟩
  have F_P_check_place := fun_mk (st := s_P_check_place) l_P_check_place c_P_check_place k_P_check_place
  have b_P_check_place := F_P_check_place.binds (ps := p_P_check_place) fun _ _ _ _ _ _ us hl => match us, hl with | [_, _], _ => rfl
  have D_P_check_place : MeT K CP "check_place" "Program.check_place" s_P_check_place p_P_check_place f_P_check_place _ := ⟨F_P_check_place, a_P_check_place, i_P_check_place, (by unfold PySem.W.fnIn; rw [l_P_check_place]), b_P_check_place⟩
  have F_P_leaving := fun_mk (st := s_P_leaving) l_P_leaving c_P_leaving k_P_leaving
  have b_P_leaving := F_P_leaving.binds (ps := p_P_leaving) fun _ _ _ _ _ _ us hl => match us, hl with | [_, _], _ => rfl
  have D_P_leaving : MeT K CP "leaving" "Program.leaving" s_P_leaving p_P_leaving f_P_leaving _ := ⟨F_P_leaving, a_P_leaving, i_P_leaving, (by unfold PySem.W.fnIn; rw [l_P_leaving]), b_P_leaving⟩
  have F_P_eq := fun_mk (st := s_P_eq) l_P_eq c_P_eq k_P_eq
  have b_P_eq := F_P_eq.binds (ps := p_P_eq) fun _ _ _ _ _ _ us hl => match us, hl with | [_, _], _ => rfl
  have D_P_eq : MeT K CP "__eq__" "Program.__eq__" s_P_eq p_P_eq f_P_eq _ := ⟨F_P_eq, a_P_eq, i_P_eq, (by unfold PySem.W.fnIn; rw [l_P_eq]), b_P_eq⟩
  have F_P_path := fun_mk (st := s_P_path) l_P_path c_P_path k_P_path
  have b_P_path := F_P_path.binds (ps := p_P_path) fun _ _ _ _ _ _ us hl => match us, hl with | [_, _, _], _ => rfl
  have D_P_path : MeT K CP "path" "Program.path" s_P_path p_P_path f_P_path _ := ⟨F_P_path, a_P_path, i_P_path, (by unfold PySem.W.fnIn; rw [l_P_path]), b_P_path⟩
  have F_P_find_ring := fun_mk (st := s_P_find_ring) l_P_find_ring c_P_find_ring k_P_find_ring
  have b_P_find_ring := F_P_find_ring.binds (ps := p_P_find_ring) fun _ _ _ _ _ _ us hl => match us, hl with | [_], _ => rfl
  have D_P_find_ring : MeT K CP "find_ring" "Program.find_ring" s_P_find_ring p_P_find_ring f_P_find_ring _ := ⟨F_P_find_ring, a_P_find_ring, i_P_find_ring, (by unfold PySem.W.fnIn; rw [l_P_find_ring]), b_P_find_ring⟩
  have F_M_init := fun_mk (st := s_M_init) l_M_init c_M_init k_M_init
  have b_M_init := F_M_init.binds (ps := p_M_init) fun _ _ _ _ _ _ us hl => match us, hl with | [_, _], _ => rfl
  have D_M_init : MeT K CM "__init__" "Numbering.__init__" s_M_init p_M_init f_M_init _ := ⟨F_M_init, a_M_init, i_M_init, (by unfold PySem.W.fnIn; rw [l_M_init]), b_M_init⟩
  have F_M_getitem := fun_mk (st := s_M_getitem) l_M_getitem c_M_getitem k_M_getitem
  have b_M_getitem := F_M_getitem.binds (ps := p_M_getitem) fun _ _ _ _ _ _ us hl => match us, hl with | [_, _], _ => rfl
  have D_M_getitem : MeT K CM "__getitem__" "Numbering.__getitem__" s_M_getitem p_M_getitem f_M_getitem _ := ⟨F_M_getitem, a_M_getitem, i_M_getitem, (by unfold PySem.W.fnIn; rw [l_M_getitem]), b_M_getitem⟩
  have F_M_call := fun_mk (st := s_M_call) l_M_call c_M_call k_M_call
  have b_M_call := F_M_call.binds (ps := p_M_call) fun _ _ _ _ _ _ us hl => match us, hl with | [_, _], _ => rfl
  have D_M_call : MeT K CM "__call__" "Numbering.__call__" s_M_call p_M_call f_M_call _ := ⟨F_M_call, a_M_call, i_M_call, (by unfold PySem.W.fnIn; rw [l_M_call]), b_M_call⟩
  have F_M_run := fun_mk (st := s_M_run) l_M_run c_M_run k_M_run
  have b_M_run := F_M_run.binds (ps := p_M_run) fun _ _ _ _ _ _ us hl => match us, hl with | [_, _], _ => rfl
  have D_M_run : MeT K CM "run" "Numbering.run" s_M_run p_M_run f_M_run _ := ⟨F_M_run, a_M_run, i_M_run, (by unfold PySem.W.fnIn; rw [l_M_run]), b_M_run⟩
  have F_M_with_levels := fun_mk (st := s_M_with_levels) l_M_with_levels c_M_with_levels k_M_with_levels
  have b_M_with_levels := F_M_with_levels.binds (ps := p_M_with_levels) fun _ _ _ _ _ _ us hl => match us, hl with | [_, _], _ => rfl
  have D_M_with_levels : MeT K CM "with_levels" "Numbering.with_levels" s_M_with_levels p_M_with_levels f_M_with_levels _ := ⟨F_M_with_levels, a_M_with_levels, i_M_with_levels, (by unfold PySem.W.fnIn; rw [l_M_with_levels]), b_M_with_levels⟩
  have F_M_moved := fun_mk (st := s_M_moved) l_M_moved c_M_moved k_M_moved
  have b_M_moved := F_M_moved.binds (ps := p_M_moved) fun _ _ _ _ _ _ us hl => match us, hl with | [_, _], _ => rfl
  have D_M_moved : MeT K CM "moved" "Numbering.moved" s_M_moved p_M_moved f_M_moved _ := ⟨F_M_moved, a_M_moved, i_M_moved, (by unfold PySem.W.fnIn; rw [l_M_moved]), b_M_moved⟩
  have F_M_free := fun_mk (st := s_M_free) l_M_free c_M_free k_M_free
  have b_M_free := F_M_free.binds (ps := p_M_free) fun _ _ _ _ _ _ us hl => match us, hl with | [_], _ => rfl
  have D_M_free : MeT K CM "free" "Numbering.free" s_M_free p_M_free f_M_free _ := ⟨F_M_free, a_M_free, i_M_free, (by unfold PySem.W.fnIn; rw [l_M_free]), b_M_free⟩
  have F_M_eq := fun_mk (st := s_M_eq) l_M_eq c_M_eq k_M_eq
  have b_M_eq := F_M_eq.binds (ps := p_M_eq) fun _ _ _ _ _ _ us hl => match us, hl with | [_, _], _ => rfl
  have D_M_eq : MeT K CM "__eq__" "Numbering.__eq__" s_M_eq p_M_eq f_M_eq _ := ⟨F_M_eq, a_M_eq, i_M_eq, (by unfold PySem.W.fnIn; rw [l_M_eq]), b_M_eq⟩
  have F_P_begin := fun_mk (st := s_P_begin) l_P_begin c_P_begin k_P_begin
  have b_P_begin := F_P_begin.binds (ps := p_P_begin) fun _ _ _ _ _ _ us hl => match us, hl with | [_], _ => rfl
  have D_P_begin : PrT K CP "begin" "Program.begin" s_P_begin p_P_begin q_P_begin f_P_begin _ := ⟨F_P_begin, ⟨a_P_begin, g_P_begin, t_P_begin, ⟨_, r_P_begin⟩⟩, b_P_begin⟩
  have F_M_many := fun_mk (st := s_M_many) l_M_many c_M_many k_M_many
  have b_M_many := F_M_many.binds (ps := p_M_many) fun _ _ _ _ _ _ us hl => match us, hl with | [_], _ => rfl
  have D_M_many : PrT K CM "many" "Numbering.many" s_M_many p_M_many q_M_many f_M_many _ := ⟨F_M_many, ⟨a_M_many, g_M_many, t_M_many, ⟨_, r_M_many⟩⟩, b_M_many⟩
  have L_P : ClT K mg "Program" CP := ⟨⟨pg_P, hd_P, po_P, sa_P⟩, PySem.W.mg_of X G ns_P, kc_P, mk_P, ha_P, hn_, ht_, hm_P⟩
  have L_M : ClT K mg "Numbering" CM := ⟨⟨pg_M, hd_M, po_M, sa_M⟩, PySem.W.mg_of X G ns_M, kc_M, mk_M, ha_M, hn_, ht_, hm_M⟩
  have B : Blt mg := ⟨PySem.W.mg_none_of X G z_isinstance, PySem.W.mg_none_of X G z_int, PySem.W.mg_none_of X G z_bool, PySem.W.mg_none_of X G z_str, PySem.W.mg_none_of X G z_len, PySem.W.mg_none_of X G z_all, PySem.W.mg_none_of X G z_dict, PySem.W.mg_none_of X G z_tuple, PySem.W.mg_none_of X G z_list, PySem.W.mg_none_of X G z_sorted, PySem.W.mg_none_of X G z_any, PySem.W.mg_none_of X G z_sum, PySem.W.mg_none_of X G z_max, PySem.W.mg_none_of X G z_min, PySem.W.mg_none_of X G z_range, ⟨_, PySem.W.mg_of X G z_letters⟩, ⟨_, PySem.W.mg_of X G z_mostL⟩, ⟨_, PySem.W.mg_of X G z_mostW⟩⟩
  have Z : Fld K CP CM := ⟨nf_pairs, nf_own_places, nf_own_begin, nf_own_exits, nf_outs, nf_ins, nf_own_program, nf_onward, nf_base, nf_steps⟩
  have V : PySem.LvX.LvT K mg CB fB := { gC := PySem.W.mg_of X G b_ns, cls := ⟨_, _, _, _, _, _, _, _, _, _, _, _, _, _, _, b_obj, hbm⟩, sa := b_sa, ga := b_ga, gg := b_gg, noN := b_nv, iC := b_init, tC := b_ty, kC := b_kp, exC := b_ex, tyC := b_tc, hdC := b_hd, te := PySem.LvX.exm_self b_ex b_ic b_tc b_ss, fn := ⟨_, _, _, _, _, _, _, _, _, _, _, _, _, _, b_fn, b_code⟩ }
  refine ⟨PySem.W.fnOf "law" "law" (defArgs s_law) (defBody s_law) (defScope s_law) .none kV_law dc_law pm_law an_law cd_law ct_law, fun s v => .of_eq rfl, fun base _ _ => ?_⟩
  exact law_all (P := P) (w := w) (base := base) L_P L_M B Z V D_is_integer D_is_word D_are_ways D_come_to D_check_program D_end_of D_is_run D_check_rings D_ways_on D_first_steps D_are_whole D_law_numbers D_law_pool D_law_draw D_law_opened D_law_words D_law_names D_law_program D_law_made D_law_places D_law_levels D_law_told D_law_refused D_law D_P_init D_P_are_exits D_P_ways_at D_P_ways D_P_places D_P_exits D_P_contains D_P_getitem D_P_check_place D_P_leaving D_P_eq D_P_path D_P_find_ring D_M_init D_M_getitem D_M_call D_M_run D_M_with_levels D_M_moved D_M_free D_M_eq D_P_begin D_M_many
theorem walk {l : PySem.W.OpenLaw} {q : PySem.Program} {loose : List Str} {XP : (Str → Option Value) → Heap → Prop} {YP : World → Heap → Prop} {d : DefRec} {K : Params → PySem.W.Frag} (hn : l.most = some 63) (hdf : d.params.defaults = [])
    (hY : ∀ (w : World) (h : Heap), YP w h → (K w.params).In h)
    (F : ∀ (w : World) (mg : Str → Option Value) (fa : Addr) (h : Heap), (K w.params).In h → h.Ns mainGlobals mg → mg d.name = some (.ref fa) →
      ∃ fd : FuncData, (∀ (s : Shared) (u : Value), BindsTo s fd ⟨[u], []⟩ [("script", u)]) ∧ ∀ base : Heap, (K w.params).In base → base.Ns mainGlobals mg → FnOk l.prog w (K w.params) mg base CX0 lawLevel fa fd ["script"] (spLaw (K w.params))) :
    PySem.W.WalkO q loose XP YP l.row.toRowW d [] (fun f vs => PySem.call f vs) :=
  L2.walk_of (n := 63) (k := lawLevel) (x := "script") (CX := fun _ => CX0) (sp := fun w => spLaw (K w.params)) hn (by decide) hdf ⟨rfl, by decide, by decide⟩ hY F (fun _ _ a ns hl _ hS => ⟨a, ns, rfl, hS, hl, fun _ => rfl⟩) fun _ _ _ _ _ z => z
end K23

open PySem PySem.W PyProof.Rows in
set_option maxRecDepth 100000 in
set_option maxHeartbeats 0 in
theorem PySem.Challenge.cw_countededges_k23_whole_numbers_moved_holds : PySem.Challenge.rw_countededges_k23_whole_numbers_moved.Holds := by
  w_on; o_law; k_head; (case hw => w_witness2)
  k_fill
  refine K23.walk (l := PySem.Challenge.rw_countededges_k23_whole_numbers_moved) rfl rfl (fun w h Y => PySem.W.kIn_of Y) ?F
  case F =>
    intro w mg fa h KX G hmg
    refine' K23.all_mk KX G hmg ?ns_P ?pg_P ?hd_P ?po_P ?sa_P ?mk_P ?kc_P ?ha_P ?hm_P ?nf_pairs ?nf_own_places ?nf_own_begin ?nf_own_exits ?nf_outs ?nf_ins ?ns_M ?pg_M ?hd_M ?po_M ?sa_M ?mk_M ?kc_M ?ha_M ?hm_M ?nf_own_program ?nf_onward ?nf_base ?nf_steps ?a_is_integer ?l_is_integer ?c_is_integer ?k_is_integer ?a_is_word ?l_is_word ?c_is_word ?k_is_word ?a_are_ways ?l_are_ways ?c_are_ways ?k_are_ways ?a_come_to ?l_come_to ?c_come_to ?k_come_to ?a_check_program ?l_check_program ?c_check_program ?k_check_program ?a_end_of ?l_end_of ?c_end_of ?k_end_of ?a_is_run ?l_is_run ?c_is_run ?k_is_run ?a_check_rings ?l_check_rings ?c_check_rings ?k_check_rings ?a_ways_on ?l_ways_on ?c_ways_on ?k_ways_on ?a_first_steps ?l_first_steps ?c_first_steps ?k_first_steps ?a_are_whole ?l_are_whole ?c_are_whole ?k_are_whole ?a_law_numbers ?l_law_numbers ?c_law_numbers ?k_law_numbers ?a_law_pool ?l_law_pool ?c_law_pool ?k_law_pool ?a_law_draw ?l_law_draw ?c_law_draw ?k_law_draw ?a_law_opened ?l_law_opened ?c_law_opened ?k_law_opened ?a_law_words ?l_law_words ?c_law_words ?k_law_words ?a_law_names ?l_law_names ?c_law_names ?k_law_names ?a_law_program ?l_law_program ?c_law_program ?k_law_program ?a_law_made ?l_law_made ?c_law_made ?k_law_made ?a_law_places ?l_law_places ?c_law_places ?k_law_places ?a_law_levels ?l_law_levels ?c_law_levels ?k_law_levels ?a_law_told ?l_law_told ?c_law_told ?k_law_told ?a_law_refused ?l_law_refused ?c_law_refused ?k_law_refused ?a_law ?l_law ?c_law ?k_law ?a_P_init ?i_P_init ?l_P_init ?c_P_init ?k_P_init ?a_P_are_exits ?i_P_are_exits ?l_P_are_exits ?c_P_are_exits ?k_P_are_exits ?a_P_ways_at ?i_P_ways_at ?l_P_ways_at ?c_P_ways_at ?k_P_ways_at ?a_P_ways ?i_P_ways ?l_P_ways ?c_P_ways ?k_P_ways ?a_P_places ?i_P_places ?l_P_places ?c_P_places ?k_P_places ?a_P_exits ?i_P_exits ?l_P_exits ?c_P_exits ?k_P_exits ?a_P_contains ?i_P_contains ?l_P_contains ?c_P_contains ?k_P_contains ?a_P_getitem ?i_P_getitem ?l_P_getitem ?c_P_getitem ?k_P_getitem ?a_P_check_place ?i_P_check_place ?l_P_check_place ?c_P_check_place ?k_P_check_place ?a_P_leaving ?i_P_leaving ?l_P_leaving ?c_P_leaving ?k_P_leaving ?a_P_eq ?i_P_eq ?l_P_eq ?c_P_eq ?k_P_eq ?a_P_path ?i_P_path ?l_P_path ?c_P_path ?k_P_path ?a_P_find_ring ?i_P_find_ring ?l_P_find_ring ?c_P_find_ring ?k_P_find_ring ?a_M_init ?i_M_init ?l_M_init ?c_M_init ?k_M_init ?a_M_getitem ?i_M_getitem ?l_M_getitem ?c_M_getitem ?k_M_getitem ?a_M_call ?i_M_call ?l_M_call ?c_M_call ?k_M_call ?a_M_run ?i_M_run ?l_M_run ?c_M_run ?k_M_run ?a_M_with_levels ?i_M_with_levels ?l_M_with_levels ?c_M_with_levels ?k_M_with_levels ?a_M_moved ?i_M_moved ?l_M_moved ?c_M_moved ?k_M_moved ?a_M_free ?i_M_free ?l_M_free ?c_M_free ?k_M_free ?a_M_eq ?i_M_eq ?l_M_eq ?c_M_eq ?k_M_eq ?a_P_begin ?g_P_begin ?t_P_begin ?r_P_begin ?l_P_begin ?c_P_begin ?k_P_begin ?a_M_many ?g_M_many ?t_M_many ?r_M_many ?l_M_many ?c_M_many ?k_M_many ?hn_ ?ht_ ?z_isinstance ?z_int ?z_bool ?z_str ?z_len ?z_all ?z_dict ?z_tuple ?z_list ?z_sorted ?z_any ?z_sum ?z_max ?z_min ?z_range ?z_letters ?z_mostL ?z_mostW ?b_ns ?b_obj ?b_sa ?b_ga ?b_gg ?b_nv ?b_init ?b_ty ?b_fn ?b_code ?b_kp ?b_ex ?b_tc ?b_hd ?b_ic ?b_ss ?hbm
    (case ns_P => k_is)
    (case pg_P => k_is)
    (case hd_P => k_is)
    (case po_P => k_is)
    (case sa_P => k_is)
    (case mk_P => k_is)
    (case kc_P => k_is)
    (case ha_P => k_is)
    (case hm_P => k_is)
    (case nf_pairs => k_is)
    (case nf_own_places => k_is)
    (case nf_own_begin => k_is)
    (case nf_own_exits => k_is)
    (case nf_outs => k_is)
    (case nf_ins => k_is)
    (case ns_M => k_is)
    (case pg_M => k_is)
    (case hd_M => k_is)
    (case po_M => k_is)
    (case sa_M => k_is)
    (case mk_M => k_is)
    (case kc_M => k_is)
    (case ha_M => k_is)
    (case hm_M => k_is)
    (case nf_own_program => k_is)
    (case nf_onward => k_is)
    (case nf_base => k_is)
    (case nf_steps => k_is)
    (case a_is_integer => k_is)
    (case l_is_integer => k_is)
    (case c_is_integer => k_is)
    (case k_is_integer => k_is)
    (case a_is_word => k_is)
    (case l_is_word => k_is)
    (case c_is_word => k_is)
    (case k_is_word => k_is)
    (case a_are_ways => k_is)
    (case l_are_ways => k_is)
    (case c_are_ways => k_is)
    (case k_are_ways => k_is)
    (case a_come_to => k_is)
    (case l_come_to => k_is)
    (case c_come_to => k_is)
    (case k_come_to => k_is)
    (case a_check_program => k_is)
    (case l_check_program => k_is)
    (case c_check_program => k_is)
    (case k_check_program => k_is)
    (case a_end_of => k_is)
    (case l_end_of => k_is)
    (case c_end_of => k_is)
    (case k_end_of => k_is)
    (case a_is_run => k_is)
    (case l_is_run => k_is)
    (case c_is_run => k_is)
    (case k_is_run => k_is)
    (case a_check_rings => k_is)
    (case l_check_rings => k_is)
    (case c_check_rings => k_is)
    (case k_check_rings => k_is)
    (case a_ways_on => k_is)
    (case l_ways_on => k_is)
    (case c_ways_on => k_is)
    (case k_ways_on => k_is)
    (case a_first_steps => k_is)
    (case l_first_steps => k_is)
    (case c_first_steps => k_is)
    (case k_first_steps => k_is)
    (case a_are_whole => k_is)
    (case l_are_whole => k_is)
    (case c_are_whole => k_is)
    (case k_are_whole => k_is)
    (case a_law_numbers => k_is)
    (case l_law_numbers => k_is)
    (case c_law_numbers => k_is)
    (case k_law_numbers => k_is)
    (case a_law_pool => k_is)
    (case l_law_pool => k_is)
    (case c_law_pool => k_is)
    (case k_law_pool => k_is)
    (case a_law_draw => k_is)
    (case l_law_draw => k_is)
    (case c_law_draw => k_is)
    (case k_law_draw => k_is)
    (case a_law_opened => k_is)
    (case l_law_opened => k_is)
    (case c_law_opened => k_is)
    (case k_law_opened => k_is)
    (case a_law_words => k_is)
    (case l_law_words => k_is)
    (case c_law_words => k_is)
    (case k_law_words => k_is)
    (case a_law_names => k_is)
    (case l_law_names => k_is)
    (case c_law_names => k_is)
    (case k_law_names => k_is)
    (case a_law_program => k_is)
    (case l_law_program => k_is)
    (case c_law_program => k_is)
    (case k_law_program => k_is)
    (case a_law_made => k_is)
    (case l_law_made => k_is)
    (case c_law_made => k_is)
    (case k_law_made => k_is)
    (case a_law_places => k_is)
    (case l_law_places => k_is)
    (case c_law_places => k_is)
    (case k_law_places => k_is)
    (case a_law_levels => k_is)
    (case l_law_levels => k_is)
    (case c_law_levels => k_is)
    (case k_law_levels => k_is)
    (case a_law_told => k_is)
    (case l_law_told => k_is)
    (case c_law_told => k_is)
    (case k_law_told => k_is)
    (case a_law_refused => k_is)
    (case l_law_refused => k_is)
    (case c_law_refused => k_is)
    (case k_law_refused => k_is)
    (case a_law => k_is)
    (case l_law => k_is)
    (case c_law => k_is)
    (case k_law => k_is)
    (case a_P_init => k_is)
    (case i_P_init => k_is)
    (case l_P_init => k_is)
    (case c_P_init => k_is)
    (case k_P_init => k_is)
    (case a_P_are_exits => k_is)
    (case i_P_are_exits => k_is)
    (case l_P_are_exits => k_is)
    (case c_P_are_exits => k_is)
    (case k_P_are_exits => k_is)
    (case a_P_ways_at => k_is)
    (case i_P_ways_at => k_is)
    (case l_P_ways_at => k_is)
    (case c_P_ways_at => k_is)
    (case k_P_ways_at => k_is)
    (case a_P_ways => k_is)
    (case i_P_ways => k_is)
    (case l_P_ways => k_is)
    (case c_P_ways => k_is)
    (case k_P_ways => k_is)
    (case a_P_places => k_is)
    (case i_P_places => k_is)
    (case l_P_places => k_is)
    (case c_P_places => k_is)
    (case k_P_places => k_is)
    (case a_P_exits => k_is)
    (case i_P_exits => k_is)
    (case l_P_exits => k_is)
    (case c_P_exits => k_is)
    (case k_P_exits => k_is)
    (case a_P_contains => k_is)
    (case i_P_contains => k_is)
    (case l_P_contains => k_is)
    (case c_P_contains => k_is)
    (case k_P_contains => k_is)
    (case a_P_getitem => k_is)
    (case i_P_getitem => k_is)
    (case l_P_getitem => k_is)
    (case c_P_getitem => k_is)
    (case k_P_getitem => k_is)
    (case a_P_check_place => k_is)
    (case i_P_check_place => k_is)
    (case l_P_check_place => k_is)
    (case c_P_check_place => k_is)
    (case k_P_check_place => k_is)
    (case a_P_leaving => k_is)
    (case i_P_leaving => k_is)
    (case l_P_leaving => k_is)
    (case c_P_leaving => k_is)
    (case k_P_leaving => k_is)
    (case a_P_eq => k_is)
    (case i_P_eq => k_is)
    (case l_P_eq => k_is)
    (case c_P_eq => k_is)
    (case k_P_eq => k_is)
    (case a_P_path => k_is)
    (case i_P_path => k_is)
    (case l_P_path => k_is)
    (case c_P_path => k_is)
    (case k_P_path => k_is)
    (case a_P_find_ring => k_is)
    (case i_P_find_ring => k_is)
    (case l_P_find_ring => k_is)
    (case c_P_find_ring => k_is)
    (case k_P_find_ring => k_is)
    (case a_M_init => k_is)
    (case i_M_init => k_is)
    (case l_M_init => k_is)
    (case c_M_init => k_is)
    (case k_M_init => k_is)
    (case a_M_getitem => k_is)
    (case i_M_getitem => k_is)
    (case l_M_getitem => k_is)
    (case c_M_getitem => k_is)
    (case k_M_getitem => k_is)
    (case a_M_call => k_is)
    (case i_M_call => k_is)
    (case l_M_call => k_is)
    (case c_M_call => k_is)
    (case k_M_call => k_is)
    (case a_M_run => k_is)
    (case i_M_run => k_is)
    (case l_M_run => k_is)
    (case c_M_run => k_is)
    (case k_M_run => k_is)
    (case a_M_with_levels => k_is)
    (case i_M_with_levels => k_is)
    (case l_M_with_levels => k_is)
    (case c_M_with_levels => k_is)
    (case k_M_with_levels => k_is)
    (case a_M_moved => k_is)
    (case i_M_moved => k_is)
    (case l_M_moved => k_is)
    (case c_M_moved => k_is)
    (case k_M_moved => k_is)
    (case a_M_free => k_is)
    (case i_M_free => k_is)
    (case l_M_free => k_is)
    (case c_M_free => k_is)
    (case k_M_free => k_is)
    (case a_M_eq => k_is)
    (case i_M_eq => k_is)
    (case l_M_eq => k_is)
    (case c_M_eq => k_is)
    (case k_M_eq => k_is)
    (case a_P_begin => k_is)
    (case g_P_begin => k_is)
    (case t_P_begin => k_is)
    (case r_P_begin => k_is)
    (case l_P_begin => k_is)
    (case c_P_begin => k_is)
    (case k_P_begin => k_is)
    (case a_M_many => k_is)
    (case g_M_many => k_is)
    (case t_M_many => k_is)
    (case r_M_many => k_is)
    (case l_M_many => k_is)
    (case c_M_many => k_is)
    (case k_M_many => k_is)
    (case hn_ => k_is)
    (case ht_ => k_is)
    (case z_isinstance => k_is)
    (case z_int => k_is)
    (case z_bool => k_is)
    (case z_str => k_is)
    (case z_len => k_is)
    (case z_all => k_is)
    (case z_dict => k_is)
    (case z_tuple => k_is)
    (case z_list => k_is)
    (case z_sorted => k_is)
    (case z_any => k_is)
    (case z_sum => k_is)
    (case z_max => k_is)
    (case z_min => k_is)
    (case z_range => k_is)
    (case z_letters => k_is)
    (case z_mostL => k_is)
    (case z_mostW => k_is)
    (case b_ns => k_is)
    (case b_obj => k_is)
    (case b_sa => k_is)
    (case b_ga => k_is)
    (case b_gg => k_is)
    (case b_nv => k_is)
    (case b_init => k_is)
    (case b_ty => k_is)
    (case b_fn => k_is)
    (case b_code => k_is)
    (case b_kp => k_is)
    (case b_ex => k_is)
    (case b_tc => k_is)
    (case b_hd => k_is)
    (case b_ic => k_is)
    (case b_ss => k_is)
    (case hbm => decide +kernel)
#print axioms PySem.Challenge.cw_countededges_k23_whole_numbers_moved_holds
