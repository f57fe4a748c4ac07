import PyProof.Rows.All
import Wide.All
import OpenK.AllK
import Wide.FinOn
import KE.KStateDown
import HandS.ForMost
import HandS.ForExc
import HandS.Head2
import HandS.HeadHook4
import HandS.HeadWalk
import HandS.AnyAll
import PyProof.GenCompD
import KE.GoesEnum
import HandS.Zip
import HandS.IsInst
import HandS.Strs
import HandS.TupAny
import HandS.Dict
import HandS.Lambda
import HandS.DictTup
import KE.KDictDisplayH
import KE.KDictCopyH
import KE.KDictKeyed
import KE.KDictPairs
import KE.KDictWalk
import KE.DataMinMax
import KE.SortKeyHeap
import HandS.SortKw
import KE.KDictSum
import HandS.Iter
import HandS.Walk
import KE.GoesMore
import HandS.ExcOwn
import HandS.DictComp
import KE.SortData
import HandS.SetFor
import HandS.TupSets
import HandS.Wide
import HandS.Conv
import HandS.ExcInit
import KE.KDflt
import HandS.TryMany
import HandS.Style
import KE.KNestM
import PySem.Challenge.RW_holestore_k13_whole_universals
set_option Elab.async false
set_option linter.all false
set_option maxRecDepth 100000
/-! text H0 -/
set_option maxHeartbeats 0
namespace HT
open PySem PySem.Spec PyProof.Rows L2
/-! ### the text -/
def top (i : Nat) : Stmt := PySem.Challenge.pw_holestore_k13_whole_universals.main.body.getD i (.Pass ⟨0, 0, 0, 0⟩)
abbrev s_is_number : Stmt := top 9
abbrev s_are_ties : Stmt := top 10
abbrev s_need_yard : Stmt := top 11
abbrev s_near : Stmt := top 12
abbrev s_hanging : Stmt := top 13
abbrev s_parting_of : Stmt := top 14
abbrev s_other_end : Stmt := top 15
abbrev s_marks_of : Stmt := top 16
abbrev s_joined : Stmt := top 17
abbrev s_pieces_of : Stmt := top 18
abbrev s_need_standing : Stmt := top 20
abbrev s_slid : Stmt := top 21
abbrev s_slides_of : Stmt := top 22
abbrev s_words_from : Stmt := top 23
abbrev s_is_instruction : Stmt := top 29
abbrev s_need_rows : Stmt := top 30
abbrev s_books_of : Stmt := top 31
abbrev s_need_program : Stmt := top 32
abbrev s_stands : Stmt := top 33
abbrev s_nexts : Stmt := top 34
abbrev s_need_one_hole : Stmt := top 36
abbrev s_room_of : Stmt := top 37
abbrev s_never_of : Stmt := top 38
abbrev s_never : Stmt := top 39
abbrev s_is_free : Stmt := top 40
abbrev s_need_number : Stmt := top 42
abbrev s_keeps_all : Stmt := top 44
abbrev s_hardest : Stmt := top 45
abbrev s_need_all : Stmt := top 47
abbrev s_gate_books : Stmt := top 48
abbrev s_barred_way : Stmt := top 49
abbrev s_barred : Stmt := top 50
abbrev s_can_be_kept : Stmt := top 51
abbrev s_law_taken : Stmt := top 53
abbrev s_law_pick : Stmt := top 54
abbrev s_law_alike : Stmt := top 55
abbrev s_law_is : Stmt := top 56
abbrev s_law_yard : Stmt := top 57
abbrev s_law_standing : Stmt := top 58
abbrev s_law_near : Stmt := top 59
abbrev s_law_hanging : Stmt := top 60
abbrev s_law_program : Stmt := top 61
abbrev s_law : Stmt := top 62
abbrev s_yardInit : Stmt := inClass (top 2) 0
/-! ### the head: facts by names, the run -/
def dY : He.DefD := ⟨("BadYard", some "__init__"), "__init__", "BadYard.__init__", defArgs s_yardInit, defBody s_yardInit, defScope s_yardInit, [], []⟩
def d_is_number : He.DefD := ⟨("is_number", none), "is_number", "is_number", defArgs s_is_number, defBody s_is_number, defScope s_is_number, [], []⟩
def d_are_ties : He.DefD := ⟨("are_ties", none), "are_ties", "are_ties", defArgs s_are_ties, defBody s_are_ties, defScope s_are_ties, [], []⟩
def d_need_yard : He.DefD := ⟨("need_yard", none), "need_yard", "need_yard", defArgs s_need_yard, defBody s_need_yard, defScope s_need_yard, [], []⟩
def d_near : He.DefD := ⟨("near", none), "near", "near", defArgs s_near, defBody s_near, defScope s_near, [], []⟩
def d_hanging : He.DefD := ⟨("hanging", none), "hanging", "hanging", defArgs s_hanging, defBody s_hanging, defScope s_hanging, [], []⟩
def d_parting_of : He.DefD := ⟨("parting_of", none), "parting_of", "parting_of", defArgs s_parting_of, defBody s_parting_of, defScope s_parting_of, [], []⟩
def d_other_end : He.DefD := ⟨("other_end", none), "other_end", "other_end", defArgs s_other_end, defBody s_other_end, defScope s_other_end, [], []⟩
def d_marks_of : He.DefD := ⟨("marks_of", none), "marks_of", "marks_of", defArgs s_marks_of, defBody s_marks_of, defScope s_marks_of, [], []⟩
def d_joined : He.DefD := ⟨("joined", none), "joined", "joined", defArgs s_joined, defBody s_joined, defScope s_joined, [], []⟩
def d_pieces_of : He.DefD := ⟨("pieces_of", none), "pieces_of", "pieces_of", defArgs s_pieces_of, defBody s_pieces_of, defScope s_pieces_of, [], []⟩
def d_need_standing : He.DefD := ⟨("need_standing", none), "need_standing", "need_standing", defArgs s_need_standing, defBody s_need_standing, defScope s_need_standing, [], []⟩
def d_slid : He.DefD := ⟨("slid", none), "slid", "slid", defArgs s_slid, defBody s_slid, defScope s_slid, [], []⟩
def d_slides_of : He.DefD := ⟨("slides_of", none), "slides_of", "slides_of", defArgs s_slides_of, defBody s_slides_of, defScope s_slides_of, [], []⟩
def d_words_from : He.DefD := ⟨("words_from", none), "words_from", "words_from", defArgs s_words_from, defBody s_words_from, defScope s_words_from, [], []⟩
def d_is_instruction : He.DefD := ⟨("is_instruction", none), "is_instruction", "is_instruction", defArgs s_is_instruction, defBody s_is_instruction, defScope s_is_instruction, [], []⟩
def d_need_rows : He.DefD := ⟨("need_rows", none), "need_rows", "need_rows", defArgs s_need_rows, defBody s_need_rows, defScope s_need_rows, [], []⟩
def d_books_of : He.DefD := ⟨("books_of", none), "books_of", "books_of", defArgs s_books_of, defBody s_books_of, defScope s_books_of, [], []⟩
def d_need_program : He.DefD := ⟨("need_program", none), "need_program", "need_program", defArgs s_need_program, defBody s_need_program, defScope s_need_program, [], []⟩
def d_stands : He.DefD := ⟨("stands", none), "stands", "stands", defArgs s_stands, defBody s_stands, defScope s_stands, [], []⟩
def d_nexts : He.DefD := ⟨("nexts", none), "nexts", "nexts", defArgs s_nexts, defBody s_nexts, defScope s_nexts, [], []⟩
def d_need_one_hole : He.DefD := ⟨("need_one_hole", none), "need_one_hole", "need_one_hole", defArgs s_need_one_hole, defBody s_need_one_hole, defScope s_need_one_hole, [], []⟩
def d_room_of : He.DefD := ⟨("room_of", none), "room_of", "room_of", defArgs s_room_of, defBody s_room_of, defScope s_room_of, [], []⟩
def d_never_of : He.DefD := ⟨("never_of", none), "never_of", "never_of", defArgs s_never_of, defBody s_never_of, defScope s_never_of, [], []⟩
def d_never : He.DefD := ⟨("never", none), "never", "never", defArgs s_never, defBody s_never, defScope s_never, [], []⟩
def d_is_free : He.DefD := ⟨("is_free", none), "is_free", "is_free", defArgs s_is_free, defBody s_is_free, defScope s_is_free, [], []⟩
def d_need_number : He.DefD := ⟨("need_number", none), "need_number", "need_number", defArgs s_need_number, defBody s_need_number, defScope s_need_number, [], []⟩
def d_keeps_all : He.DefD := ⟨("keeps_all", none), "keeps_all", "keeps_all", defArgs s_keeps_all, defBody s_keeps_all, defScope s_keeps_all, [], []⟩
def d_hardest : He.DefD := ⟨("hardest", none), "hardest", "hardest", defArgs s_hardest, defBody s_hardest, defScope s_hardest, [], []⟩
def d_need_all : He.DefD := ⟨("need_all", none), "need_all", "need_all", defArgs s_need_all, defBody s_need_all, defScope s_need_all, [], []⟩
def d_gate_books : He.DefD := ⟨("gate_books", none), "gate_books", "gate_books", defArgs s_gate_books, defBody s_gate_books, defScope s_gate_books, [], []⟩
def d_barred_way : He.DefD := ⟨("barred_way", none), "barred_way", "barred_way", defArgs s_barred_way, defBody s_barred_way, defScope s_barred_way, [], []⟩
def d_barred : He.DefD := ⟨("barred", none), "barred", "barred", defArgs s_barred, defBody s_barred, defScope s_barred, [], []⟩
def d_can_be_kept : He.DefD := ⟨("can_be_kept", none), "can_be_kept", "can_be_kept", defArgs s_can_be_kept, defBody s_can_be_kept, defScope s_can_be_kept, [], []⟩
def d_law_taken : He.DefD := ⟨("_law_taken", none), "_law_taken", "_law_taken", defArgs s_law_taken, defBody s_law_taken, defScope s_law_taken, [], []⟩
def d_law_pick : He.DefD := ⟨("_law_pick", none), "_law_pick", "_law_pick", defArgs s_law_pick, defBody s_law_pick, defScope s_law_pick, [], []⟩
def d_law_alike : He.DefD := ⟨("_law_alike", none), "_law_alike", "_law_alike", defArgs s_law_alike, defBody s_law_alike, defScope s_law_alike, [], []⟩
def d_law_is : He.DefD := ⟨("_law_is", none), "_law_is", "_law_is", defArgs s_law_is, defBody s_law_is, defScope s_law_is, [], []⟩
def d_law_yard : He.DefD := ⟨("_law_yard", none), "_law_yard", "_law_yard", defArgs s_law_yard, defBody s_law_yard, defScope s_law_yard, [], []⟩
def d_law_standing : He.DefD := ⟨("_law_standing", none), "_law_standing", "_law_standing", defArgs s_law_standing, defBody s_law_standing, defScope s_law_standing, [], []⟩
def d_law_near : He.DefD := ⟨("_law_near", none), "_law_near", "_law_near", defArgs s_law_near, defBody s_law_near, defScope s_law_near, [], []⟩
def d_law_hanging : He.DefD := ⟨("_law_hanging", none), "_law_hanging", "_law_hanging", defArgs s_law_hanging, defBody s_law_hanging, defScope s_law_hanging, [], []⟩
def d_law_program : He.DefD := ⟨("_law_program", none), "_law_program", "_law_program", defArgs s_law_program, defBody s_law_program, defScope s_law_program, [], []⟩
def d_law : He.DefD := ⟨("law", none), "law", "law", defArgs s_law, defBody s_law, defScope s_law, [], []⟩
def fn : List He.DefD := [dY, d_is_number, d_are_ties, d_need_yard, d_near, d_hanging, d_parting_of, d_other_end, d_marks_of, d_joined, d_pieces_of, d_need_standing, d_slid, d_slides_of, d_words_from, d_is_instruction, d_need_rows, d_books_of, d_need_program, d_stands, d_nexts, d_need_one_hole, d_room_of, d_never_of, d_never, d_is_free, d_need_number, d_keeps_all, d_hardest, d_need_all, d_gate_books, d_barred_way, d_barred, d_can_be_kept, d_law_taken, d_law_pick, d_law_alike, d_law_is, d_law_yard, d_law_standing, d_law_near, d_law_hanging, d_law_program, d_law]
def fa : List He.Fa := [.glo "is_number", .glo "are_ties", .glo "need_yard", .glo "near", .glo "hanging", .glo "parting_of", .glo "other_end", .glo "marks_of", .glo "joined", .glo "pieces_of", .glo "need_standing", .glo "slid", .glo "slides_of", .glo "words_from", .glo "is_instruction", .glo "need_rows", .glo "books_of", .glo "need_program", .glo "stands", .glo "nexts", .glo "need_one_hole", .glo "room_of", .glo "never_of", .glo "never", .glo "is_free", .glo "need_number", .glo "keeps_all", .glo "hardest", .glo "need_all", .glo "gate_books", .glo "barred_way", .glo "barred", .glo "can_be_kept", .glo "_law_taken", .glo "_law_pick", .glo "_law_alike", .glo "_law_is", .glo "_law_yard", .glo "_law_standing", .glo "_law_near", .glo "_law_hanging", .glo "_law_program", .glo "law", .free "len", .free "isinstance", .free "int", .free "bool", .free "tuple", .free "list", .free "set", .free "str", .free "sorted", .free "all", .free "zip", .free "range", .free "enumerate", .free "min", .int "LEAST_PLACES" 2, .int "MOST_PLACES" 7, .int "MOST_STILL" 20, .int "GREATEST" 1000000, .int "END" (-1), .glo "ASKING", .glo "BadYard", .glo "BadNumber", .exm "BadNumber" "BadNumber" true, .exm "BadYard" "BadNumber" false, .exm "BadYard" "BadYard" true, .keep "BadNumber", .keep "BadYard", .noat "BadYard" "part", .meth "BadYard" "__init__"]
def tf : List He.Defn := [("are_ties", none), ("need_standing", none), ("is_instruction", none), ("room_of", none), ("words_from", none), ("law", none)]
def oexB (K : PySem.W.Frag) (C : Addr) : Bool := match K.lookup C with
  | some ⟨.type "type", _, .cls cd, sl⟩ => (match cd.mro, sl.toList with
    | .ref C' :: bm, [_, _, _, _, some (.builtin n), _] => C' == C && n == "ValueError.__new__" && !cd.hasDel && cd.hasDict && PySem.HandSPX.refsVE bm
    | _, _ => false)
  | _ => false
def setB (K : PySem.W.Frag) (C : Addr) : Bool := He.eqO (PySem.W.findIn K (.ref C) "__setattr__") (some (some (.builtin "object.__setattr__")))
def ex (K : PySem.W.Frag) : Bool :=
  decide ((tf.map fun p => (He.cT K p).2).Nodup) && PySem.W.excIn K (He.ga K "BadNumber") He.veBase "ValueError.__new__" &&
  (decide (PySem.W.subIn K (.ref (He.ga K "BadNumber")) (.type "BaseException") = some true) && (decide (PySem.W.typeIn K (.ref (He.ga K "BadNumber")) = some (.type "type")) &&
  (decide (PySem.W.subIn K (.ref (He.ga K "BadYard")) (.type "BaseException") = some true) && (decide (PySem.W.typeIn K (.ref (He.ga K "BadYard")) = some (.type "type")) &&
  ((oexB K (He.ga K "BadYard") && setB K (He.ga K "BadYard")) && He.tupB K "ASKING" [.str "get", .str "plus", .str "minus", .str "set"])))))
def tt : List He.Tab := []
abbrev R : PySem.W.OpenRow := PySem.W.OpenLaw.row PySem.Challenge.rw_holestore_k13_whole_universals
abbrev hk : PySem.W.Hook := He.hookX 4 fa fn tt tf ex
def ob (s : PySem.W.SharedT) : He.AlX := He.obsX 4 fa fn tt tf ex (HandSHeadRun.getT s)
theorem ob_eq (s : PySem.W.SharedT) : ob s = hk.obs s.abs := He.obsX_eq (HandSHeadRun.getT_eq s)
def loose : List PySem.Str := (["StoreError", "BadYard", "BadStanding", "BadProgram", "BadNumber", "LEAST_PLACES", "MOST_PLACES", "is_number", "are_ties", "need_yard", "near", "hanging", "parting_of", "other_end", "marks_of", "joined", "pieces_of", "need_standing", "slid", "slides_of", "words_from", "MOST_STILL", "GREATEST", "ASKING", "END", "is_instruction", "need_rows", "books_of", "need_program", "stands"] : List PySem.Str) ++ (["nexts", "need_one_hole", "room_of", "never_of", "never", "is_free", "need_number", "keeps_all", "hardest", "need_all", "gate_books", "barred_way", "barred", "can_be_kept", "_law_taken", "_law_pick", "_law_alike", "_law_is", "_law_yard", "_law_standing", "_law_near", "_law_hanging", "_law_program"] : List PySem.Str)
theorem run (w : World) : HandSHeadRun.RunEq R (PySem.W.view R.prog [62]) hk ob 4000 loose w := by
  intro os
  kernel_rfl
end HT
/-! text K0 -/
set_option maxHeartbeats 4000000
namespace HT
open PySem PySem.Spec PyProof.Rows L2
/-- what the top has left -/
structure Txt (K : PySem.W.Frag) (mg : Str → Option Value) : Prop where
  ex : ∃ (h : Heap) (w : World), K.In h ∧ h.Ns mainGlobals mg ∧ He.SaysX fa fn tt tf ex w h K
abbrev FnP (K : PySem.W.Frag) (x : Str) (st : Stmt) : Prop := ∃ fd, FunD K x x (defArgs st) (defBody st) (defScope st) [] [] (He.ga K x) fd
section
variable {K : PySem.W.Frag} {mg : Str → Option Value} (T : Txt K mg)
include T
theorem g_is_number : mg "is_number" = some (.ref (He.ga K "is_number")) := let ⟨_, _, X, G, c⟩ := T.ex; He.glo_ok X G (c.t.d.fact 0 (f := .glo "is_number") rfl)
theorem f_is_number : FnP K "is_number" s_is_number := let ⟨_, _, X, G, c⟩ := T.ex; c.t.d.def_ 1 (d := d_is_number) rfl
theorem g_are_ties : mg "are_ties" = some (.ref (He.ga K "are_ties")) := let ⟨_, _, X, G, c⟩ := T.ex; He.glo_ok X G (c.t.d.fact 1 (f := .glo "are_ties") rfl)
theorem f_are_ties : FnP K "are_ties" s_are_ties := let ⟨_, _, X, G, c⟩ := T.ex; c.t.d.def_ 2 (d := d_are_ties) rfl
theorem g_need_yard : mg "need_yard" = some (.ref (He.ga K "need_yard")) := let ⟨_, _, X, G, c⟩ := T.ex; He.glo_ok X G (c.t.d.fact 2 (f := .glo "need_yard") rfl)
theorem f_need_yard : FnP K "need_yard" s_need_yard := let ⟨_, _, X, G, c⟩ := T.ex; c.t.d.def_ 3 (d := d_need_yard) rfl
theorem g_near : mg "near" = some (.ref (He.ga K "near")) := let ⟨_, _, X, G, c⟩ := T.ex; He.glo_ok X G (c.t.d.fact 3 (f := .glo "near") rfl)
theorem f_near : FnP K "near" s_near := let ⟨_, _, X, G, c⟩ := T.ex; c.t.d.def_ 4 (d := d_near) rfl
theorem g_hanging : mg "hanging" = some (.ref (He.ga K "hanging")) := let ⟨_, _, X, G, c⟩ := T.ex; He.glo_ok X G (c.t.d.fact 4 (f := .glo "hanging") rfl)
theorem f_hanging : FnP K "hanging" s_hanging := let ⟨_, _, X, G, c⟩ := T.ex; c.t.d.def_ 5 (d := d_hanging) rfl
theorem g_parting_of : mg "parting_of" = some (.ref (He.ga K "parting_of")) := let ⟨_, _, X, G, c⟩ := T.ex; He.glo_ok X G (c.t.d.fact 5 (f := .glo "parting_of") rfl)
theorem f_parting_of : FnP K "parting_of" s_parting_of := let ⟨_, _, X, G, c⟩ := T.ex; c.t.d.def_ 6 (d := d_parting_of) rfl
theorem g_other_end : mg "other_end" = some (.ref (He.ga K "other_end")) := let ⟨_, _, X, G, c⟩ := T.ex; He.glo_ok X G (c.t.d.fact 6 (f := .glo "other_end") rfl)
theorem f_other_end : FnP K "other_end" s_other_end := let ⟨_, _, X, G, c⟩ := T.ex; c.t.d.def_ 7 (d := d_other_end) rfl
theorem g_marks_of : mg "marks_of" = some (.ref (He.ga K "marks_of")) := let ⟨_, _, X, G, c⟩ := T.ex; He.glo_ok X G (c.t.d.fact 7 (f := .glo "marks_of") rfl)
theorem f_marks_of : FnP K "marks_of" s_marks_of := let ⟨_, _, X, G, c⟩ := T.ex; c.t.d.def_ 8 (d := d_marks_of) rfl
theorem g_joined : mg "joined" = some (.ref (He.ga K "joined")) := let ⟨_, _, X, G, c⟩ := T.ex; He.glo_ok X G (c.t.d.fact 8 (f := .glo "joined") rfl)
theorem f_joined : FnP K "joined" s_joined := let ⟨_, _, X, G, c⟩ := T.ex; c.t.d.def_ 9 (d := d_joined) rfl
theorem g_pieces_of : mg "pieces_of" = some (.ref (He.ga K "pieces_of")) := let ⟨_, _, X, G, c⟩ := T.ex; He.glo_ok X G (c.t.d.fact 9 (f := .glo "pieces_of") rfl)
theorem f_pieces_of : FnP K "pieces_of" s_pieces_of := let ⟨_, _, X, G, c⟩ := T.ex; c.t.d.def_ 10 (d := d_pieces_of) rfl
theorem g_need_standing : mg "need_standing" = some (.ref (He.ga K "need_standing")) := let ⟨_, _, X, G, c⟩ := T.ex; He.glo_ok X G (c.t.d.fact 10 (f := .glo "need_standing") rfl)
theorem f_need_standing : FnP K "need_standing" s_need_standing := let ⟨_, _, X, G, c⟩ := T.ex; c.t.d.def_ 11 (d := d_need_standing) rfl
theorem g_slid : mg "slid" = some (.ref (He.ga K "slid")) := let ⟨_, _, X, G, c⟩ := T.ex; He.glo_ok X G (c.t.d.fact 11 (f := .glo "slid") rfl)
theorem f_slid : FnP K "slid" s_slid := let ⟨_, _, X, G, c⟩ := T.ex; c.t.d.def_ 12 (d := d_slid) rfl
theorem g_slides_of : mg "slides_of" = some (.ref (He.ga K "slides_of")) := let ⟨_, _, X, G, c⟩ := T.ex; He.glo_ok X G (c.t.d.fact 12 (f := .glo "slides_of") rfl)
theorem f_slides_of : FnP K "slides_of" s_slides_of := let ⟨_, _, X, G, c⟩ := T.ex; c.t.d.def_ 13 (d := d_slides_of) rfl
theorem g_words_from : mg "words_from" = some (.ref (He.ga K "words_from")) := let ⟨_, _, X, G, c⟩ := T.ex; He.glo_ok X G (c.t.d.fact 13 (f := .glo "words_from") rfl)
theorem f_words_from : FnP K "words_from" s_words_from := let ⟨_, _, X, G, c⟩ := T.ex; c.t.d.def_ 14 (d := d_words_from) rfl
theorem g_is_instruction : mg "is_instruction" = some (.ref (He.ga K "is_instruction")) := let ⟨_, _, X, G, c⟩ := T.ex; He.glo_ok X G (c.t.d.fact 14 (f := .glo "is_instruction") rfl)
theorem f_is_instruction : FnP K "is_instruction" s_is_instruction := let ⟨_, _, X, G, c⟩ := T.ex; c.t.d.def_ 15 (d := d_is_instruction) rfl
theorem g_need_rows : mg "need_rows" = some (.ref (He.ga K "need_rows")) := let ⟨_, _, X, G, c⟩ := T.ex; He.glo_ok X G (c.t.d.fact 15 (f := .glo "need_rows") rfl)
theorem f_need_rows : FnP K "need_rows" s_need_rows := let ⟨_, _, X, G, c⟩ := T.ex; c.t.d.def_ 16 (d := d_need_rows) rfl
theorem g_books_of : mg "books_of" = some (.ref (He.ga K "books_of")) := let ⟨_, _, X, G, c⟩ := T.ex; He.glo_ok X G (c.t.d.fact 16 (f := .glo "books_of") rfl)
theorem f_books_of : FnP K "books_of" s_books_of := let ⟨_, _, X, G, c⟩ := T.ex; c.t.d.def_ 17 (d := d_books_of) rfl
theorem g_need_program : mg "need_program" = some (.ref (He.ga K "need_program")) := let ⟨_, _, X, G, c⟩ := T.ex; He.glo_ok X G (c.t.d.fact 17 (f := .glo "need_program") rfl)
theorem f_need_program : FnP K "need_program" s_need_program := let ⟨_, _, X, G, c⟩ := T.ex; c.t.d.def_ 18 (d := d_need_program) rfl
theorem g_stands : mg "stands" = some (.ref (He.ga K "stands")) := let ⟨_, _, X, G, c⟩ := T.ex; He.glo_ok X G (c.t.d.fact 18 (f := .glo "stands") rfl)
theorem f_stands : FnP K "stands" s_stands := let ⟨_, _, X, G, c⟩ := T.ex; c.t.d.def_ 19 (d := d_stands) rfl
theorem g_nexts : mg "nexts" = some (.ref (He.ga K "nexts")) := let ⟨_, _, X, G, c⟩ := T.ex; He.glo_ok X G (c.t.d.fact 19 (f := .glo "nexts") rfl)
theorem f_nexts : FnP K "nexts" s_nexts := let ⟨_, _, X, G, c⟩ := T.ex; c.t.d.def_ 20 (d := d_nexts) rfl
theorem g_need_one_hole : mg "need_one_hole" = some (.ref (He.ga K "need_one_hole")) := let ⟨_, _, X, G, c⟩ := T.ex; He.glo_ok X G (c.t.d.fact 20 (f := .glo "need_one_hole") rfl)
theorem f_need_one_hole : FnP K "need_one_hole" s_need_one_hole := let ⟨_, _, X, G, c⟩ := T.ex; c.t.d.def_ 21 (d := d_need_one_hole) rfl
theorem g_room_of : mg "room_of" = some (.ref (He.ga K "room_of")) := let ⟨_, _, X, G, c⟩ := T.ex; He.glo_ok X G (c.t.d.fact 21 (f := .glo "room_of") rfl)
theorem f_room_of : FnP K "room_of" s_room_of := let ⟨_, _, X, G, c⟩ := T.ex; c.t.d.def_ 22 (d := d_room_of) rfl
theorem g_never_of : mg "never_of" = some (.ref (He.ga K "never_of")) := let ⟨_, _, X, G, c⟩ := T.ex; He.glo_ok X G (c.t.d.fact 22 (f := .glo "never_of") rfl)
theorem f_never_of : FnP K "never_of" s_never_of := let ⟨_, _, X, G, c⟩ := T.ex; c.t.d.def_ 23 (d := d_never_of) rfl
theorem g_never : mg "never" = some (.ref (He.ga K "never")) := let ⟨_, _, X, G, c⟩ := T.ex; He.glo_ok X G (c.t.d.fact 23 (f := .glo "never") rfl)
theorem f_never : FnP K "never" s_never := let ⟨_, _, X, G, c⟩ := T.ex; c.t.d.def_ 24 (d := d_never) rfl
theorem g_is_free : mg "is_free" = some (.ref (He.ga K "is_free")) := let ⟨_, _, X, G, c⟩ := T.ex; He.glo_ok X G (c.t.d.fact 24 (f := .glo "is_free") rfl)
theorem f_is_free : FnP K "is_free" s_is_free := let ⟨_, _, X, G, c⟩ := T.ex; c.t.d.def_ 25 (d := d_is_free) rfl
theorem g_need_number : mg "need_number" = some (.ref (He.ga K "need_number")) := let ⟨_, _, X, G, c⟩ := T.ex; He.glo_ok X G (c.t.d.fact 25 (f := .glo "need_number") rfl)
theorem f_need_number : FnP K "need_number" s_need_number := let ⟨_, _, X, G, c⟩ := T.ex; c.t.d.def_ 26 (d := d_need_number) rfl
theorem g_keeps_all : mg "keeps_all" = some (.ref (He.ga K "keeps_all")) := let ⟨_, _, X, G, c⟩ := T.ex; He.glo_ok X G (c.t.d.fact 26 (f := .glo "keeps_all") rfl)
theorem f_keeps_all : FnP K "keeps_all" s_keeps_all := let ⟨_, _, X, G, c⟩ := T.ex; c.t.d.def_ 27 (d := d_keeps_all) rfl
theorem g_hardest : mg "hardest" = some (.ref (He.ga K "hardest")) := let ⟨_, _, X, G, c⟩ := T.ex; He.glo_ok X G (c.t.d.fact 27 (f := .glo "hardest") rfl)
theorem f_hardest : FnP K "hardest" s_hardest := let ⟨_, _, X, G, c⟩ := T.ex; c.t.d.def_ 28 (d := d_hardest) rfl
theorem g_need_all : mg "need_all" = some (.ref (He.ga K "need_all")) := let ⟨_, _, X, G, c⟩ := T.ex; He.glo_ok X G (c.t.d.fact 28 (f := .glo "need_all") rfl)
theorem f_need_all : FnP K "need_all" s_need_all := let ⟨_, _, X, G, c⟩ := T.ex; c.t.d.def_ 29 (d := d_need_all) rfl
theorem g_gate_books : mg "gate_books" = some (.ref (He.ga K "gate_books")) := let ⟨_, _, X, G, c⟩ := T.ex; He.glo_ok X G (c.t.d.fact 29 (f := .glo "gate_books") rfl)
theorem f_gate_books : FnP K "gate_books" s_gate_books := let ⟨_, _, X, G, c⟩ := T.ex; c.t.d.def_ 30 (d := d_gate_books) rfl
theorem g_barred_way : mg "barred_way" = some (.ref (He.ga K "barred_way")) := let ⟨_, _, X, G, c⟩ := T.ex; He.glo_ok X G (c.t.d.fact 30 (f := .glo "barred_way") rfl)
theorem f_barred_way : FnP K "barred_way" s_barred_way := let ⟨_, _, X, G, c⟩ := T.ex; c.t.d.def_ 31 (d := d_barred_way) rfl
theorem g_barred : mg "barred" = some (.ref (He.ga K "barred")) := let ⟨_, _, X, G, c⟩ := T.ex; He.glo_ok X G (c.t.d.fact 31 (f := .glo "barred") rfl)
theorem f_barred : FnP K "barred" s_barred := let ⟨_, _, X, G, c⟩ := T.ex; c.t.d.def_ 32 (d := d_barred) rfl
theorem g_can_be_kept : mg "can_be_kept" = some (.ref (He.ga K "can_be_kept")) := let ⟨_, _, X, G, c⟩ := T.ex; He.glo_ok X G (c.t.d.fact 32 (f := .glo "can_be_kept") rfl)
theorem f_can_be_kept : FnP K "can_be_kept" s_can_be_kept := let ⟨_, _, X, G, c⟩ := T.ex; c.t.d.def_ 33 (d := d_can_be_kept) rfl
theorem g_law_taken : mg "_law_taken" = some (.ref (He.ga K "_law_taken")) := let ⟨_, _, X, G, c⟩ := T.ex; He.glo_ok X G (c.t.d.fact 33 (f := .glo "_law_taken") rfl)
theorem f_law_taken : FnP K "_law_taken" s_law_taken := let ⟨_, _, X, G, c⟩ := T.ex; c.t.d.def_ 34 (d := d_law_taken) rfl
theorem g_law_pick : mg "_law_pick" = some (.ref (He.ga K "_law_pick")) := let ⟨_, _, X, G, c⟩ := T.ex; He.glo_ok X G (c.t.d.fact 34 (f := .glo "_law_pick") rfl)
theorem f_law_pick : FnP K "_law_pick" s_law_pick := let ⟨_, _, X, G, c⟩ := T.ex; c.t.d.def_ 35 (d := d_law_pick) rfl
theorem g_law_alike : mg "_law_alike" = some (.ref (He.ga K "_law_alike")) := let ⟨_, _, X, G, c⟩ := T.ex; He.glo_ok X G (c.t.d.fact 35 (f := .glo "_law_alike") rfl)
theorem f_law_alike : FnP K "_law_alike" s_law_alike := let ⟨_, _, X, G, c⟩ := T.ex; c.t.d.def_ 36 (d := d_law_alike) rfl
theorem g_law_is : mg "_law_is" = some (.ref (He.ga K "_law_is")) := let ⟨_, _, X, G, c⟩ := T.ex; He.glo_ok X G (c.t.d.fact 36 (f := .glo "_law_is") rfl)
theorem f_law_is : FnP K "_law_is" s_law_is := let ⟨_, _, X, G, c⟩ := T.ex; c.t.d.def_ 37 (d := d_law_is) rfl
theorem g_law_yard : mg "_law_yard" = some (.ref (He.ga K "_law_yard")) := let ⟨_, _, X, G, c⟩ := T.ex; He.glo_ok X G (c.t.d.fact 37 (f := .glo "_law_yard") rfl)
theorem f_law_yard : FnP K "_law_yard" s_law_yard := let ⟨_, _, X, G, c⟩ := T.ex; c.t.d.def_ 38 (d := d_law_yard) rfl
theorem g_law_standing : mg "_law_standing" = some (.ref (He.ga K "_law_standing")) := let ⟨_, _, X, G, c⟩ := T.ex; He.glo_ok X G (c.t.d.fact 38 (f := .glo "_law_standing") rfl)
theorem f_law_standing : FnP K "_law_standing" s_law_standing := let ⟨_, _, X, G, c⟩ := T.ex; c.t.d.def_ 39 (d := d_law_standing) rfl
theorem g_law_near : mg "_law_near" = some (.ref (He.ga K "_law_near")) := let ⟨_, _, X, G, c⟩ := T.ex; He.glo_ok X G (c.t.d.fact 39 (f := .glo "_law_near") rfl)
theorem f_law_near : FnP K "_law_near" s_law_near := let ⟨_, _, X, G, c⟩ := T.ex; c.t.d.def_ 40 (d := d_law_near) rfl
theorem g_law_hanging : mg "_law_hanging" = some (.ref (He.ga K "_law_hanging")) := let ⟨_, _, X, G, c⟩ := T.ex; He.glo_ok X G (c.t.d.fact 40 (f := .glo "_law_hanging") rfl)
theorem f_law_hanging : FnP K "_law_hanging" s_law_hanging := let ⟨_, _, X, G, c⟩ := T.ex; c.t.d.def_ 41 (d := d_law_hanging) rfl
theorem g_law_program : mg "_law_program" = some (.ref (He.ga K "_law_program")) := let ⟨_, _, X, G, c⟩ := T.ex; He.glo_ok X G (c.t.d.fact 41 (f := .glo "_law_program") rfl)
theorem f_law_program : FnP K "_law_program" s_law_program := let ⟨_, _, X, G, c⟩ := T.ex; c.t.d.def_ 42 (d := d_law_program) rfl
theorem g_law : mg "law" = some (.ref (He.ga K "law")) := let ⟨_, _, X, G, c⟩ := T.ex; He.glo_ok X G (c.t.d.fact 42 (f := .glo "law") rfl)
theorem f_law : FnP K "law" s_law := let ⟨_, _, X, G, c⟩ := T.ex; c.t.d.def_ 43 (d := d_law) rfl
theorem m_len : mg "len" = none := let ⟨_, _, X, G, c⟩ := T.ex; He.free_ok X G (c.t.d.fact 43 (f := .free "len") rfl)
theorem m_isinstance : mg "isinstance" = none := let ⟨_, _, X, G, c⟩ := T.ex; He.free_ok X G (c.t.d.fact 44 (f := .free "isinstance") rfl)
theorem m_int : mg "int" = none := let ⟨_, _, X, G, c⟩ := T.ex; He.free_ok X G (c.t.d.fact 45 (f := .free "int") rfl)
theorem m_bool : mg "bool" = none := let ⟨_, _, X, G, c⟩ := T.ex; He.free_ok X G (c.t.d.fact 46 (f := .free "bool") rfl)
theorem m_tuple : mg "tuple" = none := let ⟨_, _, X, G, c⟩ := T.ex; He.free_ok X G (c.t.d.fact 47 (f := .free "tuple") rfl)
theorem m_list : mg "list" = none := let ⟨_, _, X, G, c⟩ := T.ex; He.free_ok X G (c.t.d.fact 48 (f := .free "list") rfl)
theorem m_set : mg "set" = none := let ⟨_, _, X, G, c⟩ := T.ex; He.free_ok X G (c.t.d.fact 49 (f := .free "set") rfl)
theorem m_str : mg "str" = none := let ⟨_, _, X, G, c⟩ := T.ex; He.free_ok X G (c.t.d.fact 50 (f := .free "str") rfl)
theorem m_sorted : mg "sorted" = none := let ⟨_, _, X, G, c⟩ := T.ex; He.free_ok X G (c.t.d.fact 51 (f := .free "sorted") rfl)
theorem m_all : mg "all" = none := let ⟨_, _, X, G, c⟩ := T.ex; He.free_ok X G (c.t.d.fact 52 (f := .free "all") rfl)
theorem m_zip : mg "zip" = none := let ⟨_, _, X, G, c⟩ := T.ex; He.free_ok X G (c.t.d.fact 53 (f := .free "zip") rfl)
theorem m_range : mg "range" = none := let ⟨_, _, X, G, c⟩ := T.ex; He.free_ok X G (c.t.d.fact 54 (f := .free "range") rfl)
theorem m_enumerate : mg "enumerate" = none := let ⟨_, _, X, G, c⟩ := T.ex; He.free_ok X G (c.t.d.fact 55 (f := .free "enumerate") rfl)
theorem m_min : mg "min" = none := let ⟨_, _, X, G, c⟩ := T.ex; He.free_ok X G (c.t.d.fact 56 (f := .free "min") rfl)
theorem i_LEAST_PLACES : ∃ t, mg "LEAST_PLACES" = some (.int (2) t) := let ⟨_, _, X, G, c⟩ := T.ex; He.int_ok X G (c.t.d.fact 57 (f := .int "LEAST_PLACES" (2)) rfl)
theorem i_MOST_PLACES : ∃ t, mg "MOST_PLACES" = some (.int (7) t) := let ⟨_, _, X, G, c⟩ := T.ex; He.int_ok X G (c.t.d.fact 58 (f := .int "MOST_PLACES" (7)) rfl)
theorem i_MOST_STILL : ∃ t, mg "MOST_STILL" = some (.int (20) t) := let ⟨_, _, X, G, c⟩ := T.ex; He.int_ok X G (c.t.d.fact 59 (f := .int "MOST_STILL" (20)) rfl)
theorem i_GREATEST : ∃ t, mg "GREATEST" = some (.int (1000000) t) := let ⟨_, _, X, G, c⟩ := T.ex; He.int_ok X G (c.t.d.fact 60 (f := .int "GREATEST" (1000000)) rfl)
theorem i_END : ∃ t, mg "END" = some (.int (-1) t) := let ⟨_, _, X, G, c⟩ := T.ex; He.int_ok X G (c.t.d.fact 61 (f := .int "END" (-1)) rfl)
theorem g_ASKING : mg "ASKING" = some (.ref (He.ga K "ASKING")) := let ⟨_, _, X, G, c⟩ := T.ex; He.glo_ok X G (c.t.d.fact 62 (f := .glo "ASKING") rfl)
theorem g_BadYard : mg "BadYard" = some (.ref (He.ga K "BadYard")) := let ⟨_, _, X, G, c⟩ := T.ex; He.glo_ok X G (c.t.d.fact 63 (f := .glo "BadYard") rfl)
theorem g_BadNumber : mg "BadNumber" = some (.ref (He.ga K "BadNumber")) := let ⟨_, _, X, G, c⟩ := T.ex; He.glo_ok X G (c.t.d.fact 64 (f := .glo "BadNumber") rfl)
end
/-- a def of the text keeps its promise, and how it is called -/
structure Ok (P : Program) (w : World) (K : PySem.W.Frag) (mg : Str → Option Value) (base : Heap) (CX : CXT) (k : Nat) (x : Str) (ps : List Str) (sp : Sp) : Prop where
  ex : ∃ fd, FnOk P w K mg base CX k (He.ga K x) fd ps sp ∧ Binds K fd ps []
  kp : PySem.W.keepIn K (.ref (He.ga K x)) = true
  gl : mg x = some (.ref (He.ga K x))
theorem Ok.mono {P : Program} {w : World} {K : PySem.W.Frag} {mg : Str → Option Value} {base : Heap} {CX : CXT} {j k : Nat} {x : Str} {ps : List Str} {sp : Sp} (O : Ok P w K mg base CX j x ps sp) (h : j ≤ k) : Ok P w K mg base CX k x ps sp :=
  let ⟨fd, F, b⟩ := O.ex; ⟨⟨fd, F.mono h, b⟩, O.kp, O.gl⟩
theorem Ok.imp {P : Program} {w : World} {K : PySem.W.Frag} {mg : Str → Option Value} {base : Heap} {CX : CXT} {k : Nat} {x : Str} {ps : List Str} {sp sp' : Sp} (O : Ok P w K mg base CX k x ps sp) (h : ∀ vs H Q E, sp' vs H Q E → sp vs H Q E) : Ok P w K mg base CX k x ps sp' :=
  let ⟨fd, F, b⟩ := O.ex; ⟨⟨fd, F.imp h, b⟩, O.kp, O.gl⟩
section
variable {X : Cx}
theorem pe_cl {k : Nat} {x : Str} {ps : List Str} {sp : Sp} {p pos : Pos} {e : Expr} {es : List Expr} {t : TA} (O : Ok X.prog X.w X.K X.mg X.base CX0 k x ps sp) (hr : Room k X.A) (ha : PA X (e :: es) t) (hg : Gl X x := by rfl)
    (hdb : (x == ("__debug__" : Str)) = false := by decide) (he : starEach (e :: es) X.env = (false, eval e X.env) :: starEach es X.env := by rfl) (hpl : (backTo pos (starEach es X.env)).any (·.1) = false := by rfl) :
    PE X (.Call (.Name x p) (e :: es) [] pos) (tCall sp [] E0 t) := by
  obtain ⟨fd, F, b⟩ := O.ex
  exact pe_call F hr hg O.gl O.kp b .nil pass0 ha hdb he hpl
end
/-- the rule for a def of the text -/
theorem ok_of {P : Program} {w : World} {K : PySem.W.Frag} {mg : Str → Option Value} {base : Heap} {x : Str} {st : Stmt} {N ps : List Str} {k : Nat} {sp : Sp} (F : FnP K x st) (gl : mg x = some (.ref (He.ga K x))) (S : FnScope N ps (defScope st))
    (hb : ∀ (kV doc pm : Value) (an : Option Addr) (cdv ct : Value) (us : List Value), us.length = ps.length → bindArgs (PySem.W.fnOf x x (defArgs st) (defBody st) (defScope st) .none kV doc pm an cdv ct) ⟨us, []⟩ = pure (ps.zip us))
    (len : ∀ vs H Q E, sp vs H Q E → vs.length = ps.length)
    (hbody : ∀ (cdv : Value) (A : Around) (outer : List Env) (s : Shared) (H : Hp) (vs : List V) (Q : VK) (E : XK), cdv = .ref (He.codeOf K (x, none)) → Room k (A.deeper (envOfC x (defScope st) s.heap.objs.size (He.ga K x) cdv)) → sp vs H Q E →
      ∃ t, PSs (cxOf CX0 P w K mg base N x (defScope st) (He.ga K x) cdv A outer s H E).nox (defBody st) t ∧ t { nx := fun _ H' => Q .non H', rt := Q } (start N vs) H) : Ok P w K mg base CX0 (k + 1) x ps sp := by
  obtain ⟨fd, F⟩ := F
  refine ⟨⟨fd, ?_, F.bindsN hb⟩, F.kp, gl⟩
  obtain ⟨oc, od, dV, kV, doc, pm, an, cdv, ct, osl, rfl, lk, hcd, _, _⟩ := F.ex
  refine fn_of lk hcd S len fun A outer s H vs Q E hr hsp => ?_
  obtain ⟨c, rfl⟩ := He.codeIn_ref hcd
  have e : He.codeOf K (x, none) = c := He.codeOf_eq lk rfl
  obtain ⟨t, h, q⟩ := hbody (.ref c) A outer s H vs Q E (by rw [e]) hr hsp
  exact ⟨t, h.nox, q⟩
/-! ### heaps -/
/-- what stands at tracked addresses is kept, but for the code objects' tables -/
def Xn (H H' : Hp) : Prop := ∀ b o, H b = some o → (∀ ps, o ≠ .tbl ps) → H' b = some o
theorem Xn.refl (H : Hp) : Xn H H := fun _ _ h _ => h
theorem Xn.trans {H H1 H2 : Hp} (a : Xn H H1) (b : Xn H1 H2) : Xn H H2 := fun c o h n => b c o (a c o h n) n
theorem Xn.lst {H H' : Hp} (e : Xn H H') {a : Addr} {xs : List V} (h : H a = some (.lst xs)) : H' a = some (.lst xs) := e _ _ h (fun _ z => by cases z)
theorem Xn.tup {H H' : Hp} (e : Xn H H') {a : Addr} {xs : List V} (h : H a = some (.tup xs)) : H' a = some (.tup xs) := e _ _ h (fun _ z => by cases z)
theorem Xn.dK {H H' : Hp} (e : Xn H H') {a : Addr} {xs : List (Key × V)} (h : H a = some (.dK xs)) : H' a = some (.dK xs) := e _ _ h (fun _ z => by cases z)
theorem Xn.dT {H H' : Hp} (e : Xn H H') {a : Addr} {xs : List (List Key × V)} (h : H a = some (.dT xs)) : H' a = some (.dT xs) := e _ _ h (fun _ z => by cases z)
theorem Xn.ext {H H' : Hp} (e : Xn H H') {a : Addr} {φ : Heap → Prop} (h : H a = some (.ext φ)) : H' a = some (.ext φ) := e _ _ h (fun _ z => by cases z)
theorem Xn.frz {H H' : Hp} (e : Xn H H') {a : Addr} {o : Obj} {u : HO} (h : H a = some (.frz o u)) : H' a = some (.frz o u) := e _ _ h (fun _ z => by cases z)
theorem Xn.rd {H H' : Hp} (e : Xn H H') {a : Addr} {u : HO} (n : ∀ ps, u ≠ .tbl ps) (h : Rd H a u) : Rd H' a u := by
  rcases h with h | ⟨o, h⟩
  · exact .inl (e _ _ h n)
  · exact .inr ⟨o, e.frz h⟩
theorem Xn.sqL {K : PySem.W.Frag} {H H' : Hp} (e : Xn H H') {a : Addr} {xs : List V} (h : SqL K H a xs) : SqL K H' a xs := by
  rcases h with h | h
  · exact .inl (e.rd (fun _ z => by cases z) h)
  · exact .inr h
theorem Xn.sqT {K : PySem.W.Frag} {H H' : Hp} (e : Xn H H') {a : Addr} {xs : List V} (h : SqT K H a xs) : SqT K H' a xs := by
  rcases h with h | h
  · exact .inl (e.rd (fun _ z => by cases z) h)
  · exact .inr h
theorem Xn.upd {H H' : Hp} (e : Xn H H') {a : Addr} {u : HO} (h : H a = none) : Xn H (upd H' a u) := fun c o q n => by rw [upd_ne (ne_of_none q h)]; exact e c o q n
/-- all that was tracked is as it was -/
structure Sm (H H' : Hp) : Prop where
  o : ∀ b o, H b = some o → H' b = some o
theorem Sm.n {H H' : Hp} (e : Sm H H') : Xn H H' := fun b o h _ => e.o b o h
theorem Sm.refl (H : Hp) : Sm H H := ⟨fun _ _ h => h⟩
theorem Sm.trans {H H1 H2 : Hp} (a : Sm H H1) (b : Sm H1 H2) : Sm H H2 := ⟨fun c o h => b.o c o (a.o c o h)⟩
theorem Sm.free {H H' : Hp} (e : Sm H H') {l : Addr} (h : H' l = none) : H l = none := by
  cases q : H l with
  | none => rfl
  | some o => rw [e.o l o q] at h; cases h
/-- something new, or written where nothing stood before -/
theorem Sm.upd {H H' : Hp} (e : Sm H H') {a : Addr} {u : HO} (h : H a = none) : Sm H (upd H' a u) :=
  ⟨fun c o q => by rw [upd_ne (ne_of_none q h)]; exact e.o c o q⟩
theorem Sm.new {H H' : Hp} (e : Sm H H') {a : Addr} {u : HO} (h : H' a = none) : Sm H (L2.upd H' a u) := e.upd (e.free h)
theorem Sm.lst {H H' : Hp} (e : Sm H H') {a : Addr} {xs : List V} (h : H a = some (.lst xs)) : H' a = some (.lst xs) := e.o _ _ h
theorem Sm.tup {H H' : Hp} (e : Sm H H') {a : Addr} {xs : List V} (h : H a = some (.tup xs)) : H' a = some (.tup xs) := e.o _ _ h
theorem Sm.dK {H H' : Hp} (e : Sm H H') {a : Addr} {xs : List (Key × V)} (h : H a = some (.dK xs)) : H' a = some (.dK xs) := e.o _ _ h
theorem Sm.dT {H H' : Hp} (e : Sm H H') {a : Addr} {xs : List (List Key × V)} (h : H a = some (.dT xs)) : H' a = some (.dT xs) := e.o _ _ h
theorem Sm.ext {H H' : Hp} (e : Sm H H') {a : Addr} {φ : Heap → Prop} (h : H a = some (.ext φ)) : H' a = some (.ext φ) := e.o _ _ h
theorem Sm.frz {H H' : Hp} (e : Sm H H') {a : Addr} {o : Obj} {u : HO} (h : H a = some (.frz o u)) : H' a = some (.frz o u) := e.o _ _ h
theorem Sm.sqL {K : PySem.W.Frag} {H H' : Hp} (e : Sm H H') {a : Addr} {xs : List V} (h : SqL K H a xs) : SqL K H' a xs := e.n.sqL h
theorem Sm.sqT {K : PySem.W.Frag} {H H' : Hp} (e : Sm H H') {a : Addr} {xs : List V} (h : SqT K H a xs) : SqT K H' a xs := e.n.sqT h
/-! the tables of code objects -/
abbrev tabP (K : PySem.W.Frag) (x : Str) : Addr := (He.cT K (x, none)).2
/-- the tables that only a lambda's maker writes -/
def LamT (K : PySem.W.Frag) (b : Addr) : Prop := b = tabP K "words_from" ∨ b = tabP K "law"
/-- as Sm, but that tables of generator expressions may have grown -/
structure Sg (K : PySem.W.Frag) (H H' : Hp) : Prop where
  n : Xn H H'
  t : ∀ b ps, H b = some (.tbl ps) → ∃ qs, H' b = some (.tbl qs) ∧ (TriplesOk ps.toList → TriplesOk qs.toList) ∧ (LamT K b → qs = ps)
theorem Sm.g {K : PySem.W.Frag} {H H' : Hp} (e : Sm H H') : Sg K H H' := ⟨e.n, fun b ps h => ⟨ps, e.o _ _ h, id, fun _ => rfl⟩⟩
theorem Sg.refl (K : PySem.W.Frag) (H : Hp) : Sg K H H := (Sm.refl H).g
theorem Sg.trans {K : PySem.W.Frag} {H H1 H2 : Hp} (a : Sg K H H1) (b : Sg K H1 H2) : Sg K H H2 :=
  ⟨a.n.trans b.n, fun c ps h => let ⟨q1, e1, t1, u1⟩ := a.t c ps h; let ⟨q2, e2, t2, u2⟩ := b.t c q1 e1; ⟨q2, e2, fun z => t2 (t1 z), fun z => (u2 z).trans (u1 z)⟩⟩
theorem Sg.free {K : PySem.W.Frag} {H H' : Hp} (e : Sg K H H') {l : Addr} (h : H' l = none) : H l = none := by
  cases q : H l with
  | none => rfl
  | some o =>
    cases o with
    | tbl ps => obtain ⟨qs, e1, _⟩ := e.t l ps q; rw [h] at e1; cases e1
    | _ => rw [e.n l _ q (fun _ z => by cases z)] at h; cases h
theorem Sg.upd {K : PySem.W.Frag} {H H' : Hp} (e : Sg K H H') {a : Addr} {u : HO} (h : H a = none) : Sg K H (L2.upd H' a u) :=
  ⟨e.n.upd h, fun c ps q => by rw [upd_ne (ne_of_none q h)]; exact e.t c ps q⟩
theorem Sg.new {K : PySem.W.Frag} {H H' : Hp} (e : Sg K H H') {a : Addr} {u : HO} (h : H' a = none) : Sg K H (L2.upd H' a u) := e.upd (e.free h)
theorem Sg.lst {K : PySem.W.Frag} {H H' : Hp} (e : Sg K H H') {a : Addr} {xs : List V} (h : H a = some (.lst xs)) : H' a = some (.lst xs) := e.n.lst h
theorem Sg.tup {K : PySem.W.Frag} {H H' : Hp} (e : Sg K H H') {a : Addr} {xs : List V} (h : H a = some (.tup xs)) : H' a = some (.tup xs) := e.n.tup h
theorem Sg.frz {K : PySem.W.Frag} {H H' : Hp} (e : Sg K H H') {a : Addr} {o : Obj} {u : HO} (h : H a = some (.frz o u)) : H' a = some (.frz o u) := e.n.frz h
end HT
/-! text A1 -/
set_option maxHeartbeats 4000000
namespace HT
open PySem PySem.Spec PyProof.Rows L2
/-! ### ties -/
abbrev tieV (p : Nat × Nat) : List V := [.int (p.1 : Int), .int (p.2 : Int)]
/-- at a a tuple of ties -/
def TiesAt (H : Hp) (a : Addr) (T : List (Nat × Nat)) : Prop := ∃ ts : List Addr, H a = some (.tup (ts.map V.ref)) ∧ Paired (fun t p => H t = some (.tup (tieV p))) ts T
theorem Paired.imp' {α β : Type} {R S : α → β → Prop} (h : ∀ a b, R a b → S a b) : ∀ {l : List α} {m : List β}, Paired R l m → Paired S l m
  | _, _, .nil => .nil
  | _, _, .cons r t => .cons (h _ _ r) (Paired.imp' h t)
theorem Paired.get' {α β : Type} {R : α → β → Prop} : ∀ {l : List α} {m : List β} {i : Nat} {x : α}, Paired R l m → l[i]? = some x → ∃ y, m[i]? = some y ∧ R x y
  | _, _, _, _, .nil, h => by simp at h
  | _, _, 0, _, .cons r _, h => by simp at h; subst h; exact ⟨_, rfl, r⟩
  | _, _, i + 1, _, .cons _ t, h => by
    obtain ⟨y, e, r⟩ := Paired.get' (i := i) t (by simpa using h)
    exact ⟨y, by simpa using e, r⟩
theorem TiesAt.sm {H H' : Hp} {a : Addr} {T : List (Nat × Nat)} (e : Sm H H') (h : TiesAt H a T) : TiesAt H' a T :=
  let ⟨ts, h1, h2⟩ := h; ⟨ts, e.tup h1, Paired.imp' (fun _ _ z => e.tup z) h2⟩
theorem TiesAt.xn {H H' : Hp} {a : Addr} {T : List (Nat × Nat)} (e : Xn H H') (h : TiesAt H a T) : TiesAt H' a T :=
  let ⟨ts, h1, h2⟩ := h; ⟨ts, e.tup h1, Paired.imp' (fun _ _ z => e.tup z) h2⟩
theorem TiesAt.get {H : Hp} {T : List (Nat × Nat)} {ts : List Addr} (h2 : Paired (fun t p => H t = some (.tup (tieV p))) ts T) {i : Nat} {x : V} (h : (ts.map V.ref)[i]? = some x) :
    ∃ t p, x = .ref t ∧ ts[i]? = some t ∧ T[i]? = some p ∧ H t = some (.tup (tieV p)) := by
  rw [List.getElem?_map] at h
  cases e : ts[i]? with
  | none => rw [e] at h; cases h
  | some t =>
    rw [e] at h
    obtain ⟨p, e2, r⟩ := Paired.get' h2 e
    exact ⟨t, p, (Option.some.inj h).symm, rfl, e2, r⟩
theorem take_succ' {α : Type} {l : List α} {i : Nat} {x : α} (h : l[i]? = some x) : l.take (i + 1) = l.take i ++ [x] := by
  rw [List.take_add_one, h]; rfl
section
variable {P : Program} {w : World} {K : PySem.W.Frag} {mg : Str → Option Value} {base : Heap}
/-! ### other_end -/
def spOtherEnd (K : PySem.W.Frag) : Sp := fun vs H Q _ => ∃ (t : Addr) (a b p : Nat), vs = [.ref t, .int p] ∧ SqT K H t [.int (a : Int), .int (b : Int)] ∧ Q (.int (if a = p then (b : Int) else a)) H
theorem sc_other_end : FnScope ["tie", "place"] ["tie", "place"] (defScope s_other_end) := ⟨rfl, rfl, rfl, by decide +kernel, rfl, by decide +kernel, by decide +kernel⟩
theorem ok_other_end (T : Txt K mg) : Ok P w K mg base CX0 1 "other_end" ["tie", "place"] (spOtherEnd K) := by
  refine ok_of (f_other_end T) (g_other_end T) sc_other_end (fun _ _ _ _ _ _ us hl => match us, hl with | [_, _], _ => rfl) (fun vs H Q E h => ?_) (fun cdv A outer s H vs Q E hcd hr h => ?_)
  · obtain ⟨t, a, b, p, rfl, _⟩ := h
    rfl
  · obtain ⟨t, a, b, p, rfl, hT, q⟩ := h
    refine ⟨_, pss_one (ps_ret (pe_ifExp (pt_cmpR op_eq (pe_ix ix_tup (pv 0) pe_int (fun _ _ => rfl)) (pv 1) (nomark _)) (pe_ix ix_tup (pv 0) pe_int (fun _ _ => rfl)) (pe_ix ix_tup (pv 0) pe_int (fun _ _ => rfl)))), ?_⟩
    refine ⟨_, rfl, t, _, _, .int a, rfl, rfl, hT, atI_nat (j := 0) rfl, _, rfl, rfl, _, rfl, ?_⟩
    refine ite2 (fun e => ?_) (fun e => ?_)
    · have e' : a = p := by
        have z := V.int.inj (of_decide_eq_true e)
        omega
      rw [if_pos e'] at q
      exact ⟨_, rfl, t, _, _, .int b, rfl, rfl, hT, atI_nat (j := 1) rfl, q⟩
    · have e' : a ≠ p := fun z => e (decide_eq_true (by rw [z]))
      rw [if_neg e'] at q
      exact ⟨_, rfl, t, _, _, .int a, rfl, rfl, hT, atI_nat (j := 0) rfl, q⟩
/-! ### near -/
/-- the places tied to a place, as the text lists them -/
def nearL (T : List (Nat × Nat)) (p : Nat) : List Int := (T.filter fun t => t.2 = p).map (fun t => (t.1 : Int)) ++ (T.filter fun t => t.1 = p).map (fun t => (t.2 : Int))
def spNear : Sp := fun vs H Q _ => ∃ (a : Addr) (T : List (Nat × Nat)) (p : Nat), vs = [.ref a, .int p] ∧ TiesAt H a T ∧ T.length < 32 ∧
  ∀ H' l (L : List Int), Sm H H' → H l = none → H' l = some (.lst (L.map V.int)) → L.Perm (nearL T p) → Q (.ref l) H'
theorem sc_near : FnScope ["ties", "place", "found", "one", "other"] ["ties", "place"] (defScope s_near) := ⟨rfl, rfl, rfl, by decide +kernel, rfl, by decide +kernel, by decide +kernel⟩
theorem ok_near (T : Txt K mg) : Ok P w K mg base CX0 1 "near" ["ties", "place"] spNear := by
  refine ok_of (f_near T) (g_near T) sc_near (fun _ _ _ _ _ _ us hl => match us, hl with | [_, _], _ => rfl) (fun vs H Q E h => ?_) (fun cdv A outer s H vs Q E hcd hr h => ?_)
  · obtain ⟨a, T, p, rfl, _⟩ := h
    rfl
  · obtain ⟨a, Ts, p, rfl, hT, hlen, q⟩ := h
    have nd := sc_near.nd
    refine ⟨_, pss_cons (ps_set (i := 2) nd rfl (.inl rfl) (pe_op op_cat
        (pe_lc (own := [("one", 3), ("other", 4)]) (g := gTup K 2 (gCons (gName 3) (gCons (gName 4) gNil))) rfl nd (pi_tup (pv 0)) (blkOk_by (N := ["ties", "place", "found", "one", "other"]) (sc := defScope s_near) (by decide +kernel)) (fun _ _ _ _ _ => by exact pg_tup rfl (pgs_cons (pg_name (i := 3) nd rfl (.inl rfl)) (pgs_cons (pg_name (i := 4) nd rfl (.inl rfl)) pgs_nil)))
          (fun _ _ _ _ _ => pts_one (pt_cmpR op_eq (pv 4) (pv 1) (nomark _))) (fun _ _ _ _ _ => pv 3))
        (pe_lc (own := [("one", 3), ("other", 4)]) (g := gTup K 2 (gCons (gName 3) (gCons (gName 4) gNil))) rfl nd (pi_tup (pv 0)) (blkOk_by (N := ["ties", "place", "found", "one", "other"]) (sc := defScope s_near) (by decide +kernel)) (fun _ _ _ _ _ => by exact pg_tup rfl (pgs_cons (pg_name (i := 3) nd rfl (.inl rfl)) (pgs_cons (pg_name (i := 4) nd rfl (.inl rfl)) pgs_nil)))
          (fun _ _ _ _ _ => pts_one (pt_cmpR op_eq (pv 3) (pv 1) (nomark _))) (fun _ _ _ _ _ => pv 4))))
      (pss_one (ps_ret (pe_callB cr_sorted (by rfl) (m_sorted T) (by decide +kernel) (pa_cons (pv 2) pa_nil)))), ?_⟩
    obtain ⟨ts, ha, hp⟩ := hT
    have lT : ts.length = Ts.length := Paired.length hp
    refine ⟨_, rfl, a, rfl, ⟨_, SqT.of ha⟩, fun D1 n1 => ?_⟩
    refine lc_tup (K := K) (a := a) (xs := ts.map V.ref) (fun i H' => Sm H H' ∧ H' D1 = some (.lst (((Ts.take i).filter fun t => t.2 = p).map fun t => V.int (t.1 : Int)))) ⟨(Sm.refl H).upd n1, upd_same⟩ (fun i H' _ z => SqT.of (z.1.tup ha)) (fun i x H' hx z => ?_) (fun H1 z => ?_)
    · obtain ⟨sm, eD⟩ := z
      obtain ⟨t, u, rfl, e1, e2, e3⟩ := TiesAt.get hp hx
      refine ⟨t, _, rfl, SqT.of (sm.tup e3), rfl, _, _, rfl, _, _, rfl, rfl, rfl, ?_⟩
      refine ⟨_, rfl, _, rfl, rfl, _, rfl, ?_⟩
      refine ite2 (fun c => ?_) (fun c => ?_)
      · have c' : u.2 = p := by have z := V.int.inj (of_decide_eq_true c); omega
        refine ⟨_, rfl, _, eD, ?_, sm.upd n1, ?_⟩
        · rw [List.length_map]
          refine small1000 (Nat.le_trans (List.length_filter_le _ _) ?_)
          rw [List.length_take]; omega
        · rw [upd_same, take_succ' e2, List.filter_append, List.map_append]
          simp [c']
      · have c' : u.2 ≠ p := fun z => c (decide_eq_true (by rw [z]))
        refine ⟨sm, ?_⟩
        rw [eD, take_succ' e2, List.filter_append, List.map_append]
        simp [c']
    · obtain ⟨sm, eD⟩ := z
      rw [List.length_map, lT, List.take_length] at eD
      refine ⟨_, rfl, a, rfl, ⟨_, SqT.of (sm.tup ha)⟩, fun D2 n2 => ?_⟩
      have n12 : D1 ≠ D2 := ne_of_none eD n2
      refine lc_tup (K := K) (a := a) (xs := ts.map V.ref) (fun i H' => Sm H1 H' ∧ H' D2 = some (.lst (((Ts.take i).filter fun t => t.1 = p).map fun t => V.int (t.2 : Int)))) ⟨(Sm.refl H1).upd n2, upd_same⟩ (fun i H' _ z => SqT.of (z.1.tup (sm.tup ha))) (fun i x H' hx z => ?_) (fun H2 z => ?_)
      · obtain ⟨sm2, eD2⟩ := z
        obtain ⟨t, u, rfl, e1, e2, e3⟩ := TiesAt.get hp hx
        refine ⟨t, _, rfl, SqT.of (sm2.tup (sm.tup e3)), rfl, _, _, rfl, _, _, rfl, rfl, rfl, ?_⟩
        refine ⟨_, rfl, _, rfl, rfl, _, rfl, ?_⟩
        refine ite2 (fun c => ?_) (fun c => ?_)
        · have c' : u.1 = p := by have z := V.int.inj (of_decide_eq_true c); omega
          refine ⟨_, rfl, _, eD2, ?_, sm2.upd n2, ?_⟩
          · rw [List.length_map]
            refine small1000 (Nat.le_trans (List.length_filter_le _ _) ?_)
            rw [List.length_take]; omega
          · rw [upd_same, take_succ' e2, List.filter_append, List.map_append]
            simp [c']
        · have c' : u.1 ≠ p := fun z => c (decide_eq_true (by rw [z]))
          refine ⟨sm2, ?_⟩
          rw [eD2, take_succ' e2, List.filter_append, List.map_append]
          simp [c']
      · obtain ⟨sm2, eD2⟩ := z
        rw [List.length_map, lT, List.take_length] at eD2
        have l1 := List.length_filter_le (fun t : Nat × Nat => decide (t.2 = p)) Ts
        have l2 := List.length_filter_le (fun t : Nat × Nat => decide (t.1 = p)) Ts
        refine ⟨D1, D2, _, _, rfl, rfl, sm2.lst eD, eD2, ?_, fun l nl => ?_⟩
        · rw [List.length_map, List.length_map]
          exact Nat.le_of_lt (small1000 (by omega))
        · have eL : (((Ts.filter fun t => t.2 = p).map fun t => V.int (t.1 : Int)) ++ ((Ts.filter fun t => t.1 = p).map fun t => V.int (t.2 : Int))) = (nearL Ts p).map V.int := by
            unfold nearL
            rw [List.map_append, List.map_map, List.map_map]
            rfl
          rw [eL]
          have s3 : Sm H (upd H2 l (.lst ((nearL Ts p).map V.int))) := (sm.trans sm2).new nl
          refine ⟨_, rfl, l, nearL Ts p, rfl, SqL.of upd_same, ?_, fun L l2 hL _ nl2 => q _ l2 L (s3.new nl2) (s3.free nl2) upd_same hL⟩
          unfold nearL
          rw [List.length_append, List.length_map, List.length_map]
          omega
end
end HT
/-! text A2 -/
set_option maxHeartbeats 4000000
namespace HT
open PySem PySem.Spec PyProof.Rows L2
/-! ### webs -/
def adj (T : List (Nat × Nat)) (u v : Nat) : Prop := (u, v) ∈ T ∨ (v, u) ∈ T
def Bnd (N : Nat) (T : List (Nat × Nat)) : Prop := ∀ t ∈ T, t.1 < N ∧ t.2 < N
theorem Bnd.adj {N : Nat} {T : List (Nat × Nat)} (b : Bnd N T) {u v : Nat} (h : adj T u v) : u < N ∧ v < N := by
  rcases h with h | h
  · exact b _ h
  · exact ⟨(b _ h).2, (b _ h).1⟩
theorem mem_nearL {T : List (Nat × Nat)} {p : Nat} {x : Int} : x ∈ nearL T p ↔ ∃ v : Nat, x = (v : Int) ∧ adj T p v := by
  unfold nearL adj
  rw [List.mem_append, List.mem_map, List.mem_map]
  constructor
  · rintro (⟨t, h, e⟩ | ⟨t, h, e⟩)
    · have h' := List.mem_filter.mp h
      have e2 : t.2 = p := of_decide_eq_true h'.2
      exact ⟨t.1, e.symm, .inr (by rw [← e2]; exact h'.1)⟩
    · have h' := List.mem_filter.mp h
      have e2 : t.1 = p := of_decide_eq_true h'.2
      exact ⟨t.2, e.symm, .inl (by rw [← e2]; exact h'.1)⟩
  · rintro ⟨v, e, h | h⟩
    · exact .inr ⟨(p, v), List.mem_filter.mpr ⟨h, decide_eq_true rfl⟩, e.symm⟩
    · exact .inl ⟨(v, p), List.mem_filter.mpr ⟨h, decide_eq_true rfl⟩, e.symm⟩
/-- hanging together with p, W left out -/
inductive Reach (T : List (Nat × Nat)) (W : List Nat) (p : Nat) : Nat → Prop
  | base : Reach T W p p
  | step {u v : Nat} : Reach T W p u → adj T u v → v ∉ W → Reach T W p v
theorem Reach.lt {T : List (Nat × Nat)} {W : List Nat} {p N : Nat} (b : Bnd N T) (hp : p < N) {v : Nat} (h : Reach T W p v) : v < N := by
  induction h with
  | base => exact hp
  | step _ a _ _ => exact (b.adj a).2
theorem Reach.sub {T : List (Nat × Nat)} {W : List Nat} {p : Nat} {S : Nat → Prop} (h0 : S p) (hs : ∀ u v, S u → adj T u v → v ∉ W → S v) {v : Nat} (h : Reach T W p v) : S v := by
  induction h with
  | base => exact h0
  | step _ a n ih => exact hs _ _ ih a n
/-! ### dicts of places -/
def dkN (l : List Nat) : List (Key × V) := l.map fun v : Nat => (Sum.inl (v : Int), V.bl true)
theorem valV_dkN (l : List Nat) (v : Nat) : (valV (dkN l) (Sum.inl (v : Int))).isSome = decide (v ∈ l) := by
  induction l with
  | nil => simp [valV, dkN]
  | cons a r ih =>
    by_cases e : a = v
    · subst e
      have h : valV (dkN (a :: r)) (Sum.inl (a : Int)) = some (.bl true) := valV_pos rfl
      rw [h]; simp
    · have h : valV (dkN (a :: r)) (Sum.inl (v : Int)) = valV (dkN r) (Sum.inl (v : Int)) := valV_neg (fun z => e (by have := Sum.inl.inj z; omega))
      rw [h, ih]
      have : (v = a) = False := eq_false fun z => e z.symm
      simp [this]
theorem putK_dkN {l : List Nat} {v : Nat} (h : v ∉ l) : putK (dkN l) (Sum.inl (v : Int)) (.bl true) = dkN (l ++ [v]) := by
  unfold putK
  have e : ((dkN l).any fun kv => decide (kv.1 = Sum.inl (v : Int))) = false := by
    rw [List.any_eq_false]
    intro x hx
    obtain ⟨u, hu, rfl⟩ := List.mem_map.mp hx
    simp
    intro z
    exact h (by have : u = v := by omega
                rw [← this]; exact hu)
  rw [e, if_neg Bool.false_ne_true]
  unfold dkN
  rw [List.map_append]
  rfl
theorem dkN_keys (l : List Nat) : (dkN l).map (·.1) = (l.map fun v : Nat => (v : Int)).map Sum.inl := by
  unfold dkN
  rw [List.map_map, List.map_map]
  rfl
abbrev iv (l : List Nat) : List V := l.map fun v : Nat => V.int (v : Int)
theorem iv_int (l : List Nat) : iv l = (l.map fun v : Nat => (v : Int)).map V.int := by rw [List.map_map]; rfl
theorem iv_flat (l : List Nat) : (iv l).all flatV = true := by rw [List.all_eq_true]; intro x hx; obtain ⟨u, _, rfl⟩ := List.mem_map.mp hx; rfl
theorem inV_iv (l : List Nat) (v : Nat) : inV (.int (v : Int)) (iv l) = decide (v ∈ l) := by
  unfold inV
  rw [Bool.eq_iff_iff, List.any_eq_true, decide_eq_true_iff]
  constructor
  · rintro ⟨x, hx, e⟩
    obtain ⟨u, hu, rfl⟩ := List.mem_map.mp hx
    have : (u : Int) = v := by
      have := e
      simpa [eqV] using this
    have : u = v := by omega
    rw [← this]; exact hu
  · intro h
    exact ⟨.int v, List.mem_map.mpr ⟨v, h, rfl⟩, by simp [eqV]⟩
/-- a rising list of ints that is an arrangement of some numbers -/
theorem perm_nat {ys : List Int} {l : List Nat} (p : ys.Perm (l.map fun v : Nat => (v : Int))) : ∃ m : List Nat, ys = m.map (fun v : Nat => (v : Int)) ∧ m.Perm l := by
  refine ⟨ys.map Int.toNat, ?_, ?_⟩
  · rw [List.map_map]
    have : ∀ y ∈ ys, ((fun v : Nat => (v : Int)) ∘ Int.toNat) y = y := fun y hy => by
      obtain ⟨v, _, rfl⟩ := List.mem_map.mp (p.mem_iff.mp hy)
      rfl
    rw [List.map_congr_left this, List.map_id'']
    intro x; rfl
  · have q := p.map Int.toNat
    rw [List.map_map] at q
    have e : (Int.toNat ∘ fun v : Nat => (v : Int)) = id := by funext v; rfl
    rw [e, List.map_id] at q
    exact q
theorem rising_of {ys : List Nat} (h : (ys.map fun v : Nat => (v : Int)).Pairwise (· ≤ ·)) (nd : ys.Nodup) : ys.Pairwise (· < ·) := by
  rw [List.pairwise_map] at h
  exact (List.Pairwise.and h nd).imp fun {a b} ⟨h1, h2⟩ => by
    have h3 : a ≠ b := h2
    omega
/-! ### hanging -/
def spHanging (K : PySem.W.Frag) : Sp := fun vs H Q _ => ∃ (x : V) (a wo : Addr) (T : List (Nat × Nat)) (p N : Nat) (W : List Nat), vs = [x, .ref a, .int p, .ref wo] ∧ TiesAt H a T ∧ T.length < 32 ∧ SqT K H wo (iv W) ∧ Bnd N T ∧ p < N ∧ N < 60 ∧
  ∀ H' l (L : List Nat), Sm H H' → H l = none → H' l = some (.lst (iv L)) → L.Pairwise (· < ·) → (∀ v, v ∈ L ↔ Reach T W p v) → Q (.ref l) H'
theorem sc_hanging : FnScope ["places", "ties", "place", "without", "found", "layer", "later", "one", "other"] ["places", "ties", "place", "without"] (defScope s_hanging) := ⟨rfl, rfl, rfl, by decide +kernel, rfl, by decide +kernel, by decide +kernel⟩
/-- between two turns of the while -/
structure HgI (T : List (Nat × Nat)) (W : List Nat) (p N : Nat) (F L : List Nat) : Prop where
  nd : F.Nodup
  st : p ∈ F
  re : ∀ v ∈ F, Reach T W p v
  sub : ∀ v ∈ L, v ∈ F
  done : ∀ u ∈ F, u ∉ L → ∀ v, adj T u v → v ∉ W → v ∈ F
/-- within: F ahead, G come since; the neighbours of D are in -/
structure HgJ (T : List (Nat × Nat)) (W : List Nat) (p N : Nat) (F G D : List Nat) : Prop where
  nd : (F ++ G).Nodup
  re : ∀ v ∈ F ++ G, Reach T W p v
  done : ∀ u ∈ D, ∀ v, adj T u v → v ∉ W → v ∈ F ++ G
theorem HgJ.add {T : List (Nat × Nat)} {W : List Nat} {p N : Nat} {F G D : List Nat} (j : HgJ T W p N F G D) {v u : Nat} (hv : v ∉ F ++ G) (hu : Reach T W p u) (ha : adj T u v) (hw : v ∉ W) : HgJ T W p N F (G ++ [v]) D := by
  refine ⟨?_, fun x hx => ?_, fun u hu v' a n => ?_⟩
  · rw [← List.append_assoc]
    refine List.nodup_append.mpr ⟨j.nd, by simp, fun a ha b hb => ?_⟩
    have : b = v := by simpa using hb
    rw [this]
    exact fun z => hv (z ▸ ha)
  · rw [← List.append_assoc] at hx
    rcases List.mem_append.mp hx with h | h
    · exact j.re x h
    · have : x = v := by simpa using h
      rw [this]
      exact .step hu ha hw
  · rw [← List.append_assoc]
    exact List.mem_append_left _ (j.done u hu v' a n)
/-- the while's word -/
def hgW (H : Hp) (x : V) (a wo F : Addr) (T : List (Nat × Nat)) (W : List Nat) (p N : Nat) (m : Nat) (σ : L2.St) (H' : Hp) : Prop :=
  ∃ (Fs Ls : List Nat) (ly : Addr) (y6 y7 y8 : Option V), σ = [some x, some (.ref a), some (.int p), some (.ref wo), some (.ref F), some (.ref ly), y6, y7, y8] ∧ Sm H H' ∧ H ly = none ∧
    H' F = some (.dK (dkN Fs)) ∧ H' ly = some (.lst (iv Ls)) ∧ HgI T W p N Fs Ls ∧ m = 2 * (N - Fs.length) + (if Ls = [] then 0 else 1)
theorem HgJ.start {T : List (Nat × Nat)} {W : List Nat} {p N : Nat} {F L : List Nat} (i : HgI T W p N F L) : HgJ T W p N F [] [] :=
  ⟨by rw [List.append_nil]; exact i.nd, fun v hv => i.re v (by rw [List.append_nil] at hv; exact hv), fun u hu => by cases hu⟩
theorem HgJ.more {T : List (Nat × Nat)} {W : List Nat} {p N : Nat} {F G D : List Nat} (j : HgJ T W p N F G D) {u : Nat} (h : ∀ v, adj T u v → v ∉ W → v ∈ F ++ G) : HgJ T W p N F G (D ++ [u]) :=
  ⟨j.nd, j.re, fun u' hu' v a n => by
    rcases List.mem_append.mp hu' with z | z
    · exact j.done u' z v a n
    · have e : u' = u := by simpa using z
      rw [e] at a
      exact h v a n⟩
theorem HgJ.turn {T : List (Nat × Nat)} {W : List Nat} {p N : Nat} {F G L : List Nat} (i : HgI T W p N F L) (j : HgJ T W p N F G L) : HgI T W p N (F ++ G) G :=
  ⟨j.nd, List.mem_append_left _ i.st, j.re, fun v hv => List.mem_append_right _ hv, fun u hu hn v a n => by
    rcases List.mem_append.mp hu with z | z
    · by_cases hl : u ∈ L
      · exact j.done u hl v a n
      · exact List.mem_append_left _ (i.done u z hl v a n)
    · exact absurd z hn⟩
theorem len_le {l : List Nat} {N : Nat} (nd : l.Nodup) (h : ∀ v ∈ l, v < N) : l.length ≤ N := by
  have := List.Nodup.length_le_of_subset nd (l₂ := List.range N) fun v hv => List.mem_range.mpr (h v hv)
  rwa [List.length_range] at this
section
variable {P : Program} {w : World} {K : PySem.W.Frag} {mg : Str → Option Value} {base : Heap}
theorem ok_hanging (T : Txt K mg) : Ok P w K mg base CX0 2 "hanging" ["places", "ties", "place", "without"] (spHanging K) := by
  refine ok_of (f_hanging T) (g_hanging T) sc_hanging (fun _ _ _ _ _ _ us hl => match us, hl with | [_, _, _, _], _ => rfl) (fun vs H Q E h => ?_) (fun cdv A outer s H vs Q E hcd hr h => ?_)
  · obtain ⟨x, a, wo, T, p, N, W, rfl, _⟩ := h
    rfl
  · obtain ⟨x, a, wo, Ts, p, N, W, rfl, hT, hlen, hW, bN, hp, hN, q⟩ := h
    have nd := sc_hanging.nd
    have hu := hu_of hr
    refine ⟨_, pss_cons (ps_par (i := 4) (j := 5) (by rfl) nd rfl rfl (by decide) rfl rfl (pa_cons (pe_disp (pps_cons (pv 2) pe_bl pps_nil) (by rfl) (by rfl) (fun z => by cases z) (by decide)) (pa_cons (pe_lst (pa_cons (pv 2) pa_nil)) pa_nil)) (by rfl))
      (pss_cons (ps_while PassesOwn.never (pt_truth (pv 5) (by intro _; rfl))
        (pss_cons (ps_set (i := 6) nd rfl (.inl rfl) (pe_lst pa_nil))
        (pss_cons (ps_for PassesOwn.never rfl (pi_list (pv 5)) (pg_name (i := 7) nd rfl (.inl rfl))
          (pss_one (ps_for PassesOwn.never rfl (pi_list (pe_cl (ok_near T) hr (pa_cons (pv 1) (pa_cons (pv 7) pa_nil)))) (pg_name (i := 8) nd rfl (.inl rfl))
            (pss_one (ps_if (PW.pt (pw_and (pt_cmpR op_notIn_seq (pv 8) (pv 3) (by rfl)) (pw_and1 (pt_cmp (pc_dnotin hu (pv 8) (pv 4))))))
              (pss_cons (ps_dput hu (pv 4) (pv 8) pe_bl (by rfl)) (pss_one (ps_expr (pe_bm PySem.F.plainAttrs_list PySem.F.slot_list_append PySem.F.type_list_append mt_append (pv 6) (pa_cons (pv 8) pa_nil)))))
              pss_nil)))))
        (pss_one (ps_set (i := 5) nd rfl (.inl rfl) (pv 6))))))
      (pss_one (ps_ret (pe_callB (call_sortedDI (by rfl)) (by rfl) (m_sorted T) (by decide +kernel) (pa_cons (pv 4) pa_nil))))), ?_⟩
    -- found, layer = {place: True}, [place]
    refine fun F nF => ⟨_, rfl, upd_same, [(Sum.inl (p : Int), .bl true)], rfl, by simp, ?_⟩
    refine ⟨_, rfl, (by show 1 ≤ sizeLine; decide), fun L0 nL0 => ⟨_, _, rfl, ?_⟩⟩
    have nFL : F ≠ L0 := fun e => by rw [e, upd_same] at nL0; cases nL0
    have nL : H L0 = none := by rw [upd_ne nFL.symm, upd_ne nFL.symm] at nL0; exact nL0
    refine ⟨hgW H x a wo F Ts W p N, ⟨_, [p], [p], L0, none, none, none, rfl, (((Sm.refl H).upd nF).upd nF).upd nL, nL, ?_, upd_same, ⟨by simp, by simp, fun v hv => ?_, fun v hv => hv, fun u hu hn => absurd hu hn⟩, rfl⟩, fun m σ H1 hw => ?_⟩
    · rw [upd_ne nFL, upd_same]; rfl
    · have e : v = p := by simpa using hv
      rw [e]; exact .base
    obtain ⟨Fs, Ls, ly, y6, y7, y8, rfl, sm, nly, eF, ely, hI, rfl⟩ := hw
    have lF : Fs.length ≤ N := len_le hI.nd fun v hv => (hI.re v hv).lt bN hp
    refine ⟨_, rfl, _, .inl ⟨_, SqL.of ely, rfl⟩, ite2 (fun c => ?_) (fun c => ?_)⟩
    · -- a turn
      have hne : Ls ≠ [] := fun z => by rw [z] at c; cases c
      refine ⟨fun σ' H' => ∃ m', m' < 2 * (N - Fs.length) + (if Ls = [] then 0 else 1) ∧ hgW H x a wo F Ts W p N m' σ' H', fun _ _ z => z, ?_⟩
      rw [if_neg hne]
      refine ⟨Nat.zero_le _, fun lt nlt => ?_⟩
      have nFt : F ≠ lt := ne_of_none eF nlt
      have nyt : ly ≠ lt := ne_of_none ely nlt
      have nt : H lt = none := sm.free nlt
      refine ⟨_, rfl, ly, rfl, ⟨_, SqL.of (by rw [upd_ne nyt]; exact ely)⟩, for_list (K := K) (a := ly) (xs := iv Ls) (fun i σ H' => ∃ (G : List Nat) (y7 y8 : Option V),
          σ = [some x, some (.ref a), some (.int p), some (.ref wo), some (.ref F), some (.ref ly), some (.ref lt), y7, y8] ∧ Sm H H' ∧ H' F = some (.dK (dkN (Fs ++ G))) ∧ H' ly = some (.lst (iv Ls)) ∧ H' lt = some (.lst (iv G)) ∧ HgJ Ts W p N Fs G (Ls.take i))
        ⟨[], y7, y8, rfl, sm.upd nt, ?_, ?_, upd_same, HgJ.start hI⟩ (fun i σ H' _ ⟨_, _, _, _, _, _, z, _⟩ => SqL.of z) (fun i y σ H' hy z => ?_) (fun σ H' z => ?_)⟩
      · rw [upd_ne nFt, List.append_nil]; exact eF
      · rw [upd_ne nyt]; exact ely
      · obtain ⟨G, z7, z8, rfl, sm2, eF2, ely2, elt2, hJ⟩ := z
        obtain ⟨u, hu', rfl⟩ : ∃ u : Nat, Ls[i]? = some u ∧ y = .int u := by
          rw [List.getElem?_map] at hy
          cases e : Ls[i]? with
          | none => rw [e] at hy; cases hy
          | some u => rw [e] at hy; exact ⟨u, rfl, (Option.some.inj hy).symm⟩
        have hur : Reach Ts W p u := hI.re u (hI.sub u (List.mem_of_getElem? hu'))
        refine ⟨_, rfl, _, rfl, a, Ts, u, rfl, hT.sm sm2, hlen, fun H3 nl Ln s3 nnl eL pL => ⟨nl, rfl, ⟨_, SqL.of eL⟩, ?_⟩⟩
        refine for_list (K := K) (a := nl) (xs := Ln.map V.int) (fun j σ H' => ∃ (G : List Nat) (y8 : Option V),
          σ = [some x, some (.ref a), some (.int p), some (.ref wo), some (.ref F), some (.ref ly), some (.ref lt), some (.int u), y8] ∧ Sm H H' ∧ H' F = some (.dK (dkN (Fs ++ G))) ∧ H' ly = some (.lst (iv Ls)) ∧ H' lt = some (.lst (iv G)) ∧ H' nl = some (.lst (Ln.map V.int)) ∧
            HgJ Ts W p N Fs G (Ls.take i) ∧ ∀ v : Nat, (v : Int) ∈ Ln.take j → v ∉ W → v ∈ Fs ++ G)
          ⟨G, z8, rfl, sm2.trans s3, s3.dK eF2, s3.lst ely2, s3.lst elt2, eL, hJ, fun v hv => by simp at hv⟩ (fun j σ H' _ ⟨_, _, _, _, _, _, _, z, _⟩ => SqL.of z) (fun j y σ H' hy z => ?_) (fun σ H' z => ?_)
        · obtain ⟨G, w8, rfl, sm4, eF4, ely4, elt4, enl4, hJ4, hD⟩ := z
          obtain ⟨z, hz, rfl⟩ : ∃ z : Int, Ln[j]? = some z ∧ y = .int z := by
            rw [List.getElem?_map] at hy
            cases e : Ln[j]? with
            | none => rw [e] at hy; cases hy
            | some u => rw [e] at hy; exact ⟨u, rfl, (Option.some.inj hy).symm⟩
          obtain ⟨v, rfl, hav⟩ := mem_nearL.mp (pL.mem_iff.mp (List.mem_of_getElem? hz))
          have lFG : (Fs ++ G).length ≤ N := len_le hJ4.nd fun v hv => (hJ4.re v hv).lt bN hp
          have lG : G.length ≤ N := by rw [List.length_append] at lFG; omega
          refine ⟨_, rfl, _, rfl, wo, _, rfl, .inr (sm4.sqT hW), rfl, iv_flat W, _, rfl, ite2 (fun c => ?_) (fun c => ?_)⟩
          · rw [if_pos rfl, inV_iv] at c
            have hvW : v ∉ W := by simpa using c
            refine ⟨_, rfl, _, rfl, F, _, rfl, DGet.k (k := Sum.inl (v : Int)) eF4, _, rfl, ite2 (fun c2 => ?_) (fun c2 => ?_)⟩
            · rw [valV_dkN] at c2
              have hvF : v ∉ Fs ++ G := by simpa using c2
              refine ⟨_, rfl, _, rfl, F, _, rfl, DPut.k (k := Sum.inl (v : Int)) eF4 ?_, ?_⟩
              · unfold dkN; rw [List.length_map]; exact small1000 (by omega)
              · have nFt' : F ≠ lt := nFt
                refine ⟨.ref lt, rfl, .inl ⟨rfl, _, SqL.of (by rw [upd_ne nFt.symm]; exact elt4)⟩, _, rfl, lt, _, _, rfl, rfl, (by rw [upd_ne nFt.symm]; exact elt4), ?_, ?_⟩
                · rw [List.length_map]; exact small1000 (by omega)
                · have nly : ly ≠ lt := nyt
                  have nlF : ly ≠ F := ne_of ely4 eF4 (by intro z; cases z)
                  have nnF : nl ≠ F := ne_of enl4 eF4 (by intro z; cases z)
                  have nnt : nl ≠ lt := (ne_of_none (s3.lst elt2 |> fun _ => elt2) nnl).symm
                  refine ⟨G ++ [v], _, rfl, (sm4.upd nF).upd nt, ?_, ?_, ?_, ?_, hJ4.add hvF hur hav hvW, fun v' hv' n' => ?_⟩
                  · rw [upd_ne nFt, upd_same, putK_dkN hvF, List.append_assoc]
                  · rw [upd_ne nly, upd_ne nlF]; exact ely4
                  · rw [upd_same]; simp [iv]
                  · rw [upd_ne nnt, upd_ne nnF]; exact enl4
                  · rw [take_succ' hz] at hv'
                    rw [← List.append_assoc]
                    rcases List.mem_append.mp hv' with z | z
                    · exact List.mem_append_left _ (hD v' z n')
                    · have e : (v' : Int) = v := by simpa using z
                      have e : v' = v := by omega
                      rw [e]; simp
            · rw [valV_dkN] at c2
              have hvF : v ∈ Fs ++ G := Decidable.byContradiction fun h => c2 (by rw [decide_eq_false h]; rfl)
              refine ⟨G, _, rfl, sm4, eF4, ely4, elt4, enl4, hJ4, fun v' hv' n' => ?_⟩
              rw [take_succ' hz] at hv'
              rcases List.mem_append.mp hv' with z | z
              · exact hD v' z n'
              · have e : (v' : Int) = v := by simpa using z
                have e : v' = v := by omega
                rw [e]; exact hvF
          · rw [if_pos rfl, inV_iv] at c
            have hvW : v ∈ W := Decidable.byContradiction fun h => c (by rw [decide_eq_false h]; rfl)
            refine ⟨G, _, rfl, sm4, eF4, ely4, elt4, enl4, hJ4, fun v' hv' n' => ?_⟩
            rw [take_succ' hz] at hv'
            rcases List.mem_append.mp hv' with z | z
            · exact hD v' z n'
            · have e : (v' : Int) = v := by simpa using z
              have e : v' = v := by omega
              rw [e] at n'; exact absurd hvW n'
        · obtain ⟨G, w8, rfl, sm4, eF4, ely4, elt4, enl4, hJ4, hD⟩ := z
          refine ⟨G, _, _, rfl, sm4, eF4, ely4, elt4, ?_⟩
          rw [take_succ' hu']
          refine hJ4.more fun v hv hn => hD v ?_ hn
          rw [List.length_map, List.take_length]
          exact pL.mem_iff.mpr (mem_nearL.mpr ⟨v, rfl, hv⟩)
      · obtain ⟨G, z7, z8, rfl, sm2, eF2, ely2, elt2, hJ⟩ := z
        rw [List.length_map, List.take_length] at hJ
        have lFG : (Fs ++ G).length ≤ N := len_le hJ.nd fun v hv => (hJ.re v hv).lt bN hp
        refine ⟨_, rfl, _, ?_, Fs ++ G, G, lt, _, _, _, rfl, sm2, nt, eF2, elt2, hJ.turn hI, rfl⟩
        rw [List.length_append] at lFG ⊢
        cases G with
        | nil => rw [if_pos rfl]; simp
        | cons g r =>
          rw [if_neg (by simp)]
          rw [List.length_cons] at lFG ⊢
          omega
    · -- the end
      have hnil : Ls = [] := by
        cases Ls with
        | nil => rfl
        | cons b r => exact absurd rfl c
      subst hnil
      refine ⟨_, rfl, F, _, _, rfl, .inl eF, dkN_keys Fs, ?_, fun ys l py ry nl => ?_⟩
      · rw [List.length_map]; omega
      · obtain ⟨m, rfl, pm⟩ := perm_nat py
        have ndm : m.Nodup := pm.nodup_iff.mpr hI.nd
        refine q _ l m (sm.new nl) (sm.free nl) (by rw [upd_same, iv_int]) (rising_of ry ndm) fun v => ?_
        rw [pm.mem_iff]
        exact ⟨hI.re v, fun hv => hv.sub hI.st fun u v hu ha hn => hI.done u hu (by simp) v ha hn⟩
end
end HT
/-! text G1 -/
set_option maxHeartbeats 4000000
namespace HT
open PySem PySem.Spec PyProof.Rows L2
open GxR (TabG Tabbed inv_tab sh_eta)
theorem TabG.sg {K : PySem.W.Frag} {H H' : Hp} {P : Addr} (e : Sg K H H') (h : TabG H P) : TabG H' P := by
  obtain ⟨ps, h1, h2⟩ := h
  obtain ⟨qs, e1, e2, _⟩ := e.t P ps h1
  exact ⟨qs, e1, e2 h2⟩
theorem Tabbed.sg {K : PySem.W.Frag} {P : Addr} {H H' : Hp} (h : Tabbed P H H') (hP : TabG H P) (hn : ¬ LamT K P) : Sg K H H' := by
  obtain ⟨⟨qs, q1, q2⟩, h2⟩ := h
  obtain ⟨ps, p1, p2⟩ := hP
  refine ⟨fun b o e n => ?_, fun b rs e => ?_⟩
  · have hb : b ≠ P := fun z => by rw [z, p1] at e; cases e; exact n _ rfl
    rw [h2 b hb]; exact e
  · by_cases hb : b = P
    · subst hb; exact ⟨qs, q1, fun _ => q2, fun z => absurd z hn⟩
    · exact ⟨rs, by rw [h2 b hb]; exact e, id, fun _ => rfl⟩
/-- the generator expression's own scope -/
structure GSc (env : Env) (scope : Scope) (x : Str) : Prop where
  kind : scope.kind = .function
  co : scope.isCoroutine = false
  cell : ∀ y ∈ scope.names, y.2 ≠ .cell
  dot : scope.names.lookup (".0" : Str) = some NameKind.local
  loc : scope.names.lookup x = some .local
  free : ∀ y ∈ scope.names, y.2 = .free → env.kindOf y.1 = some .cell ∨ env.kindOf y.1 = some .free
section
variable {X : Cx}
/-- the element's value at v is the truth b, whatever comes between: s1 is the state ahead of the generator, s₂ keeps it (but the table at P) -/
def EltOk (X : Cx) (pins : List (Addr × Obj)) (σ : L2.St) (H1 : Hp) (P : Addr) (scope : Scope) (x : Str) (elt : Expr) (v : V) (b : Bool) : Prop :=
  ∀ (s1 : Shared) (C : Addr) (code : Value) (bi : Addr) (A' : Around) (E' : Value → Shared → Prop) (u : Value) (s₂ : Shared) (m₂ : Str → Option Value), Inv X pins σ H1 s1 → bi = builtinsNs → A'.handled = none → A'.depth ≤ X.A.depth + 1 → A'.units ≤ X.A.units + 8 → RelV v u →
    s₂.heap.Ns C m₂ → m₂ x = some u → (∀ b o, b ≠ P → s1.heap.get? b = some o → s₂.heap.get? b = some o) →
    wpAny (model X.prog X.w) A' (eval elt (genEnv scope (cloFrom X.env.cells scope.names []) C code bi X.env)) (fun y s₃ => y = .bool b ∧ Keeps s₂ s₃) E' s₂
def trB (pb : List Bool) (j : Nat) : Bool := pb.getD j false
theorem all_trB (pb : List Bool) : (List.range pb.length).all (trB pb) = pb.all id := by
  rw [Bool.eq_iff_iff, List.all_eq_true, List.all_eq_true]
  constructor
  · intro h b hb
    obtain ⟨j, hj, e⟩ := List.getElem_of_mem hb
    have q := h j (List.mem_range.mpr hj)
    unfold trB at q
    rw [List.getD_eq_getElem?_getD, List.getElem?_eq_getElem hj, e] at q
    exact q
  · intro h j hj
    have hj' := List.mem_range.mp hj
    unfold trB
    rw [List.getD_eq_getElem?_getD, List.getElem?_eq_getElem hj']
    exact h _ (List.getElem_mem hj')
def ReadyB (X : Cx) (pins : List (Addr × Obj)) (σ : L2.St) (H1 : Hp) (P : Addr) (pb : List Bool) (g : Addr) (s5 : Shared) : Prop :=
  ∃ (fp wr : List Addr) (G : Array GenState → Array GenState → Prop) (F : Nat → Value → Prop) (St : Nat → Shared → Prop),
    WalksS X.prog X.w X.A.in1 g fp wr G pb.length F St ∧ St 0 s5 ∧
    TruthOf X.prog X.w X.A.in1 F (trB pb) ∧
    ∀ s', Moved wr G s5 s' → ∃ H2, Tabbed P H1 H2 ∧ Inv X pins σ H2 s'
theorem GSc.clo {scope : Scope} {x : Str} (S : GSc X.env scope x) (ok : X.Ok) : ∀ y ∈ scope.names, y.2 = .free → ∃ c, X.env.cells.lookup y.1 = some c := fun y hy e => ok.has _ (S.free y hy e)
/-- the iterator has come: at I, over items; what follows makes the generator -/
theorem gen_core {pins : List (Addr × Obj)} {σ : L2.St} {H1 : Hp} {s1 : Shared} {c P ax : Addr} {elt : Expr} {x : Str} {gpos : Pos} {scope : Scope} {pb : List Bool} {k : Nat} {Q' : Value → Shared → Prop} {o : Obj} {xs : List V} {us : List Value} {Stt : Nat → Heap → Prop}
    (hr : Room k X.A) (TB : GxR.TabB X.base X.mg c P) (hcode : X.env.code = .ref c) (S : GSc X.env scope x) (I1 : Inv X pins σ H1 s1) (hT : TabG H1 P)
    (rv : Vals xs us) (hlen : pb.length = xs.length) (hel : ∀ (i : Nat) (v : V), xs[i]? = some v → EltOk X pins σ H1 P scope x elt v (trB pb i))
    (hax : ax ≠ P) (haxl : ax < s1.heap.objs.size) (hst : Stt 0 (s1.heap.push o))
    (W : ∀ A' : Around, A'.handled = none → Walks X.prog X.w A' s1.heap.objs.size [s1.heap.objs.size, ax] [s1.heap.objs.size] us.length (fun i v => us.toArray[i]? = some v) Stt)
    (hQ : ∀ g s5, ReadyB X pins σ H1 P pb g s5 → Q' (.ref g) s5) :
    ({ s1 with heap := s1.heap.push o } : Shared).heap.NoLimit ∧
      wpAny (model X.prog X.w) X.A (genexprCode X.env gpos (X.env.qual ++ "<genexpr>") scope) (fun code s₃ => wpAny (model X.prog X.w) X.A (builtinsFor X.env.globals X.env.builtins) (fun bi s₄ =>
        ∃ Ia fp wr n₀ Pf St₀ pz F, Value.ref s1.heap.objs.size = .ref Ia ∧ (∀ A' : Around, A'.handled = none → Walks X.prog X.w A' Ia fp wr n₀ Pf St₀) ∧ St₀ 0 s₄.heap ∧ (∀ b ∈ fp, b < s₄.heap.objs.size) ∧ s₄.heap.NoLimit ∧ cStatics ∉ wr ∧
          (∀ href : Heap, (∀ b o, s₄.heap.get? b = some o → href.get? b = some o) →
            QuietGenD X.prog X.w (genEnv scope (cloFrom X.env.cells scope.names []) s₄.heap.objs.size code bi X.env) x [] elt (List.range s₄.heap.objs.size) wr Pf pz F href (X.A.depth + 1) (X.A.units + 8)) ∧
          (∀ a h₅ tk gs, gs.bare = true → s₄.heap.objs.size < a → h₅.objs.size = a + 1 → (∀ b o, s₄.heap.get? b = some o → h₅.get? b = some o) →
            WalksS X.prog X.w X.A.in4 a (a :: s₄.heap.objs.size :: List.range s₄.heap.objs.size) (s₄.heap.objs.size :: wr) (GenOnlyQ s₄.gens.size) (passing pz n₀ 0).length
              (fun j y => ∃ i, (passing pz n₀ 0)[j]? = some i ∧ F i y) (GenAt X.prog X.w X.A.in4 a s₄.gens.size s₄.heap.objs.size (List.range s₄.heap.objs.size) wr pz n₀ F) →
            GenAt X.prog X.w X.A.in4 a s₄.gens.size s₄.heap.objs.size (List.range s₄.heap.objs.size) wr pz n₀ F 0 { s₄ with gens := s₄.gens.push gs, toks := tk, heap := h₅ } →
            Q' (.ref a) { s₄ with gens := s₄.gens.push gs, toks := tk, heap := h₅ })) X.xe s₃) X.xe { s1 with heap := s1.heap.push o } := by
  obtain ⟨ps, hP, ht⟩ := hT
  have hPs : s1.heap.get? P = some { cls := .none, data := .fields ps } := I1.hok P _ hP
  have hPlt : P < s1.heap.objs.size := Heap.lt_size hPs
  have hP2 : (s1.heap.push o).get? P = some { cls := .none, data := .fields ps } := Heap.get?_push_of_some _ hPs
  have cd : PySem.W.CodeHd (s1.heap.push o) c P := TB.code.keeps fun b u e => Heap.get?_push_of_some _ (I1.bk b u e)
  have lim2 : (s1.heap.push o).NoLimit := I1.nolimit.push o
  have hul : us.length = xs.length := rv.length.symm
  have epl : us.length = pb.length := by omega
  rw [epl] at W
  have cont : ∀ (code : Value) (h3 : Heap) (tk : Nat) (ps' : Array Value), Heap.ExtBut P (s1.heap.push o) h3 → (s1.heap.push o).objs.size ≤ h3.objs.size → h3.get? P = some { cls := .none, data := .fields ps' } → (∃ more, ps' = ps ++ more) → TriplesOk ps'.toList →
      wpAny (model X.prog X.w) X.A (builtinsFor X.env.globals X.env.builtins) (fun bi s₄ =>
        ∃ Ia fp wr n₀ Pf St₀ pz F, Value.ref s1.heap.objs.size = .ref Ia ∧ (∀ A' : Around, A'.handled = none → Walks X.prog X.w A' Ia fp wr n₀ Pf St₀) ∧ St₀ 0 s₄.heap ∧ (∀ b ∈ fp, b < s₄.heap.objs.size) ∧ s₄.heap.NoLimit ∧ cStatics ∉ wr ∧
          (∀ href : Heap, (∀ b o, s₄.heap.get? b = some o → href.get? b = some o) →
            QuietGenD X.prog X.w (genEnv scope (cloFrom X.env.cells scope.names []) s₄.heap.objs.size code bi X.env) x [] elt (List.range s₄.heap.objs.size) wr Pf pz F href (X.A.depth + 1) (X.A.units + 8)) ∧
          (∀ a h₅ tk gs, gs.bare = true → s₄.heap.objs.size < a → h₅.objs.size = a + 1 → (∀ b o, s₄.heap.get? b = some o → h₅.get? b = some o) →
            WalksS X.prog X.w X.A.in4 a (a :: s₄.heap.objs.size :: List.range s₄.heap.objs.size) (s₄.heap.objs.size :: wr) (GenOnlyQ s₄.gens.size) (passing pz n₀ 0).length
              (fun j y => ∃ i, (passing pz n₀ 0)[j]? = some i ∧ F i y) (GenAt X.prog X.w X.A.in4 a s₄.gens.size s₄.heap.objs.size (List.range s₄.heap.objs.size) wr pz n₀ F) →
            GenAt X.prog X.w X.A.in4 a s₄.gens.size s₄.heap.objs.size (List.range s₄.heap.objs.size) wr pz n₀ F 0 { s₄ with gens := s₄.gens.push gs, toks := tk, heap := h₅ } →
            Q' (.ref a) { s₄ with gens := s₄.gens.push gs, toks := tk, heap := h₅ })) X.xe { s1 with heap := h3, toks := tk } := by
    intro code h3 tk ps' hx hsz hP3 hmore ht3
    obtain ⟨bm, ob, e1, e2, e3, e4, e5, e6, e7, e8⟩ := TB.bm
    have hcP : cStatics ≠ P := fun e => by
      obtain ⟨_, hns, _⟩ := I1.nolimit
      obtain ⟨o', es, ep, ho, hd, _⟩ := hns
      rw [e, hPs] at ho
      cases ho
      cases hd
    have hcl : cStatics < s1.heap.objs.size := let ⟨_, hns, _⟩ := I1.nolimit; hns.lt
    have sz2 : (s1.heap.push o).objs.size = s1.heap.objs.size + 1 := Heap.size_push ..
    have hsz' : s1.heap.objs.size + 1 ≤ h3.objs.size := by rw [← sz2]; exact hsz
    have keep3 : ∀ b u, b ≠ P → s1.heap.get? b = some u → h3.get? b = some u := fun b u hb e => hx b u hb (Heap.get?_push_of_some _ e)
    refine wpAny_builtinsFor (m := X.mg) (by rw [I1.ok.glob]; exact ((I1.mod.glob.keeps I1.bk).push o).extBut hx TB.gP) e1 e2 (keep3 _ _ e4 (I1.bk _ _ e5)) e6 e7 e8 ?_
    refine ⟨s1.heap.objs.size, [s1.heap.objs.size, ax], [s1.heap.objs.size], pb.length, (fun i v => us.toArray[i]? = some v), Stt, (fun _ => true), (fun i y => i < pb.length ∧ y = .bool (trB pb i)), rfl, W, ?_, ?_, lim2.extBut hx hcP, ?_, ?_, ?_⟩
    · refine (W X.A hr.hd).frame _ _ _ hst fun b hb u e => hx b u (fun z => ?_) e
      rcases List.mem_cons.mp hb with z2 | z2
      · exact Nat.ne_of_lt hPlt (z.symm.trans z2)
      · have z3 : b = ax := by simpa using z2
        exact hax (z3.symm.trans z)
    · intro b hb
      rcases List.mem_cons.mp hb with z | z
      · rw [z]
        show s1.heap.objs.size < h3.objs.size
        omega
      · have z3 : b = ax := by simpa using z
        rw [z3]
        show ax < h3.objs.size
        exact Nat.lt_of_lt_of_le haxl (Nat.le_of_succ_le hsz')
    · intro z
      rcases List.mem_cons.mp z with z | z
      · exact Nat.ne_of_lt hcl z
      · cases z
    · intro href hhref
      refine ⟨fun A' E' i v s₂ m₂ hA _ _ hPv hn hm hk => ?_, fun A' E' i v s₂ m₂ hA hD hU hPv hp hn hm hk => ?_⟩
      · simp only [List.forIn_nil]
        exact wpAny_pure ⟨rfl, ⟨s₂.heap, s₂.toks, rfl, fun _ _ e => e⟩⟩
      · have hv : us[i]? = some v := by simpa using hPv
        obtain ⟨hi, _⟩ := List.getElem?_eq_some_iff.mp hv
        have hi2 : i < xs.length := by omega
        obtain ⟨u', hu', ru⟩ := rv.get (List.getElem?_eq_getElem hi2)
        rw [hv] at hu'
        cases hu'
        refine wpAny_mono (hel i _ (List.getElem?_eq_getElem hi2) s1 _ _ _ A' E' v s₂ m₂ I1 rfl hA hD hU ru hn hm fun b ob hb e => ?_) (fun y s3 r => ⟨⟨by omega, r.1⟩, r.2⟩) fun _ _ e => e
        have hbl : b < s1.heap.objs.size := Heap.lt_size e
        refine hk b ?_ ?_ ob (hhref _ _ (keep3 b ob hb e))
        · refine List.mem_range.mpr ?_
          show (b : Nat) < h3.objs.size
          exact Nat.lt_of_lt_of_le hbl (Nat.le_of_succ_le hsz')
        · intro z
          have z3 : b = s1.heap.objs.size := by simpa using z
          rw [z3] at hbl
          exact Nat.lt_irrefl _ hbl
    · intro g h5 tk5 gs hgb hag hsz5 hk5 W5 hat
      simp only [GxR.passing_true, List.length_range] at W5
      refine hQ g _ ⟨_, _, _, _, _, W5.in4_1, hat, ?_, fun s' hm => ?_⟩
      · intro j y sj Qj Ej hy hQj
        obtain ⟨i, hij, hi, rfl⟩ := hy
        obtain ⟨hj, ej⟩ := List.getElem?_eq_some_iff.mp hij
        rw [List.getElem_range] at ej
        subst ej
        exact wpAny_truthy_bool hQj
      · obtain ⟨more, em⟩ := hmore
        have nwr : ∀ b u, s1.heap.get? b = some u → b ∉ h3.objs.size :: [s1.heap.objs.size] := fun b u e hb => by
          have hl := Heap.lt_size e
          rcases List.mem_cons.mp hb with z | z
          · rw [z] at hl
            have h9 : (h3.objs.size : Nat) < s1.heap.objs.size := hl
            omega
          · rcases List.mem_cons.mp z with z | z
            · rw [z] at hl
              exact Nat.lt_irrefl _ hl
            · cases z
        have J := inv_tab (more := more) (h' := s'.heap) (g' := s'.gens) (d' := s'.drawn) (t' := s'.toks) I1 hP (fun b u hb e => hm.heap b u (nwr b u e) (hk5 b u (keep3 b u hb e)))
          (by rw [← em]; exact hm.heap P _ (nwr P _ hPs) (hk5 P _ hP3)) (AllBare.movedS (I1.bare.push hgb) hm)
        rw [sh_eta s1 s' hm.os] at J
        refine ⟨upd H1 P (.tbl (ps ++ more)), ⟨⟨ps ++ more, upd_same, by rw [← em]; exact ht3⟩, fun b hb => upd_ne hb⟩, J⟩
  refine ⟨lim2, ?_⟩
  cases hf : codeAmong gpos ps.toList with
  | none =>
    refine wpAny_genexprCodeX hcode (cd.code hP2 ht) (cd.tab hP2) hf fun c' h' tk hx hge hlt hco' _ htab' _ => ?_
    obtain ⟨o1, vs, f1, tf, fl, tg, inF, tx, tt, op, _, _, _, _, _, _, _, _, _, htr, _⟩ := hco'
    exact cont _ h' tk _ hx (Nat.le_trans hge (Nat.le_of_lt hlt)) htab'.2 ⟨_, rfl⟩ htr
  | some cv =>
    refine wpAny_genexprCode_hit hcode (cd.code hP2 ht) hf ?_
    exact cont cv (s1.heap.push o) s1.toks ps (Heap.ExtBut.refl _ _) (Nat.le_refl _) hP2 ⟨#[], by simp⟩ ht
/-- all(elt for x in e), e a list or a tuple; pb: the elements' truths -/
def tAllG (X : Cx) (scope : Scope) (x : Str) (elt : Expr) (P : Addr) (te : TE) : TE := fun σ H Q => te σ H fun v H1 => ∃ (a : Addr) (xs : List V) (pb : List Bool), v = .ref a ∧ (SqL X.K H1 a xs ∨ SqT X.K H1 a xs) ∧ TabG H1 P ∧ pb.length = xs.length ∧
  (∀ (pins : List (Addr × Obj)) (i : Nat) (v : V), xs[i]? = some v → EltOk X pins σ H1 P scope x elt v (trB pb i)) ∧ ∀ H2, Tabbed P H1 H2 → Q (.bl (pb.all id)) H2
theorem pe_allG {c P : Addr} {elt iter : Expr} {x : Str} {px p pos gpos : Pos} {scope : Scope} {te : TE} {k : Nat}
    (hr : Room k X.A) (hg : Gl X "all") (hm : X.mg "all" = none) (TB : GxR.TabB X.base X.mg c P) (hcode : X.env.code = .ref c) (S : GSc X.env scope x) (hi : PE X iter te)
    (hs : ∀ v, genFold iter X.env v = pure v) (hcP : X.K.lookup P = none)
    (he : starEach [.GeneratorExp elt [⟨.Name x px, iter, [], 0⟩] scope gpos] X.env = (false, eval (.GeneratorExp elt [⟨.Name x px, iter, [], 0⟩] scope gpos) X.env) :: starEach [] X.env := by rfl) :
    PE X (.Call (.Name "all" p) [.GeneratorExp elt [⟨.Name x px, iter, [], 0⟩] scope gpos] [] pos) (tAllG X scope x elt P te) := by
  refine ⟨fun pins s σ H Q I h => ?_⟩
  refine wpAny_Call_Name_kw (ld_blt I hg hm (show bootBuiltins "all" = some (.builtin "all") by decide +kernel) ?_)
  refine PyProof.Rows.callWith_builtin1 ?_ he (by rfl)
  rw [he]
  show wpAny _ _ (spliced ((false, eval (.GeneratorExp elt [⟨.Name x px, iter, [], 0⟩] scope gpos) X.env) :: backTo pos (starEach [] X.env))) _ _ s
  have fin : ∀ (H1 : Hp) (pb : List Bool) g s5, (∀ H2, Tabbed P H1 H2 → Q (.bl (pb.all id)) H2) → ReadyB X pins σ H1 P pb g s5 →
      wpAny (model X.prog X.w) X.A (spliced (backTo pos (starEach [] X.env))) (fun us s' => wpAny (model X.prog X.w) X.A (call (.builtin "all") (.ref g :: us)) (EP X pins σ Q) X.xe s') X.xe s5 := by
    intro H1 pb g s5 hR hG
    obtain ⟨fp, wr, G, F, St, W, hst, htr, hI⟩ := hG
    refine Calls.spliced_nil ?_
    refine call_all_walkS (W.self 0 _ _ _ hst ⟨g, fp, wr, G, _, F, St, _, rfl, W, hst, htr, fun s' hmv => ?_⟩)
    obtain ⟨H2, hT, J⟩ := hI s' hmv
    refine ⟨.bl _, H2, J, rfl, ?_⟩
    rw [all_trB pb]
    exact hR H2 hT
  refine Calls.spliced_cons (wpAny_GeneratorExp_walksQD hr.hd S.co (closure_ok (S.clo I.ok)) S.cell S.dot S.loc S.kind (by have := hr.dp; omega) ?_ hs)
  refine thn (hi.run pins s σ H _ I h) fun xv s1 ⟨v, H1, I1, r1, q1⟩ => ?_
  obtain ⟨a, xs, pb, rfl, hsq, hT, hlen, hel, q1⟩ := q1
  cases r1
  have aP : ∀ {o : Obj}, s1.heap.get? a = some o → (∃ vs n, o.data = .seq vs n) → a ≠ P := fun {o} e ⟨vs, n, hd⟩ z => by
    obtain ⟨ps, hP, _⟩ := hT
    have hPs : s1.heap.get? P = some { cls := .none, data := .fields ps } := I1.hok P _ hP
    rw [z, hPs] at e
    cases e
    cases hd
  rcases hsq with hsq | hsq
  · obtain ⟨us, rv, p, hz⟩ := I1.list hsq
    have pL := p.isList
    obtain ⟨o, n, ho, _, _, hd⟩ := id p
    have hax := aP ho ⟨_, _, hd⟩
    have hal : a < s1.heap.objs.size := Heap.lt_size ho
    refine wpAny_pyIter_list pL ?_
    refine gen_core (Q' := fun v s5 => wpAny (model X.prog X.w) X.A (spliced (backTo pos (starEach [] X.env))) (fun us s' => wpAny (model X.prog X.w) X.A (call (.builtin "all") (v :: us)) (EP X pins σ Q) X.xe s') X.xe s5) (ax := a) (Stt := fun i h => h.IsListIter s1.heap.objs.size a i ∧ h.IsList a us.toArray) hr TB hcode S I1 hT rv hlen (hel pins) hax hal ?_ (fun A' hA => ?_) (fun g s5 hG => fin H1 pb g s5 q1 hG)
    · exact ⟨⟨_, Heap.get?_push_size _ rfl, rfl, rfl⟩, pL.at fun o e => Heap.get?_push_of_some _ e⟩
    · have := Walks.list (prog := X.prog) (w := X.w) hA s1.heap.objs.size a (Nat.ne_of_lt hal) us.toArray
      rw [List.size_toArray] at this
      exact this
  · obtain ⟨us, rv, p, hz⟩ := I1.tuple hsq
    obtain ⟨o, ho, _, n, hd⟩ := id p
    have hax := aP ho ⟨_, _, hd⟩
    have hal : a < s1.heap.objs.size := Heap.lt_size ho
    have pT : s1.heap.IsTuple a us.toArray := p
    refine wpAny_pyIter_tuple pT ?_
    refine gen_core (Q' := fun v s5 => wpAny (model X.prog X.w) X.A (spliced (backTo pos (starEach [] X.env))) (fun us s' => wpAny (model X.prog X.w) X.A (call (.builtin "all") (v :: us)) (EP X pins σ Q) X.xe s') X.xe s5) (ax := a) (Stt := fun i h => h.IsTupleIter s1.heap.objs.size a i ∧ h.IsTuple a us.toArray) hr TB hcode S I1 hT rv hlen (hel pins) hax hal ?_ (fun A' hA => ?_) (fun g s5 hG => fin H1 pb g s5 q1 hG)
    · refine ⟨⟨_, Heap.get?_push_size _ rfl, rfl, rfl⟩, ?_⟩
      obtain ⟨o, ho, r⟩ := p
      exact ⟨o, Heap.get?_push_of_some _ ho, r⟩
    · have := Walks.tuple (prog := X.prog) (w := X.w) hA s1.heap.objs.size a (Nat.ne_of_lt hal) us.toArray
      rw [List.size_toArray] at this
      exact this
end
end HT
/-! text G2 -/
set_option maxHeartbeats 4000000
namespace HT
open PySem PySem.Spec PyProof.Rows L2
open GxR (TabG Tabbed inv_tab sh_eta)
section
variable {X : Cx}
/-- as EltOk, for two names -/
def EltOk2 (X : Cx) (pins : List (Addr × Obj)) (σ : L2.St) (H1 : Hp) (P : Addr) (scope : Scope) (xa xb : Str) (elt : Expr) (v v' : V) (b : Bool) : Prop :=
  ∀ (s1 : Shared) (C : Addr) (code : Value) (bi : Addr) (A' : Around) (E' : Value → Shared → Prop) (u u' : Value) (s₂ : Shared) (m₂ : Str → Option Value), Inv X pins σ H1 s1 → bi = builtinsNs → A'.handled = none → A'.depth ≤ X.A.depth + 1 → A'.units ≤ X.A.units + 8 → RelV v u → RelV v' u' →
    s₂.heap.Ns C m₂ → m₂ xa = some u → m₂ xb = some u' → (∀ b o, b ≠ P → s1.heap.get? b = some o → s₂.heap.get? b = some o) →
    wpAny (model X.prog X.w) A' (eval elt (genEnv scope (cloFrom X.env.cells scope.names []) C code bi X.env)) (fun y s₃ => y = .bool b ∧ Keeps s₂ s₃) E' s₂
/-- the iterator has come: at I, over items; what follows makes the generator -/
theorem gen_coreT {pins : List (Addr × Obj)} {σ : L2.St} {H1 : Hp} {s1 : Shared} {c P z : Addr} {elt : Expr} {xa xb : Str} {gpos : Pos} {scope : Scope} {pb : List Bool} {k : Nat} {Q' : Value → Shared → Prop} {h1 : Heap} {xs ys : List V} {fp wr : List Addr} {Pt : Nat → Array Value → Prop} {Stt : Nat → Heap → Prop} {Mid : Nat → Addr → Heap → Prop}
    (hr : Room k X.A) (TB : GxR.TabB X.base X.mg c P) (hcode : X.env.code = .ref c) (S : GSc X.env scope xa) (hxb : scope.names.lookup xb = some .local) (I1 : Inv X pins σ H1 s1) (hT : TabG H1 P)
    (hk1 : ∀ b o, s1.heap.get? b = some o → h1.get? b = some o) (hs1 : s1.heap.objs.size ≤ h1.objs.size)
    (hel : ∀ (i : Nat) (v v' : V), xs[i]? = some v → ys[i]? = some v' → EltOk2 X pins σ H1 P scope xa xb elt v v' (trB pb i))
    (hfp : ∀ b ∈ fp, b < h1.objs.size ∧ b ≠ P) (hwr : ∀ b ∈ wr, s1.heap.objs.size ≤ b) (hst : Stt 0 h1)
    (hPt : ∀ i vals, Pt i vals → ∃ va vb v v', vals = #[va, vb] ∧ xs[i]? = some v ∧ ys[i]? = some v' ∧ RelV v va ∧ RelV v' vb ∧ i < pb.length)
    (W : ∀ A' : Around, A'.handled = none → WalksU X.prog X.w A' z fp wr pb.length Pt Stt Mid)
    (hQ : ∀ g s5, ReadyB X pins σ H1 P pb g s5 → Q' (.ref g) s5) :
    ({ s1 with heap := h1 } : Shared).heap.NoLimit ∧
      wpAny (model X.prog X.w) X.A (genexprCode X.env gpos (X.env.qual ++ "<genexpr>") scope) (fun code s₃ => wpAny (model X.prog X.w) X.A (builtinsFor X.env.globals X.env.builtins) (fun bi s₄ =>
        ∃ Ia fp wr n₀ Pf St₀ Mid pz F, Value.ref z = .ref Ia ∧ (∀ A' : Around, A'.handled = none → WalksU X.prog X.w A' Ia fp wr n₀ Pf St₀ Mid) ∧ (∀ i vals, Pf i vals → ∃ va vb, vals = #[va, vb]) ∧ St₀ 0 s₄.heap ∧ (∀ b ∈ fp, b < s₄.heap.objs.size) ∧ s₄.heap.NoLimit ∧ cStatics ∉ wr ∧
          (∀ href : Heap, (∀ b o, s₄.heap.get? b = some o → href.get? b = some o) →
            QuietGenTD X.prog X.w (genEnv scope (cloFrom X.env.cells scope.names []) s₄.heap.objs.size code bi X.env) xa xb [] elt (List.range s₄.heap.objs.size) wr Pf pz F href (X.A.depth + 1) (X.A.units + 8)) ∧
          (∀ a h₅ tk gs, gs.bare = true → s₄.heap.objs.size < a → h₅.objs.size = a + 1 → (∀ b o, s₄.heap.get? b = some o → h₅.get? b = some o) →
            WalksS X.prog X.w X.A.in4 a (a :: s₄.heap.objs.size :: List.range s₄.heap.objs.size) (s₄.heap.objs.size :: wr) (GenOnlyQ s₄.gens.size) (passing pz n₀ 0).length
              (fun j y => ∃ i, (passing pz n₀ 0)[j]? = some i ∧ F i y) (GenAt X.prog X.w X.A.in4 a s₄.gens.size s₄.heap.objs.size (List.range s₄.heap.objs.size) wr pz n₀ F) →
            GenAt X.prog X.w X.A.in4 a s₄.gens.size s₄.heap.objs.size (List.range s₄.heap.objs.size) wr pz n₀ F 0 { s₄ with gens := s₄.gens.push gs, toks := tk, heap := h₅ } →
            Q' (.ref a) { s₄ with gens := s₄.gens.push gs, toks := tk, heap := h₅ })) X.xe s₃) X.xe { s1 with heap := h1 } := by
  obtain ⟨ps, hP, ht⟩ := hT
  have hPs : s1.heap.get? P = some { cls := .none, data := .fields ps } := I1.hok P _ hP
  have hPlt : P < s1.heap.objs.size := Heap.lt_size hPs
  have hP2 : h1.get? P = some { cls := .none, data := .fields ps } := hk1 _ _ hPs
  have cd : PySem.W.CodeHd h1 c P := TB.code.keeps fun b u e => hk1 _ _ (I1.bk b u e)
  have lim2 : h1.NoLimit := I1.nolimit.keeps hk1
  have cont : ∀ (code : Value) (h3 : Heap) (tk : Nat) (ps' : Array Value), Heap.ExtBut P h1 h3 → h1.objs.size ≤ h3.objs.size → h3.get? P = some { cls := .none, data := .fields ps' } → (∃ more, ps' = ps ++ more) → TriplesOk ps'.toList →
      wpAny (model X.prog X.w) X.A (builtinsFor X.env.globals X.env.builtins) (fun bi s₄ =>
        ∃ Ia fp wr n₀ Pf St₀ Mid pz F, Value.ref z = .ref Ia ∧ (∀ A' : Around, A'.handled = none → WalksU X.prog X.w A' Ia fp wr n₀ Pf St₀ Mid) ∧ (∀ i vals, Pf i vals → ∃ va vb, vals = #[va, vb]) ∧ St₀ 0 s₄.heap ∧ (∀ b ∈ fp, b < s₄.heap.objs.size) ∧ s₄.heap.NoLimit ∧ cStatics ∉ wr ∧
          (∀ href : Heap, (∀ b o, s₄.heap.get? b = some o → href.get? b = some o) →
            QuietGenTD X.prog X.w (genEnv scope (cloFrom X.env.cells scope.names []) s₄.heap.objs.size code bi X.env) xa xb [] elt (List.range s₄.heap.objs.size) wr Pf pz F href (X.A.depth + 1) (X.A.units + 8)) ∧
          (∀ a h₅ tk gs, gs.bare = true → s₄.heap.objs.size < a → h₅.objs.size = a + 1 → (∀ b o, s₄.heap.get? b = some o → h₅.get? b = some o) →
            WalksS X.prog X.w X.A.in4 a (a :: s₄.heap.objs.size :: List.range s₄.heap.objs.size) (s₄.heap.objs.size :: wr) (GenOnlyQ s₄.gens.size) (passing pz n₀ 0).length
              (fun j y => ∃ i, (passing pz n₀ 0)[j]? = some i ∧ F i y) (GenAt X.prog X.w X.A.in4 a s₄.gens.size s₄.heap.objs.size (List.range s₄.heap.objs.size) wr pz n₀ F) →
            GenAt X.prog X.w X.A.in4 a s₄.gens.size s₄.heap.objs.size (List.range s₄.heap.objs.size) wr pz n₀ F 0 { s₄ with gens := s₄.gens.push gs, toks := tk, heap := h₅ } →
            Q' (.ref a) { s₄ with gens := s₄.gens.push gs, toks := tk, heap := h₅ })) X.xe { s1 with heap := h3, toks := tk } := by
    intro code h3 tk ps' hx hsz hP3 hmore ht3
    obtain ⟨bm, ob, e1, e2, e3, e4, e5, e6, e7, e8⟩ := TB.bm
    have hcP : cStatics ≠ P := fun e => by
      obtain ⟨_, hns, _⟩ := I1.nolimit
      obtain ⟨o', es, ep, ho, hd, _⟩ := hns
      rw [e, hPs] at ho
      cases ho
      cases hd
    have hcl : cStatics < s1.heap.objs.size := let ⟨_, hns, _⟩ := I1.nolimit; hns.lt
    have hsz' : s1.heap.objs.size ≤ h3.objs.size := Nat.le_trans hs1 hsz
    have keep3 : ∀ b u, b ≠ P → s1.heap.get? b = some u → h3.get? b = some u := fun b u hb e => hx b u hb (hk1 _ _ e)
    refine wpAny_builtinsFor (m := X.mg) (by rw [I1.ok.glob]; exact ((I1.mod.glob.keeps I1.bk).keeps hk1).extBut hx TB.gP) e1 e2 (keep3 _ _ e4 (I1.bk _ _ e5)) e6 e7 e8 ?_
    refine ⟨z, fp, wr, pb.length, Pt, Stt, Mid, (fun _ => true), (fun i y => i < pb.length ∧ y = .bool (trB pb i)), rfl, W, (fun i vals hv => ?_), ?_, ?_, lim2.extBut hx hcP, ?_, ?_, ?_⟩
    · obtain ⟨va, vb, _, _, e, _⟩ := hPt i vals hv
      exact ⟨va, vb, e⟩
    · refine (W X.A hr.hd).frame _ _ _ hst fun b hb u e => hx b u (hfp b hb).2 e
    · intro b hb
      exact Nat.lt_of_lt_of_le (hfp b hb).1 hsz
    · intro z'
      exact absurd (Nat.lt_of_lt_of_le hcl (hwr _ z')) (Nat.lt_irrefl _)
    · intro href hhref
      refine ⟨fun A' E' i va vb s₂ m₂ hA _ _ hPv hn hma hmb hk => ?_, fun A' E' i va vb s₂ m₂ hA hD hU hPv hp hn hma hmb hk => ?_⟩
      · simp only [List.forIn_nil]
        exact wpAny_pure ⟨rfl, ⟨s₂.heap, s₂.toks, rfl, fun _ _ e => e⟩⟩
      · obtain ⟨va', vb', v, v', ev, hx1, hy1, ra, rb, hi⟩ := hPt i _ hPv
        have ea : va = va' ∧ vb = vb' := by simpa using ev
        obtain ⟨rfl, rfl⟩ := ea
        refine wpAny_mono (hel i _ _ hx1 hy1 s1 _ _ _ A' E' va vb s₂ m₂ I1 rfl hA hD hU ra rb hn hma hmb fun b ob hb e => ?_) (fun y s3 r => ⟨⟨hi, r.1⟩, r.2⟩) fun _ _ e => e
        have hbl : b < s1.heap.objs.size := Heap.lt_size e
        refine hk b ?_ ?_ ob (hhref _ _ (keep3 b ob hb e))
        · refine List.mem_range.mpr ?_
          show (b : Nat) < h3.objs.size
          exact Nat.lt_of_lt_of_le hbl hsz'
        · intro z'
          exact absurd (Nat.lt_of_lt_of_le hbl (hwr _ z')) (Nat.lt_irrefl _)
    · intro g h5 tk5 gs hgb hag hsz5 hk5 W5 hat
      simp only [GxR.passing_true, List.length_range] at W5
      refine hQ g _ ⟨_, _, _, _, _, W5.in4_1, hat, ?_, fun s' hm => ?_⟩
      · intro j y sj Qj Ej hy hQj
        obtain ⟨i, hij, hi, rfl⟩ := hy
        obtain ⟨hj, ej⟩ := List.getElem?_eq_some_iff.mp hij
        rw [List.getElem_range] at ej
        subst ej
        exact wpAny_truthy_bool hQj
      · obtain ⟨more, em⟩ := hmore
        have nwr : ∀ b u, s1.heap.get? b = some u → b ∉ h3.objs.size :: wr := fun b u e hb => by
          have hl := Heap.lt_size e
          rcases List.mem_cons.mp hb with z' | z'
          · rw [z'] at hl
            exact absurd (Nat.lt_of_lt_of_le hl hsz') (Nat.lt_irrefl _)
          · exact absurd (Nat.lt_of_lt_of_le hl (hwr _ z')) (Nat.lt_irrefl _)
        have J := inv_tab (more := more) (h' := s'.heap) (g' := s'.gens) (d' := s'.drawn) (t' := s'.toks) I1 hP (fun b u hb e => hm.heap b u (nwr b u e) (hk5 b u (keep3 b u hb e)))
          (by rw [← em]; exact hm.heap P _ (nwr P _ hPs) (hk5 P _ hP3)) (AllBare.movedS (I1.bare.push hgb) hm)
        rw [sh_eta s1 s' hm.os] at J
        refine ⟨upd H1 P (.tbl (ps ++ more)), ⟨⟨ps ++ more, upd_same, by rw [← em]; exact ht3⟩, fun b hb => upd_ne hb⟩, J⟩
  refine ⟨lim2, ?_⟩
  cases hf : codeAmong gpos ps.toList with
  | none =>
    refine wpAny_genexprCodeX hcode (cd.code hP2 ht) (cd.tab hP2) hf fun c' h' tk hx hge hlt hco' _ htab' _ => ?_
    obtain ⟨o1, vs, f1, tf, fl, tg, inF, tx, tt, op, _, _, _, _, _, _, _, _, _, htr, _⟩ := hco'
    exact cont _ h' tk _ hx (Nat.le_trans hge (Nat.le_of_lt hlt)) htab'.2 ⟨_, rfl⟩ htr
  | some cv =>
    refine wpAny_genexprCode_hit hcode (cd.code hP2 ht) hf ?_
    exact cont cv h1 s1.toks ps (Heap.ExtBut.refl _ _) (Nat.le_refl _) hP2 ⟨#[], by simp⟩ ht
/-- all(elt for xa, xb in zip(e1, e2)), two tuples -/
def tAllZ (X : Cx) (scope : Scope) (xa xb : Str) (elt : Expr) (P : Addr) (ta : TA) : TE := fun σ H Q => ta σ H fun vs H1 => ∃ (a b : Addr) (xs ys : List V) (pb : List Bool), vs = [.ref a, .ref b] ∧ SqT X.K H1 a xs ∧ SqT X.K H1 b ys ∧ TabG H1 P ∧ pb.length = min xs.length ys.length ∧
  (∀ (pins : List (Addr × Obj)) (i : Nat) (v v' : V), xs[i]? = some v → ys[i]? = some v' → EltOk2 X pins σ H1 P scope xa xb elt v v' (trB pb i)) ∧ ∀ H2, Tabbed P H1 H2 → Q (.bl (pb.all id)) H2
theorem pe_allZ {c P : Addr} {elt e1 e2 : Expr} {xa xb : Str} {pa pb' pt p p2 pos pos2 gpos : Pos} {kt : Nat} {scope : Scope} {ta : TA} {k : Nat}
    (hr : Room k X.A) (hg : Gl X "all") (hm : X.mg "all" = none) (hgz : Gl X "zip") (hmz : X.mg "zip" = none) (TB : GxR.TabB X.base X.mg c P) (hcode : X.env.code = .ref c) (S : GSc X.env scope xa) (hxb : scope.names.lookup xb = some .local) (hab : xa ≠ xb) (ha : PA X [e1, e2] ta)
    (hs : ∀ v, genFold (.Call (.Name "zip" p2) [e1, e2] [] pos2) X.env v = pure v)
    (hst : starEach [e1, e2] X.env = (false, eval e1 X.env) :: starEach [e2] X.env := by rfl) (hpl : (backTo pos2 (starEach [e2] X.env)).any (·.1) = false := by rfl)
    (he : starEach [.GeneratorExp elt [⟨.Tuple [.Name xa pa, .Name xb pb'] kt pt, .Call (.Name "zip" p2) [e1, e2] [] pos2, [], 0⟩] scope gpos] X.env = (false, eval (.GeneratorExp elt [⟨.Tuple [.Name xa pa, .Name xb pb'] kt pt, .Call (.Name "zip" p2) [e1, e2] [] pos2, [], 0⟩] scope gpos) X.env) :: starEach [] X.env := by rfl) :
    PE X (.Call (.Name "all" p) [.GeneratorExp elt [⟨.Tuple [.Name xa pa, .Name xb pb'] kt pt, .Call (.Name "zip" p2) [e1, e2] [] pos2, [], 0⟩] scope gpos] [] pos) (tAllZ X scope xa xb elt P ta) := by
  refine ⟨fun pins s σ H Q I h => ?_⟩
  refine wpAny_Call_Name_kw (ld_blt I hg hm (show bootBuiltins "all" = some (.builtin "all") by decide +kernel) ?_)
  refine PyProof.Rows.callWith_builtin1 ?_ he (by rfl)
  rw [he]
  show wpAny _ _ (spliced ((false, eval (.GeneratorExp elt [⟨.Tuple [.Name xa pa, .Name xb pb'] kt pt, .Call (.Name "zip" p2) [e1, e2] [] pos2, [], 0⟩] scope gpos) X.env) :: backTo pos (starEach [] X.env))) _ _ s
  have fin : ∀ (H1 : Hp) (pb : List Bool) g s5, (∀ H2, Tabbed P H1 H2 → Q (.bl (pb.all id)) H2) → ReadyB X pins σ H1 P pb g s5 →
      wpAny (model X.prog X.w) X.A (spliced (backTo pos (starEach [] X.env))) (fun us s' => wpAny (model X.prog X.w) X.A (call (.builtin "all") (.ref g :: us)) (EP X pins σ Q) X.xe s') X.xe s5 := by
    intro H1 pb g s5 hR hG
    obtain ⟨fp, wr, G, F, St, W, hst, htr, hI⟩ := hG
    refine Calls.spliced_nil ?_
    refine call_all_walkS (W.self 0 _ _ _ hst ⟨g, fp, wr, G, _, F, St, _, rfl, W, hst, htr, fun s' hmv => ?_⟩)
    obtain ⟨H2, hT, J⟩ := hI s' hmv
    refine ⟨.bl _, H2, J, rfl, ?_⟩
    rw [all_trB pb]
    exact hR H2 hT
  refine Calls.spliced_cons (wpAny_GeneratorExp_walksQTD hr.hd S.co (closure_ok (S.clo I.ok)) S.cell S.dot S.loc hxb hab S.kind (by have := hr.dp; omega) ?_ hs)
  refine Call_ (ld_blt I hgz hmz PyProof.Rows.boot_zip (PyProof.Rows.callWith_type1 (thn (ha.run pos2 pins s σ H _ I h) fun us s1 ⟨vs, H1, I1, r1, q1⟩ => ?_) hst hpl))
  obtain ⟨a, b, xs, ys, pb, rfl, hqx, hqy, hT, hlen, hel, q1⟩ := q1
  cases r1 with
  | cons r rr =>
    cases rr with
    | cons r' rr =>
      cases rr
      cases r
      cases r'
      obtain ⟨ux, rvx, px, _⟩ := I1.tuple hqx
      obtain ⟨uy, rvy, py, _⟩ := I1.tuple hqy
      have aP : ∀ {d : Addr} {o : Obj}, s1.heap.get? d = some o → (∃ vs n, o.data = .seq vs n) → d ≠ P := fun {d o} e ⟨vs, n, hd⟩ z => by
        obtain ⟨ps, hP, _⟩ := hT
        have hPs : s1.heap.get? P = some { cls := .none, data := .fields ps } := I1.hok P _ hP
        rw [z, hPs] at e
        cases e
        cases hd
      obtain ⟨ox, hox, _, nx, hdx⟩ := id px
      obtain ⟨oy, hoy, _, ny, hdy⟩ := id py
      have axP := aP hox ⟨_, _, hdx⟩
      have ayP := aP hoy ⟨_, _, hdy⟩
      have lx := Heap.lt_size hox
      have ly := Heap.lt_size hoy
      have hPlt : P < s1.heap.objs.size := by
        obtain ⟨ps, hP, _⟩ := hT
        exact I1.hok.lt hP
      refine zip_begins2 (begins_tuple a ux.toArray) (begins_tuple b uy.toArray) (show s1.heap.IsTuple a ux.toArray from px) (show s1.heap.IsTuple b uy.toArray from py) fun h' hz hTI hTO h1 h2 hsz hk => wpAny_pyIter_zip hz ?_
      have hl2 : min ux.length uy.length = pb.length := by rw [hlen, rvx.length, rvy.length]
      have hfpx : ∀ d ∈ [a], d < s1.heap.objs.size := fun d hd => by
        have e : d = a := by simpa using hd
        rw [e]; exact lx
      have hfpy : ∀ d ∈ [b], d < s1.heap.objs.size := fun d hd => by
        have e : d = b := by simpa using hd
        rw [e]; exact ly
      have S2 := zip_sep2 hfpx hfpy
      have W : ∀ A' : Around, A'.handled = none → WalksU X.prog X.w A' (s1.heap.objs.size + 4) ((s1.heap.objs.size + 4) :: (s1.heap.objs.size + 2) :: (s1.heap.objs.size + 3) :: ([s1.heap.objs.size, a] ++ [s1.heap.objs.size + 1, b])) [s1.heap.objs.size + 4, s1.heap.objs.size + 3, s1.heap.objs.size, s1.heap.objs.size + 1] pb.length
          (fun i vals => ∃ x1 x2, ux.toArray[i]? = some x1 ∧ uy.toArray[i]? = some x2 ∧ vals = #[x1, x2])
          (fun i h => IsZip h (s1.heap.objs.size + 4) (s1.heap.objs.size + 2) (s1.heap.objs.size + 3) .none ∧ IsTupOf2 h (s1.heap.objs.size + 2) (.ref s1.heap.objs.size) (.ref (s1.heap.objs.size + 1)) ∧ (∃ a1 a2, IsTupOf2 h (s1.heap.objs.size + 3) a1 a2) ∧ (h.IsTupleIter s1.heap.objs.size a i ∧ h.IsTuple a ux.toArray) ∧ (h.IsTupleIter (s1.heap.objs.size + 1) b i ∧ h.IsTuple b uy.toArray))
          (fun i T h => IsZip h (s1.heap.objs.size + 4) (s1.heap.objs.size + 2) (s1.heap.objs.size + 3) (rawInt T) ∧ IsTupOf2 h (s1.heap.objs.size + 2) (.ref s1.heap.objs.size) (.ref (s1.heap.objs.size + 1)) ∧ (∃ a1 a2, IsTupOf2 h (s1.heap.objs.size + 3) a1 a2) ∧ (h.IsTupleIter s1.heap.objs.size a (i + 1) ∧ h.IsTuple a ux.toArray) ∧ (h.IsTupleIter (s1.heap.objs.size + 1) b (i + 1) ∧ h.IsTuple b uy.toArray) ∧ T ≠ s1.heap.objs.size + 4 ∧ T ≠ s1.heap.objs.size + 3 ∧ T ≠ s1.heap.objs.size ∧ T ≠ s1.heap.objs.size + 1) := fun A' hA => by
        have D1 := Draws.tuple (prog := X.prog) (w := X.w) (A := A'.in1) hA s1.heap.objs.size a (Nat.ne_of_lt lx) ux.toArray
        have D2 := Draws.tuple (prog := X.prog) (w := X.w) (A := A'.in1) hA (s1.heap.objs.size + 1) b (Nat.ne_of_lt (Nat.lt_succ_of_lt ly)) uy.toArray
        have W := (WalksT.zipD2 (A := A') S2 D1 D2).toU
        rw [show min ux.toArray.size uy.toArray.size = pb.length from hl2] at W
        exact W
      have pk : ∀ {d : Addr} {its : Array Value}, IsTup s1.heap d its → h'.IsTuple d its := fun {d its} ⟨o, ho, r⟩ => ⟨o, hk _ _ ho, r⟩
      have hge : ∀ j, j < 5 → s1.heap.objs.size + j < h'.objs.size ∧ s1.heap.objs.size + j ≠ P := fun j hj => by
        refine ⟨by rw [hsz]; exact Nat.add_lt_add_left hj _, fun z => ?_⟩
        rw [← z] at hPlt
        exact absurd (Nat.lt_of_le_of_lt (Nat.le_add_right _ _) hPlt) (Nat.lt_irrefl _)
      refine gen_coreT (Q' := fun v s5 => wpAny (model X.prog X.w) X.A (spliced (backTo pos (starEach [] X.env))) (fun us s' => wpAny (model X.prog X.w) X.A (call (.builtin "all") (v :: us)) (EP X pins σ Q) X.xe s') X.xe s5)
        hr TB hcode S hxb I1 hT hk (by rw [hsz]; exact Nat.le_add_right _ _) (hel pins) (fun d hd => ?_) (fun d hd => ?_) ?_ (fun i vals hv => ?_) W (fun g s5 hG => fin H1 pb g s5 q1 hG)
      · have hd' : d = s1.heap.objs.size + 4 ∨ d = s1.heap.objs.size + 2 ∨ d = s1.heap.objs.size + 3 ∨ d = s1.heap.objs.size ∨ d = a ∨ d = s1.heap.objs.size + 1 ∨ d = b := by simpa using hd
        rcases hd' with z | z | z | z | z | z | z
        · rw [z]; exact hge 4 (by decide)
        · rw [z]; exact hge 2 (by decide)
        · rw [z]; exact hge 3 (by decide)
        · rw [z]; exact hge 0 (by decide)
        · rw [z]; exact ⟨Heap.lt_size (hk _ _ hox), axP⟩
        · rw [z]; exact hge 1 (by decide)
        · rw [z]; exact ⟨Heap.lt_size (hk _ _ hoy), ayP⟩
      · have hd' : d = s1.heap.objs.size + 4 ∨ d = s1.heap.objs.size + 3 ∨ d = s1.heap.objs.size ∨ d = s1.heap.objs.size + 1 := by simpa using hd
        rcases hd' with z | z | z | z <;> rw [z] <;> first | exact Nat.le_add_right _ _ | exact Nat.le_refl _
      · exact ⟨hz, hTI, ⟨_, _, hTO⟩, ⟨⟨_, h1, rfl, rfl⟩, pk px⟩, ⟨⟨_, h2, rfl, rfl⟩, pk py⟩⟩
      · obtain ⟨v1, v2, e1, e2, e3⟩ := hv
        have f1 : ux[i]? = some v1 := by simpa using e1
        have f2 : uy[i]? = some v2 := by simpa using e2
        obtain ⟨i1, _⟩ := List.getElem?_eq_some_iff.mp f1
        obtain ⟨i2, _⟩ := List.getElem?_eq_some_iff.mp f2
        have lx1 := rvx.length
        have ly1 := rvy.length
        obtain ⟨w1, hw1, r1⟩ := rvx.get (List.getElem?_eq_getElem (by omega : i < xs.length))
        obtain ⟨w2, hw2, r2⟩ := rvy.get (List.getElem?_eq_getElem (by omega : i < ys.length))
        rw [f1] at hw1; cases hw1
        rw [f2] at hw2; cases hw2
        exact ⟨v1, v2, _, _, e3, List.getElem?_eq_getElem (by omega), List.getElem?_eq_getElem (by omega), r1, r2, by omega⟩
end
end HT
/-! text A3 -/
set_option maxHeartbeats 4000000
namespace HT
open PySem PySem.Spec PyProof.Rows L2
section
variable {P : Program} {w : World} {K : PySem.W.Frag} {mg : Str → Option Value} {base : Heap}
/-! ### is_number -/
def isNum (lo hi : Int) : V → Bool
  | .int n => decide (lo ≤ n) && decide (n ≤ hi)
  | _ => false
theorem isNum_int (lo hi n : Int) : isNum lo hi (.int n) = (decide (lo ≤ n) && decide (n ≤ hi)) := rfl
def spIsNumber : Sp := fun vs H Q _ => ∃ (x : V) (lo hi : Int), vs = [x, .int lo, .int hi] ∧ ((∃ n, x = .int n) ∨ x = .non ∨ ∃ b, x = .bl b) ∧ Q (.bl (isNum lo hi x)) H
theorem sc_is_number : FnScope ["value", "low", "high"] ["value", "low", "high"] (defScope s_is_number) := ⟨rfl, rfl, rfl, by decide +kernel, rfl, by decide +kernel, by decide +kernel⟩
theorem ok_is_number (T : Txt K mg) : Ok P w K mg base CX0 1 "is_number" ["value", "low", "high"] spIsNumber := by
  refine ok_of (f_is_number T) (g_is_number T) sc_is_number (fun _ _ _ _ _ _ us hl => match us, hl with | [_, _, _], _ => rfl) (fun vs H Q E h => ?_) (fun cdv A outer s H vs Q E hcd hr h => ?_)
  · obtain ⟨x, lo, hi, rfl, _⟩ := h
    rfl
  · obtain ⟨x, lo, hi, rfl, hx, q⟩ := h
    refine ⟨_, pss_one (ps_ret (pe_and (pe_callB call_isi (by rfl) (m_isinstance T) (by decide +kernel) (pa_cons (pv 0) (pa_cons (pe_bltn (v := .ty "int") (by rfl) (m_int T) (by decide +kernel) rfl) pa_nil)))
      (pe_and (pe_not (pe_callB call_isi (by rfl) (m_isinstance T) (by decide +kernel) (pa_cons (pv 0) (pa_cons (pe_bltn (v := .ty "bool") (by rfl) (m_bool T) (by decide +kernel) rfl) pa_nil))))
        (pe_one (pe_chain op_le op_le (pv 1) (pv 0) (pv 2)))))), ?_⟩
    rcases hx with ⟨n, rfl⟩ | rfl | ⟨b, rfl⟩
    · refine ⟨_, rfl, _, _, _, _, true, rfl, .ty "int", .base (.int n), kit_ty (by decide +kernel), _, rfl, iteT ?_⟩
      refine ⟨_, rfl, _, _, _, _, false, rfl, .ty "bool", .base (.int n), kit_ty (by decide +kernel), _, rfl, _, rfl, iteT ?_⟩
      refine ⟨_, rfl, _, rfl, lo, n, rfl, rfl, _, rfl, ite2 (fun c => ?_) (fun c => ?_)⟩
      · refine ⟨_, rfl, n, hi, rfl, rfl, ?_⟩
        have e : isNum lo hi (.int n) = decide (n ≤ hi) := by rw [isNum_int, c]; rfl
        rw [e] at q; exact q
      · have e : isNum lo hi (.int n) = false := by
          rw [isNum_int, show decide (lo ≤ n) = false by simpa using c]; rfl
        rw [e] at q; exact q
    · refine ⟨_, rfl, _, _, _, _, false, rfl, .ty "int", .base .non, kit_ty (by decide +kernel), _, rfl, iteF q⟩
    · refine ⟨_, rfl, _, _, _, _, true, rfl, .ty "int", .base (.bl b), kit_ty (by decide +kernel), _, rfl, iteT ?_⟩
      refine ⟨_, rfl, _, _, _, _, true, rfl, .ty "bool", .base (.bl b), kit_ty (by decide +kernel), _, rfl, _, rfl, iteF q⟩
/-! ### is_number, called from a generator expression -/
section
variable {prog : Program} {A : Around} {E : Value → Shared → Prop} {s : Shared}
theorem keeps_refl' (s : Shared) (k : Nat) : Keeps s { s with toks := k } := ⟨s.heap, k, rfl, fun _ _ e => e⟩
theorem keeps_trans' {s s' s'' : Shared} (a : Keeps s s') (b : Keeps s' s'') : Keeps s s'' := by
  obtain ⟨h1, t1, rfl, k1⟩ := a
  obtain ⟨h2, t2, rfl, k2⟩ := b
  exact ⟨h2, t2, rfl, fun b o e => k2 b o (k1 b o e)⟩
theorem Mod.keeps' {h h' : Heap} (M : L2.Mod K mg h) (k : ∀ b o, h.get? b = some o → h'.get? b = some o) : L2.Mod K mg h' :=
  ⟨M.kin.keeps k, M.glob.keeps k, let ⟨mb, h1, h2⟩ := M.blt; ⟨mb, h1.keeps k, h2⟩, M.nolimit.keeps k⟩
/-- a built-in's name in a frame's scope -/
theorem ev_blt {env : Env} {x : Str} {u : Value} {pos : Pos} {Q : Value → Shared → Prop} (M : L2.Mod K mg s.heap) (hk : env.scope.kind = .function) (hg : env.globals = mainGlobals) (hb : env.builtins = builtinsNs) (hx : env.kindOf x = some .globalImplicit) (hm : mg x = none) (hv : bootBuiltins x = some u) (h : Q u s)
    (hn : x ≠ "__name__" := by decide) (hd : (x == ("__debug__" : Str)) = false := by decide) : wpAny (model prog w) A (eval (.Name x pos) env) Q E s := by
  obtain ⟨mb, h1, h2⟩ := M.blt
  exact Calls.Name_function_global hk hx (Calls.loadGlobal_builtin (by rw [hg]; exact M.glob) hm (by rw [hb]; exact h1) ((h2 x hn).trans hv) h) hd
theorem ev_glob {env : Env} {x : Str} {u : Value} {pos : Pos} {Q : Value → Shared → Prop} (M : L2.Mod K mg s.heap) (hk : env.scope.kind = .function) (hg : env.globals = mainGlobals) (hx : env.kindOf x = some .globalImplicit) (hm : mg x = some u) (h : Q u s)
    (hd : (x == ("__debug__" : Str)) = false := by decide) : wpAny (model prog w) A (eval (.Name x pos) env) Q E s :=
  Calls.Name_function_global hk hx (Calls.loadGlobal_global (by rw [hg]; exact M.glob) hm h) hd
theorem ev_loc {env : Env} {x : Str} {u : Value} {pos : Pos} {m : Str → Option Value} {Q : Value → Shared → Prop} (hk : env.scope.kind = .function) (hx : env.kindOf x = some .local) (hn : s.heap.Ns env.locals m) (hm : m x = some u) (h : Q u s)
    (hd : (x == ("__debug__" : Str)) = false := by decide) : wpAny (model prog w) A (eval (.Name x pos) env) Q E s :=
  wpAny_Name (wpAny_loadName_local hk hx hn hm h) hd
theorem ev_free {env : Env} {x : Str} {u : Value} {pos : Pos} {c : Addr} {Q : Value → Shared → Prop} (hk : env.scope.kind = .function) (hx : env.kindOf x = some .free) (hc : env.cells.lookup x = some c) (hv : s.heap.IsCell c (some u)) (h : Q u s)
    (hd : (x == ("__debug__" : Str)) = false := by decide) (hcd : (x == ("__classdict__" : Str)) = false := by decide) : wpAny (model prog w) A (eval (.Name x pos) env) Q E s :=
  wpAny_Name (wpAny_loadName_free hk hx hc hv h hcd) hd
theorem isnum_keeps (T : Txt K mg) (M : L2.Mod K mg s.heap) (hroom : A.depth + 1 < recursionLimit) (n lo hi : Int) (t1 t2 t3 : Tok) :
    wpAny (model prog w) A (call (.ref (He.ga K "is_number")) [.int n t1, .int lo t2, .int hi t3]) (fun y s' => y = .bool (isNum lo hi (.int n)) ∧ Keeps s s') E s := by
  obtain ⟨fd, F⟩ := f_is_number T
  obtain ⟨oc, od, dV, kV, doc, pm, an, cdv, ct, osl, rfl, lk, hcd, hD, _⟩ := F.ex
  rcases hD with ⟨_, rfl⟩ | ⟨z, _⟩
  rotate_left
  · exact absurd rfl z
  refine wpAny_call (Att.call_fn (binds := [("value", .int n t1), ("low", .int lo t2), ("high", .int hi t3)]) M.kin M.nolimit lk hcd (by omega) (BindsTo.of_eq rfl) (by rfl) (fun s₁ IC => ?_) rfl rfl rfl)
  obtain ⟨h1, tk1, rfl, k1⟩ := IC.done
  have M1 := Mod.keeps' M k1
  have hn := IC.toInCall.ns
  have kd : (envOfC "is_number" (defScope s_is_number) s.heap.objs.size (He.ga K "is_number") cdv).scope.kind = .function := rfl
  -- isinstance(value, int)
  refine wpAny_execs_cons (wpAny_Return_some (BoolOp_and (wpAny_Call_Name_kw (ev_blt (u := .builtin "isinstance") M1 kd rfl rfl rfl (m_isinstance T) (by decide +kernel) (PyProof.Rows.callWith_builtin1 (Calls.spliced_cons (ev_loc (u := .int n t1) kd rfl hn rfl
    (Calls.spliced_cons (ev_blt (u := .type "int") M1 kd rfl rfl rfl (m_int T) (by decide +kernel) (Calls.spliced_nil ?_))))) rfl rfl)))))
  refine PySem.W.kia_one (c := .type "int") (t := .type "int") (b := true) PySem.W.kitx_int M1.kin True.intro (kit_ty (by decide +kernel)) (fun z => nomatch z) fun tk2 => ?_
  refine wpAny_truthy_bool ?_
  rw [if_pos rfl]
  -- not isinstance(value, bool)
  refine BoolOp_and (UnaryOp_ (wpAny_Call_Name_kw (ev_blt (u := .builtin "isinstance") (s := { s with heap := h1, toks := tk2 }) M1 kd rfl rfl rfl (m_isinstance T) (by decide +kernel) (PyProof.Rows.callWith_builtin1 (Calls.spliced_cons (ev_loc (u := .int n t1) kd rfl hn rfl
    (Calls.spliced_cons (ev_blt (u := .type "bool") M1 kd rfl rfl rfl (m_bool T) (by decide +kernel) (Calls.spliced_nil ?_))))) rfl rfl))))
  refine PySem.W.kia_one (c := .type "bool") (t := .type "int") (b := false) PySem.W.kitx_int M1.kin True.intro (kit_ty (by decide +kernel)) (fun z => nomatch z) fun tk3 => ?_
  refine not_of (wpAny_truthy_bool (wpAny_truthy_bool ?_))
  rw [if_pos (show (!false) = true from rfl)]
  -- low <= value <= high
  refine BoolOp_one (Compare_chain (ev_loc (u := .int lo t2) kd rfl hn rfl (chain_link (ev_loc (u := .int n t1) kd rfl hn rfl (le_int (wpAny_truthy_bool ?_))))))
  by_cases c : lo ≤ n
  · rw [decide_eq_true c, if_pos rfl]
    refine chain_last (ev_loc (u := .int hi t3) kd rfl hn rfl (le_int ?_))
    refine ⟨?_, ⟨h1, tk3, rfl, k1⟩⟩
    rw [isNum_int, decide_eq_true c]; rfl
  · rw [decide_eq_false c, if_neg Bool.false_ne_true]
    refine ⟨?_, ⟨h1, tk3, rfl, k1⟩⟩
    rw [isNum_int, decide_eq_false c]; rfl
end
end
end HT
/-! text A4 -/
set_option maxHeartbeats 4000000
namespace HT
open PySem PySem.Spec PyProof.Rows L2
open GxR (TabG Tabbed)
section
variable {X : Cx} {pins : List (Addr × Obj)} {σ : L2.St} {H1 : Hp} {s1 : Shared} {P : Addr}
theorem mod_but {K : PySem.W.Frag} {mg : Str → Option Value} {h h' : Heap} {vs : Array Value} (M : L2.Mod K mg h) (hP : h.get? P = some { cls := .none, data := .fields vs }) (kP : K.lookup P = none) (k : ∀ b o, b ≠ P → h.get? b = some o → h'.get? b = some o) : L2.Mod K mg h' := by
  have nsK : ∀ {a : Addr} {m : Str → Option Value}, h.Ns a m → h'.Ns a m := fun {a m} ⟨o, es, ep, e, d, r⟩ => by
    refine ⟨o, es, ep, k _ _ (fun z => ?_) e, d, r⟩
    rw [z, hP] at e
    cases e
    cases d
  refine ⟨fun a o e => k a o (fun z => ?_) (M.kin a o e), nsK M.glob, ?_, ?_⟩
  · rw [z, kP] at e; cases e
  · obtain ⟨mb, h1, h2⟩ := M.blt
    exact ⟨mb, nsK h1, h2⟩
  · obtain ⟨mc, h1, h2⟩ := M.nolimit
    exact ⟨mc, nsK h1, h2⟩
/-- a captured name's cell, as the generator has it -/
theorem free_cell {scope : Scope} {i : Nat} {y : Str} {v : V} (I : Inv X pins σ H1 s1) (hN : X.N[i]? = some y) (hσ : σ[i]? = some (some v)) (hk : X.env.kindOf y = some .cell ∨ X.env.kindOf y = some .free) (hl : scope.names.lookup y = some .free) (hP : H1 P ≠ none) :
    ∃ c u, (cloFrom X.env.cells scope.names []).lookup y = some c ∧ s1.heap.IsCell c (some u) ∧ RelV v u ∧ c ≠ P := by
  have hy : (y, NameKind.free) ∈ scope.names := PySem.mem_of_lookup hl
  obtain ⟨c, hc⟩ := mem_lookup (cloFrom_has (cells := X.env.cells) (acc := []) hy)
  have hc1 : X.env.cells.lookup y = some c := by
    obtain ⟨c1, h1⟩ := I.ok.has y hk
    rcases cloFrom_mem (PySem.mem_of_lookup hc) with hm | ⟨h2, h3⟩
    · cases hm
    · rw [h1] at h3 ⊢
      rw [h3] <;> rfl
  obtain ⟨m, hn, hL⟩ := I.loc
  have vis : Vis X.env.scope y := hk.elim (fun k => .inr (.inl k)) (fun k => .inr (.inr k))
  obtain ⟨u, r, q⟩ := hL i y v hN hσ vis
  rcases q with ⟨k', _⟩ | ⟨_, c', e', z⟩
  · rcases hk with k | k <;> rw [k] at k' <;> cases k'
  · rw [hc1] at e'
    cases e'
    exact ⟨c, u, hc, z, r, fun z => hP (by rw [← z]; exact I.freeC y c hc1)⟩
theorem cell_but {h h' : Heap} {c : Addr} {v : Option Value} (z : h.IsCell c v) (n : c ≠ P) (k : ∀ b o, b ≠ P → h.get? b = some o → h'.get? b = some o) : h'.IsCell c v := let ⟨o, ho, hd⟩ := z; ⟨o, k _ _ n ho, hd⟩
/-- a captured name, read in the generator -/
theorem ev_capt {scope : Scope} {i : Nat} {y : Str} {v : V} {pos : Pos} {C bi : Addr} {code : Value} {A' : Around} {E' : Value → Shared → Prop} {s₂ : Shared} {Q : Value → Shared → Prop} (I : Inv X pins σ H1 s1) (hN : X.N[i]? = some y) (hσ : σ[i]? = some (some v))
    (hk : X.env.kindOf y = some .cell ∨ X.env.kindOf y = some .free) (hP : H1 P ≠ none) (hkeep : ∀ b o, b ≠ P → s1.heap.get? b = some o → s₂.heap.get? b = some o) (h : ∀ u, RelV v u → Q u s₂)
    (hkd : scope.kind = .function := by rfl) (hl : scope.names.lookup y = some .free := by rfl) (hd : (y == ("__debug__" : Str)) = false := by decide) (hcd : (y == ("__classdict__" : Str)) = false := by decide) :
    wpAny (model X.prog X.w) A' (eval (.Name y pos) (genEnv scope (cloFrom X.env.cells scope.names []) C code bi X.env)) Q E' s₂ := by
  obtain ⟨c, u, q, z, r, n⟩ := free_cell I hN hσ hk hl hP
  exact ev_free hkd hl q (cell_but z n hkeep) (h u r) hd hcd
theorem tabg_ne {H : Hp} (h : TabG H P) : H P ≠ none := by
  obtain ⟨ps, e, _⟩ := h
  rw [e]; simp
theorem tabg_get (I : Inv X pins σ H1 s1) (h : TabG H1 P) : ∃ vs, s1.heap.get? P = some { cls := .none, data := .fields vs } := by
  obtain ⟨ps, e, _⟩ := h
  exact ⟨ps, I.hok P _ e⟩
/-- is_number(x, 0, e3), called in the generator -/
theorem EltOk.of_eq {scope : Scope} {x : Str} {elt : Expr} {v : V} {b b' : Bool} (e : b = b') (h : EltOk X pins σ H1 P scope x elt v b) : EltOk X pins σ H1 P scope x elt v b' := by
  rw [← e]; exact h
theorem EltOk2.of_eq {scope : Scope} {x y : Str} {elt : Expr} {v v' : V} {b b' : Bool} (e : b = b') (h : EltOk2 X pins σ H1 P scope x y elt v v' b) : EltOk2 X pins σ H1 P scope x y elt v v' b' := by
  rw [← e]; exact h
/-- is_number(x, 0, e3), called in the generator -/
theorem elt_isnum {scope : Scope} {x : Str} {e3 : Expr} {j : Nat} {p0 p1 p2 p3 : Pos} {n hi : Int} {k : Nat} (T : Txt X.K X.mg) (hr : Room k X.A) (hT : TabG H1 P) (hKP : X.K.lookup P = none)
    (hg : X.env.globals = mainGlobals) (hkd : scope.kind = .function) (hx : scope.names.lookup x = some .local) (hxd : (x == ("__debug__" : Str)) = false) (hf : scope.names.lookup ("is_number" : Str) = some NameKind.globalImplicit)
    (h3 : ∀ (s1 : Shared) (C : Addr) (code : Value) (A' : Around) (E' : Value → Shared → Prop) (s₂ : Shared), Inv X pins σ H1 s1 → L2.Mod X.K X.mg s₂.heap → (∀ b o, b ≠ P → s1.heap.get? b = some o → s₂.heap.get? b = some o) →
      wpAny (model X.prog X.w) A' (eval e3 (genEnv scope (cloFrom X.env.cells scope.names []) C code builtinsNs X.env)) (fun y s₃ => ∃ t, y = .int hi t ∧ Keeps s₂ s₃) E' s₂)
    (he : ∀ env : Env, starEach [e3] env = [(false, eval e3 env)]) :
    EltOk X pins σ H1 P scope x (.Call (.Name "is_number" p0) [.Name x p1, .Constant (.int 0) j p2, e3] [] p3) (.int n) (isNum 0 hi (.int n)) := by
  intro s1 C code bi A' E' u s₂ m₂ I hbi hA hD hU ru hn hm hk
  subst hbi
  obtain ⟨t, rfl⟩ := ru
  obtain ⟨vs, hPs⟩ := tabg_get I hT
  have M2 : L2.Mod X.K X.mg s₂.heap := mod_but (Mod.keeps' I.mod I.bk) hPs hKP hk
  refine wpAny_Call_Name_kw (ev_glob M2 hkd hg hf (g_is_number T) ?_)
  have kp : PySem.W.keepIn X.K (.ref (He.ga X.K "is_number")) = true := by
    obtain ⟨fd, F⟩ := f_is_number T
    exact F.kp
  refine PySem.W.callWith_K (h₀ := s₂.heap) M2.kin kp ?_ rfl ?_
  · show wpAny _ _ (spliced ((false, eval (.Name x p1) _) :: (false, eval (.Constant (.int 0) j p2) _) :: backTo p3 (starEach [e3] _))) _ _ _
    rw [he]
    refine Calls.spliced_cons (ev_loc (u := .int n t) hkd hx hn hm (Calls.spliced_cons (wpAny_Constant_int (Calls.spliced_cons ?_))) hxd)
    refine wpAny_mono (h3 s1 C code A' E' _ I M2 hk) (fun y s3 r => ?_) fun _ _ e => e
    obtain ⟨t3, rfl, K3⟩ := r
    refine Calls.spliced_nil ?_
    obtain ⟨h4, tk4, rfl, k4⟩ := K3
    have M3 := Mod.keeps' M2 k4
    refine ⟨M3.kin, ?_⟩
    refine wpAny_mono (isnum_keeps T M3 (by have := hr.dp; omega) n 0 hi _ _ _) (fun y s5 r => ⟨r.1, ?_⟩) fun _ _ e => e
    exact keeps_trans' ⟨h4, tk4, rfl, k4⟩ r.2
  · show ((false, eval (.Constant (.int 0) j p2) _) :: backTo p3 (starEach [e3] _)).any (·.1) = false
    rw [he]; rfl
end
end HT
/-! text A5 -/
set_option maxHeartbeats 4000000
namespace HT
open PySem PySem.Spec PyProof.Rows L2
open GxR (TabG Tabbed)
section
variable {X : Cx} {pins : List (Addr × Obj)} {σ : L2.St} {H1 : Hp} {s1 : Shared} {P : Addr}
theorem ne_tab {d : Addr} {o : Obj} {vs vs' : Array Value} {n : Nat} (hPs : s1.heap.get? P = some { cls := .none, data := .fields vs }) (e : s1.heap.get? d = some o) (hd : o.data = .seq vs' n) : d ≠ P := fun z => by
  rw [z, hPs] at e
  cases e
  cases hd
/-- xa < xb, two tuples of ints -/
theorem elt_lt2 {scope : Scope} {xa xb : Str} {p1 p2 p3 : Pos} {a b : Addr} {ns ms : List Int} {k : Nat} (hr : Room k X.A) (hT : TabG H1 P) (hkd : scope.kind = .function) (hxa : scope.names.lookup xa = some .local) (hxb : scope.names.lookup xb = some .local) (da : (xa == ("__debug__" : Str)) = false) (db : (xb == ("__debug__" : Str)) = false)
    (ha : SqT X.K H1 a (ns.map V.int)) (hb : SqT X.K H1 b (ms.map V.int)) :
    EltOk2 X pins σ H1 P scope xa xb (.Compare (.Name xa p1) [.Lt] [.Name xb p2] p3) (.ref a) (.ref b) (HT.lexLt ns ms) := by
  intro s1 C code bi A' E' u u' s₂ m₂ I hbi hA hD hU ru ru' hn hma hmb hk
  cases ru
  cases ru'
  obtain ⟨vs, hPs⟩ := tabg_get I hT
  obtain ⟨ix, rx, px, _⟩ := I.tuple ha
  obtain ⟨iy, ry, py, _⟩ := I.tuple hb
  have tr : ∀ {d : Addr} {its : Array Value}, IsTup s1.heap d its → IsTup s₂.heap d its := fun {d its} ⟨o, ho, hc, n, hd⟩ => ⟨o, hk _ _ (ne_tab hPs ho hd) ho, hc, n, hd⟩
  refine wpAny_Compare1 (ev_loc (u := .ref a) hkd hxa hn hma (ev_loc (u := .ref b) hkd hxb hn hmb ?_ db) da)
  have i1 : IntsAre ix.toArray.toList ns := intsAre_of rx
  have i2 : IntsAre iy.toArray.toList ms := intsAre_of ry
  refine _root_.HT.lt_tupInts (tr px) (tr py) i1 i2 ?_ ⟨rfl, ⟨s₂.heap, s₂.toks, rfl, fun _ _ e => e⟩⟩
  have := hr.un
  omega
/-- x == y or x in z, y and z captured -/
theorem elt_eqin {scope : Scope} {x y z : Str} {i j : Nat} {p1 p2 p3 p4 p5 p6 p7 : Pos} {n m : Int} {l : Addr} {ns : List Int} {k : Nat} (hr : Room k X.A) (hT : TabG H1 P) (hkd : scope.kind = .function) (hx : scope.names.lookup x = some .local)
    (hN : X.N[i]? = some y) (hσ : σ[i]? = some (some (.int m))) (hky : X.env.kindOf y = some .cell ∨ X.env.kindOf y = some .free) (hly : scope.names.lookup y = some .free)
    (hN2 : X.N[j]? = some z) (hσ2 : σ[j]? = some (some (.ref l))) (hkz : X.env.kindOf z = some .cell ∨ X.env.kindOf z = some .free) (hlz : scope.names.lookup z = some .free)
    (dx : (x == ("__debug__" : Str)) = false) (dy : (y == ("__debug__" : Str)) = false) (dz : (z == ("__debug__" : Str)) = false) (cy : (y == ("__classdict__" : Str)) = false) (cz : (z == ("__classdict__" : Str)) = false)
    (hl : SqL X.K H1 l (ns.map V.int)) :
    EltOk X pins σ H1 P scope x (.BoolOp .Or [.Compare (.Name x p1) [.Eq] [.Name y p2] p3, .Compare (.Name x p4) [.In] [.Name z p5] p6] p7) (.int n) (decide (n = m) || decide (n ∈ ns)) := by
  intro s1 C code bi A' E' u s₂ m₂ I hbi hA hD hU ru hn hm hk
  obtain ⟨t, rfl⟩ := ru
  obtain ⟨vs, hPs⟩ := tabg_get I hT
  obtain ⟨c1, u1, e1, z1, r1, n1⟩ := free_cell I hN hσ hky hly (tabg_ne hT)
  obtain ⟨c2, u2, e2, z2, r2, n2⟩ := free_cell I hN2 hσ2 hkz hlz (tabg_ne hT)
  obtain ⟨t1, rfl⟩ := r1
  cases r2
  have q1 := cell_but z1 n1 hk
  have q2 := cell_but z2 n2 hk
  refine BoolOp_or (wpAny_Compare1 (ev_loc (u := .int n t) hkd hx hn hm (ev_free hkd hly e1 q1 ?_ dy cy) dx))
  refine eq_int ?_
  refine wpAny_truthy_bool ?_
  by_cases c : n = m
  · subst c
    rw [show (n == n) = true by simp, if_pos rfl]
    exact ⟨by simp, ⟨s₂.heap, s₂.toks, rfl, fun _ _ e => e⟩⟩
  · rw [show (n == m) = false by simpa using c, if_neg Bool.false_ne_true]
    refine BoolOp_one (wpAny_Compare1 (ev_loc (u := .int n t) hkd hx hn hm (ev_free hkd hlz e2 q2 ?_ dz cz) dx))
    obtain ⟨its, rv, pl, _⟩ := I.list hl
    obtain ⟨o, nn, ho, h1, h2, hd⟩ := id pl
    have pl2 : s₂.heap.IsList l its.toArray := pl.isList.at fun o' e' => hk _ _ (ne_tab hPs ho hd) e'
    have fl : (ns.map V.int).all flatV = true := by rw [List.all_eq_true]; intro y hy; obtain ⟨q, _, rfl⟩ := List.mem_map.mp hy; rfl
    refine SeqAt.in_listAt (eqU (.int n)) pl2 (fun w hw => mem_eqAt (x := .int n) ⟨t, rfl⟩ rfl rv fl w (by simpa using hw)) ?_
    refine ⟨?_, ⟨s₂.heap, s₂.toks, rfl, fun _ _ e => e⟩⟩
    rw [show its.toArray.any (eqU (.int n)) = its.any (eqU (.int n)) by simp, any_eqU rv fl, decide_eq_false c, Bool.false_or]
    congr 1
    rw [Bool.eq_iff_iff, List.any_eq_true, decide_eq_true_iff]
    constructor
    · rintro ⟨y, hy, e⟩
      obtain ⟨q, hq, rfl⟩ := List.mem_map.mp hy
      have : q = n := by simpa [eqV] using e
      rw [← this]; exact hq
    · intro hq
      exact ⟨.int n, List.mem_map.mpr ⟨n, hq, rfl⟩, by simp [eqV]⟩
end
end HT
/-! text R1 -/
set_option maxHeartbeats 4000000
namespace HT
open PySem PySem.Spec PyProof.Rows L2
section
variable {X : Cx}
/-- a known tuple without a dict of its own -/
def FrT (H : Hp) (a : Addr) (xs : List V) : Prop := ∃ o : Obj, H a = some (.frz o (.tup xs)) ∧ o.cls = .type "tuple" ∧ o.dict = none
theorem FrT.sqT {K : PySem.W.Frag} {H : Hp} {a : Addr} {xs : List V} (h : FrT H a xs) : SqT K H a xs := let ⟨o, e, _⟩ := h; .inl (.inr ⟨o, e⟩)
theorem FrT.xn {H H' : Hp} {a : Addr} {xs : List V} (e : Xn H H') (h : FrT H a xs) : FrT H' a xs := let ⟨o, h1, h2⟩ := h; ⟨o, e.frz h1, h2⟩
theorem FrT.sm {H H' : Hp} {a : Addr} {xs : List V} (e : Sm H H') (h : FrT H a xs) : FrT H' a xs := let ⟨o, h1, h2⟩ := h; ⟨o, e.frz h1, h2⟩
/-- a method of a tuple -/
def tBMF (r : V → List V → Hp → VK → Prop) (to : TE) (t : TA) : TE := fun σ H Q => to σ H fun x H1 => (∃ a xs, x = .ref a ∧ FrT H1 a xs) ∧ t σ H1 fun xs H2 => r x xs H2 Q
theorem pe_bmF {o e : Expr} {es : List Expr} {to : TE} {t : TA} {name : Str} {apos cpos : Pos} {id : String} {r : V → List V → Hp → VK → Prop} (pa : PlainAttrs "tuple") (slot : Slot "tuple" name id) (hty : typeOf (.builtin id) = pure (.type "method_descriptor")) (hm : MtR X id r) (ho : PE X o to) (ha : PA X (e :: es) t)
    (hbase : attributeBase o name X.env (eval o X.env) = eval o X.env := by rfl)
    (hfew : ((backTo cpos (starEach (e :: es) X.env)).all (fun x => !x.1) && (backToKw cpos (keywordEach [] X.env)).all (fun x => x.1.isSome)
      && decide ((e :: es).length + ([] : List Keyword).length + (if ([] : List Keyword).isEmpty then 0 else 1) < 30)) = true := by rfl)
    (hline : (apos.endLine == cpos.line) = true := by rfl) (hs : starEach (e :: es) X.env = (false, eval e X.env) :: starEach es X.env := by rfl) (hplain : (backTo cpos (starEach es X.env)).any (·.1) = false := by rfl) :
    PE X (.Call (.Attribute o name apos) (e :: es) [] cpos) (tBMF r to t) := by
  refine ⟨fun pins s σ H Q I h => ?_⟩
  refine wpAny_Call_method_late hbase hfew hline rfl (thn (ho.run pins s σ H _ I h) fun v s1 ⟨x, H1, I1, r1, ⟨a, xs, ex, ob, eo, hc, hd⟩, q1⟩ => ?_)
  subst ex
  cases r1
  have e1 : s1.heap.get? a = some ob := (I1.hok a _ eo).1
  refine ⟨"tuple", id, pa, slot, hty, ⟨ob, e1, hc⟩, fun b eb => ?_, ?_⟩
  · cases eb
    exact ⟨ob, e1, hd⟩
  have hA := ha.run cpos pins s1 σ H1 _ I1 q1
  rw [hs] at hA ⊢
  refine Calls.callWith_builtin (by show (false || (backTo cpos (starEach es X.env)).any (·.1)) = false; rw [hplain] <;> rfl) (Calls.evalArgs_plain ?_)
  exact thn hA fun us s2 ⟨vs, H2, I2, r2, q2⟩ => hm pins s2 σ H2 (.ref a) vs (.ref a) us Q I2 rfl r2 q2
/-- t.count(y), flat things -/
def rTCnt (K : PySem.W.Frag) : V → List V → Hp → VK → Prop := fun x xs H Q => ∃ (p : Addr) (ys : List V) (y : V), x = .ref p ∧ xs = [y] ∧ SqT K H p ys ∧ flatV y = true ∧ ys.all flatV = true ∧ Q (.int ((ys.countP fun z => eqV z y) : Nat)) H
theorem count_eqU {x : V} : ∀ {xs : List V} {us : List Value}, Vals xs us → xs.all flatV = true → us.countP (eqU x) = xs.countP fun y => eqV y x
  | _, _, .nil, _ => rfl
  | y :: xs, u :: us, .cons r t, f => by
    simp only [List.all_cons, Bool.and_eq_true] at f
    rw [List.countP_cons, List.countP_cons, count_eqU t f.2, eqU_of r f.1]
theorem mt_tcount : MtR X "tuple.count" (rTCnt X.K) := by
  intro pins s σ H x xs v us Q I rx rxs h
  obtain ⟨p, ys, y, rfl, rfl, hs, fy, fs, q⟩ := h
  cases rx
  obtain ⟨u, rfl, ru⟩ := vals1 rxs
  obtain ⟨its, rv, pl, hz⟩ := I.tuple hs
  obtain ⟨⟨cls, dd, data, sl⟩, ho, hc, n, hd⟩ := pl
  simp only at hc hd
  subst hc hd
  refine call_meets PySem.F.slot_tuple_count ⟨_, ho, rfl⟩ PySem.F.entry_tuple_count (PySem.F.args_tuple_count_2 _ _)
    (SeqAt.tuple_countAt p its.toArray n dd sl u (eqU y)) ⟨ho, fun w hw => mem_eqAt ru fy rv fs w (by simpa using hw), ?_⟩
  have ec : its.toArray.toList.countP (eqU y) = ys.countP fun z => eqV z y := by simpa using count_eqU rv fs
  refine ⟨.int ((ys.countP fun z => eqV z y) : Nat), H, I.tok _, ⟨s.toks, ?_⟩, q⟩
  rw [ec]
/-- t.index(y), y there, flat things -/
def rTIdx (K : PySem.W.Frag) : V → List V → Hp → VK → Prop := fun x xs H Q => ∃ (p : Addr) (ys : List V) (y : V) (j : Nat) (z : V), x = .ref p ∧ xs = [y] ∧ SqT K H p ys ∧ flatV y = true ∧ ys.all flatV = true ∧ ys[j]? = some z ∧ eqV z y = true ∧ (∀ m z', m < j → ys[m]? = some z' → eqV z' y = false) ∧ Q (.int (j : Nat)) H
theorem mt_tindex : MtR X "tuple.index" (rTIdx X.K) := by
  intro pins s σ H x xs v us Q I rx rxs h
  obtain ⟨p, ys, y, j, z, rfl, rfl, hs, fy, fs, hj, hz, hno, q⟩ := h
  cases rx
  obtain ⟨u, rfl, ru⟩ := vals1 rxs
  obtain ⟨its, rv, pl, _⟩ := I.tuple hs
  obtain ⟨⟨cls, dd, dt, sl⟩, ho, hc, n, hd⟩ := pl
  simp only at hc hd
  subst hc hd
  have hl : its.toArray.size = ys.length := by rw [List.size_toArray, ← rv.length]
  have hj' : j < its.toArray.size := by rw [hl]; exact (List.getElem?_eq_some_iff.mp hj).1
  have at' : ∀ (m : Nat) (hm : m < its.toArray.size), ∃ y', ys[m]? = some y' ∧ eqU y its.toArray[m] = eqV y' y := fun m hm => by
    have hm' : m < ys.length := by rw [← hl]; exact hm
    obtain ⟨w, hw, rw'⟩ := rv.get (List.getElem?_eq_getElem hm')
    refine ⟨ys[m], List.getElem?_eq_getElem hm', ?_⟩
    have e := (List.getElem?_eq_some_iff.mp hw).2
    have f := List.all_eq_true.mp fs _ (List.getElem_mem hm')
    rw [show its.toArray[m] = w by rw [← e]; simp]
    exact eqU_of rw' f
  refine call_meets PySem.F.slot_tuple_index ⟨_, ho, rfl⟩ PySem.F.entry_tuple_index (PySem.F.args_tuple_index_2 _ _) (TI.tuple_indexAt p its.toArray n dd sl u (eqU y) j hj' ?_ ?_)
    ⟨ho, fun w hw => mem_eqAt ru fy rv fs w (by simpa using hw), ⟨.int (j : Nat), H, I.tok _, ⟨_, rfl⟩, q⟩⟩
  · obtain ⟨y', h1, h2⟩ := at' j hj'
    rw [hj] at h1
    cases h1
    rw [h2]; exact hz
  · intro m hm hmj
    obtain ⟨y', h1, h2⟩ := at' m hm
    rw [h2]
    exact hno m y' hmj h1
/-- tuple(xs), the new tuple known to its object -/
theorem call_tuple_frz : CallR X (.type "tuple") (fun xs H Q => ∃ p ys, xs = [.ref p] ∧ SqL X.K H p ys ∧ ∀ (l : Addr) (o : Obj), H l = none → o.cls = .type "tuple" → o.dict = none → Q (.ref l) (upd H l (.frz o (.tup ys)))) := by
  intro pins s σ H xs us Q I r h
  obtain ⟨p, ys, rfl, hq, q⟩ := h
  obtain ⟨u, rfl, rx⟩ := vals1 r
  cases rx
  obtain ⟨its, r', pl, hz⟩ := I.list hq
  have hlen := r'.length
  refine call_tuple_list pl.isList (fun h' kp => ?_) (by simp only [List.size_toArray] <;> omega)
  have I1 : Inv X pins σ H { s with heap := h' } := I.kept (t' := s.toks) kp
  have I2 : Inv X pins σ (upd H h'.objs.size (.frz { cls := .type "tuple", data := .seq its.toArray } (.tup ys))) { s with heap := h'.push { cls := .type "tuple", data := .seq its.toArray } } :=
    I1.laid (t' := s.toks) (fun b o e => Heap.get?_push_of_some _ e) (Nat.le_refl _) ⟨Heap.get?_push_size _ rfl, hz, its, r', IsTup.new _ _⟩
  exact ⟨.ref h'.objs.size, _, I2, rfl, q _ _ (I1.hok.fresh (Nat.le_refl _)) rfl rfl⟩
end
end HT
/-! text S1 -/
set_option maxHeartbeats 4000000
namespace HT
open PySem PySem.Spec PyProof.Rows L2
/-! ### dicts whose keys are tuples of flat things, None among them -/
abbrev LfK (P : Program) (w : World) : HeapKind P w (List Leaf) := tupleKind (leafKind P w)
def lfV : Leaf → V
  | .none => .non
  | .num i => .int i
  | .text x => .str x
theorem lfV_inj : ∀ {a b : Leaf}, lfV a = lfV b → a = b
  | .none, .none, _ => rfl
  | .num _, .num _, e => by injection e with e; rw [e]
  | .text _, .text _, e => by injection e with e; rw [e]
  | .none, .num _, e => nomatch e
  | .none, .text _, e => nomatch e
  | .num _, .none, e => nomatch e
  | .num _, .text _, e => nomatch e
  | .text _, .none, e => nomatch e
  | .text _, .num _, e => nomatch e
theorem lf_is : ∀ {k : Leaf} {u : Value}, RelV (lfV k) u → Leaf.isOf k u = true
  | .none, u, r => by
    obtain rfl : u = Value.none := r
    rfl
  | .num i, u, r => by
    obtain ⟨t, rfl⟩ := (show ∃ t, u = Value.int i t from r)
    exact decide_eq_true rfl
  | .text x, u, r => by
    obtain ⟨t, rfl⟩ := (show ∃ t, u = Value.str x t from r)
    show Value.isStrOf x (.str x t) = true
    simp [Value.isStrOf]
theorem lfs_are {P : Program} {w : World} : ∀ {ks : List Leaf} {us : List Value}, Vals (ks.map lfV) us → ItemsAre (leafKind P w) ks us
  | [], _, r => by rw [List.map_nil] at r; cases r; exact .nil
  | k :: ks, _, r => by
    rw [List.map_cons] at r
    cases r with
    | cons h t => exact .cons (lf_is h) (lfs_are t)
abbrev SX : Type := List (List Leaf × Addr × V)
abbrev SR : SX → List (List Leaf × Addr × Value) → Prop := Paired fun p q => p.1 = q.1 ∧ p.2.1 = q.2.1 ∧ RelV p.2.2 q.2.2
/-- the dict's object: its keys' objects stand where xs tells -/
def sdO (P : Program) (w : World) (d : Addr) (xs : SX) : HO := .ext fun h => xs.length ≤ sizeLine ∧ (d == sysModules) = false ∧ ∃ vs, SR xs vs ∧ ∃ o es ep, h.get? d = some o ∧ o.ExactDict ∧ o.data = .dict es ep ∧ es.toList = vs.map (entryOfKey (LfK P w)) ∧ (vs.map (·.1)).Nodup
def SKeys (H : Hp) (xs : SX) : Prop := ∀ x ∈ xs, Rd H x.2.1 (.tup (x.1.map lfV))
theorem SKeys.xn {H H' : Hp} {xs : SX} (e : Xn H H') (h : SKeys H xs) : SKeys H' xs := fun x hx => e.rd (fun _ z => by cases z) (h x hx)
def valS (xs : SX) (k : List Leaf) : Option V := (xs.find? fun x => decide (x.1 = k)).map (·.2.2)
def putS (xs : SX) (k : List Leaf) (a : Addr) (v : V) : SX := if (valS xs k).isSome = true then xs.map (fun x => if x.1 = k then (x.1, x.2.1, v) else x) else xs ++ [(k, a, v)]
theorem valS_none {xs : SX} {k : List Leaf} : valS xs k = none ↔ k ∉ xs.map (·.1) := by
  unfold valS
  rw [Option.map_eq_none_iff, List.find?_eq_none]
  constructor
  · intro h z
    obtain ⟨x, hx, e⟩ := List.mem_map.mp z
    exact h x hx (decide_eq_true e)
  · intro h x hx e
    exact h (List.mem_map.mpr ⟨x, hx, of_decide_eq_true e⟩)
theorem valS_some {xs : SX} {k : List Leaf} (h : k ∈ xs.map (·.1)) : ∃ x ∈ xs, x.1 = k ∧ valS xs k = some x.2.2 := by
  cases e : xs.find? fun x => decide (x.1 = k) with
  | none =>
    have : valS xs k = none := by unfold valS; rw [e]; rfl
    exact absurd h (valS_none.mp this)
  | some x =>
    refine ⟨x, List.mem_of_find?_eq_some e, ?_, by unfold valS; rw [e]; rfl⟩
    have := List.find?_some e
    exact of_decide_eq_true this
theorem putS_keys (xs : SX) (k : List Leaf) (a : Addr) (v : V) : (putS xs k a v).map (·.1) = if k ∈ xs.map (·.1) then xs.map (·.1) else xs.map (·.1) ++ [k] := by
  unfold putS
  by_cases h : k ∈ xs.map (·.1)
  · have e : (valS xs k).isSome = true := by
      obtain ⟨x, _, _, e⟩ := valS_some h
      rw [e]; rfl
    rw [if_pos e, if_pos h, List.map_map]
    refine List.map_congr_left fun x _ => ?_
    show (if x.1 = k then (x.1, x.2.1, v) else x).1 = x.1
    split <;> rfl
  · have e : ¬ (valS xs k).isSome = true := by rw [valS_none.mpr h]; simp
    rw [if_neg e, if_neg h, List.map_append]; rfl
theorem putS_len (xs : SX) (k : List Leaf) (a : Addr) (v : V) : (putS xs k a v).length ≤ xs.length + 1 := by
  unfold putS
  split
  · rw [List.length_map]; omega
  · rw [List.length_append]; exact Nat.le_refl _
theorem putS_mem {xs : SX} {k : List Leaf} {a : Addr} {v : V} {x : List Leaf × Addr × V} (h : x ∈ putS xs k a v) : x ∈ xs ∨ (∃ y ∈ xs, x = (y.1, y.2.1, v) ∧ y.1 = k) ∨ x = (k, a, v) := by
  unfold putS at h
  split at h
  · obtain ⟨y, hy, e⟩ := List.mem_map.mp h
    split at e
    · next c => exact .inr (.inl ⟨y, hy, e.symm, c⟩)
    · rw [← e]; exact .inl hy
  · rcases List.mem_append.mp h with h | h
    · exact .inl h
    · exact .inr (.inr (by simpa using h))
theorem SKeys.put {H : Hp} {xs : SX} {k : List Leaf} {a : Addr} {v : V} (h : SKeys H xs) (ha : Rd H a (.tup (k.map lfV))) : SKeys H (putS xs k a v) := fun x hx => by
  rcases putS_mem hx with z | ⟨y, hy, e, _⟩ | e
  · exact h x z
  · rw [e]; exact h y hy
  · rw [e]; exact ha
theorem SR.val {xs : SX} {vs : List (List Leaf × Addr × Value)} (r : SR xs vs) (k : List Leaf) : RelO (valS xs k) ((atKey vs k).map (·.2)) := by
  induction r with
  | nil => exact True.intro
  | @cons p q ps qs h t ih =>
    obtain ⟨h1, _, h2⟩ := h
    by_cases e : p.1 = k
    · have e' : q.1 = k := h1.symm.trans e
      have b : atKey (q :: qs) k = some q.2 := by simp [atKey, List.find?_cons, e']
      have b2 : valS (p :: ps) k = some p.2.2 := by simp [valS, List.find?_cons, e]
      rw [b2, b]; exact h2
    · have e' : ¬ q.1 = k := fun z => e (h1.trans z)
      have b : atKey (q :: qs) k = atKey qs k := by simp [atKey, List.find?_cons, e']
      have b2 : valS (p :: ps) k = valS ps k := by simp [valS, List.find?_cons, e]
      rw [b2, b]; exact ih
theorem SR.repl {xs : SX} {vs : List (List Leaf × Addr × Value)} (r : SR xs vs) (k : List Leaf) {y : V} {u : Value} (ry : RelV y u) : SR (xs.map fun x => if x.1 = k then (x.1, x.2.1, y) else x) (vs.map (putAt k u)) := by
  induction r with
  | nil => exact .nil
  | @cons p q ps qs h t ih =>
    rw [List.map_cons, List.map_cons]
    refine .cons ?_ ih
    obtain ⟨h1, h2, h3⟩ := h
    unfold putAt
    by_cases e : p.1 = k
    · rw [if_pos e, if_pos (h1.symm.trans e)]; exact ⟨h1, h2, ry⟩
    · rw [if_neg e, if_neg (fun z => e (h1.trans z))]; exact ⟨h1, h2, h3⟩
theorem SR.put {xs : SX} {vs : List (List Leaf × Addr × Value)} (r : SR xs vs) (k : List Leaf) (b : Addr) {y : V} {u : Value} (ry : RelV y u) : SR (putS xs k b y) (storedH vs k b u) := by
  have e : (valS xs k).isSome = (atKey vs k).isSome := by rw [(r.val k).isSome_eq, Option.isSome_map]
  unfold putS storedH
  rw [e]
  by_cases q : (atKey vs k).isSome = true
  · rw [if_pos q, if_pos q]; exact r.repl k ry
  · rw [if_neg q, if_neg q]; exact Paired.snoc r ⟨rfl, rfl, ry⟩
theorem SR.keys {xs : SX} {vs : List (List Leaf × Addr × Value)} (r : SR xs vs) : xs.map (·.1) = vs.map (·.1) := by
  induction r with
  | nil => rfl
  | cons h t ih => rw [List.map_cons, List.map_cons, h.1, ih]
section
variable {P : Program} {w : World} {H : Hp} {h : Heap} {a : Addr}
theorem lkey_of {ks : List Leaf} (ok : HOk P w H h) (e : Rd H a (.tup (ks.map lfV))) : (LfK P w).is h ks a := by
  obtain ⟨_, its, r, o, h1, h2, n, h3⟩ := (show ObjOk P w H h a (.tup (ks.map lfV)) from rd_of ok e)
  exact ⟨o, its.toArray, n, h1, h2, h3, by simpa using lfs_are r⟩
/-- a as a dict of standings -/
def SD (P : Program) (w : World) (H : Hp) (a : Addr) (xs : SX) : Prop := Rd H a (sdO P w a xs) ∧ SKeys H xs
theorem SD.xn {H' : Hp} {xs : SX} (e : Xn H H') (x : SD P w H a xs) : SD P w H' a xs := ⟨e.rd (fun _ z => by cases z) x.1, x.2.xn e⟩
theorem sd_rd {xs : SX} (ok : HOk P w H h) (e : SD P w H a xs) : xs.length ≤ sizeLine ∧ (a == sysModules) = false ∧ ∃ vs, SR xs vs ∧ h.DictOfH (LfK P w) a vs := by
  obtain ⟨⟨z, y, vs, r, o, es, ep, h1, h2, h3, h4, h5⟩, _, _⟩ := (show ObjOk P w H h a (sdO P w a xs) from rd_of ok e.1)
  refine ⟨z, y, vs, r, o, es, ep, h1, h2, h3, h4, fun x hx => ?_, h5⟩
  have all : ∀ {l : SX} {m : List (List Leaf × Addr × Value)}, SR l m → SKeys H l → ∀ x ∈ m, (LfK P w).is h x.1 x.2.1 := by
    intro l m q
    induction q with
    | nil => intro _ x hx; exact nomatch hx
    | @cons p q ps qs hq t ih =>
      intro hk x hx
      rcases List.mem_cons.mp hx with e | hx
      · subst e
        rw [← hq.1, ← hq.2.1]
        exact lkey_of ok (hk p (List.mem_cons_self ..))
      · exact ih (fun y hy => hk y (List.mem_cons_of_mem _ hy)) x hx
  exact all r e.2 x hx
theorem sd_new {H' : Hp} {h' : Heap} {xs : SX} {vs : List (List Leaf × Addr × Value)} (z : xs.length ≤ sizeLine) (hd : (a == sysModules) = false) (r : SR xs vs) (dd : h'.DictOfH (LfK P w) a vs) : ObjOk P w H' h' a (sdO P w a xs) := by
  obtain ⟨o, es, ep, h1, h2, h3, h4, _, h5⟩ := dd
  refine ⟨⟨z, hd, vs, r, o, es, ep, h1, h2, h3, h4, h5⟩, ⟨o, h1⟩, fun g1 g2 hp k => ?_⟩
  obtain ⟨z, hd, vs, r, o, es, ep, h1, h2, h3, h4, h5⟩ := hp
  exact ⟨z, hd, vs, r, o, es, ep, k o h1, h2, h3, h4, h5⟩
end
section
variable {X : Cx} {pins : List (Addr × Obj)} {σ : L2.St} {H : Hp} {s : Shared} {a b : Addr} {v : V} {k : List Leaf} {xs : SX} {u r : Value} {A : Around} {E : Value → Shared → Prop}
theorem sd_getItem {Q : Value → Shared → Prop} (hu : A.units + 1 < cLine) (I : Inv X pins σ H s) (g : SD X.prog X.w H a xs) (eb : Rd H b (.tup (k.map lfV))) (l : valS xs k = some v) (h : ∀ w' s', Inv X pins σ H s' → RelV v w' → Q w' s') :
    wpAny (model X.prog X.w) A (getItem (.ref a) (.ref b)) Q E s := by
  obtain ⟨z, hd, vs, rel, dd⟩ := sd_rd I.hok g
  obtain ⟨w', hw, rw'⟩ := RelO.some_of (v := v) (o := (atKey vs k).map (·.2)) (by rw [← l]; exact rel.val k)
  obtain ⟨p, hp, hp2⟩ := Option.map_eq_some_iff.mp hw
  refine wpAny_getItem_heap (tupleKind_room_in1 hu) (lkey_of I.hok eb) dd hp ?_
  rw [hp2]
  exact h w' _ (I.tok _) rw'
theorem sd_notIn {Q : Value → Shared → Prop} (hu : A.units + 1 < cLine) (I : Inv X pins σ H s) (g : SD X.prog X.w H a xs) (eb : Rd H b (.tup (k.map lfV))) (h : ∀ s', Inv X pins σ H s' → Q (.bool (!(valS xs k).isSome)) s') :
    wpAny (model X.prog X.w) A (compareOp .NotIn (.ref b) (.ref a)) Q E s := by
  obtain ⟨z, hd, vs, rel, dd⟩ := sd_rd I.hok g
  refine wpAny_notIn_heap (tupleKind_room_in1 hu) (lkey_of I.hok eb) hd dd ?_
  have q := (rel.val k).isSome_eq
  rw [Option.isSome_map] at q
  rw [← q]
  exact h _ (I.tok _)
theorem sd_setItem {Q : Unit → Shared → Prop} (hu : A.units + 1 < cLine) (I : Inv X pins σ H s) (ea : H a = some (sdO X.prog X.w a xs)) (g : SKeys H xs) (eb : Rd H b (.tup (k.map lfV))) (hl : xs.length < sizeLine) (rv : RelV v r) (h : ∀ s', Inv X pins σ (upd H a (sdO X.prog X.w a (putS xs k b v))) s' → Q () s') :
    wpAny (model X.prog X.w) A (setItem (.ref a) (.ref b) r) Q E s := by
  obtain ⟨z, hd, vs, rel, dd⟩ := sd_rd I.hok (⟨.inl ea, g⟩ : SD X.prog X.w H a xs)
  have hz : vs.length ≤ sizeLine := by rw [← Paired.length rel]; exact z
  have hl' : (putS xs k b v).length ≤ sizeLine := by have := putS_len xs k b v; omega
  refine wpAny_setItem_heap (hsz := hz) (tupleKind_room_in1 hu) (lkey_of I.hok eb) dd fun h' dd' hs => h _ ?_
  have he : ∃ q, h'.get? a = some q := let ⟨q, _, _, hq, _⟩ := dd'; ⟨q, hq⟩
  exact d_write I (by rw [ea]; exact True.intro) hs he (sd_new hl' hd (rel.put k b rv) dd')
theorem sd_get2 {d : V} {Q : Value → Shared → Prop} (hu : A.units + 1 < cLine) (I : Inv X pins σ H s) (g : SD X.prog X.w H a xs) (eb : Rd H b (.tup (k.map lfV))) (rd : RelV d r) (h : ∀ w' s', Inv X pins σ H s' → RelV ((valS xs k).getD d) w' → Q w' s') :
    wpAny (model X.prog X.w) A (call (.builtin "dict.get") [.ref a, .ref b, r]) Q E s := by
  obtain ⟨z, hd, vs, rel, dd⟩ := sd_rd I.hok g
  refine call_meetsIn PySem.F.slot_dict_get dd.typeIs PySem.F.entry_dict_get (PySem.F.args_dict_get_3 _ _ _) (meetsH_dict_get_default (LfK X.prog X.w) a b hd r) ⟨tupleKind_room_in1 hu, k, vs, lkey_of I.hok eb, dd, h _ _ (I.tok _) ?_⟩
  exact (rel.val k).getD rd
end
end HT
/-! text S2 -/
set_option maxHeartbeats 4000000
namespace HT
open PySem PySem.Spec PyProof.Rows L2
/-! ### rules for dicts of standings -/
def tSGet (P : Program) (w : World) (td ty : TE) : TE := fun σ H Q => td σ H fun x H1 => ty σ H1 fun y H2 => ∃ a b k v xs, x = .ref a ∧ SD P w H2 a xs ∧ y = .ref b ∧ Rd H2 b (.tup (k.map lfV)) ∧ valS xs k = some v ∧ Q v H2
def tSNotIn (P : Program) (w : World) (ty td : TE) : TE := fun σ H Q => ty σ H fun y H1 => td σ H1 fun x H2 => ∃ a b k xs, x = .ref a ∧ SD P w H2 a xs ∧ y = .ref b ∧ Rd H2 b (.tup (k.map lfV)) ∧ Q (.bl (!(valS xs k).isSome)) H2
def sSPut (P : Program) (w : World) (td ty tv : TE) : TS := fun D σ H => tv σ H fun v H1 => td σ H1 fun x H2 => ty σ H2 fun y H3 => ∃ a b k xs, x = .ref a ∧ H3 a = some (sdO P w a xs) ∧ SKeys H3 xs ∧ y = .ref b ∧ Rd H3 b (.tup (k.map lfV)) ∧ xs.length < sizeLine ∧
  D.nx σ (upd H3 a (sdO P w a (putS xs k b v)))
def tSGet2 (P : Program) (w : World) (td ty tx : TE) : TE := fun σ H Q => td σ H fun x H1 => ∃ a xs0, x = .ref a ∧ SD P w H1 a xs0 ∧ ty σ H1 fun y H2 => tx σ H2 fun z H3 => ∃ b k xs, SD P w H3 a xs ∧ y = .ref b ∧ Rd H3 b (.tup (k.map lfV)) ∧ Q ((valS xs k).getD z) H3
/-- {}, to be a dict of standings -/
def tSNew (P : Program) (w : World) : TE := fun _ H Q => ∀ p, H p = none → Q (.ref p) (upd H p (sdO P w p []))
section
variable {X : Cx} {o i e f value : Expr} {pos pos' apos cpos : Pos} {td ty tv tx : TE}
theorem sd_typeIs {pins : List (Addr × Obj)} {σ : L2.St} {H : Hp} {s : Shared} {a : Addr} {xs : SX} (I : Inv X pins σ H s) (g : SD X.prog X.w H a xs) : s.TypeIs (.ref a) "dict" := by
  obtain ⟨_, _, vs, _, dd⟩ := sd_rd I.hok g
  exact dd.typeIs
theorem sd_noDict {pins : List (Addr × Obj)} {σ : L2.St} {H : Hp} {s : Shared} {a : Addr} {xs : SX} (I : Inv X pins σ H s) (g : SD X.prog X.w H a xs) : ∀ b, Value.ref a = .ref b → ∃ ob, s.heap.get? b = some ob ∧ ob.dict = none := fun b q => by
  cases q
  obtain ⟨_, _, vs, _, ob, _, _, h1, h2, _⟩ := sd_rd I.hok g
  exact ⟨ob, h1, h2.2.1⟩
theorem pe_sget (hu : X.A.units + 1 < cLine) (ho : PE X o td) (hi : PE X i ty) (hs : NoSl i) : PE X (.Subscript o i pos) (tSGet X.prog X.w td ty) := by
  refine ⟨fun pins s σ H Q I h => ?_⟩
  refine subD_of PySem.F.slot_dict_getitem.lookup hs (thn (ho.run pins s σ H _ I h) fun u s1 ⟨x, H1, I1, rx, q1⟩ => thn (hi.run pins s1 σ H1 _ I1 q1) fun iv s2 ⟨y, H2, I2, ry, a, b, k, v, xs, ex, g, ey, eb, l, q2⟩ => ?_)
  subst ex ey
  obtain rfl : u = Value.ref a := rx
  obtain rfl : iv = Value.ref b := ry
  exact ⟨sd_typeIs I2 g, sd_getItem hu I2 g eb l fun w' s3 I3 rw' => ⟨v, H2, I3, rw', q2⟩⟩
theorem pc_snotin (hu : X.A.units + 1 < cLine) (hi : PE X i ty) (ho : PE X o td) : PC X .NotIn i o (tSNotIn X.prog X.w ty td) := by
  refine ⟨fun pins s σ H Q I h => ?_⟩
  refine thn (hi.run pins s σ H _ I h) fun iv s1 ⟨y, H1, I1, ry, q1⟩ => thn (ho.run pins s1 σ H1 _ I1 q1) fun u s2 ⟨x, H2, I2, rx, a, b, k, xs, ex, g, ey, eb, q2⟩ => ?_
  subst ex ey
  obtain rfl : u = Value.ref a := rx
  obtain rfl : iv = Value.ref b := ry
  exact sd_notIn hu I2 g eb fun s3 I3 => ⟨.bl _, H2, I3, rfl, q2⟩
theorem ps_sput (hu : X.A.units + 1 < cLine) (ho : PE X o td) (hi : PE X i ty) (hv : PE X value tv) (hs : swapsWith value (some (.Subscript o i pos')) pos.line X.env = pure false) :
    PS X (.Assign [.Subscript o i pos'] value pos) (sSPut X.prog X.w td ty tv) := by
  refine ⟨fun pins s σ H D I h => ?_⟩
  refine wpAny_Assign_Subscript (thn (hv.run pins s σ H _ I h) fun r s1 ⟨v, H1, I1, rv, q1⟩ => thn (ho.run pins s1 σ H1 _ I1 q1) fun u s2 ⟨x, H2, I2, rx, q2⟩ => thn (hi.run pins s2 σ H2 _ I2 q2) fun iv s3 ⟨y, H3, I3, ry, a, b, k, xs, ex, ea, sk, ey, eb, hl, q3⟩ => ?_) hs
  subst ex ey
  obtain rfl : u = Value.ref a := rx
  obtain rfl : iv = Value.ref b := ry
  exact sd_setItem hu I3 ea sk eb hl rv fun s4 I4 => ⟨σ, _, I4, q3⟩
theorem pe_sget2 (hu : X.A.units + 1 < cLine) (ho : PE X o td) (he : PE X e ty) (hf : PE X f tx) (m : M2 X o "get" apos e f cpos) : PE X (.Call (.Attribute o "get" apos) [e, f] [] cpos) (tSGet2 X.prog X.w td ty tx) := by
  refine ⟨fun pins s σ H Q I h => ?_⟩
  refine wpAny_Call_method m.base m.few m.line PySem.F.plainAttrs_dict PySem.F.slot_dict_get PySem.F.type_dict_get (thn (ho.run pins s σ H _ I h) fun u s1 ⟨x, H1, I1, rx, a, xs0, ex, d, q1⟩ => ?_)
  subst ex
  obtain rfl : u = Value.ref a := rx
  refine ⟨sd_typeIs I1 d, sd_noDict I1 d, ?_⟩
  rw [m.trees]
  refine Calls.callWith_builtin rfl (Calls.evalArgs_plain (Calls.spliced_cons (thn (he.run pins s1 σ H1 _ I1 q1) fun iv s2 ⟨y, H2, I2, ry, q2⟩ =>
    Calls.spliced_cons (thn (hf.run pins s2 σ H2 _ I2 q2) fun fv s3 ⟨z, H3, I3, rz, b, k, xs, g, ey, eb, q3⟩ => Calls.spliced_nil ?_))))
  subst ey
  obtain rfl : iv = Value.ref b := ry
  exact sd_get2 hu I3 g eb rz fun w' s4 I4 rw' => ⟨_, H3, I4, rw', q3⟩
theorem sd_empty {P : Program} {w : World} {H : Hp} (h : Heap) (hb : sysModules < h.objs.size) : ObjOk P w H (h.push { cls := .type "dict", data := .dict #[] }) h.objs.size (sdO P w h.objs.size []) :=
  sd_new (vs := []) (Nat.zero_le _) (beq_eq_false_iff_ne.mpr (Ne.symm (Nat.ne_of_lt hb))) .nil ⟨_, #[], 0, Heap.get?_push_size _ rfl, ⟨rfl, rfl, rfl⟩, rfl, rfl, fun _ hx => by simp at hx, List.nodup_nil⟩
theorem pe_snew : PE X (.Dict [] [] pos) (tSNew X.prog X.w) := ⟨fun pins s σ H Q I h =>
  wpAny_Dict_empty ⟨.ref s.heap.objs.size, _, I.laid (a := s.heap.objs.size) (o := sdO X.prog X.w s.heap.objs.size []) (t' := s.toks) (fun _ _ q => Heap.get?_push_of_some _ q) (Nat.le_refl _) (sd_empty s.heap I.big), rfl, h _ (I.hok.fresh (Nat.le_refl _))⟩⟩
/-- {k: v} -/
def tSOne (P : Program) (w : World) (ty tv : TE) : TE := fun σ H Q => ∀ p, H p = none → tPairs [(ty, tv)] σ (upd H p (sdO P w p [])) fun ps H2 => ∃ b k v, ps = [(.ref b, v)] ∧ Rd H2 b (.tup (k.map lfV)) ∧ H2 p = some (sdO P w p []) ∧ Q (.ref p) (upd H2 p (sdO P w p [(k, b, v)]))
theorem pe_sone (hu : X.A.units + 1 < cLine) (hi : PE X i ty) (hv : PE X value tv) : PE X (.Dict [some i] [value] pos) (tSOne X.prog X.w ty tv) := by
  refine ⟨fun pins s σ H Q I q => ?_⟩
  have hn := I.hok.fresh (Nat.le_refl s.heap.objs.size)
  have I1 := I.laid (a := s.heap.objs.size) (o := sdO X.prog X.w s.heap.objs.size []) (h' := s.heap.push { cls := .type "dict", data := .dict #[] }) (t' := s.toks) (fun _ _ q => Heap.get?_push_of_some _ q) (Nat.le_refl _) (sd_empty s.heap I.big)
  have hp := (pps_cons (pos := pos) hi hv pps_nil).run pins _ σ _ _ I1 (q _ hn)
  rw [arm_eval_Dict]
  have hshape : (evalEachOpt [some i] X.env).zip ((evalEach [value] X.env).map fun v => do let x ← v; standAt pos; pure x) = [(eval i X.env, (do let x ← eval value X.env; standAt pos; pure x))].map fun p => (some p.1, p.2) := by rfl
  rw [hshape, dictDisplay_pairs _ (by simp) (by simp)]
  refine wpAny_bind (wpAny_standAt (wpAny_bind (wpAny_subDictH (knd := LfK X.prog X.w) (by show X.A.units < cLine; omega) (by simp) (thn hp fun ws s2 ⟨ps, H2, I2, rel, h2⟩ => ?_))))
  obtain ⟨b, k, v, rfl, eb, e2, qq⟩ := h2
  cases rel with
  | @cons _ w0 _ _ r1 r2 =>
    cases r2
    obtain ⟨u, r⟩ := w0
    obtain rfl : u = Value.ref b := r1.1
    obtain ⟨_, hsys, vs, rr, dd⟩ := sd_rd I2.hok (⟨.inl e2, fun x hx => by cases hx⟩ : SD X.prog X.w H2 _ [])
    cases rr
    refine ⟨[(k, b, r)], ⟨rfl, rfl, lkey_of I2.hok eb, trivial⟩, dd, fun h' tk dd' hs => wpAny_pure ?_⟩
    refine ⟨.ref s.heap.objs.size, _, ?_, rfl, qq⟩
    have he : ∃ q, h'.get? s.heap.objs.size = some q := let ⟨q, _, _, hq, _⟩ := dd'; ⟨q, hq⟩
    exact d_write I2 (by rw [e2]; exact True.intro) hs he (sd_new (by show 1 ≤ sizeLine; decide) hsys (.cons ⟨rfl, rfl, r1.2⟩ .nil) dd')
end
end HT
/-! text S3 -/
set_option maxHeartbeats 4000000
namespace HT
open PySem PySem.Spec PyProof.Rows L2
open PySem.W (AlikeAll reads_keeps iter_tupleW moved_old min_list_data cmpIn_lt)
theorem storedAll_app {κ : Type} [DecidableEq κ] : ∀ (ms vs : List (κ × Addr × Value)), ((vs ++ ms).map (·.1)).Nodup → storedAllH vs ms = vs ++ ms
  | [], vs, _ => by rw [List.append_nil]; rfl
  | m :: ms, vs, h => by
    have h1 : atKey vs m.1 = none := by
      unfold atKey
      rw [Option.map_eq_none_iff, List.find?_eq_none]
      intro x hx e
      rw [List.map_append, List.nodup_append] at h
      exact h.2.2 x.1 (List.mem_map.mpr ⟨x, hx, rfl⟩) m.1 (by simp) (of_decide_eq_true e)
    have e : storedAllH vs (m :: ms) = storedAllH (vs ++ [m]) ms := by
      show storedAllH (storedH vs m.1 m.2.1 m.2.2) ms = _
      rw [storedH_new h1]
    rw [e, storedAll_app ms (vs ++ [m]) (by simpa using h)]
    simp
theorem SR.app {xs ms : SX} {vs ws : List (List Leaf × Addr × Value)} (a : SR xs vs) (b : SR ms ws) : SR (xs ++ ms) (vs ++ ws) := by
  induction a with
  | nil => exact b
  | cons h t ih => exact .cons h ih
/-- found.update(later), the keys of later all new -/
def tSUpd (P : Program) (w : World) (td ty : TE) : TE := fun σ H Q => td σ H fun x H1 => ∃ a xs0, x = .ref a ∧ SD P w H1 a xs0 ∧ ty σ H1 fun y H2 => ∃ b xs ms, y = .ref b ∧ a ≠ b ∧ H2 a = some (sdO P w a xs) ∧ SKeys H2 xs ∧ SD P w H2 b ms ∧ xs ≠ [] ∧
  (∀ x ∈ ms, x.1 ∉ xs.map (·.1)) ∧ xs.length + ms.length ≤ sizeLine ∧ Q .non (upd H2 a (sdO P w a (xs ++ ms)))
section
variable {X : Cx} {o i e f value : Expr} {pos pos' apos cpos : Pos} {td ty tv tx : TE}
theorem pe_supd (hu : X.A.units + 1 < cLine) (ho : PE X o td) (he : PE X e ty) (m : M1 X o "update" apos e cpos) : PE X (.Call (.Attribute o "update" apos) [e] [] cpos) (tSUpd X.prog X.w td ty) := by
  refine ⟨fun pins s σ H Q I h => ?_⟩
  refine wpAny_Call_method m.base m.few m.line PySem.F.plainAttrs_dict PySem.F.slot_dict_update PySem.F.type_dict_update (thn (ho.run pins s σ H _ I h) fun u s1 ⟨x, H1, I1, rx, a, xs0, ex, d, q1⟩ => ?_)
  subst ex
  obtain rfl : u = Value.ref a := rx
  refine ⟨sd_typeIs I1 d, sd_noDict I1 d, ?_⟩
  rw [m.trees]
  refine Calls.callWith_builtin rfl (Calls.evalArgs_plain (Calls.spliced_cons (thn (he.run pins s1 σ H1 _ I1 q1) fun iv s2 ⟨y, H2, I2, ry, b, xs, ms, ey, hab, ea, sk, g, hne, hdis, hl, q2⟩ => Calls.spliced_nil ?_)))
  subst ey
  obtain rfl : iv = Value.ref b := ry
  obtain ⟨z, hd, vs, rel, dd⟩ := sd_rd I2.hok (⟨.inl ea, sk⟩ : SD X.prog X.w H2 a xs)
  obtain ⟨z2, hd2, ws, rel2, dd2⟩ := sd_rd I2.hok g
  have l1 := Paired.length rel
  have l2 := Paired.length rel2
  refine call_update_dictH (knd := LfK X.prog X.w) (by show X.A.units + 1 < cLine; exact hu) hab hd2 dd dd2 (.inl fun e => ?_) (by omega) fun h' dd' _ hs => ?_
  · rw [e] at l1
    exact hne (List.length_eq_zero_iff.mp l1)
  · have nd1 : (vs.map (·.1)).Nodup := let ⟨_, _, _, _, _, _, _, _, n⟩ := dd; n
    have nd2 : (ws.map (·.1)).Nodup := let ⟨_, _, _, _, _, _, _, _, n⟩ := dd2; n
    have e : storedAllH vs ws = vs ++ ws := storedAll_app ws vs (by
      rw [List.map_append, List.nodup_append]
      refine ⟨nd1, nd2, fun x hx y hy e => ?_⟩
      rw [← rel.keys] at hx
      rw [← rel2.keys] at hy
      obtain ⟨p, hp, rfl⟩ := List.mem_map.mp hy
      exact hdis p hp (e ▸ hx))
    rw [e] at dd'
    refine ⟨.non, upd H2 a (sdO X.prog X.w a (xs ++ ms)), ?_, rfl, q2⟩
    have he' : ∃ q, h'.get? a = some q := let ⟨q, _, _, hq, _⟩ := dd'; ⟨q, hq⟩
    exact d_write (t' := s2.toks) I2 (by rw [ea]; exact True.intro) hs he' (sd_new (by rw [List.length_append]; omega) hd (rel.app rel2) dd')
/-! ### min of two, min of a list: alike data -/
theorem call_min_twoH {prog : Program} {w : World} {A : Around} {E : Value → Shared → Prop} {s : Shared} {a b : Value} {da db : PyData} {as bs : List Addr} {Q : Value → Shared → Prop} (hh : A.handled = none) (ra : Reads s.heap a da as) (rb : Reads s.heap b db bs) (hal : AlikeAll [da, db])
    (hu : A.units + 1 + PyData.depthAll [da, db] < cLine) (h : ∀ v h' tk, v = a ∨ v = b → (∀ b o, s.heap.get? b = some o → h'.get? b = some o) → Q v { s with heap := h', toks := tk }) :
    wpAny (model prog w) A (call (.builtin "min") [a, b]) Q E s := by
  have hname : (toString "min" ++ toString ".loop" : String) = "min.loop" := by decide
  refine call_function_tree F.kind_min F.plain_min F.entry_min (F.args_min2 _ _) ?_
  show wpAny _ A.in1 (Builtin.Builtins.bindParams "min" ["key", "default"] 0 ⟨[], []⟩ >>= _) _ _ s
  refine wpAny_bind (wpAny_of_eq (show Builtin.Builtins.bindParams "min" ["key", "default"] 0 ⟨[], []⟩ = pure [none, none] from rfl) ?_)
  show wpAny _ A.in1 (newTuple [a, b] >>= _) _ _ s
  refine wpAny_bind (wpAny_newObj_type ?_)
  have k0 : ∀ b' o, s.heap.get? b' = some o → (s.heap.push { cls := .type "tuple", data := .seq #[a, b] }).get? b' = some o := fun _ _ e => Heap.get?_push_of_some _ e
  have hr : ReadsAll (s.heap.push { cls := .type "tuple", data := .seq #[a, b] }) (#[a, b] : Array Value).toList [da, db] (as ++ (bs ++ [])) := .cons (reads_keeps k0 ra) (.cons (reads_keeps k0 rb) .nil)
  refine wpAny_bind (iter_tupleW (A := A.in1) (vs := #[a, b]) (s := { s with heap := s.heap.push { cls := .type "tuple", data := .seq #[a, b] } }) hh ⟨_, Heap.get?_push_size _ rfl, rfl, _, rfl⟩ fun s₂ e W st hfp hw hk => ?_)
  refine wpAny_bind (wpAny_newObj_type ?_)
  have hSf : s₂.heap.objs.size ∉ [(s.heap.push { cls := .type "tuple", data := .seq #[a, b] }).objs.size, s.heap.objs.size] := fun hm => Nat.lt_irrefl _ (hfp _ hm)
  rw [hname]
  refine wpAny_pure ⟨plainId_quiet F.plain_min_loop _, codeAny_min_loop_firstH W _ hw _ (cmpIn_lt (s := { s with heap := s.heap.push { cls := .type "tuple", data := .seq #[a, b] } }) (A := A.in1) hr hal (by show A.units + 1 + _ < _; exact hu)) s₂.heap.objs.size hSf (fresh_in hk) _ (by show 0 < 2; decide)
    (fun b o e => Heap.get?_push_of_some _ (hk b o e)) (W.frame 0 s₂ _ s₂.toks st (Nat.le_refl _) fun b _ o e => Heap.get?_push_of_some _ e) (Heap.get?_push_size _ rfl) fun v s' hP hm => ?_⟩
  obtain ⟨h', tk, rfl, hk'⟩ := moved_old e rfl (Moved.drop_new (tk := s₂.toks) hm (Nat.le_refl _))
  refine h v h' tk ?_ fun b' o q => hk' b' o (k0 b' o q)
  obtain ⟨hi, e⟩ := Array.getElem?_eq_some_iff.mp hP
  generalize argBest _ _ = j at hi e
  have hi' : j < 2 := hi
  match j, hi' with
  | 0, _ => exact .inl e.symm
  | 1, _ => exact .inr e.symm
def rMin2D (K : PySem.W.Frag) : List V → Hp → VK → Prop := fun vs H Q => ∃ x y dx dy, vs = [x, y] ∧ Dp K H x dx ∧ Dp K H y dy ∧ AlikeAll [dx, dy] ∧ PyData.depthAll [dx, dy] ≤ 20 ∧ ∀ v, v = x ∨ v = y → Q v H
theorem cr_min2D {k : Nat} (hr : Room k X.A) : CallR X (.builtin "min") (rMin2D X.K) := by
  intro pins s σ H vs us Q I r h
  obtain ⟨x, y, dx, dy, rfl, hx, hy, hal, hd, q⟩ := h
  obtain ⟨u, w', rfl, rx, ry⟩ := vals2 r
  obtain ⟨as, r1⟩ := Dp.reads I dx x u hx rx
  obtain ⟨bs, r2⟩ := Dp.reads I dy y w' hy ry
  refine call_min_twoH hr.hd r1 r2 hal (by have := hr.un; omega) fun v h' tk hv hk => ?_
  rcases hv with rfl | rfl
  · exact ⟨x, H, I.kept hk, rx, q x (.inl rfl)⟩
  · exact ⟨y, H, I.kept hk, ry, q y (.inr rfl)⟩
def rMinLD (K : PySem.W.Frag) : List V → Hp → VK → Prop := fun vs H Q => ∃ a xs d ds, vs = [.ref a] ∧ SqL K H a xs ∧ DpAll K H xs (d :: ds) ∧ AlikeAll (d :: ds) ∧ PyData.depthAll (d :: ds) ≤ 20 ∧ ∀ v ∈ xs, Q v H
theorem cr_minLD {k : Nat} (hr : Room k X.A) : CallR X (.builtin "min") (rMinLD X.K) := by
  intro pins s σ H vs us Q I r h
  obtain ⟨a, xs, d, ds, rfl, hs, hx, hal, hd, q⟩ := h
  obtain ⟨u, rfl, rx⟩ := vals1 r
  cases rx
  obtain ⟨its, rv, pl, hz⟩ := I.list hs
  obtain ⟨as, r1⟩ := Dp.readsAll I (d :: ds) xs its hx rv
  refine min_list_data hr.hd pl.isList (by simpa using r1) hal (by have := hr.un; omega) fun i v h' tk bs hv _ hk => ?_
  have hv' : its[i]? = some v := by simpa using hv
  have hi : i < xs.length := by
    have := (List.getElem?_eq_some_iff.mp hv').1
    rw [rv.length]; exact this
  obtain ⟨v2, e2, r2⟩ := rv.get (List.getElem?_eq_getElem hi)
  rw [hv'] at e2
  cases e2
  exact ⟨xs[i], H, I.kept hk, r2, q _ (List.getElem_mem hi)⟩
end
end HT
/-! text S4 -/
set_option maxHeartbeats 4000000
namespace HT
open PySem PySem.Spec PyProof.Rows L2
open PySem.W (KeyPure)
/-! ### a lambda of one parameter, in its maker's hands -/
structure LSc (env : Env) (scope : Scope) (x y : Str) : Prop where
  kind : scope.kind = .function
  co : scope.isCoroutine = false
  gen : scope.isGenerator = false
  cell : ∀ z ∈ scope.names, z.2 ≠ .cell
  loc : scope.names.lookup x = some .local
  cap : scope.names.lookup y = some .free
  free : ∀ z ∈ scope.names, z.2 = .free → env.kindOf z.1 = some .cell ∨ env.kindOf z.1 = some .free
def lscB (sc scope : Scope) (x y : Str) : Bool :=
  (match scope.kind with | .function => true | _ => false) && !scope.isCoroutine && !scope.isGenerator && (scope.names.all fun y => match y.2 with | .cell => false | _ => true) && decide (scope.names.lookup x = some NameKind.local) && decide (scope.names.lookup y = some NameKind.free) &&
    (scope.names.all fun y => match y.2 with | .free => decide (sc.names.lookup y.1 = some .cell) || decide (sc.names.lookup y.1 = some .free) | _ => true)
theorem lsc_by {env : Env} {sc scope : Scope} {x y : Str} (h : lscB sc scope x y = true) (he : env.scope = sc) : LSc env scope x y := by
  unfold lscB at h
  simp only [Bool.and_eq_true, List.all_eq_true, decide_eq_true_eq, Bool.not_eq_true'] at h
  obtain ⟨⟨⟨⟨⟨⟨h1, h2⟩, h2'⟩, h3⟩, h4⟩, h5⟩, h6⟩ := h
  refine ⟨?_, h2, h2', fun y hy e => ?_, h4, h5, fun y hy e => ?_⟩
  · split at h1
    · assumption
    · cases h1
  · have := h3 y hy
    rw [e] at this
    cases this
  · have q := h6 y hy
    rw [e] at q
    show env.scope.names.lookup y.1 = some .cell ∨ env.scope.names.lookup y.1 = some .free
    rw [he]
    simpa using q
theorem LamX_tabs1 {H : Hp} {P : Addr} {q : Str} (h : LamX.TabS H P q) {c : Addr} (n : H c = none) {more : Array Value} {ps : Array Value} {pos : Pos} (hP : H P = some (.tbl ps)) (hm : more = #[rawInt pos.line, rawInt pos.col, .ref c]) :
    LamX.TabS (upd (upd H P (.tbl (ps ++ more))) c (LamX.CodeO c q)) P q := by
  subst hm
  obtain ⟨ps', e, ht, ha⟩ := h
  rw [hP] at e
  cases e
  have eL : (ps ++ #[rawInt pos.line, rawInt pos.col, .ref c]).toList = ps.toList ++ [rawInt pos.line, rawInt pos.col, .ref c] := by simp
  refine ⟨_, by rw [upd_ne (ne_of_none hP n), upd_same], by rw [eL]; exact PySem.TriplesOk_snoc _ _ _ _ ht, fun p' cv hcv => ?_⟩
  rw [eL] at hcv
  rcases LamX.among_app _ ht hcv with z | z
  · obtain ⟨c0, e1, e2⟩ := ha p' cv z
    refine ⟨c0, e1, ?_⟩
    rw [upd_ne (ne_of_none e2 n), upd_ne (fun z => by rw [z, hP] at e2; exact LamX.codeO_ne _ (Option.some.inj e2).symm)]
    exact e2
  · exact ⟨c, z, upd_same⟩
section
variable {X : Cx} {pins : List (Addr × Obj)} {σ : L2.St} {H : Hp} {s : Shared}
/-- the lambda is made; only its maker's table is written -/
theorem lam_make3 {c P : Addr} {params : Arguments} {body : Expr} {scope : Scope} {pos : Pos} {E : Value → Shared → Prop} {Q : Value → Shared → Prop} (I : Inv X pins σ H s) (TB : LamX.TabB X.base X.mg c P) (hcode : X.env.code = .ref c)
    (hT : LamX.TabS H P (X.env.qual ++ "<lambda>")) (hdef : defaultsOf params X.env = ([], [])) (hfree : ∀ y ∈ scope.names, y.2 = .free → ∃ c, X.env.cells.lookup y.1 = some c)
    (h : ∀ (f c' : Addr) (pm ctv : Value) (H1 : Hp) (s' : Shared), Inv X pins σ H1 s' → Xn H H1 → (∀ b ps, b ≠ P → H b = some (.tbl ps) → H1 b = some (.tbl ps)) → LamX.TabS H1 P (X.env.qual ++ "<lambda>") →
      s'.heap.get? f = some (PySem.W.kla_obj "<lambda>" (X.env.qual ++ "<lambda>") params body scope (cloFrom X.env.cells scope.names []) pm c' ctv) → H1 f = none → H1 c' = some (LamX.CodeO c' (X.env.qual ++ "<lambda>")) → Q (.ref f) s') :
    wpAny (model X.prog X.w) X.A (eval (.Lambda params body scope pos) X.env) Q E s := by
  obtain ⟨ps, hP, ht, ha⟩ := id hT
  refine PySem.W.kla_eval hdef ?_
  have bP : s.heap.BuiltinsAt X.mg P := TB.bm.keeps I.bk
  have hP' : s.heap.get? P = some { cls := .none, data := .fields ps } := I.hok P _ hP
  cases hc : codeAmong pos ps.toList with
  | none =>
    refine PySem.W.kla_makeFunction (mg := X.mg) (c := c) (P := P) (ps := ps) (closure_ok hfree) I.ok.glob (I.mod.glob.keeps I.bk) hcode (TB.code.keeps I.bk) hP' ht hc TB.gP bP fun c' ctv h' tk hx hge hlt hrec htb => ?_
    obtain ⟨c2, oc, vs, t, e2, hoc, hd, hv⟩ := hrec
    cases e2
    have hsz : s.heap.objs.size ≤ h'.objs.size := Nat.le_trans hge (Nat.le_of_lt hlt)
    have nC : H c' = none := I.hok.fresh hge
    have I1 := LamX.inv_table (t' := tk) (more := #[rawInt pos.line, rawInt pos.col, .ref c']) (h' := h'.push (PySem.W.kla_obj "<lambda>" (X.env.qual ++ "<lambda>") params body scope (cloFrom X.env.cells scope.names []) ((X.mg "__name__").getD .none) c' ctv)) I hP
      (fun b o hb e => Heap.get?_push_of_some _ (hx b o hb e)) (Heap.get?_push_of_some _ htb) hge ⟨oc, vs, t, Heap.get?_push_of_some _ hoc, hd, hv⟩
    refine h h'.objs.size c' ((X.mg "__name__").getD .none) ctv _ _ I1 (fun b o e n => ?_) (fun b rs hb e => ?_) (LamX_tabs1 hT nC hP rfl) (Heap.get?_push_size _ rfl) ?_ upd_same
    · rw [upd_ne (ne_of_none e nC), upd_ne (fun z => n ps (Option.some.inj (e.symm.trans (by rw [z]; exact hP))))]
      exact e
    · rw [upd_ne (ne_of_none e nC), upd_ne hb]
      exact e
    · have n1 : h'.objs.size ≠ c' := Nat.ne_of_gt hlt
      have n2 : h'.objs.size ≠ P := Nat.ne_of_gt (Nat.lt_of_lt_of_le (Heap.lt_size hP') hsz)
      rw [upd_ne n1, upd_ne n2]
      exact I.hok.fresh hsz
  | some cv =>
    obtain ⟨c', e, hco⟩ := ha pos cv hc
    subst e
    refine PySem.W.kla_makeFunctionHit (mg := X.mg) (c := c) (P := P) (ps := ps) (closure_ok hfree) I.ok.glob (I.mod.glob.keeps I.bk) hcode (TB.code.keeps I.bk) hP' ht hc bP fun ctv h' tk hx hsz => ?_
    have I1 : Inv X pins σ H { s with heap := h'.push (PySem.W.kla_obj "<lambda>" (X.env.qual ++ "<lambda>") params body scope (cloFrom X.env.cells scope.names []) ((X.mg "__name__").getD .none) c' ctv), toks := tk } := I.kept fun b o e => Heap.get?_push_of_some _ (hx b o e)
    exact h h'.objs.size c' ((X.mg "__name__").getD .none) ctv H _ I1 (Xn.refl H) (fun _ _ _ e => e) hT (Heap.get?_push_size _ rfl) (I.hok.fresh hsz) hco
/-- lambda x: d[x], called -/
theorem lam_get {x y : Str} {p1 p2 p3 : Pos} {f c' fd b : Addr} {pm ctv : Value} {params : Arguments} {scope : Scope} {i : Nat} {fs : SX} {k : List Leaf} {v : V} {D : PyData} {A' : Around} {q : Str} (I : Inv X pins σ H s) (S : LSc X.env scope x y)
    (hf : s.heap.get? f = some (PySem.W.kla_obj "<lambda>" q params (.Subscript (.Name y p1) (.Name x p2) p3) scope (cloFrom X.env.cells scope.names []) pm c' ctv)) (hc' : H c' = some (LamX.CodeO c' q))
    (hbind : ∀ u, bindArgs (PySem.W.kla_fn "<lambda>" q params (.Subscript (.Name y p1) (.Name x p2) p3) scope (cloFrom X.env.cells scope.names []) pm (.ref c') ctv) ⟨[u], []⟩ = pure [(x, u)])
    (hN : X.N[i]? = some y) (hσ : σ[i]? = some (some (.ref fd))) (hk : X.env.kindOf y = some .cell ∨ X.env.kindOf y = some .free) (g : SD X.prog X.w H fd fs) (eb : Rd H b (.tup (k.map lfV))) (l : valS fs k = some v) (hv : Dp X.K H v D) (hpure : ∀ (h : Heap) (u : Value) (as : List Addr), Reads h u D as → as = [])
    (hroom : A'.depth < recursionLimit) (hun : A'.units + 10 < cLine) (h : Heap) (tk : Nat) (hkeep : ∀ b o, s.heap.get? b = some o → h.get? b = some o)
    (hxd : (x == ("__debug__" : Str)) = false := by decide) (hyd : (y == ("__debug__" : Str)) = false := by decide) (hycd : (y == ("__classdict__" : Str)) = false := by decide) :
    wpAny (model X.prog X.w) A' (call (.ref f) [.ref b]) (KeyPure D { s with heap := h, toks := tk }) (fun _ _ => False) { s with heap := h, toks := tk } := by
  obtain ⟨c, u, q1, z, r, _⟩ := free_cell (P := b) (scope := scope) I hN hσ hk S.cap (by rcases eb with e | ⟨o, e⟩ <;> rw [e] <;> simp)
  obtain rfl : u = Value.ref fd := r
  obtain ⟨⟨oc, ovs, ot, hoc, hdc, hvc⟩, _, _⟩ := I.hok c' _ hc'
  obtain ⟨hz, hsys, vs, rel, dd⟩ := sd_rd I.hok g
  obtain ⟨w', hw, rw'⟩ := RelO.some_of (v := v) (o := (atKey vs k).map (·.2)) (by rw [← l]; exact rel.val k)
  obtain ⟨p, hp, hp2⟩ := Option.map_eq_some_iff.mp hw
  obtain ⟨as, rd⟩ := Dp.reads I D v w' hv rw'
  obtain rfl := hpure _ _ _ rd
  have key : (LfK X.prog X.w).is s.heap k b := lkey_of I.hok eb
  have st : ∀ {h' : Heap}, (∀ b o, s.heap.get? b = some o → h'.get? b = some o) → ∀ (k : List Leaf) (b : Addr), (LfK X.prog X.w).is s.heap k b → (LfK X.prog X.w).is h' k b := fun hh k b ⟨o, items, n, h1, h2, h3, h4⟩ => ⟨o, items, n, hh _ _ h1, h2, h3, h4⟩
  refine wpAny_call (PySem.W.kla_callFunE hroom (hkeep _ _ hf) rfl S.co S.gen rfl ⟨c', oc, ovs, ot, rfl, hkeep _ _ hoc, hdc, hvc⟩ ?_)
  rw [hbind]
  refine wpAny_pure (wpAny_newFunctionEnv (S.cell) (fun y hy => ?_) (fun h₁ hns hsb => ⟨(I.nolimit.keeps hkeep).fresh _ hsb, ?_⟩) S.kind)
  · obtain rfl : y = (x, Value.ref b) := by simpa using hy
    exact S.loc
  have kp : ∀ b o, h.get? b = some o → h₁.get? b = some o := fun b o e => hsb.extBut b o (Nat.ne_of_lt (Heap.lt_size e)) (Heap.get?_push_of_some _ e)
  have kp2 : ∀ b o, s.heap.get? b = some o → h₁.get? b = some o := fun b o e => kp b o (hkeep b o e)
  have zc : h₁.IsCell c (some (.ref fd)) := let ⟨o, ho, hd⟩ := z; ⟨o, kp2 _ _ ho, hd⟩
  have dd1 : h₁.DictOfH (LfK X.prog X.w) fd vs := dd.at' (fun o e => kp2 _ _ e) fun y hy => by
    obtain ⟨_, _, _, _, _, _, _, his, _⟩ := dd
    exact st kp2 _ _ (his y hy)
  refine PySem.W.kla_codeExpr (subD_of PySem.F.slot_dict_getitem.lookup (fun _ _ => rfl) ?_)
  refine ev_free (u := .ref fd) S.kind S.cap q1 zc ?_ hyd hycd
  refine ev_loc (u := .ref b) S.kind S.loc hns (by simp) ?_ hxd
  refine ⟨dd1.typeIs, wpAny_getItem_heap (tupleKind_room_in1 (by show A'.units + 3 + 1 < cLine; omega)) (st kp2 _ _ key) dd1 hp ?_⟩
  rw [hp2]
  exact ⟨h₁, _, rfl, kp, PyProof.Rows.Reads.keeps kp2 rd⟩
end
end HT
/-! text S5 -/
set_option maxHeartbeats 4000000
namespace HT
open PySem PySem.Spec PyProof.Rows L2
open PySem.W (KeyPure KeyedOut keyH_tree AllAlike Sortable kdu_collect sortVals)
theorem keyed_perm {b : Bool} {kz : List PyData} {vs out : List Value} (h : KeyedOut b kz vs out) (hl : kz.length = vs.length) : out.Perm vs := by
  obtain ⟨hp, ks, _, rfl, hk⟩ := h
  unfold sortVals
  have e : (ks.zip vs).map Prod.snd = vs := List.map_snd_zip (by rw [hk.length, hl] <;> exact Nat.le_refl _)
  refine (List.Perm.map Prod.snd (List.mergeSort_perm (ks.zip vs) _)).trans ?_
  rw [e] <;> exact .refl _
theorem refs_perm {as : List Addr} {out : List Value} (h : out.Perm (as.map Value.ref)) : ∃ bs : List Addr, bs.Perm as ∧ out = bs.map Value.ref := by
  refine ⟨out.map fun v => match v with | .ref a => a | _ => 0, ?_, ?_⟩
  · have := h.map fun v => match v with | .ref a => a | _ => 0
    rw [List.map_map] at this
    refine this.trans (List.Perm.of_eq ?_)
    rw [show ((fun v => match v with | .ref a => a | _ => 0) ∘ Value.ref : Addr → Addr) = id from rfl, List.map_id]
  · rw [List.map_map]
    have : ∀ v ∈ out, (Value.ref ∘ fun v => match v with | .ref a => a | _ => 0) v = v := fun v hv => by
      obtain ⟨a, _, rfl⟩ := List.mem_map.mp (h.mem_iff.mp hv)
      rfl
    conv => lhs; rw [← List.map_id out]
    exact List.map_congr_left fun v hv => (this v hv).symm
theorem vals_refs (bs : List Addr) : Vals (bs.map V.ref) (bs.map Value.ref) := by
  induction bs with
  | nil => exact .nil
  | cons b r ih => exact .cons rfl ih
mutual
theorem Dp.xn {K : PySem.W.Frag} {H H' : Hp} (e : Xn H H') : ∀ (d : PyData) (v : V), Dp K H v d → Dp K H' v d
  | .none, _, h => by cases h; exact .non
  | .bool b, _, h => by cases h; exact .bl b
  | .int i, _, h => by cases h; exact .int i
  | .str x, _, h => by cases h; exact .str x
  | .list ds, _, h => by
    cases h with
    | lst hs ha => exact .lst (e.sqL hs) (DpAll.xn e ds _ ha)
  | .tuple ds, _, h => by
    cases h with
    | tup hs ha => exact .tup (e.sqT hs) (DpAll.xn e ds _ ha)
  | .dict _, _, h => by cases h
theorem DpAll.xn {K : PySem.W.Frag} {H H' : Hp} (e : Xn H H') : ∀ (ds : List PyData) (vs : List V), DpAll K H vs ds → DpAll K H' vs ds
  | [], _, h => by cases h; exact .nil
  | d :: ds, _, h => by
    cases h with
    | cons h1 h2 => exact .cons (Dp.xn e d _ h1) (DpAll.xn e ds _ h2)
end
/-- sorted(d, key=lambda x: y[x]), d a dict of standings -/
def tSortLam (K : PySem.W.Frag) (P : Program) (w : World) (i : Nat) (Pt : Addr) (q : Str) (td : TA) : TE := fun σ H Q => td σ H fun vs H1 => ∃ (d fd : Addr) (xs fs : SX) (enc : List Leaf → PyData),
  vs = [.ref d] ∧ SD P w H1 d xs ∧ σ[i]? = some (some (.ref fd)) ∧ SD P w H1 fd fs ∧ LamX.TabS H1 Pt q ∧ (∀ x ∈ xs, ∃ y, valS fs x.1 = some y ∧ Dp K H1 y (enc x.1) ∧ (∀ (h : Heap) (u : Value) (as : List Addr), Reads h u (enc x.1) as → as = []) ∧ (enc x.1).depth ≤ 20) ∧
  AllAlike (xs.map fun x => enc x.1) ∧ Sortable (xs.map fun x => enc x.1) ∧
  ∀ H2 p (ks : List Addr), Xn H1 H2 → (∀ b ps, b ≠ Pt → H1 b = some (.tbl ps) → H2 b = some (.tbl ps)) → LamX.TabS H2 Pt q → H2 p = none → ks.Perm (xs.map fun x => x.2.1) → Q (.ref p) (upd H2 p (.lst (ks.map V.ref)))
section
variable {X : Cx}
theorem pe_sortLam {kk i : Nat} {x y : Str} {p p1 p2 p3 pos kpos lpos : Pos} {e : Expr} {c Pt : Addr} {params : Arguments} {scope : Scope} {td : TA} (hr : Room kk X.A) (hg : Gl X "sorted") (hm : X.mg "sorted" = none) (TB : LamX.TabB X.base X.mg c Pt) (hcode : X.env.code = .ref c)
    (S : LSc X.env scope x y) (hd : PA X [e] td) (hN : X.N[i]? = some y) (hkd : X.env.kindOf y = some .cell ∨ X.env.kindOf y = some .free)
    (hbind : ∀ q cl pm c' ctv u, bindArgs (PySem.W.kla_fn "<lambda>" q params (.Subscript (.Name y p1) (.Name x p2) p3) scope cl pm c' ctv) ⟨[u], []⟩ = pure [(x, u)])
    (hdef : defaultsOf params X.env = ([], []))
    (hxd : (x == ("__debug__" : Str)) = false := by decide) (hyd : (y == ("__debug__" : Str)) = false := by decide) (hycd : (y == ("__classdict__" : Str)) = false := by decide)
    (he : backTo pos (starEach [e] X.env) = (false, eval e X.env) :: backTo pos (starEach [] X.env) := by rfl) (hpl : (backTo pos (starEach [e] X.env)).any (·.1) = false := by rfl) :
    PE X (.Call (.Name "sorted" p) [e] [⟨some "key", .Lambda params (.Subscript (.Name y p1) (.Name x p2) p3) scope lpos, kpos⟩] pos) (tSortLam X.K X.prog X.w i Pt (X.env.qual ++ "<lambda>") td) := by
  refine ⟨fun pins s σ H Q I h => ?_⟩
  refine wpAny_Call_Name_kw (ld_blt I hg hm (show bootBuiltins "sorted" = some (.builtin "sorted") by decide +kernel) ?_)
  refine PyProof.Rows.callWith_kw (thn (hd.run pos pins s σ H _ I h) fun us s1 ⟨vs, H1, I1, r1, d, fd, xs, fs, enc, ev, gd, hσ, gf, hT, hval, hal, hso, q1⟩ => ?_) he hpl (by rfl) (by rfl)
  subst ev
  obtain rfl := Vals.ref1 r1
  show wpAny _ _ (evalAll [do let v ← eval (.Lambda params (.Subscript (.Name y p1) (.Name x p2) p3) scope lpos) X.env; standAt pos; pure v]) _ _ s1
  refine wpAny_evalAll_cons (wpAny_bind (lam_make3 I1 TB hcode hT hdef (fun z hz e => I1.ok.has _ (S.free z hz e)) fun f c' pm ctv H2 s2 I2 xn ht2 hT2 hf nf hc' => wpAny_bind (wpAny_standAt (wpAny_pure ?_))))
  refine wpAny_evalAll_nil ?_
  show wpAny _ _ (call (.builtin "sorted") [.ref d] [(Str.ofString "key", .ref f)]) _ _ s2
  have gd2 := gd.xn xn
  have gf2 := gf.xn xn
  obtain ⟨hz, lo, vs, rel, dd⟩ := sd_rd I2.hok gd2
  obtain ⟨o, es, ep, ho, hex, hdat, hes, his, hnd⟩ := id dd
  have hsz : es.size = vs.length := by rw [← Array.length_toList, hes, List.length_map]
  have hlen : vs.length = xs.length := (Paired.length rel).symm
  refine PyProof.Rows.call_function_entry_kw PyProof.Rows.kind_sorted PyProof.Rows.plain_sorted PyProof.Rows.entry_sorted (PyProof.Rows.ksk_s1 _ _) ?_
  unfold Builtin.«sorted»
  refine wpAny_bind (m := checkCount "sorted" 1 1 _) (wpAny_pure ?_)
  refine wpAny_bind (kdu_collect (A := X.A.in1) (KdlSrc.rawDict (es := es) (ep := ep) lo) hr.hd ⟨o, ho, hex, hdat⟩ (by omega) fun h' tk acc hk hacc => ?_)
  have hal' : acc.toList = (xs.map fun x => x.2.1).map Value.ref := by
    refine List.ext_getElem? fun j => ?_
    rw [List.map_map, List.getElem?_map]
    cases q : xs[j]? with
    | none =>
      rw [List.getElem?_eq_none_iff] at q
      rw [List.getElem?_eq_none_iff.mpr (by rw [Array.length_toList, hacc.1]; omega)]; rfl
    | some x0 =>
      have hj : j < xs.length := (List.getElem?_eq_some_iff.mp q).1
      have hj2 : j < acc.toList.length := by rw [Array.length_toList, hacc.1]; omega
      obtain ⟨y0, e1, e2⟩ := paired_get rel q
      obtain ⟨hi, e3⟩ := hacc.2 j acc.toList[j] (by rw [← Array.getElem?_toList]; exact List.getElem?_eq_getElem hj2)
      rw [List.getElem?_eq_getElem hj2, e3]
      have e4 := entry_at hes j
      rw [Array.getElem?_eq_getElem hi, e1] at e4
      rw [Option.some.inj e4]
      show some (Value.ref y0.2.1) = some (Value.ref x0.2.1)
      rw [e2.2.1]
  rw [hal']
  have hlx : ((xs.map fun x => x.2.1).map Value.ref).length = xs.length := by rw [List.length_map, List.length_map]
  refine wpAny_bind (wpAny_newList ?_ (by rw [hlx]; exact hz))
  have hoL : (h'.push (seqObj "list" ((xs.map fun x => x.2.1).map Value.ref).toArray 0)).get? h'.objs.size = some (seqObj "list" ((xs.map fun x => x.2.1).map Value.ref).toArray 0) := Heap.get?_push_size _ rfl
  show wpAny _ _ _ _ _ { s2 with heap := h'.push (seqObj "list" ((xs.map fun x => x.2.1).map Value.ref).toArray 0), toks := tk }
  have kL : ∀ b o, h'.get? b = some o → (h'.push (seqObj "list" ((xs.map fun x => x.2.1).map Value.ref).toArray 0)).get? b = some o := fun b o e => Heap.get?_push_of_some _ e
  refine wpAny_bind (wpAny_holding (wpAny_call_entry_kw PyProof.Rows.slot_list_sort ⟨_, hoL, rfl⟩ PyProof.Rows.entry_list_sort ?_ (PyProof.Rows.ksk_l1 _ _)))
  rw [PyProof.Rows.ksk_t1]
  refine keyH_tree (s := { s2 with heap := h'.push (seqObj "list" ((xs.map fun x => x.2.1).map Value.ref).toArray 0), toks := tk }) (kz := xs.map fun x => enc x.1) hoL (by rw [hlx, List.length_map]) (by rw [hlx]; exact hz) hal hso (fun D hD => ?_) (fun j v D hv hD g tk2 kp => ?_) fun g tk2 out c2 kp hD ko => ?_
  · obtain ⟨x0, hx0, rfl⟩ := List.mem_map.mp hD
    obtain ⟨_, _, _, _, hdp⟩ := hval x0 hx0
    have := hr.un
    show X.A.units + 1 + 1 + (enc x0.1).depth < cLine
    omega
  · rw [List.map_map, List.getElem?_map] at hv
    rw [List.getElem?_map] at hD
    cases q : xs[j]? with
    | none => rw [q] at hv; cases hv
    | some x0 =>
      rw [q] at hv hD
      obtain rfl : v = Value.ref x0.2.1 := (Option.some.inj hv).symm
      obtain rfl : D = enc x0.1 := (Option.some.inj hD).symm
      have hx0 := List.mem_of_getElem? q
      obtain ⟨yv, e1, e2, e3, e4⟩ := hval x0 hx0
      have e2' : Dp X.K H2 yv (enc x0.1) := Dp.xn xn _ _ e2
      refine lam_get I2 S hf hc' (fun u => hbind _ _ _ _ _ u) hN hσ hkd gf2 (gd2.2 x0 hx0) e1 e2' e3 ?_ ?_ g tk2 (fun b o e => ?_) hxd hyd hycd
      · have := hr.dp
        show X.A.depth < recursionLimit
        omega
      · have := hr.un
        show X.A.units + 1 + 1 + 10 < cLine
        omega
      · exact kp b o (Nat.ne_of_lt (Heap.lt_size (hk b o e))) (kL b o (hk b o e))
  · obtain ⟨bs, hb, rfl⟩ := refs_perm (keyed_perm ko (by rw [hlx, List.length_map]))
    refine ⟨.none, rfl, wpAny_pure ⟨_, rfl, ?_⟩⟩
    have I3 : Inv X pins σ H2 { s2 with heap := h', toks := tk } := I2.kept hk
    refine ⟨.ref h'.objs.size, upd H2 h'.objs.size (.lst (bs.map V.ref)), I3.laid (t' := tk2) (fun b o e => kp b o (Nat.ne_of_lt (Heap.lt_size e)) (kL b o e)) (Nat.le_refl _) ⟨?_, bs.map Value.ref, c2, vals_refs bs, hD⟩, rfl, q1 H2 _ bs xn ht2 hT2 (I3.hok.fresh (Nat.le_refl _)) hb⟩
    · rw [List.length_map, hb.length_eq, List.length_map]; exact hz
end
end HT
/-! text E1 -/
set_option maxHeartbeats 4000000
namespace HT
open PySem PySem.Spec PyProof.Rows L2
/-! ### enumerate(t), t a tuple -/
theorem meets_enumT (a : Addr) (items : Array Value) :
    Meets (Builtin.«enumerate.__new__» ⟨[.type "enumerate", .ref a], []⟩) (fun _ R s => s.heap.IsTuple a items ∧
      R (.ok (.ret (.ref (s.heap.push { cls := .type "tuple_iterator", data := .fields #[.ref a, .int 0 0] }).objs.size)))
        { s with heap := (s.heap.push { cls := .type "tuple_iterator", data := .fields #[.ref a, .int 0 0] }).push { cls := .type "enumerate", data := .fields #[.none, .bool false, .ref s.heap.objs.size, rawInt 0, .none, .none] } }) :=
  .of_wp fun prog w A R s h => by
    obtain ⟨hp, g, d, tk, os⟩ := s; obtain ⟨h1, h⟩ := h
    have hsub := sub_enumerate
    have q1 : ∀ {A' : Around} {E : Value → Shared → Prop} {Q : Value → Shared → Prop}, Q (.ref hp.objs.size) ⟨hp.push { cls := .type "tuple_iterator", data := .fields #[.ref a, .int 0 0] }, g, d, tk, os⟩ → wpAny (model prog w) A' (pyIter (.ref a)) Q E ⟨hp, g, d, tk, os⟩ :=
      fun q => wpAny_pyIter_tuple h1 q
    wp_walk using q1
    refine wpAny_stack_any fun st => wpAny_pure ?_
    split
    · rename_i c _ _ _ _ _
      cases (c == Value.type "enumerate")
      · wp_walk using q1
        exact ⟨_, rfl, h⟩
      · wp_walk using q1
        exact ⟨_, rfl, h⟩
    · wp_walk using q1
      exact ⟨_, rfl, h⟩
section
variable {prog : Program} {w : World} {A : Around} {E : Value → Shared → Prop} {s : Shared}
theorem call_enumT {a : Addr} {items : Array Value} {Q : Value → Shared → Prop} (hL : s.heap.IsTuple a items)
    (h : ∀ h', IsEnum h' (s.heap.objs.size + 1) s.heap.objs.size 0 .none → h'.IsTupleIter s.heap.objs.size a 0 → h'.objs.size = s.heap.objs.size + 2 →
      (∀ b o, s.heap.get? b = some o → h'.get? b = some o) → Q (.ref (s.heap.objs.size + 1)) { s with heap := h' }) :
    wpAny (model prog w) A (call (.type "enumerate") [.ref a]) Q E s := by
  refine callType_new F.called_enumerate (by decide) (F.typeCall_enumerate_1 _) (F.newCall_enumerate_1 _) (fun obj => F.args_object_init_2 obj _) F.entry_enumerate_new
    (meets_enumT a items) ⟨hL, ?_⟩
  have hz : (s.heap.push { cls := .type "tuple_iterator", data := .fields #[.ref a, .int 0 0] }).objs.size = s.heap.objs.size + 1 := Heap.size_push ..
  show _ ∧ _
  rw [hz]
  have he : IsEnum ((s.heap.push { cls := .type "tuple_iterator", data := .fields #[.ref a, .int 0 0] }).push
      { cls := .type "enumerate", data := .fields #[.none, .bool false, .ref s.heap.objs.size, rawInt 0, .none, .none] }) (s.heap.objs.size + 1) s.heap.objs.size 0 .none := by
    have := Heap.get?_push_size (s.heap.push { cls := .type "tuple_iterator", data := .fields #[.ref a, .int 0 0] })
      (o := { cls := .type "enumerate", data := .fields #[.none, .bool false, .ref s.heap.objs.size, rawInt 0, .none, .none] }) rfl
    rw [hz] at this; exact this
  refine ⟨⟨_, he, rfl⟩, h _ he ⟨_, Heap.get?_push_of_some _ (Heap.get?_push_size _ rfl), rfl, rfl⟩ (by rw [Heap.size_push, hz]) fun b o x => Heap.get?_push_of_some _ (Heap.get?_push_of_some _ x)⟩
end
/-- the tuple at a, each item in a new pair -/
def IteT (K : PySem.W.Frag) (a : Addr) : It :=
  ⟨fun i H => ∃ (xs : List V) (x : V), SqT K H a xs ∧ xs[i]? = some x, fun i H v H' => ∃ T x, v = .ref T ∧ H T = none ∧ H' = upd H T (.tup [.int (i : Nat), x]) ∧ ∀ xs, SqT K H a xs → xs[i]? = some x, fun i H => ∃ xs : List V, SqT K H a xs ∧ xs.length ≤ i⟩
theorem turn_enumT {P : Program} {w : World} {K : PySem.W.Frag} {elts : List Expr} {kk : Nat} {tpos : Pos} (a e it : Addr) :
    Turn P w K (.Tuple elts kk tpos) (IteT K a) [e, it] e (fun i h => (∃ old, IsEnum h e it ((i : Nat) : Int) old) ∧ h.IsTupleIter it a i ∧ e ≠ it ∧ a ≠ it ∧ e ≠ a) where
  mem := by simp
  obj := fun i h st b hb => by
    obtain ⟨⟨old, he⟩, ⟨o, ho, hc, hd⟩, _⟩ := st
    have e' : b = e ∨ b = it := by simpa using hb
    rcases e' with z | z
    · rw [z]; exact ⟨_, he, fun v q => nomatch q⟩
    · rw [z]; exact ⟨o, ho, fun v q => by rw [hd] at q; cases q⟩
  keep := fun i h h' st k => let ⟨⟨old, he⟩, hi, hne⟩ := st; ⟨⟨old, k e (by simp) _ he⟩, hi.at fun o q => k it (by simp) o q, hne⟩
  item := by
    intro X hP hw hK hc i pins s σ H E I hf st hg
    subst hP hw hK
    obtain ⟨⟨old, he⟩, hit, hne, hai, hea⟩ := st
    obtain ⟨xs, x, hq, hx⟩ := hg
    obtain ⟨its, rv, p, hz⟩ := I.tuple hq
    obtain ⟨u, hu, ru⟩ := rv.get hx
    have hel : e < s.heap.objs.size := Heap.lt_size he
    have hil : it < s.heap.objs.size := by obtain ⟨_, q, _⟩ := hit; exact Heap.lt_size q
    have pT : s.heap.IsTuple a its.toArray := p
    have hi : i < its.toArray.size := by
      rw [List.size_toArray]
      exact (List.getElem?_eq_some_iff.mp hu).1
    refine wpAny_pyNext_enum_itemD (Draws.tuple (A := X.A.in1) (I.ok.hd hc) it a hai its.toArray) he ⟨hit, pT⟩ hi hne (by simp [hne, hea]) fun x' h' tk hx' ho hst' hT hsz hk => ?_
    obtain rfl : x' = u := by
      have : its[i]? = some x' := by simpa using hx'
      rw [hu] at this
      exact (Option.some.inj this).symm
    obtain ⟨hit', _⟩ := hst'
    refine ⟨_, rfl, wpAny_letOwnedTupleGo_enum (s := { s with heap := h', toks := tk + 1 }) ho fun h'' he' sb => ?_⟩
    have hT2 : h''.get? s.heap.objs.size = some { cls := .type "tuple", data := .seq #[.int i tk, x'] } := (sb.2 _ (Nat.ne_of_gt hel)).trans hT
    have new : ObjOk X.prog X.w (upd H s.heap.objs.size (.tup [.int (i : Nat), x])) h'' s.heap.objs.size (.tup [.int (i : Nat), x]) :=
      ⟨by show 2 ≤ sizeLine; decide, [.int i tk, x'], .cons ⟨_, rfl⟩ (.cons ru .nil), ⟨_, hT2, rfl, _, rfl⟩⟩
    have I1 : Inv X pins σ (upd H s.heap.objs.size (.tup [.int (i : Nat), x])) { s with heap := h'', toks := tk + 1 } :=
      I.turnedNew (ch := [e, it]) (fun b ob hb q => (sb.2 b (fun z => hb (by simp [z]))).trans (hk b ob (fun z => hb (by simp [z])) (fun z => hb (by simp [z])) q)) hf (Nat.le_refl _) new
    refine ⟨.ref s.heap.objs.size, _, I1, rfl, ⟨_, x, rfl, I.hok.fresh (Nat.le_refl _), rfl, fun ys hy => by rw [I.tuple_inj hy hq]; exact hx⟩, ⟨⟨x', ?_⟩, hit'.at fun o q => (sb.2 it (Ne.symm hne)).trans q, hne, hai, hea⟩, fun b hb => ?_⟩
    · have e1 : ((i + 1 : Nat) : Int) = (i : Int) + 1 := by omega
      rw [e1]; exact he'
    · have hb' : b < s.heap.objs.size := by
        have e' : b = e ∨ b = it := by simpa using hb
        rcases e' with z | z
        · rw [z]; exact hel
        · rw [z]; exact hil
      rw [upd_ne (Nat.ne_of_lt hb')]
      exact (hf b hb).1
  done := by
    intro X hP hw hK hc i pins s σ H E I hf st hg
    subst hP hw hK
    obtain ⟨⟨old, he⟩, hit, hne, hai, hea⟩ := st
    obtain ⟨xs, hq, hx⟩ := hg
    obtain ⟨its, rv, p, hz⟩ := I.tuple hq
    obtain ⟨f0, f1, f2, f3, f4, f5⟩ := hf it (by simp)
    have hl := rv.length
    have pT : s.heap.IsTuple a its.toArray := p
    have D : Draws X.prog X.w X.A.in1 it [it, a] i (fun _ _ => False) (fun j h => j = i ∧ h.IsTupleIter it a i ∧ h.IsTuple a its.toArray) :=
      { live := fun _ _ st => let ⟨o, ho, _⟩ := st.2.1; ⟨o, ho⟩
        frame := fun _ _ _ st hk => ⟨st.1, st.2.1.at fun o e => hk it (by simp) o e, st.2.2.at fun o e => hk a (by simp) o e⟩
        item := fun j s Q E hi st hQ => absurd st.1 (Nat.ne_of_lt hi)
        done := fun s Q E st hE => wpAny_nextOf_tuple_end (I.ok.hd hc) st.2.1 st.2.2 (by simp; omega) hE }
    exact wpAny_pyNext_enum_endD D he ⟨rfl, hit, pT⟩ fun h' eb => ⟨rfl, I.turned (t' := s.toks) (fun b o hb q => eb b o hb q) f0 f1 f3 f4 f5⟩
  self := fun A i s Q E st h => let ⟨⟨_, he⟩, _⟩ := st; wpAny_pyIter_enum he h
def iEnumT (K : PySem.W.Frag) (ta : TA) : TI := fun σ H R => ta σ H fun vs H1 => ∃ a xs, vs = [.ref a] ∧ SqT K H1 a xs ∧ R (IteT K a) H1
theorem pi_enumT {X : Cx} {e : Expr} {ta : TA} {p pos tpos : Pos} {elts : List Expr} {kk : Nat} (hg : Gl X "enumerate") (hm : X.mg "enumerate" = none) (ha : PA X [e] ta) (hs : starEach [e] X.env = [(false, eval e X.env)] := by rfl) :
    PI X (.Tuple elts kk tpos) (.Call (.Name "enumerate" p) [e] [] pos) (iEnumT X.K ta) := by
  refine ⟨fun pins s σ H R I h => ?_⟩
  refine Call_ (ld_blt I hg hm boot_enumerate (PyProof.Rows.callWith_type1 (thn (ha.run pos pins s σ H _ I h) fun us s1 ⟨vs, H1, I1, r1, q1⟩ => ?_) hs rfl))
  obtain ⟨a, xs, ex, hq, q⟩ := q1
  subst ex
  cases r1 with
  | cons r rr =>
    cases rr
    cases r
    obtain ⟨its, rv, p', hz⟩ := I1.tuple hq
    have pT : s1.heap.IsTuple a its.toArray := p'
    have hal : a < s1.heap.objs.size := by obtain ⟨_, e, _⟩ := pT; exact Heap.lt_size e
    refine call_enumT pT fun h' he hit hsz hk => wpAny_pyIter_enum he ?_
    have I2 : Inv X pins σ H1 { s1 with heap := h' } := I1.kept (t' := s1.toks) hk
    refine ⟨s1.heap.objs.size + 1, [s1.heap.objs.size + 1, s1.heap.objs.size], _, _, H1, rfl, I2, turn_enumT a (s1.heap.objs.size + 1) s1.heap.objs.size, ⟨⟨.none, he⟩, hit, Nat.succ_ne_self _, Nat.ne_of_lt hal, Nat.ne_of_gt (Nat.lt_succ_of_lt hal)⟩, fun b hb => ?_, q⟩
    have e' : b = s1.heap.objs.size + 1 ∨ b = s1.heap.objs.size := by simpa using hb
    have hle : s1.heap.objs.size ≤ b := by
      rcases e' with z | z
      · rw [z]; exact Nat.le_add_right _ _
      · rw [z]; exact Nat.le_refl _
    exact I1.fpOk hle (I1.hok.fresh hle)
theorem walk_enumT {K : PySem.W.Frag} {a : Addr} {xs : List V} : Walk (IteT K a) xs.length (fun H => SqT K H a xs) (YPair (fun i => some (.int (i : Nat))) (fun i => xs[i]?)) := by
  refine ⟨fun i _ hi q => ⟨xs, xs[i], q, by simp [hi]⟩, fun _ q => ⟨xs, q, Nat.le_refl _⟩, fun i H v H' _ q y => ?_⟩
  obtain ⟨T, x, h1, h2, h3, h4⟩ := y
  exact ⟨T, .int (i : Nat), x, h1, h2, h3, rfl, h4 xs q⟩
end HT
/-! text A6 -/
set_option maxHeartbeats 4000000
namespace HT
open PySem PySem.Spec PyProof.Rows L2
open GxR (TabG Tabbed)
/-! ### tables -/
theorem lam_not {K : PySem.W.Frag} {mg : Str → Option Value} (T : Txt K mg) : ¬ LamT K (tabP K "are_ties") ∧ ¬ LamT K (tabP K "need_standing") ∧ ¬ LamT K (tabP K "is_instruction") ∧ ¬ LamT K (tabP K "room_of") ∧ tabP K "words_from" ≠ tabP K "law" := by
  obtain ⟨_, _, _, _, c⟩ := T.ex
  have h := c.more
  unfold ex at h
  rw [Bool.and_eq_true, Bool.and_eq_true] at h
  have h := of_decide_eq_true h.1.1
  unfold tf at h
  simp only [List.map_cons, List.map_nil, List.nodup_cons, List.mem_cons, List.not_mem_nil, or_false, not_or] at h
  obtain ⟨⟨_, _, _, a1, a2⟩, ⟨_, _, b1, b2⟩, ⟨_, c1, c2⟩, ⟨d1, d2⟩, e1, _⟩ := h
  refine ⟨fun z => z.elim a1 a2, fun z => z.elim b1 b2, fun z => z.elim c1 c2, fun z => z.elim d1 d2, e1⟩
def Tbs (K : PySem.W.Frag) (mg : Str → Option Value) (base : Heap) : Prop := ∀ p ∈ tf, GxR.TabB base mg (He.cT K p).1 (He.cT K p).2 ∧ K.lookup (He.cT K p).2 = none
def TbH (K : PySem.W.Frag) (H : Hp) : Prop := ∀ p ∈ tf, TabG H (He.cT K p).2
theorem TbH.sg {K : PySem.W.Frag} {H H' : Hp} (e : Sg K H H') (h : TbH K H) : TbH K H' := fun p hp => TabG.sg e (h p hp)
theorem mem_tf0 : (("are_ties", none) : He.Defn) ∈ tf := List.mem_cons_self ..
theorem mem_tf1 : (("need_standing", none) : He.Defn) ∈ tf := List.mem_cons_of_mem _ (List.mem_cons_self ..)
theorem mem_tf3 : (("room_of", none) : He.Defn) ∈ tf := List.mem_cons_of_mem _ (List.mem_cons_of_mem _ (List.mem_cons_of_mem _ (List.mem_cons_self ..)))
def gscB (sc scope : Scope) (x : Str) : Bool :=
  (match scope.kind with | .function => true | _ => false) && !scope.isCoroutine && (scope.names.all fun y => match y.2 with | .cell => false | _ => true) && decide (scope.names.lookup (".0" : Str) = some NameKind.local) && decide (scope.names.lookup x = some NameKind.local) &&
    (scope.names.all fun y => match y.2 with | .free => decide (sc.names.lookup y.1 = some .cell) || decide (sc.names.lookup y.1 = some .free) | _ => true)
theorem gsc_by {env : Env} {sc scope : Scope} {x : Str} (h : gscB sc scope x = true) (he : env.scope = sc) : GSc env scope x := by
  unfold gscB at h
  simp only [Bool.and_eq_true, List.all_eq_true, decide_eq_true_eq, Bool.not_eq_true'] at h
  obtain ⟨⟨⟨⟨⟨h1, h2⟩, h3⟩, h4⟩, h5⟩, h6⟩ := h
  refine ⟨?_, h2, fun y hy e => ?_, h4, h5, fun y hy e => ?_⟩
  · split at h1
    · assumption
    · cases h1
  · have := h3 y hy
    rw [e] at this
    cases this
  · have q := h6 y hy
    rw [e] at q
    show env.scope.names.lookup y.1 = some .cell ∨ env.scope.names.lookup y.1 = some .free
    rw [he]
    simpa using q
theorem cut1 (xs : List V) : cutV xs (some 1) none = xs.drop 1 := by
  unfold cutV
  rw [show _root_.HT.sIx xs.length 0 (some 1) = min 1 xs.length from _root_.HT.sIx_nat xs.length 0 1, _root_.HT.sIx_none]
  cases xs with
  | nil => rfl
  | cons x r =>
    rw [show min 1 (x :: r).length = 1 by rw [List.length_cons]; omega]
    show (List.take ((x :: r).length - 1) r) = r
    rw [List.length_cons, Nat.add_sub_cancel]
    exact List.take_length
/-! ### yards -/
def lexP (p q : Nat × Nat) : Prop := p.1 < q.1 ∨ (p.1 = q.1 ∧ p.2 < q.2)
structure TiesOk (n : Nat) (T : List (Nat × Nat)) : Prop where
  n2 : 2 ≤ n
  n7 : n ≤ 7
  ord : ∀ t ∈ T, t.1 < t.2 ∧ t.2 < n
  asc : T.Pairwise lexP
  ne : T ≠ []
  len : T.length < 32
  con : ∀ v, v < n → Reach T [] 0 v
theorem TiesOk.bnd {n : Nat} {T : List (Nat × Nat)} (h : TiesOk n T) : Bnd n T := fun t ht => ⟨by have := h.ord t ht; omega, (h.ord t ht).2⟩
theorem lexLt_of {p q : Nat × Nat} (h : lexP p q) : _root_.HT.lexLt [(p.1 : Int), (p.2 : Int)] [(q.1 : Int), (q.2 : Int)] = true := by
  unfold _root_.HT.lexLt
  rcases h with h | ⟨h, h'⟩
  · rw [if_neg (by omega)]; exact decide_eq_true (by omega)
  · rw [if_pos (by omega)]
    unfold _root_.HT.lexLt
    rw [if_neg (by omega)]; exact decide_eq_true (by omega)
section
variable {P : Program} {w : World} {K : PySem.W.Frag} {mg : Str → Option Value} {base : Heap}
theorem sc_are_ties : FnScope ["places", "value", "tie"] ["places", "value"] (defScope s_are_ties) := ⟨rfl, rfl, rfl, by decide +kernel, rfl, by decide +kernel, by decide +kernel⟩
def spAreTies (K : PySem.W.Frag) : Sp := fun vs H Q _ => ∃ (n : Nat) (a : Addr) (T : List (Nat × Nat)), vs = [.int n, .ref a] ∧ TiesAt H a T ∧ TiesOk n T ∧ TbH K H ∧ ∀ H', Sg K H H' → Q (.bl true) H'
theorem ok_are_ties (T : Txt K mg) (B : Tbs K mg base) : Ok P w K mg base CX0 2 "are_ties" ["places", "value"] (spAreTies K) := by
  refine ok_of (f_are_ties T) (g_are_ties T) sc_are_ties (fun _ _ _ _ _ _ us hl => match us, hl with | [_, _], _ => rfl) (fun vs H Q E h => ?_) (fun cdv A outer s H vs Q E hcd hr h => ?_)
  · obtain ⟨n, a, T, rfl, _⟩ := h
    rfl
  · obtain ⟨n, a, Ts, rfl, hT, hY, hB, q⟩ := h
    have nd := sc_are_ties.nd
    obtain ⟨TB, kP⟩ := B _ mem_tf0
    refine ⟨_, pss_cons (ps_if (pt_not (pt_val (pe_callB call_isi (by rfl) (m_isinstance T) (by decide +kernel) (pa_cons (pv 1) (pa_cons (pe_bltn (v := .ty "tuple") (by rfl) (m_tuple T) (by decide +kernel) rfl) pa_nil))))) (pss_one (ps_ret pe_bl)) pss_nil)
      (pss_cons (ps_for PassesOwn.never rfl (pi_tup (pv 1)) (pg_name (i := 2) nd rfl (.inl rfl))
        (pss_cons (ps_if (PW.pt (pw_or (pt_not (pt_val (pe_callB call_isi (by rfl) (m_isinstance T) (by decide +kernel) (pa_cons (pv 2) (pa_cons (pe_bltn (v := .ty "tuple") (by rfl) (m_tuple T) (by decide +kernel) rfl) pa_nil)))))
            (pw_or (pt_cmpR op_ne (pe_callB call_len_seq (by rfl) (m_len T) PySem.boot_len (pa_cons (pv 2) pa_nil)) pe_int (nomark _))
              (pw_or1 (pt_not (pt_val (pe_allG hr (by rfl) (m_all T) TB (by exact hcd) (gsc_by (sc := defScope s_are_ties) (by decide +kernel) rfl) (pv 2) (by intro v; rfl) kP))))))) (pss_one (ps_ret pe_bl)) pss_nil)
        (pss_one (ps_if (pt_cmpR op_ge (pe_ix ix_tup (pv 2) pe_int (fun _ _ => rfl)) (pe_ix ix_tup (pv 2) pe_int (fun _ _ => rfl)) (nomark _)) (pss_one (ps_ret pe_bl)) pss_nil))))
      (pss_one (ps_ret (pe_allZ hr (by rfl) (m_all T) (by rfl) (m_zip T) TB (by exact hcd) (gsc_by (sc := defScope s_are_ties) (by decide +kernel) rfl) (by rfl) (by decide) (pa_cons (pv 1) (pa_cons (pe_slice sl_tupA (pv 1) (po_some pe_int) po_none) pa_nil)) (by intro v; rfl))))), ?_⟩
    obtain ⟨ts, ha, hp⟩ := hT
    have lT : ts.length = Ts.length := Paired.length hp
    refine ⟨_, rfl, _, _, _, _, true, rfl, .ty "tuple", .base (.tup ha), kit_ty (by decide +kernel), _, rfl, iteF ?_⟩
    refine ⟨_, rfl, a, rfl, ⟨_, SqT.of ha⟩, for_tup (K := K) (a := a) (xs := ts.map V.ref) (fun i σ H' => ∃ y2, σ = [some (.int n), some (.ref a), y2] ∧ Sg K H H') ⟨none, rfl, Sg.refl K H⟩ (fun i σ H' _ z => SqT.of (z.choose_spec.2.tup ha)) (fun i x σ H' hx z => ?_) (fun σ H' z => ?_)⟩
    · obtain ⟨y2, rfl, sm⟩ := z
      obtain ⟨t, u, rfl, e1, e2, e3⟩ := TiesAt.get hp hx
      have ht := sm.tup e3
      have hu := hY.ord u (List.mem_of_getElem? e2)
      refine ⟨_, rfl, _, _, _, _, true, rfl, .ty "tuple", .base (.tup ht), kit_ty (by decide +kernel), _, rfl, iteF ?_⟩
      refine ⟨_, rfl, t, _, rfl, .inr (SqT.of ht), rfl, _, rfl, iteNS rfl ?_⟩
      refine ⟨_, rfl, t, _, [true, true], rfl, .inr (SqT.of ht), (hB.sg sm) _ mem_tf0, rfl, fun pins j v hv => ?_, fun H2 tb => ⟨_, rfl, iteF ?_⟩⟩
      · obtain ⟨k, hk, rfl⟩ : ∃ k : Nat, k < n ∧ v = .int k := by
          match j, hv with
          | 0, hv => exact ⟨u.1, by omega, (Option.some.inj hv).symm⟩
          | 1, hv => exact ⟨u.2, by omega, (Option.some.inj hv).symm⟩
          | j + 2, hv => simp at hv
        have hj : trB [true, true] j = true := by
          match j, hv with
          | 0, _ => rfl
          | 1, _ => rfl
          | j + 2, hv => simp at hv
        rw [hj]
        refine EltOk.of_eq (show isNum 0 ((n : Int) - 1) (.int (k : Int)) = true by rw [isNum_int, decide_eq_true (by omega), decide_eq_true (by omega)]; rfl) (elt_isnum T hr ((hB.sg sm) _ mem_tf0) kP rfl rfl rfl rfl rfl (fun s1 C code A' E' s₂ I M2 hk => ?_) (by intro env; rfl))
        refine wpAny_BinOp (ev_capt (i := 0) (v := .int n) I rfl rfl (.inl rfl) (tabg_ne ((hB.sg sm) _ mem_tf0)) hk fun u ru => ?_)
        obtain ⟨t1, rfl⟩ := ru
        exact wpAny_Constant_int (sub_int ⟨_, rfl, keeps_refl' _ _⟩)
      · have s2 := sm.trans (Tabbed.sg tb ((hB.sg sm) _ mem_tf0) (lam_not T).1)
        refine ⟨_, rfl, t, _, 0, .int u.1, rfl, rfl, SqT.of (s2.tup e3), atI_nat (j := 0) rfl, _, rfl, t, _, 1, .int u.2, rfl, rfl, SqT.of (s2.tup e3), atI_nat (j := 1) rfl, u.1, u.2, rfl, rfl, _, rfl, ite2 (fun c => ?_) (fun c => ?_)⟩
        · have := of_decide_eq_true c
          omega
        · exact ⟨_, rfl, s2⟩
    · obtain ⟨y2, rfl, sm⟩ := z
      have hl : 0 < ts.length := by
        rw [lT]
        exact List.length_pos_iff.mpr hY.ne
      have hcut := cut1 (ts.map V.ref)
      refine ⟨_, rfl, _, rfl, 1, rfl, a, _, rfl, SqT.of (sm.tup ha), fun z => ?_, fun _ p np => ?_⟩
      · have z1 := z.1
        rw [show _root_.HT.sIx (ts.map V.ref).length 0 (some 1) = min 1 (ts.map V.ref).length from _root_.HT.sIx_nat (ts.map V.ref).length 0 1, List.length_map] at z1
        omega
      · have s2 := sm.new (u := .tup (cutV (ts.map V.ref) (some 1) none)) np
        rw [hcut] at s2 ⊢
        refine ⟨a, p, _, _, List.replicate (ts.length - 1) true, rfl, SqT.of (s2.tup ha), SqT.of upd_same, (hB.sg s2) _ mem_tf0, ?_, fun pins i v v' hv hv' => ?_, fun H2 tb => ?_⟩
        · rw [List.length_replicate, List.length_drop, List.length_map]; omega
        · obtain ⟨t, u, rfl, e1, e2, e3⟩ := TiesAt.get hp hv
          rw [List.getElem?_drop, Nat.add_comm] at hv'
          obtain ⟨t', u', rfl, f1, f2, f3⟩ := TiesAt.get hp hv'
          have hi : i + 1 < Ts.length := (List.getElem?_eq_some_iff.mp f2).1
          have hlex : lexP u u' := by
            have := List.pairwise_iff_getElem.mp hY.asc i (i + 1) (by omega) hi (by omega)
            rw [(List.getElem?_eq_some_iff.mp e2).2, (List.getElem?_eq_some_iff.mp f2).2] at this
            exact this
          rw [show trB (List.replicate (ts.length - 1) true) i = _root_.HT.lexLt [(u.1 : Int), (u.2 : Int)] [(u'.1 : Int), (u'.2 : Int)] by
            rw [lexLt_of hlex]
            unfold trB
            rw [List.getD_eq_getElem?_getD, List.getElem?_replicate, if_pos (by omega)]; rfl]
          exact elt_lt2 hr ((hB.sg s2) _ mem_tf0) rfl rfl rfl rfl rfl (SqT.of (s2.tup e3)) (SqT.of (s2.tup f3))
        · rw [show (List.replicate (ts.length - 1) true).all id = true by rw [List.all_eq_true]; intro x hx; rw [List.eq_of_mem_replicate hx]; rfl]
          exact q H2 (s2.trans (Tabbed.sg tb ((hB.sg s2) _ mem_tf0) (lam_not T).1))
end
end HT
/-! text A7 -/
set_option maxHeartbeats 4000000
namespace HT
open PySem PySem.Spec PyProof.Rows L2
open GxR (TabG Tabbed)
/-- at y a yard -/
def YardAt (H : Hp) (y : Addr) (n : Nat) (T : List (Nat × Nat)) (g : Nat) : Prop := ∃ a, H y = some (.tup [.int (n : Int), .ref a, .int (g : Int)]) ∧ TiesAt H a T
theorem YardAt.xn {H H' : Hp} {y : Addr} {n g : Nat} {T : List (Nat × Nat)} (e : Xn H H') (h : YardAt H y n T g) : YardAt H' y n T g := let ⟨a, h1, h2⟩ := h; ⟨a, e.tup h1, h2.xn e⟩
theorem YardAt.sm {H H' : Hp} {y : Addr} {n g : Nat} {T : List (Nat × Nat)} (e : Sm H H') (h : YardAt H y n T g) : YardAt H' y n T g := let ⟨a, h1, h2⟩ := h; ⟨a, e.tup h1, h2.sm e⟩
structure YardOk (n : Nat) (T : List (Nat × Nat)) (g : Nat) : Prop extends TiesOk n T where
  gate : g < n
section
variable {P : Program} {w : World} {K : PySem.W.Frag} {mg : Str → Option Value} {base : Heap}
/-! ### need_yard, of a yard -/
def spNeedYard (K : PySem.W.Frag) : Sp := fun vs H Q _ => ∃ (y : Addr) (n g : Nat) (T : List (Nat × Nat)), vs = [.ref y] ∧ YardAt H y n T g ∧ YardOk n T g ∧ TbH K H ∧ ∀ H', Sg K H H' → Q .non H'
theorem sc_need_yard : FnScope ["value", "places", "ties", "gate"] ["value"] (defScope s_need_yard) := ⟨rfl, rfl, rfl, by decide +kernel, rfl, by decide +kernel, by decide +kernel⟩
theorem ok_need_yard (T : Txt K mg) (B : Tbs K mg base) : Ok P w K mg base CX0 3 "need_yard" ["value"] (spNeedYard K) := by
  refine ok_of (f_need_yard T) (g_need_yard T) sc_need_yard (fun _ _ _ _ _ _ us hl => match us, hl with | [_], _ => rfl) (fun vs H Q E h => ?_) (fun cdv A outer s H vs Q E hcd hr h => ?_)
  · obtain ⟨y, n, g, T, rfl, _⟩ := h
    rfl
  · obtain ⟨y, n, g, Ts, rfl, ⟨a, hy, hT⟩, hY, hB, q⟩ := h
    have nd := sc_need_yard.nd
    obtain ⟨tl, hl⟩ := i_LEAST_PLACES T
    obtain ⟨tm, hm⟩ := i_MOST_PLACES T
    have hr1 : Room 1 _ := hr.mono (by decide)
    refine ⟨_, pss_cons (ps_if (PW.pt (pw_or (pt_not (pt_val (pe_callB call_isi (by rfl) (m_isinstance T) (by decide +kernel) (pa_cons (pv 0) (pa_cons (pe_bltn (v := .ty "tuple") (by rfl) (m_tuple T) (by decide +kernel) rfl) pa_nil)))))
          (pw_or1 (pt_cmpR op_ne (pe_callB call_len_seq (by rfl) (m_len T) PySem.boot_len (pa_cons (pv 0) pa_nil)) pe_int (nomark _))))) pss_never pss_nil)
      (pss_cons (ps_asg (pv 0) (pg_tup rfl (pgs_cons (pg_name (i := 1) nd rfl (.inl rfl)) (pgs_cons (pg_name (i := 2) nd rfl (.inl rfl)) (pgs_cons (pg_name (i := 3) nd rfl (.inl rfl)) pgs_nil)))))
      (pss_cons (ps_if (pt_not (pt_val (pe_cl (ok_is_number T) hr1 (pa_cons (pv 1) (pa_cons (pe_glob (v := .int 2) (by rfl) hl ⟨_, rfl⟩) (pa_cons (pe_glob (v := .int 7) (by rfl) hm ⟨_, rfl⟩) pa_nil)))))) pss_never pss_nil)
      (pss_cons (ps_if (PW.pt (pw_or (pt_not (pt_val (pe_cl (ok_are_ties T B) hr (pa_cons (pv 1) (pa_cons (pv 2) pa_nil)))))
          (pw_or1 (pt_cmpR op_lt (pe_callB call_len_seq (by rfl) (m_len T) PySem.boot_len (pa_cons (pe_cl (ok_hanging T) hr (pa_cons (pv 1) (pa_cons (pv 2) (pa_cons pe_int (pa_cons (pe_tup pa_nil) pa_nil))))) pa_nil)) (pv 1) (nomark _))))) pss_never pss_nil)
      (pss_one (ps_if (pt_not (pt_val (pe_cl (ok_is_number T) hr1 (pa_cons (pv 3) (pa_cons pe_int (pa_cons (pe_op op_sub (pv 1) pe_int) pa_nil)))))) pss_never pss_nil))))), ?_⟩
    have h2 := hY.n2
    have h7 := hY.n7
    have hg := hY.gate
    refine ⟨_, rfl, _, _, _, _, true, rfl, .ty "tuple", .base (.tup hy), kit_ty (by decide +kernel), _, rfl, iteF ?_⟩
    refine ⟨_, rfl, y, _, rfl, .inr (SqT.of hy), rfl, _, rfl, iteNS rfl ?_⟩
    refine ⟨_, rfl, y, _, rfl, SqT.of hy, rfl, _, _, rfl, _, _, rfl, _, _, rfl, rfl, ?_⟩
    refine ⟨_, rfl, _, 2, 7, rfl, .inl ⟨_, rfl⟩, _, rfl, ?_⟩
    rw [show isNum 2 7 (.int (n : Int)) = true by rw [isNum_int, decide_eq_true (by omega), decide_eq_true (by omega)]; rfl]
    refine iteF ?_
    refine ⟨_, rfl, _, rfl, n, a, Ts, rfl, hT, hY.toTiesOk, hB, fun H1 s1 => ⟨_, rfl, iteF ?_⟩⟩
    refine ⟨_, rfl, _, rfl, Nat.zero_le _, fun wo nwo => ⟨_, a, wo, Ts, 0, n, [], rfl, (hT.xn s1.n).sm ((Sm.refl H1).new nwo), hY.len, SqT.of upd_same, hY.bnd, by omega, by omega, fun H2 l L s2 nl eL rL mL => ?_⟩⟩
    have s3 : Sg K H H2 := (s1.new nwo).trans s2.g
    have hlen : n ≤ L.length := by
      have := List.Nodup.length_le_of_subset (l₁ := List.range n) (l₂ := L) List.nodup_range fun v hv => (mL v).mpr (hY.con v (List.mem_range.mp hv))
      rwa [List.length_range] at this
    refine ⟨l, _, rfl, .inl (SqL.of eL), _, rfl, _, _, rfl, rfl, _, rfl, ?_⟩
    rw [show decide (((iv L).length : Int) < (n : Int)) = false from decide_eq_false (by rw [List.length_map]; omega)]
    refine iteF ?_
    refine ⟨_, rfl, _, rfl, _, _, rfl, rfl, _, 0, _, rfl, .inl ⟨_, rfl⟩, _, rfl, ?_⟩
    rw [show isNum 0 ((n : Int) - 1) (.int (g : Int)) = true by rw [isNum_int, decide_eq_true (by omega), decide_eq_true (by omega)]; rfl]
    exact iteF (q H2 s3)
/-! ### parting_of -/
def fstO (p : Nat) : Nat := if p = 0 then 1 else 0
def othL (n p : Nat) : List Nat := (List.range n).filter fun v => v ≠ p
/-- the place parts the web -/
def Cut (n : Nat) (T : List (Nat × Nat)) (p : Nat) : Prop := ∃ u, u < n ∧ u ≠ p ∧ ¬ Reach T [p] (fstO p) u
theorem othL_0 {n p : Nat} (h : 2 ≤ n) : (othL n p)[0]? = some (fstO p) := by
  obtain ⟨m, rfl⟩ : ∃ m, n = m + 2 := ⟨n - 2, by omega⟩
  unfold othL fstO
  rw [List.range_succ_eq_map, List.range_succ_eq_map]
  by_cases e : p = 0
  · subst e; simp
  · have e2 : (0 : Nat) ≠ p := fun z => e z.symm
    simp [e, e2]
theorem mem_othL {n p v : Nat} : v ∈ othL n p ↔ v < n ∧ v ≠ p := by unfold othL; rw [List.mem_filter, List.mem_range]; simp
theorem cut_len {n p : Nat} {T : List (Nat × Nat)} {L : List Nat} (b : Bnd n T) (h2 : 2 ≤ n) (nd : L.Nodup) (m : ∀ v, v ∈ L ↔ Reach T [p] (fstO p) v) : L.length < (othL n p).length ↔ Cut n T p := by
  have hf : fstO p < n ∧ fstO p ≠ p := by
    unfold fstO
    by_cases e : p = 0
    · subst e; simp; omega
    · rw [if_neg e]; exact ⟨by omega, fun z => e z.symm⟩
  have sub : L ⊆ othL n p := fun v hv => by
    have r := (m v).mp hv
    refine mem_othL.mpr ⟨r.lt b hf.1, ?_⟩
    cases r with
    | base => exact hf.2
    | step _ _ n => exact fun z => n (by simp [z])
  have ndo : (othL n p).Nodup := List.nodup_range.filter _
  constructor
  · intro h
    refine Classical.byContradiction fun c => ?_
    have : othL n p ⊆ L := fun v hv => (m v).mpr (Classical.byContradiction fun r => c ⟨v, (mem_othL.mp hv).1, (mem_othL.mp hv).2, r⟩)
    have := List.Nodup.length_le_of_subset ndo this
    omega
  · rintro ⟨u, hu, hn, hr⟩
    have h1 := List.Nodup.length_le_of_subset (l₁ := u :: L) (l₂ := othL n p) (List.nodup_cons.mpr ⟨fun z => hr ((m u).mp z), nd⟩) fun v hv => by
      rcases List.mem_cons.mp hv with e | e
      · rw [e]; exact mem_othL.mpr ⟨hu, hn⟩
      · exact sub e
    rw [List.length_cons] at h1
    omega
def spPartingOf : Sp := fun vs H Q _ => ∃ (y : Addr) (n g : Nat) (T : List (Nat × Nat)), vs = [.ref y] ∧ YardAt H y n T g ∧ YardOk n T g ∧
  ∀ H' l (C : List Nat), Sm H H' → H l = none → H' l = some (.lst (iv C)) → C.length ≤ n → (∀ v, v ∈ C ↔ v < n ∧ Cut n T v) → Q (.ref l) H'
theorem sc_parting_of : FnScope ["yard", "places", "ties", "gate", "found", "place", "others", "other"] ["yard"] (defScope s_parting_of) := ⟨rfl, rfl, rfl, by decide +kernel, rfl, by decide +kernel, by decide +kernel⟩
theorem range_succ_filter (n p i : Nat) : ((List.range (i + 1)).filter fun v => v ≠ p) = ((List.range i).filter fun v => v ≠ p) ++ (if i = p then [] else [i]) := by
  rw [List.range_succ, List.filter_append]
  congr 1
  by_cases e : i = p <;> simp [e]
theorem ok_parting_of (T : Txt K mg) : Ok P w K mg base CX0 3 "parting_of" ["yard"] spPartingOf := by
  refine ok_of (f_parting_of T) (g_parting_of T) sc_parting_of (fun _ _ _ _ _ _ us hl => match us, hl with | [_], _ => rfl) (fun vs H Q E h => ?_) (fun cdv A outer s H vs Q E hcd hr h => ?_)
  · obtain ⟨y, n, g, T, rfl, _⟩ := h
    rfl
  · obtain ⟨y, n, g, Ts, rfl, ⟨a, hy, hT⟩, hY, q⟩ := h
    have nd := sc_parting_of.nd
    refine ⟨_, pss_cons (ps_asg (pv 0) (pg_tup rfl (pgs_cons (pg_name (i := 1) nd rfl (.inl rfl)) (pgs_cons (pg_name (i := 2) nd rfl (.inl rfl)) (pgs_cons (pg_name (i := 3) nd rfl (.inl rfl)) pgs_nil)))))
      (pss_cons (ps_set (i := 4) nd rfl (.inl rfl) (pe_lst pa_nil))
      (pss_cons (ps_for PassesOwn.never rfl (pi_range1 rfl (m_range T) (pa_cons (pv 1) pa_nil)) (pg_name (i := 5) nd rfl (.inr rfl))
        (pss_cons (ps_setLc (i := 6) (own := [("other", 7)]) (g := gName 7) rfl nd rfl rfl (sw_true rfl rfl rfl (by decide +kernel)) (pi_range1 rfl (m_range T) (pa_cons (pv 1) pa_nil)) (blkOk_by (N := ["yard", "places", "ties", "gate", "found", "place", "others", "other"]) (sc := defScope s_parting_of) (by decide +kernel))
            (fun _ _ _ _ _ => pg_name (i := 7) nd rfl (.inl rfl)) (fun _ _ _ _ _ => pts_one (pt_cmpR op_ne (pv 7) (pv 5) (nomark _))) (fun _ _ _ _ _ => pv 7))
        (pss_one (ps_if (pt_cmpR op_lt (pe_callB call_len_seq (by rfl) (m_len T) PySem.boot_len (pa_cons (pe_cl (ok_hanging T) hr (pa_cons (pv 1) (pa_cons (pv 2) (pa_cons (pe_ix ix_list (pv 6) pe_int (fun _ _ => rfl)) (pa_cons (pe_tup (pa_cons (pv 5) pa_nil)) pa_nil))))) pa_nil))
            (pe_callB call_len_seq (by rfl) (m_len T) PySem.boot_len (pa_cons (pv 6) pa_nil)) (nomark _))
          (pss_one (ps_expr (pe_bm PySem.F.plainAttrs_list PySem.F.slot_list_append PySem.F.type_list_append mt_append (pv 4) (pa_cons (pv 5) pa_nil)))) pss_nil))))
      (pss_one (ps_ret (pv 4))))), ?_⟩
    have h2 := hY.n2
    have h7 := hY.n7
    refine ⟨_, rfl, y, _, rfl, SqT.of hy, rfl, _, _, rfl, _, _, rfl, _, _, rfl, rfl, ?_⟩
    refine ⟨Nat.zero_le _, fun F nF => ?_⟩
    refine ⟨_, rfl, _, rfl, by omega, by omega, for_range (lo := 0) (n := n) (fun i σ H' => ∃ (C : List Nat) (y5 y6 : Option V), σ = [some (.ref y), some (.int n), some (.ref a), some (.int g), some (.ref F), y5, y6, none] ∧ Sm H H' ∧ H' F = some (.lst (iv C)) ∧ C.length ≤ i ∧ ∀ v, v ∈ C ↔ v < i ∧ Cut n Ts v)
      ⟨[], none, none, rfl, (Sm.refl H).upd nF, upd_same, Nat.le_refl _, fun v => by simp⟩ (fun i σ H' hi z => ?_) (fun σ H' z => ?_)⟩
    · rw [Int.zero_add]
      obtain ⟨C, y5, y6, rfl, sm, eF, hlC, hC⟩ := z
      refine ⟨_, rfl, _, rfl, by omega, by omega, fun D nD => ?_⟩
      refine lc_range (lo := 0) (n := n) (fun j H2 => Sm H H2 ∧ H2 F = some (.lst (iv C)) ∧ H2 D = some (.lst (iv ((List.range j).filter fun v => v ≠ i)))) ⟨sm.new nD, ?_, upd_same⟩ (fun j H2 hj z => ?_) (fun H2 z => ?_)
      · rw [upd_ne (ne_of_none eF nD)]; exact eF
      · rw [Int.zero_add]
        obtain ⟨s2, eF2, eD⟩ := z
        refine ⟨rfl, _, rfl, _, rfl, rfl, _, rfl, ite2 (fun c => ?_) (fun c => ?_)⟩
        · have hne : j ≠ i := fun e => by
            rw [e] at c
            simp at c
          refine ⟨_, rfl, _, eD, ?_, s2.upd (sm.free nD), ?_, ?_⟩
          · rw [List.length_map]
            have := List.length_filter_le (fun v : Nat => decide (v ≠ i)) (List.range j)
            rw [List.length_range] at this
            exact small1000 (by omega)
          · rw [upd_ne (ne_of_none eF nD)]; exact eF2
          · rw [upd_same, range_succ_filter n i j, if_neg hne]; simp [iv]
        · have he : j = i := by
            refine Decidable.byContradiction fun e => c ?_
            rw [decide_eq_false (fun z => e (by have := V.int.inj z; omega))]; rfl
          refine ⟨s2, eF2, ?_⟩
          rw [eD, range_succ_filter n i j, if_pos he, List.append_nil]
      · obtain ⟨s2, eF2, eD⟩ := z
        have nF' : H F = none := nF
        refine ⟨_, rfl, _, rfl, _, rfl, D, _, 0, .int (fstO i : Nat), rfl, rfl, SqL.of eD, atI_nat (j := 0) ?_, _, rfl, (by show 1 ≤ sizeLine; decide), fun wo nwo => ?_⟩
        · rw [List.getElem?_map, show (List.filter (fun v => decide (v ≠ i)) (List.range n))[0]? = some (fstO i) from othL_0 h2]; rfl
        · have s3 := s2.new (u := .tup [.int (i : Int)]) nwo
          refine ⟨_, a, wo, Ts, fstO i, n, [i], rfl, hT.sm s3, hY.len, SqT.of upd_same, hY.bnd, (by unfold fstO; split <;> omega), by omega, fun H3 l L s4 nl eL rL mL => ?_⟩
          have s5 := s3.trans s4
          have nFw : F ≠ wo := ne_of_none eF2 nwo
          have nDw : D ≠ wo := ne_of_none eD nwo
          have eF3 : H3 F = some (.lst (iv C)) := s4.lst (by rw [upd_ne nFw]; exact eF2)
          have eD3 : H3 D = some (.lst (iv (othL n i))) := s4.lst (by rw [upd_ne nDw]; exact eD)
          have hcut := cut_len hY.bnd h2 (rL.imp fun h => Nat.ne_of_lt h) mL
          refine ⟨l, _, rfl, .inl (SqL.of eL), _, rfl, D, _, rfl, .inl (SqL.of eD3), _, _, rfl, rfl, _, rfl, ite2 (fun c => ?_) (fun c => ?_)⟩
          · have c' := of_decide_eq_true c
            rw [List.length_map, List.length_map] at c'
            have hc : Cut n Ts i := hcut.mp (by omega)
            refine ⟨.ref F, rfl, .inl ⟨rfl, _, SqL.of eF3⟩, _, rfl, F, _, _, rfl, rfl, eF3, ?_, C ++ [i], _, _, rfl, s5.upd nF', ?_, ?_, fun v => ?_⟩
            · rw [List.length_map]; exact small1000 (by omega)
            · rw [upd_same]; simp [iv]
            · rw [List.length_append, List.length_singleton]; omega
            · rw [List.mem_append, hC]
              constructor
              · rintro (⟨h, h'⟩ | h)
                · exact ⟨by omega, h'⟩
                · have : v = i := by simpa using h
                  rw [this]; exact ⟨by omega, hc⟩
              · rintro ⟨h, h'⟩
                by_cases e : v = i
                · exact .inr (by simp [e])
                · exact .inl ⟨by omega, h'⟩
          · have hc : ¬ Cut n Ts i := fun z => c (decide_eq_true (by have := hcut.mpr z; rw [List.length_map, List.length_map]; omega))
            refine ⟨C, _, _, rfl, s5, eF3, by omega, fun v => ?_⟩
            rw [hC]
            constructor
            · rintro ⟨h, h'⟩; exact ⟨by omega, h'⟩
            · rintro ⟨h, h'⟩
              have : v ≠ i := fun e => hc (e ▸ h')
              exact ⟨by omega, h'⟩
    · obtain ⟨C, y5, y6, rfl, sm, eF, hlC, hC⟩ := z
      exact ⟨_, rfl, q _ F C sm nF eF hlC hC⟩
end
end HT
/-! text W1 -/
set_option maxHeartbeats 4000000
namespace HT
open PySem PySem.Spec PyProof.Rows L2
/-! ### standings -/
abbrev Std : Type := List (Option Nat)
def oV : Option Nat → V
  | none => .non
  | some b => .int (b : Int)
def oL : Option Nat → Leaf
  | none => .none
  | some b => .num (b : Int)
theorem lf_oL (x : Option Nat) : lfV (oL x) = oV x := by cases x <;> rfl
theorem map_oL (s : Std) : (s.map oL).map lfV = s.map oV := by rw [List.map_map]; exact List.map_congr_left fun x _ => lf_oL x
theorem oL_inj : ∀ {a b : Option Nat}, oL a = oL b → a = b
  | none, none, _ => rfl
  | some _, some _, e => by injection e with e; congr 1; omega
  | none, some _, e => nomatch e
  | some _, none, e => nomatch e
theorem mapL_inj {s t : Std} (h : s.map oL = t.map oL) : s = t := List.map_inj_right (fun _ _ e => oL_inj e) |>.mp h
def StAt (H : Hp) (a : Addr) (s : Std) : Prop := Rd H a (.tup (s.map oV))
theorem StAt.xn {H H' : Hp} {a : Addr} {s : Std} (e : Xn H H') (h : StAt H a s) : StAt H' a s := e.rd (fun _ z => by cases z) h
theorem StAt.sqT {K : PySem.W.Frag} {H : Hp} {a : Addr} {s : Std} (h : StAt H a s) : SqT K H a (s.map oV) := .inl h
theorem StAt.key {H : Hp} {a : Addr} {s : Std} (h : StAt H a s) : Rd H a (.tup ((s.map oL).map lfV)) := by rw [map_oL]; exact h
def slidS (s : Std) (p h : Nat) : Std := (s.set p none).set h (s[p]?.getD none)
section
variable {P : Program} {w : World} {K : PySem.W.Frag} {mg : Str → Option Value} {base : Heap}
def spSlid : Sp := fun vs H Q _ => ∃ (a t : Addr) (s : Std) (p h : Nat), vs = [.ref a, .ref t] ∧ StAt H a s ∧ H t = some (.tup [.int (p : Int), .int (h : Int)]) ∧ p < s.length ∧ h < s.length ∧ s.length ≤ 7 ∧
  ∀ H' l, Sm H H' → H l = none → H' l = some (.tup ((slidS s p h).map oV)) → Q (.ref l) H'
theorem sc_slid : FnScope ["standing", "slide", "found"] ["standing", "slide"] (defScope s_slid) := ⟨rfl, rfl, rfl, by decide +kernel, rfl, by decide +kernel, by decide +kernel⟩
theorem ixN_nat {n j : Nat} (h : j < n) : ixN n (j : Int) = some j := by
  unfold ixN
  simp [h]
theorem ok_slid (T : Txt K mg) : Ok P w K mg base CX0 1 "slid" ["standing", "slide"] spSlid := by
  refine ok_of (f_slid T) (g_slid T) sc_slid (fun _ _ _ _ _ _ us hl => match us, hl with | [_, _], _ => rfl) (fun vs H Q E h => ?_) (fun cdv A outer s H vs Q E hcd hr h => ?_)
  · obtain ⟨a, t, s, p, h, rfl, _⟩ := h
    rfl
  · obtain ⟨a, t, s, p, h, rfl, hs, ht, hp, hh, h7, q⟩ := h
    have nd := sc_slid.nd
    refine ⟨_, pss_cons (ps_set (i := 2) nd rfl (.inl rfl) (pe_callTy call_list_of (by rfl) (m_list T) (by decide +kernel) (pa_cons (pv 0) pa_nil)))
      (pss_cons (ps_asg (pe_tup (pa_cons pe_non (pa_cons (pe_ix ix_tup (pv 0) (pe_ix ix_tup (pv 1) pe_int (fun _ _ => rfl)) (fun _ _ => rfl)) pa_nil))) (pg_tup rfl (pgs_cons (pg_sub (pv 2) (pe_ix ix_tup (pv 1) pe_int (fun _ _ => rfl)) set_list) (pgs_cons (pg_sub (pv 2) (pe_ix ix_tup (pv 1) pe_int (fun _ _ => rfl)) set_list) pgs_nil))))
      (pss_one (ps_ret (pe_callTy call_tuple_of (by rfl) (m_tuple T) (by decide +kernel) (pa_cons (pv 2) pa_nil))))), ?_⟩
    have hl : (s.map oV).length = s.length := List.length_map ..
    have hg : (s.map oV)[p]? = some (oV (s[p]?.getD none)) := by
      rw [List.getElem?_map, List.getElem?_eq_getElem hp]; rfl
    refine ⟨_, rfl, a, _, rfl, .inr hs.sqT, fun F nF => ?_⟩
    have s1 := (Sm.refl H).upd (u := .lst (s.map oV)) nF
    have ht1 := s1.tup ht
    refine ⟨_, rfl, _, rfl, t, _, 0, .int p, rfl, rfl, SqT.of ht1, atI_nat (j := 0) rfl, ?_⟩
    refine ⟨a, _, (p : Int), _, rfl, rfl, (hs.xn s1.n).sqT, atI_nat (j := p) hg, ?_⟩
    refine ⟨(by show 2 ≤ sizeLine; decide), fun W nW => ?_⟩
    have nFW : F ≠ W := ne_of_none upd_same nW
    have s2 := s1.new (u := .tup [.non, oV (s[p]?.getD none)]) nW
    have eF : upd (upd H F (.lst (s.map oV))) W (.tup [.non, oV (s[p]?.getD none)]) F = some (.lst (s.map oV)) := by rw [upd_ne nFW, upd_same]
    have ht2 := s2.tup ht
    refine ⟨W, _, rfl, SqT.of upd_same, rfl, _, _, rfl, ?_⟩
    refine ⟨_, rfl, _, rfl, t, _, 0, .int p, rfl, rfl, SqT.of ht2, atI_nat (j := 0) rfl, F, _, (p : Int), p, rfl, rfl, eF, ixN_nat (by rw [hl]; exact hp), ?_⟩
    have s3 := s2.upd (u := .lst ((s.map oV).set p .non)) nF
    have ht3 := s3.tup ht
    refine ⟨_, _, rfl, _, rfl, _, rfl, t, _, 1, .int h, rfl, rfl, SqT.of ht3, atI_nat (j := 1) rfl, F, _, (h : Int), h, rfl, rfl, upd_same, ixN_nat (by rw [List.length_set, hl]; exact hh), rfl, ?_⟩
    have s4 := s3.upd (u := .lst (((s.map oV).set p .non).set h (oV (s[p]?.getD none)))) nF
    refine ⟨_, rfl, F, _, rfl, .inl ⟨SqL.of upd_same, fun l nl => ?_⟩⟩
    have e : ((s.map oV).set p .non).set h (oV (s[p]?.getD none)) = (slidS s p h).map oV := by
      unfold slidS
      rw [List.map_set, List.map_set]; rfl
    rw [e] at nl s4 ⊢
    exact q _ l (s4.new nl) (s4.free nl) upd_same
end
end HT
/-! text W2 -/
set_option maxHeartbeats 4000000
namespace HT
open PySem PySem.Spec PyProof.Rows L2
theorem paired_app {α β : Type} {F : α → β → Prop} : ∀ {l₁ : List α} {m₁ : List β} {l₂ : List α} {m₂ : List β}, Paired F l₁ m₁ → Paired F l₂ m₂ → Paired F (l₁ ++ l₂) (m₁ ++ m₂)
  | _, _, _, _, .nil, b => b
  | _, _, _, _, .cons h t, b => .cons h (paired_app t b)
/-- at l a list of pairs of places -/
def SlAt (H : Hp) (l : Addr) (L : List (Nat × Nat)) : Prop := ∃ ts : List Addr, H l = some (.lst (ts.map V.ref)) ∧ Paired (fun t p => H t = some (.tup (tieV p))) ts L
/-- a book may go from p to h -/
def slides (T : List (Nat × Nat)) (s : Std) (p h : Nat) : Prop := (∃ b, s[p]? = some (some b)) ∧ adj T p h ∧ s[h]? = some none
section
variable {P : Program} {w : World} {K : PySem.W.Frag} {mg : Str → Option Value} {base : Heap}
def spSlidesOf : Sp := fun vs H Q _ => ∃ (y a : Addr) (n g : Nat) (T : List (Nat × Nat)) (s : Std), vs = [.ref y, .ref a] ∧ YardAt H y n T g ∧ YardOk n T g ∧ StAt H a s ∧ s.length = n ∧
  ∀ H' l (L : List (Nat × Nat)), Sm H H' → H l = none → SlAt H' l L → L.length ≤ 64 * n → (∀ p h, (p, h) ∈ L ↔ slides T s p h) → Q (.ref l) H'
theorem sc_slides_of : FnScope ["yard", "standing", "found", "place", "book", "other"] ["yard", "standing"] (defScope s_slides_of) := ⟨rfl, rfl, rfl, by decide +kernel, rfl, by decide +kernel, by decide +kernel⟩
theorem ok_slides_of (T : Txt K mg) : Ok P w K mg base CX0 2 "slides_of" ["yard", "standing"] spSlidesOf := by
  refine ok_of (f_slides_of T) (g_slides_of T) sc_slides_of (fun _ _ _ _ _ _ us hl => match us, hl with | [_, _], _ => rfl) (fun vs H Q E h => ?_) (fun cdv A outer s H vs Q E hcd hr h => ?_)
  · obtain ⟨y, a, n, g, T, s, rfl, _⟩ := h
    rfl
  · obtain ⟨y, a, n, g, Ts, st, rfl, hy, hY, hs, hn, q⟩ := h
    have nd := sc_slides_of.nd
    refine ⟨_, pss_cons (ps_set (i := 2) nd rfl (.inl rfl) (pe_lst pa_nil))
      (pss_cons (ps_for PassesOwn.never rfl (pi_enumT (by rfl) (m_enumerate T) (pa_cons (pv 1) pa_nil)) (by exact pg_tup rfl (pgs_cons (pg_name (i := 3) nd rfl (.inr rfl)) (pgs_cons (pg_name (i := 4) nd rfl (.inl rfl)) pgs_nil)))
        (pss_one (ps_if (pt_cmp (pc_notN (pv 4)))
          (pss_one (ps_expr (pe_bm PySem.F.plainAttrs_list PySem.F.slot_list_extend PySem.F.type_list_extend mt_extend (pv 2) (pa_cons
            (pe_lc (own := [("other", 5)]) (g := gName 5) (tt := tTest (tIsN (tOp (rIxT K) (tVar 1) (tVar 5)))) (te := tTup (tCons (tVar 3) (tCons (tVar 5) tNil))) rfl nd (pi_list (pe_cl (ok_near T) hr (pa_cons (pe_ix ix_tup (pv 0) pe_int (fun _ _ => rfl)) (pa_cons (pv 3) pa_nil)))) (blkOk_by (N := ["yard", "standing", "found", "place", "book", "other"]) (sc := defScope s_slides_of) (by decide +kernel))
              (fun _ _ _ _ _ => pg_name (i := 5) nd rfl (.inl rfl)) (fun _ _ _ _ _ => pts_one (pt_cmp (pc_isN (pe_ix ix_tup (pv 1) (pv 5) (fun _ _ => rfl))))) (fun _ _ _ _ _ => pe_tup (pa_cons (pv 3) (pa_cons (pv 5) pa_nil)))) pa_nil)))) pss_nil)))
      (pss_one (ps_ret (pv 2)))), ?_⟩
    obtain ⟨ta, ey, hTa⟩ := hy
    have hlen := hY.len
    have h7 := hY.n7
    refine ⟨Nat.zero_le _, fun F nF => ?_⟩
    refine ⟨_, rfl, a, _, rfl, (hs.xn ((Sm.refl H).upd nF).n).sqT, for_it (walk_enumT (K := K) (a := a) (xs := st.map oV)) (fun i σ H' => ∃ (L : List (Nat × Nat)) (y3 y4 : Option V), σ = [some (.ref y), some (.ref a), some (.ref F), y3, y4, none] ∧ Sm H H' ∧ SlAt H' F L ∧ L.length ≤ 64 * i ∧ ∀ p h, (p, h) ∈ L ↔ p < i ∧ slides Ts st p h)
      ⟨[], none, none, rfl, (Sm.refl H).upd nF, ⟨[], upd_same, .nil⟩, Nat.le_refl _, fun p h => by simp⟩ (fun i σ H' _ z => (hs.xn (z.choose_spec.choose_spec.choose_spec.2.1).n).sqT) (fun i x σ H' H'' hi z yx => ?_) (fun σ H' z => ?_)⟩
    · obtain ⟨L, y3, y4, rfl, sm, ⟨ts, eF, pL⟩, hlL, hL⟩ := z
      obtain ⟨Tp, x0, b0, rfl, nT, rfl, e1, e2⟩ := yx
      obtain rfl : x0 = .int (i : Nat) := (Option.some.inj e1).symm
      rw [List.length_map] at hi
      have hb : (st.map oV)[i]? = some (oV st[i]) := by rw [List.getElem?_map, List.getElem?_eq_getElem hi]; rfl
      obtain rfl : b0 = oV st[i] := (Option.some.inj (hb.symm.trans e2)).symm
      have sT := sm.new (u := .tup [.int (i : Nat), oV st[i]]) nT
      have nFT : F ≠ Tp := ne_of_none eF nT
      have eF1 : upd H' Tp (.tup [.int (i : Nat), oV st[i]]) F = some (.lst (ts.map V.ref)) := by rw [upd_ne nFT]; exact eF
      have pL1 : Paired (fun t p => upd H' Tp (.tup [.int (i : Nat), oV st[i]]) t = some (.tup (tieV p))) ts L := Paired.imp' (fun t p z => by rw [upd_ne (ne_of_none z nT)]; exact z) pL
      refine ⟨Tp, _, rfl, SqT.of upd_same, rfl, _, _, rfl, _, _, rfl, rfl, ?_⟩
      refine ⟨_, rfl, _, rfl, ite2 (fun c => ?_) (fun c => ?_)⟩
      · obtain ⟨b, hbi⟩ : ∃ b, st[i]? = some (some b) := by
          rw [List.getElem?_eq_getElem hi]
          cases e : st[i] with
          | none => rw [e] at c; cases c
          | some b => exact ⟨b, rfl⟩
        refine ⟨.ref F, rfl, .inl ⟨rfl, _, SqL.of eF1⟩, ?_⟩
        refine ⟨_, rfl, y, _, 1, .ref ta, rfl, rfl, SqT.of (sT.tup ey), atI_nat (j := 1) rfl, _, rfl, ta, Ts, i, rfl, hTa.sm sT, hlen, fun H3 nl Ln s3 nnl eL pLn => ⟨nl, rfl, ⟨_, SqL.of eL⟩, fun D nD => ?_⟩⟩
        have sT3 := sT.trans s3
        have lenLn : Ln.length ≤ 64 := by
          rw [pLn.length_eq]
          unfold nearL
          rw [List.length_append, List.length_map, List.length_map]
          have h1 := List.length_filter_le (fun t : Nat × Nat => decide (t.2 = i)) Ts
          have h2 := List.length_filter_le (fun t : Nat × Nat => decide (t.1 = i)) Ts
          omega
        refine lc_list (K := K) (a := nl) (xs := Ln.map V.int) (fun j H4 => Sm H3 H4 ∧ ∃ (us : List Addr) (M : List (Nat × Nat)), H4 D = some (.lst (us.map V.ref)) ∧ Paired (fun t p => H4 t = some (.tup (tieV p))) us M ∧ M.length ≤ j ∧ ∀ p h, (p, h) ∈ M ↔ p = i ∧ ((h : Nat) : Int) ∈ Ln.take j ∧ st[h]? = some none)
          ⟨(Sm.refl H3).new nD, [], [], upd_same, .nil, Nat.le_refl _, fun p h => by simp⟩ (fun j H4 _ z => SqL.of (z.1.lst eL)) (fun j x H4 hx z => ?_) (fun H4 z => ?_)
        · obtain ⟨s4, us, M, eD, pM, hlM, hM⟩ := z
          have sT4 := sT3.trans s4
          obtain ⟨xi, hxi, rfl⟩ : ∃ xi, Ln[j]? = some xi ∧ x = .int xi := by
            rw [List.getElem?_map] at hx
            cases e : Ln[j]? with
            | none => rw [e] at hx; cases hx
            | some u => rw [e] at hx; exact ⟨u, rfl, (Option.some.inj hx).symm⟩
          obtain ⟨v, rfl, had⟩ := mem_nearL.mp (pLn.mem_iff.mp (List.mem_of_getElem? hxi))
          have hv : v < st.length := by
            have := (hY.bnd.adj had).2
            omega
          have hj64 : j < 64 := Nat.lt_of_lt_of_le (List.getElem?_eq_some_iff.mp hxi).1 lenLn
          refine ⟨rfl, _, rfl, _, rfl, a, _, (v : Int), oV st[v], rfl, rfl, (hs.xn sT4.n).sqT, atI_nat (j := v) (by rw [List.getElem?_map, List.getElem?_eq_getElem hv]; rfl), _, rfl, ite2 (fun c2 => ?_) (fun c2 => ?_)⟩
          · have hno : st[v]? = some none := by
              rw [List.getElem?_eq_getElem hv]
              cases e : st[v] with
              | none => rfl
              | some b => rw [e] at c2; cases c2
            refine ⟨_, rfl, _, rfl, (by show 2 ≤ sizeLine; decide), fun t nt => ⟨us.map V.ref, ?_, ?_, (s4.new nt).upd nD, us ++ [t], M ++ [(i, v)], ?_, ?_, ?_, fun p h => ?_⟩⟩
            · rw [upd_ne (ne_of_none eD nt)]; exact eD
            · rw [List.length_map, Paired.length pM]; exact small1000 (by omega)
            · rw [upd_same]; simp
            · have nDt : t ≠ D := fun z => by rw [z, eD] at nt; cases nt
              refine Paired.snoc (Paired.imp' (fun t' p z => ?_) pM) ?_
              · have h1 : t' ≠ D := fun zz => by rw [zz, eD] at z; cases z
                rw [upd_ne h1, upd_ne (ne_of_none z nt)]; exact z
              · rw [upd_ne nDt, upd_same]
            · rw [List.length_append]; show M.length + 1 ≤ j + 1; omega
            · rw [List.mem_append, hM, take_succ' hxi, List.mem_append]
              constructor
              · rintro (⟨h1, h2, h3⟩ | h1)
                · exact ⟨h1, .inl h2, h3⟩
                · have h1 : (p, h) = (i, v) := by simpa using h1
                  injection h1 with h1 h2
                  subst h1 h2
                  exact ⟨rfl, .inr (by simp), hno⟩
              · rintro ⟨rfl, h2 | h2, h3⟩
                · exact .inl ⟨rfl, h2, h3⟩
                · have : h = v := by have : (h : Int) = v := by simpa using h2
                                     omega
                  exact .inr (by rw [this]; simp)
          · have hno : st[v]? ≠ some none := fun z => by
              rw [List.getElem?_eq_getElem hv] at z
              rw [Option.some.inj z] at c2
              exact c2 rfl
            refine ⟨s4, us, M, eD, pM, by omega, fun p h => ?_⟩
            rw [hM, take_succ' hxi, List.mem_append]
            constructor
            · rintro ⟨h1, h2, h3⟩; exact ⟨h1, .inl h2, h3⟩
            · rintro ⟨h1, h2 | h2, h3⟩
              · exact ⟨h1, h2, h3⟩
              · have : h = v := by have : (h : Int) = v := by simpa using h2
                                   omega
                rw [this] at h3
                exact absurd h3 hno
        · obtain ⟨s4, us, M, eD, pM, hlM, hM⟩ := z
          rw [List.length_map] at hlM hM
          rw [List.take_length] at hM
          have sT4 := sT3.trans s4
          have nFD : F ≠ D := ne_of_none (s3.lst eF1) nD
          have eF4 : H4 F = some (.lst (ts.map V.ref)) := s4.lst (s3.lst eF1)
          have lts := Paired.length pL
          have lus := Paired.length pM
          refine ⟨F, D, ts.map V.ref, us.map V.ref, rfl, rfl, eF4, eD, ?_, L ++ M, _, _, rfl, sT4.upd nF, ⟨ts ++ us, ?_, ?_⟩, ?_, fun p h => ?_⟩
          · rw [List.length_map, List.length_map]; exact Nat.le_of_lt (small1000 (by omega))
          · rw [upd_same, List.map_append]
          · have h1 : Paired (fun t p => H4 t = some (.tup (tieV p))) (ts ++ us) (L ++ M) := paired_app (Paired.imp' (fun t p z => s4.tup (s3.tup z)) pL1) pM
            exact Paired.imp' (fun t p z => by rw [upd_ne (fun zz => by rw [zz, eF4] at z; cases z)]; exact z) h1
          · rw [List.length_append]; omega
          · rw [List.mem_append, hL, hM, pLn.mem_iff, mem_nearL]
            constructor
            · rintro (⟨h1, h2⟩ | ⟨rfl, ⟨v, h2, h3⟩, h4⟩)
              · exact ⟨by omega, h2⟩
              · have : h = v := by omega
                subst this
                exact ⟨by omega, ⟨b, hbi⟩, h3, h4⟩
            · rintro ⟨h1, h2⟩
              by_cases e : p = i
              · subst e
                exact .inr ⟨rfl, ⟨h, rfl, h2.2.1⟩, h2.2.2⟩
              · exact .inl ⟨by omega, h2⟩
      · have hno : st[i]? = some none := by
          rw [List.getElem?_eq_getElem hi]
          cases e : st[i] with
          | none => rfl
          | some b => rw [e] at c; exact absurd rfl c
        refine ⟨L, _, _, rfl, sT, ⟨ts, eF1, pL1⟩, by omega, fun p h => ?_⟩
        rw [hL]
        constructor
        · rintro ⟨h1, h2⟩; exact ⟨by omega, h2⟩
        · rintro ⟨h1, h2⟩
          refine ⟨?_, h2⟩
          have : p ≠ i := fun z => by
            obtain ⟨⟨b, hb'⟩, _⟩ := h2
            rw [z, hno] at hb'; cases hb'
          omega
    · obtain ⟨L, y3, y4, rfl, sm, hSL, hlL, hL⟩ := z
      rw [List.length_map] at hlL hL
      refine ⟨_, rfl, q H' F L sm nF hSL (by rw [← hn]; exact hlL) fun p h => ?_⟩
      rw [hL]
      constructor
      · exact fun z => z.2
      · intro z
        refine ⟨?_, z⟩
        obtain ⟨⟨b, hb⟩, _⟩ := z
        exact (List.getElem?_eq_some_iff.mp hb).1
end
end HT
/-! text W3 -/
set_option maxHeartbeats 4000000
namespace HT
open PySem PySem.Spec PyProof.Rows L2
open PySem.W (AlikeAll AllAlike Sortable alike alikeAll)
/-! ### ways -/
def pairD (p : Nat × Nat) : PyData := .tuple [.int (p.1 : Int), .int (p.2 : Int)]
def wayD (ws : List (Nat × Nat)) : PyData := .tuple (ws.map pairD)
theorem alike_pairs : ∀ xs ys : List (Nat × Nat), alikeAll (xs.map pairD) (ys.map pairD) = true
  | [], _ => by simp [alikeAll]
  | _ :: _, [] => by simp [alikeAll]
  | x :: xs, y :: ys => by
    rw [List.map_cons, List.map_cons]
    show (alike (pairD x) (pairD y) && alikeAll (xs.map pairD) (ys.map pairD)) = true
    rw [alike_pairs xs ys]
    rfl
theorem alike_ways (xs ys : List (Nat × Nat)) : alike (wayD xs) (wayD ys) = true := alike_pairs xs ys
theorem depth_pairs : ∀ xs : List (Nat × Nat), PyData.depthAll (xs.map pairD) ≤ 1
  | [] => by simp [PyData.depthAll]
  | x :: xs => by
    rw [List.map_cons, PyData.depthAll]
    have := depth_pairs xs
    have h : (pairD x).depth = 1 := by simp [pairD, PyData.depth, PyData.depthAll]
    omega
theorem depth_way (xs : List (Nat × Nat)) : (wayD xs).depth ≤ 2 := by
  unfold wayD
  rw [PyData.depth]
  have := depth_pairs xs
  omega
theorem pure_pair {h : Heap} {p : Nat × Nat} {u : Value} {as : List Addr} (r : Reads h u (pairD p) as) : as = [] := by
  unfold pairD at r
  cases r with
  | @tuple _ _ vs _ _ _ _ _ _ ra =>
    generalize vs.toList = l at ra
    cases ra with
    | cons r1 ra =>
      cases r1
      cases ra with
      | cons r2 ra =>
        cases r2
        cases ra
        rfl
theorem pure_pairs {h : Heap} : ∀ {ws : List (Nat × Nat)} {us : List Value} {as : List Addr}, ReadsAll h us (ws.map pairD) as → as = []
  | [], _, _, r => by cases r; rfl
  | w :: ws, _, _, r => by
    rw [List.map_cons] at r
    cases r with
    | cons r1 r2 => rw [pure_pair r1, pure_pairs r2]; rfl
theorem pure_way (ws : List (Nat × Nat)) (h : Heap) (u : Value) (as : List Addr) (r : Reads h u (wayD ws) as) : as = [] := by
  unfold wayD at r
  cases r with
  | tuple _ _ _ ra => exact pure_pairs ra
/-- at v a way -/
def WayAt (H : Hp) (v : V) (ws : List (Nat × Nat)) : Prop := ∃ (a : Addr) (us : List Addr), v = .ref a ∧ H a = some (.tup (us.map V.ref)) ∧ Paired (fun t p => H t = some (.tup (tieV p))) us ws
theorem WayAt.xn {H H' : Hp} {v : V} {ws : List (Nat × Nat)} (e : Xn H H') (h : WayAt H v ws) : WayAt H' v ws :=
  let ⟨a, us, h1, h2, h3⟩ := h; ⟨a, us, h1, e.tup h2, Paired.imp' (fun _ _ z => e.tup z) h3⟩
theorem dp_pairs {K : PySem.W.Frag} {H : Hp} : ∀ {us : List Addr} {ws : List (Nat × Nat)}, Paired (fun t p => H t = some (.tup (tieV p))) us ws → DpAll K H (us.map V.ref) (ws.map pairD)
  | _, _, .nil => .nil
  | _, _, .cons h t => .cons (.tup (SqT.of h) (.cons (.int _) (.cons (.int _) .nil))) (dp_pairs t)
theorem WayAt.dp {K : PySem.W.Frag} {H : Hp} {v : V} {ws : List (Nat × Nat)} (h : WayAt H v ws) : Dp K H v (wayD ws) := by
  obtain ⟨a, us, rfl, h2, h3⟩ := h
  exact .tup (SqT.of h2) (dp_pairs h3)
theorem alike2 (a b : List (Nat × Nat)) : AlikeAll [wayD a, wayD b] := by
  refine ⟨fun x hx y hy => ?_, fun x hx => ?_⟩
  · have h1 : ∃ c, x = wayD c := by
      rcases List.mem_cons.mp hx with e | e
      · exact ⟨a, e⟩
      · exact ⟨b, by simpa using e⟩
    have h2 : ∃ c, y = wayD c := by
      rcases List.mem_cons.mp hy with e | e
      · exact ⟨a, e⟩
      · exact ⟨b, by simpa using e⟩
    obtain ⟨c, rfl⟩ := h1
    obtain ⟨d, rfl⟩ := h2
    exact alike_ways c d
  · intro z
    subst z
    rcases List.mem_cons.mp hx with e | e
    · cases e
    · have e : PyData.none = wayD b := by simpa using e
      cases e
theorem depth2 (a b : List (Nat × Nat)) : PyData.depthAll [wayD a, wayD b] ≤ 20 := by
  have h1 := depth_way a
  have h2 := depth_way b
  simp only [PyData.depthAll]
  omega
/-! ### how many standings there are -/
def codeO : Option Nat → Nat
  | none => 0
  | some b => b + 1
def codeS : Std → Nat
  | [] => 0
  | x :: r => codeO x + 8 * codeS r
def Wf (n : Nat) (s : Std) : Prop := s.length = n ∧ ∀ b, some b ∈ s → b < n
theorem codeS_lt : ∀ (s : Std), (∀ b, some b ∈ s → b < 7) → codeS s < 8 ^ s.length
  | [], _ => by simp [codeS]
  | x :: r, h => by
    have ih := codeS_lt r fun b hb => h b (List.mem_cons_of_mem _ hb)
    have hx : codeO x < 8 := by
      cases x with
      | none => decide
      | some b => have := h b (List.mem_cons_self ..); show b + 1 < 8; omega
    rw [List.length_cons, Nat.pow_succ]
    show codeO x + 8 * codeS r < _
    omega
theorem codeS_inj : ∀ (s t : Std), s.length = t.length → (∀ b, some b ∈ s → b < 7) → (∀ b, some b ∈ t → b < 7) → codeS s = codeS t → s = t
  | [], [], _, _, _, _ => rfl
  | [], _ :: _, h, _, _, _ => by cases h
  | _ :: _, [], h, _, _, _ => by cases h
  | x :: r, y :: q, h, hs, ht, e => by
    have hx : codeO x < 8 := by
      cases x with
      | none => decide
      | some b => have := hs b (List.mem_cons_self ..); show b + 1 < 8; omega
    have hy : codeO y < 8 := by
      cases y with
      | none => decide
      | some b => have := ht b (List.mem_cons_self ..); show b + 1 < 8; omega
    have e : codeO x + 8 * codeS r = codeO y + 8 * codeS q := e
    have e1 : codeO x = codeO y := by omega
    have e2 : codeS r = codeS q := by omega
    have e3 := codeS_inj r q (by simpa using h) (fun b hb => hs b (List.mem_cons_of_mem _ hb)) (fun b hb => ht b (List.mem_cons_of_mem _ hb)) e2
    subst e3
    congr 1
    cases x with
    | none =>
      cases y with
      | none => rfl
      | some b => exact absurd e1 (by show ¬ (0 = b + 1); omega)
    | some a =>
      cases y with
      | none => exact absurd e1 (by show ¬ (a + 1 = 0); omega)
      | some b => have e1 : a + 1 = b + 1 := e1
                  congr 1; omega
def NB : Nat := 8 ^ 7
theorem wf_len {n : Nat} {l : List Std} (hn : n ≤ 7) (nd : l.Nodup) (h : ∀ s ∈ l, Wf n s) : l.length ≤ NB := by
  have nd2 : (l.map codeS).Nodup := by
    rw [List.nodup_iff_pairwise_ne, List.pairwise_map]
    refine List.Pairwise.imp_of_mem (fun {a b} ha hb hne e => hne ?_) (List.nodup_iff_pairwise_ne.mp nd)
    obtain ⟨l1, b1⟩ := h a ha
    obtain ⟨l2, b2⟩ := h b hb
    exact codeS_inj a b (l1.trans l2.symm) (fun c hc => by have := b1 c hc; omega) (fun c hc => by have := b2 c hc; omega) e
  have := len_le nd2 (N := NB) fun v hv => by
    obtain ⟨s, hs, rfl⟩ := List.mem_map.mp hv
    obtain ⟨l1, b1⟩ := h s hs
    have h1 := codeS_lt s fun c hc => by have := b1 c hc; omega
    have h2 : 8 ^ s.length ≤ 8 ^ 7 := Nat.pow_le_pow_right (by decide) (by omega)
    exact Nat.lt_of_lt_of_le h1 h2
  rwa [List.length_map] at this
theorem slid_wf {n : Nat} {s : Std} {p h : Nat} (w : Wf n s) : Wf n (slidS s p h) := by
  obtain ⟨h1, h2⟩ := w
  unfold slidS
  refine ⟨by rw [List.length_set, List.length_set]; exact h1, fun b hb => ?_⟩
  rcases List.mem_or_eq_of_mem_set hb with hb | hb
  · rcases List.mem_or_eq_of_mem_set hb with hb | hb
    · exact h2 b hb
    · cases hb
  · cases e : s[p]? with
    | none => rw [e] at hb; cases hb
    | some x =>
      rw [e] at hb
      have hb : some b = x := hb
      exact h2 b (hb ▸ List.mem_of_getElem? e)
/-- the standings that can be come to -/
inductive WR (T : List (Nat × Nat)) (s0 : Std) : Std → Prop
  | base : WR T s0 s0
  | step {s : Std} {p h : Nat} : WR T s0 s → slides T s p h → WR T s0 (slidS s p h)
theorem WR.wf {T : List (Nat × Nat)} {n : Nat} {s0 s : Std} (w : Wf n s0) (r : WR T s0 s) : Wf n s := by
  induction r with
  | base => exact w
  | step _ _ ih => exact slid_wf ih
end HT
/-! text W4 -/
set_option maxHeartbeats 4000000
namespace HT
open PySem PySem.Spec PyProof.Rows L2
/-- tuples stay -/
structure Tn (H H' : Hp) : Prop where
  t : ∀ b xs, H b = some (.tup xs) → H' b = some (.tup xs)
  f : ∀ b o u, H b = some (.frz o u) → H' b = some (.frz o u)
theorem Xn.tn {H H' : Hp} (e : Xn H H') : Tn H H' := ⟨fun _ _ h => e.tup h, fun _ _ _ h => e.frz h⟩
theorem tn_upd {H : Hp} {a : Addr} {φ : Heap → Prop} {u : HO} (h : H a = some (.ext φ)) : Tn H (upd H a u) :=
  ⟨fun b xs e => by rw [upd_ne (fun z => by rw [z, h] at e; cases e)]; exact e, fun b o v e => by rw [upd_ne (fun z => by rw [z, h] at e; cases e)]; exact e⟩
theorem Tn.rdT {H H' : Hp} (e : Tn H H') {b : Addr} {xs : List V} (h : Rd H b (.tup xs)) : Rd H' b (.tup xs) := by
  rcases h with h | ⟨o, h⟩
  · exact .inl (e.t _ _ h)
  · exact .inr ⟨o, e.f _ _ _ h⟩
theorem StAt.tn {H H' : Hp} {a : Addr} {s : Std} (e : Tn H H') (h : StAt H a s) : StAt H' a s := e.rdT h
theorem SKeys.tn {H H' : Hp} {xs : SX} (e : Tn H H') (h : SKeys H xs) : SKeys H' xs := fun x hx => e.rdT (h x hx)
theorem WayAt.tn {H H' : Hp} {v : V} {ws : List (Nat × Nat)} (e : Tn H H') (h : WayAt H v ws) : WayAt H' v ws :=
  let ⟨a, us, h1, h2, h3⟩ := h; ⟨a, us, h1, e.t _ _ h2, Paired.imp' (fun _ _ z => e.t _ _ z) h3⟩
theorem oV_inj : ∀ {a b : Option Nat}, oV a = oV b → a = b
  | none, none, _ => rfl
  | some _, some _, e => by injection e with e; congr 1; omega
  | none, some _, e => nomatch e
  | some _, none, e => nomatch e
theorem StAt.inj {H : Hp} {a : Addr} {s t : Std} (h : StAt H a s) (h' : StAt H a t) : s = t := by
  have e : s.map oV = t.map oV := by
    rcases h with h | ⟨o, h⟩
    · rcases h' with h' | ⟨o', h'⟩
      · injection (Option.some.inj (h.symm.trans h'))
      · exact nomatch (Option.some.inj (h.symm.trans h'))
    · rcases h' with h' | ⟨o', h'⟩
      · exact nomatch (Option.some.inj (h.symm.trans h'))
      · injection (Option.some.inj (h.symm.trans h')) with _ e
        injection e
  exact (List.map_inj_right (fun _ _ e => oV_inj e)).mp e
theorem layer_of {H : Hp} {G : List Std} : ∀ {ks : List Addr}, (∀ k ∈ ks, ∃ s ∈ G, StAt H k s) → ∃ Ls : List Std, Paired (fun k s => StAt H k s) ks Ls ∧ ∀ s ∈ Ls, s ∈ G
  | [], _ => ⟨[], .nil, fun _ h => by cases h⟩
  | k :: ks, h => by
    obtain ⟨Ls, h1, h2⟩ := layer_of (ks := ks) fun k hk => h k (List.mem_cons_of_mem _ hk)
    obtain ⟨s, hs, hk⟩ := h k (List.mem_cons_self ..)
    exact ⟨s :: Ls, .cons hk h1, fun t ht => (List.mem_cons.mp ht).elim (fun e => e ▸ hs) (h2 t)⟩
theorem paired_mem {α β : Type} {F : α → β → Prop} : ∀ {l : List α} {m : List β}, Paired F l m → ∀ {a : α}, a ∈ l → ∃ b ∈ m, F a b
  | _, _, .nil, _, h => by cases h
  | _, _, .cons h t, a, hm => (List.mem_cons.mp hm).elim (fun e => ⟨_, List.mem_cons_self .., e ▸ h⟩) fun z => let ⟨b, hb, hf⟩ := paired_mem t z; ⟨b, List.mem_cons_of_mem _ hb, hf⟩
/-- between two turns -/
structure WdI (T : List (Nat × Nat)) (s0 : Std) (F L : List Std) : Prop where
  nd : F.Nodup
  st : s0 ∈ F
  re : ∀ s ∈ F, WR T s0 s
  sub : ∀ s ∈ L, s ∈ F
  done : ∀ s ∈ F, s ∉ L → ∀ p h, slides T s p h → slidS s p h ∈ F
structure WdJ (T : List (Nat × Nat)) (s0 : Std) (F G D : List Std) : Prop where
  nd : (F ++ G).Nodup
  re : ∀ s ∈ F ++ G, WR T s0 s
  done : ∀ s ∈ D, ∀ p h, slides T s p h → slidS s p h ∈ F ++ G
theorem WdJ.add {T : List (Nat × Nat)} {s0 : Std} {F G D : List Std} (j : WdJ T s0 F G D) {s' : Std} (hv : s' ∉ F ++ G) (hr : WR T s0 s') : WdJ T s0 F (G ++ [s']) D := by
  refine ⟨?_, fun x hx => ?_, fun u hu p h a => ?_⟩
  · rw [← List.append_assoc]
    refine List.nodup_append.mpr ⟨j.nd, by simp, fun a ha b hb => ?_⟩
    have : b = s' := by simpa using hb
    rw [this]
    exact fun z => hv (z ▸ ha)
  · rw [← List.append_assoc] at hx
    rcases List.mem_append.mp hx with h | h
    · exact j.re x h
    · have : x = s' := by simpa using h
      rw [this]
      exact hr
  · rw [← List.append_assoc]
    exact List.mem_append_left _ (j.done u hu p h a)
theorem WdJ.start {T : List (Nat × Nat)} {s0 : Std} {F L : List Std} (i : WdI T s0 F L) : WdJ T s0 F [] [] :=
  ⟨by rw [List.append_nil]; exact i.nd, fun v hv => i.re v (by rw [List.append_nil] at hv; exact hv), fun u hu => by cases hu⟩
theorem WdJ.more {T : List (Nat × Nat)} {s0 : Std} {F G D : List Std} (j : WdJ T s0 F G D) {s : Std} (h : ∀ p h, slides T s p h → slidS s p h ∈ F ++ G) : WdJ T s0 F G (D ++ [s]) :=
  ⟨j.nd, j.re, fun u' hu' p h' a => by
    rcases List.mem_append.mp hu' with z | z
    · exact j.done u' z p h' a
    · have e : u' = s := by simpa using z
      rw [e] at a ⊢
      exact h p h' a⟩
theorem WdJ.turn {T : List (Nat × Nat)} {s0 : Std} {F G L L' : List Std} (i : WdI T s0 F L) (j : WdJ T s0 F G L) (h1 : ∀ s ∈ L', s ∈ G) (h2 : ∀ s ∈ G, s ∈ L') : WdI T s0 (F ++ G) L' :=
  ⟨j.nd, List.mem_append_left _ i.st, j.re, fun v hv => List.mem_append_right _ (h1 v hv), fun u hu hn p h a => by
    rcases List.mem_append.mp hu with z | z
    · by_cases hl : u ∈ L
      · exact j.done u hl p h a
      · exact List.mem_append_left _ (i.done u z hl p h a)
    · exact absurd (h2 u z) hn⟩
theorem WdI.all {T : List (Nat × Nat)} {s0 : Std} {F : List Std} (i : WdI T s0 F []) (s : Std) : s ∈ F ↔ WR T s0 s := by
  refine ⟨i.re s, fun h => ?_⟩
  induction h with
  | base => exact i.st
  | step _ a ih => exact i.done _ ih (by simp) _ _ a
def hpN (o : Obj) : Nat → Heap
  | 0 => default
  | n + 1 => (hpN o n).push o
theorem hpN_size (o : Obj) : ∀ n, (hpN o n).objs.size = n
  | 0 => rfl
  | n + 1 => by
    show ((hpN o n).push o).objs.size = n + 1
    rw [Heap.size_push, hpN_size o n]
theorem hpN_get {o : Obj} : ∀ (n : Nat) (a : Addr) (u : Obj), (hpN o n).get? a = some u → u = o
  | 0, a, u, h => by
    have := Heap.lt_size h
    rw [hpN_size] at this
    exact absurd this (Nat.not_lt_zero _)
  | n + 1, a, u, h => by
    rcases Heap.get?_push_cases (h := hpN o n) (o' := o) h with ⟨_, e⟩ | e
    · exact e
    · exact hpN_get n a u e
/-- a dict of standings is no code object -/
theorem sdO_ne {P : Program} {w : World} {d : Addr} {xs : SX} (c : Addr) (q : Str) : sdO P w d xs ≠ LamX.CodeO c q := fun e => by
  unfold sdO LamX.CodeO at e
  injection e with e
  have h : (fun h : Heap => ∃ (oc : Obj) (vs : Array Value) (t : Tok), h.get? c = some oc ∧ oc.data = .fields vs ∧ vs[1]? = some (.str q t)) ((hpN { cls := .none, data := .fields #[] } c).push { cls := .none, data := .fields #[.none, .str q 0] }) := by
    refine ⟨{ cls := .none, data := .fields #[.none, .str q 0] }, #[.none, .str q 0], 0, ?_, rfl, rfl⟩
    have := Heap.get?_push_size (hpN { cls := .none, data := .fields #[] } c) (o := { cls := .none, data := .fields #[.none, .str q 0] }) rfl
    rw [hpN_size] at this
    exact this
  rw [← e] at h
  obtain ⟨_, _, vs, _, o, es, ep, h1, _, h3, _⟩ := h
  rcases Heap.get?_push_cases h1 with ⟨_, z⟩ | z
  · rw [z] at h3; cases h3
  · rw [hpN_get _ _ _ z] at h3; cases h3
section
variable {P : Program} {w : World} {K : PySem.W.Frag} {mg : Str → Option Value} {base : Heap}
theorem key_unique {xs : SX} (nd : (xs.map (·.1)).Nodup) : ∀ {x y}, x ∈ xs → y ∈ xs → x.1 = y.1 → x = y := by
  induction xs with
  | nil => intro x y hx; cases hx
  | cons a r ih =>
    rw [List.map_cons, List.nodup_cons] at nd
    intro x y hx hy e
    rcases List.mem_cons.mp hx with ex | hx'
    · rcases List.mem_cons.mp hy with ey | hy'
      · rw [ex, ey]
      · exact (nd.1 (List.mem_map.mpr ⟨y, hy', by rw [← e, ex]⟩)).elim
    · rcases List.mem_cons.mp hy with ey | hy'
      · exact (nd.1 (List.mem_map.mpr ⟨x, hx', by rw [e, ey]⟩)).elim
      · exact ih nd.2 hx' hy' e
theorem way_cast {H : Hp} {v v' : V} {ws : List (Nat × Nat)} (e : v = v') (h : WayAt H v ws) : WayAt H v' ws := e ▸ h
theorem cat_cases {Q : VK} {H : Hp} {a b : Addr} {xs ys : List V} (hy : ys ≠ []) (key : ∀ v H6, (v = .ref b ∧ H6 = H ∧ xs = []) ∨ (∃ p, H p = none ∧ v = .ref p ∧ H6 = upd H p (.tup (xs ++ ys)) ∧ xs ≠ []) → Q v H6) :
    (xs = [] → Q (.ref b) H) ∧ (xs ≠ [] → ys = [] → Q (.ref a) H) ∧ (xs ≠ [] → ys ≠ [] → ∀ p, H p = none → Q (.ref p) (upd H p (.tup (xs ++ ys)))) :=
  ⟨fun h => key _ _ (.inl ⟨rfl, rfl, h⟩), fun _ h => absurd h hy, fun h _ p np => key _ _ (.inr ⟨p, np, rfl, rfl, h⟩)⟩
/-- the name of a def's lambdas -/
abbrev lamQ (x : Str) : Str := (x ++ ".<locals>.") ++ "<lambda>"
/-- what words_from leaves: its own table may have grown -/
structure Sl (K : PySem.W.Frag) (H H' : Hp) : Prop where
  n : Xn H H'
  t : ∀ b ps, b ≠ tabP K "words_from" → H b = some (.tbl ps) → H' b = some (.tbl ps)
  w : LamX.TabS H' (tabP K "words_from") (lamQ "words_from")
def spWords (K : PySem.W.Frag) (P : Program) (w : World) : Sp := fun vs H Q _ => ∃ (y a : Addr) (n g : Nat) (T : List (Nat × Nat)) (s : Std), vs = [.ref y, .ref a] ∧ YardAt H y n T g ∧ YardOk n T g ∧ StAt H a s ∧ Wf n s ∧ LamX.TabS H (tabP K "words_from") (lamQ "words_from") ∧
  ∀ H' l (xs : SX) (Fs : List Std), Sl K H H' → H l = none → H' l = some (sdO P w l xs) → SKeys H' xs → xs.map (·.1) = Fs.map (fun s => s.map oL) → Fs.Nodup → (∀ s', s' ∈ Fs ↔ WR T s s') → Q (.ref l) H'
theorem Sl.of_sm {H H1 H' : Hp} (a : Sl K H H1) (b : Sm H1 H') : Sl K H H' :=
  ⟨a.n.trans b.n, fun c ps n h => b.o _ _ (a.t c ps n h), by
    obtain ⟨ps, h1, h2, h3⟩ := a.w
    refine ⟨ps, b.o _ _ h1, h2, fun pos cv hc => ?_⟩
    obtain ⟨c, e1, e2⟩ := h3 pos cv hc
    exact ⟨c, e1, b.o _ _ e2⟩⟩
theorem Sl.free {H H' : Hp} (e : Sl K H H') {l : Addr} (h : H' l = none) : H l = none := by
  cases q : H l with
  | none => rfl
  | some o =>
    by_cases ht : ∃ ps, o = .tbl ps
    · obtain ⟨ps, rfl⟩ := ht
      by_cases hl : l = tabP K "words_from"
      · obtain ⟨qs, h1, _⟩ := e.w
        rw [← hl, h] at h1; cases h1
      · rw [e.t l ps hl q] at h; cases h
    · rw [e.n l o q (fun ps z => ht ⟨ps, z⟩)] at h; cases h
/-- written where nothing stood at first, a known thing that is no code -/
theorem Sl.upd {H H' : Hp} (e : Sl K H H') {a : Addr} {u : HO} (h : H a = none) (h2 : H' a ≠ none → (∀ ps, H' a ≠ some (.tbl ps)) ∧ ∀ c q, H' a ≠ some (LamX.CodeO c q)) : Sl K H (L2.upd H' a u) :=
  ⟨e.n.upd h, fun c ps n q => by rw [upd_ne (ne_of_none q h)]; exact e.t c ps n q, by
    obtain ⟨ps, h1, h3, h4⟩ := e.w
    have ne : ∀ b o, H' b = some o → (∃ ps, o = .tbl ps) ∨ (∃ c q, o = LamX.CodeO c q) → b ≠ a := fun b o eb ho z => by
      subst z
      obtain ⟨x1, x2⟩ := h2 (by rw [eb]; simp)
      rcases ho with ⟨ps, rfl⟩ | ⟨c, q, rfl⟩
      · exact x1 _ eb
      · exact x2 _ _ eb
    refine ⟨ps, by rw [upd_ne (ne _ _ h1 (.inl ⟨_, rfl⟩))]; exact h1, h3, fun pos cv hc => ?_⟩
    obtain ⟨c, e1, e2⟩ := h4 pos cv hc
    exact ⟨c, e1, by rw [upd_ne (ne _ _ e2 (.inr ⟨_, _, rfl⟩))]; exact e2⟩⟩
theorem Sl.refl {H : Hp} (h : LamX.TabS H (tabP K "words_from") (lamQ "words_from")) : Sl K H H := ⟨Xn.refl H, fun _ _ _ e => e, h⟩
theorem Sl.new {H H' : Hp} (e : Sl K H H') {a : Addr} {u : HO} (h : H' a = none) : Sl K H (L2.upd H' a u) := e.upd (e.free h) fun z => absurd h z
/-- between two turns of the while -/
def wdW (K : PySem.W.Frag) (P : Program) (w : World) (H : Hp) (y a F : Addr) (T : List (Nat × Nat)) (st : Std) (m : Nat) (σ : L2.St) (H' : Hp) : Prop :=
  ∃ (xs : SX) (Fs : List Std) (ly : Addr) (ks : List Addr) (Ls : List Std) (y3 y4 y5 y6 y7 : Option V), σ = [some (.ref y), some (.ref a), some (.ref ly), y3, y4, y5, y6, y7, some (.ref F)] ∧ Sl K H H' ∧ H' F = some (sdO P w F xs) ∧ SKeys H' xs ∧
    xs.map (·.1) = Fs.map (fun s => s.map oL) ∧ (∀ x ∈ xs, ∃ ws, WayAt H' x.2.2 ws ∧ ws.length < Fs.length) ∧ H' ly = some (.lst (ks.map V.ref)) ∧ Paired (fun k s => StAt H' k s) ks Ls ∧ WdI T st Fs Ls ∧ m = 2 * (NB - Fs.length) + (if ks = [] then 0 else 1)
theorem mem_tf4 : (("words_from", none) : He.Defn) ∈ tf := List.mem_cons_of_mem _ (List.mem_cons_of_mem _ (List.mem_cons_of_mem _ (List.mem_cons_of_mem _ (List.mem_cons_self ..))))
theorem sc_words : FnScope ["yard", "standing", "layer", "later", "one", "slide", "other", "way", "found"] ["yard", "standing"] (defScope s_words_from) := ⟨rfl, rfl, rfl, by decide +kernel, rfl, by decide +kernel, by decide +kernel⟩
theorem ok_words_from (T : Txt K mg) (B : Tbs K mg base) : Ok P w K mg base CX0 3 "words_from" ["yard", "standing"] (spWords K P w) := by
  refine ok_of (f_words_from T) (g_words_from T) sc_words (fun _ _ _ _ _ _ us hl => match us, hl with | [_, _], _ => rfl) (fun vs H Q E h => ?_) (fun cdv A outer s H vs Q E hcd hr h => ?_)
  · obtain ⟨y, a, n, g, T, s, rfl, _⟩ := h
    rfl
  · obtain ⟨y, a, n, g, Ts, st, rfl, hy, hY, hs, hwf, hT, q⟩ := h
    have nd := sc_words.nd
    have hu := hu_of hr
    have TB : LamX.TabB base mg (He.codeOf K ("words_from", none)) (tabP K "words_from") := let h := (B _ mem_tf4).1; ⟨h.code, h.bm, h.gP⟩
    have hr1 : Room 1 _ := hr.mono (by decide)
    refine ⟨_, pss_cons (ps_asg (pe_tup (pa_cons (pe_sone hu (pv 1) (pe_tup pa_nil)) (pa_cons (pe_lst (pa_cons (pv 1) pa_nil)) pa_nil))) (pg_tup rfl (pgs_cons (pg_name (i := 8) nd rfl (.inr rfl)) (pgs_cons (pg_name (i := 2) nd rfl (.inl rfl)) pgs_nil))))
      (pss_cons (ps_while PassesOwn.never (pt_truth (pv 2) (by intro _; rfl))
        (pss_cons (ps_set (i := 3) nd rfl (.inl rfl) pe_snew)
        (pss_cons (ps_for PassesOwn.never rfl (pi_list (pv 2)) (pg_name (i := 4) nd rfl (.inl rfl))
          (pss_one (ps_for PassesOwn.never rfl (pi_list (pe_cl (ok_slides_of T) hr (pa_cons (pv 0) (pa_cons (pv 4) pa_nil)))) (pg_name (i := 5) nd rfl (.inl rfl))
            (pss_cons (ps_set (i := 6) nd rfl (.inl rfl) (pe_cl (ok_slid T) hr1 (pa_cons (pv 4) (pa_cons (pv 5) pa_nil))))
            (pss_one (ps_if (pt_cmp (pc_snotin hu (pv 6) (pv 8)))
              (pss_cons (ps_set (i := 7) nd rfl (.inl rfl) (pe_op op_catA (pe_sget hu (pv 8) (pv 4) (fun _ _ => rfl)) (pe_tup (pa_cons (pv 5) pa_nil))))
              (pss_one (ps_sput hu (pv 3) (pv 6) (pe_callB (cr_min2D hr) (by rfl) (m_min T) (by decide +kernel) (pa_cons (pv 7) (pa_cons (pe_sget2 hu (pv 3) (pv 6) (pv 7) ⟨rfl, rfl, rfl, rfl⟩) pa_nil))) (by rfl))))
              pss_nil))))))
        (pss_cons (ps_expr (pe_supd hu (pv 8) (pv 3) ⟨rfl, rfl, rfl, rfl⟩))
        (pss_one (ps_set (i := 2) nd rfl (.inl rfl) (pe_sortLam (i := 8) hr (by rfl) (m_sorted T) TB (by exact hcd) (lsc_by (sc := defScope s_words_from) (by decide +kernel) rfl) (pa_cons (pv 3) pa_nil) (by rfl) (.inl rfl) (fun _ _ _ _ _ _ => rfl) (by rfl))))))))
      (pss_one (ps_ret (pv 8)))), ?_⟩
    obtain ⟨ta, ey, hTa⟩ := id hy
    have h7 := hY.n7
    -- found, layer = ({standing: ()}, [standing])
    refine fun F nF => ⟨_, rfl, Nat.zero_le _, fun W0 nW0 => ?_⟩
    have l0 := Sl.refl hT
    have nFW : F ≠ W0 := ne_of_none upd_same nW0
    have l1 := l0.new (u := sdO P w F []) nF
    have l2 := l1.new (u := .tup []) nW0
    have eF2 : upd (upd H F (sdO P w F [])) W0 (.tup []) F = some (sdO P w F []) := by rw [upd_ne nFW, upd_same]
    refine ⟨a, st.map oL, .ref W0, rfl, (hs.xn l2.n).key, eF2, ?_⟩
    have l3 := l2.upd (u := sdO P w F [(st.map oL, a, .ref W0)]) nF fun _ => by
      rw [eF2]
      exact ⟨fun ps z => (by cases z), fun c q z => sdO_ne c q (Option.some.inj z)⟩
    have eW3 : upd (upd (upd H F (sdO P w F [])) W0 (.tup [])) F (sdO P w F [(st.map oL, a, .ref W0)]) W0 = some (.tup []) := by rw [upd_ne nFW.symm, upd_same]
    refine ⟨_, rfl, (by show 1 ≤ sizeLine; decide), fun L0 nL0 => ⟨(by show 2 ≤ sizeLine; decide), fun T0 nT0 => ?_⟩⟩
    have l4 := l3.new (u := .lst [.ref a]) nL0
    have l5 := l4.new (u := .tup [.ref F, .ref L0]) nT0
    have nFL : F ≠ L0 := ne_of_none upd_same nL0
    have eF4 : upd (upd (upd (upd H F (sdO P w F [])) W0 (.tup [])) F (sdO P w F [(st.map oL, a, .ref W0)])) L0 (.lst [.ref a]) F = some (sdO P w F [(st.map oL, a, .ref W0)]) := by rw [upd_ne nFL, upd_same]
    have nFT : F ≠ T0 := ne_of_none eF4 nT0
    have nLT : L0 ≠ T0 := ne_of_none upd_same nT0
    have nWL : W0 ≠ L0 := ne_of_none eW3 nL0
    have nWT : W0 ≠ T0 := ne_of_none (show upd (upd (upd (upd H F (sdO P w F [])) W0 (.tup [])) F (sdO P w F [(st.map oL, a, .ref W0)])) L0 (.lst [.ref a]) W0 = some (.tup []) by rw [upd_ne nWL]; exact eW3) nT0
    refine ⟨T0, _, rfl, SqT.of upd_same, rfl, _, _, rfl, _, _, rfl, rfl, ?_⟩
    refine ⟨wdW K P w H y a F Ts st, ⟨_, [(st.map oL, a, .ref W0)], [st], L0, [a], [st], none, none, none, none, none, rfl, l5, ?_, ?_, rfl, ?_, ?_, .cons (hs.xn l5.n) .nil, ⟨by simp, by simp, fun s hs => ?_, fun s hs => hs, fun s h1 h2 => absurd h1 h2⟩, rfl⟩, fun m σ H1 hw => ?_⟩
    · rw [upd_ne nFT, upd_ne nFL, upd_same]; rfl
    · intro x hx
      obtain rfl : x = (st.map oL, a, .ref W0) := by simpa using hx
      exact (hs.xn l5.n).key
    · intro x hx
      obtain rfl : x = (st.map oL, a, .ref W0) := by simpa using hx
      exact ⟨[], ⟨W0, [], rfl, by rw [upd_ne nWT, upd_ne nWL]; exact eW3, .nil⟩, Nat.lt_succ_self 0⟩
    · rw [upd_ne nLT, upd_same]; rfl
    · have e : s = st := by simpa using hs
      rw [e]; exact .base
    obtain ⟨xs, Fs, ly, ks, Ls, y3, y4, y5, y6, y7, rfl, sl, eF, kF, hkeys, hways, ely, pL, hI, rfl⟩ := hw
    have lF : Fs.length ≤ NB := wf_len h7 hI.nd fun s hs => (hI.re s hs).wf hwf
    have lxs : xs.length = Fs.length := by have := congrArg List.length hkeys; simpa using this
    refine ⟨_, rfl, _, .inl ⟨_, SqL.of ely, rfl⟩, ite2 (fun c => ?_) (fun c => ?_)⟩
    · -- a turn
      have hne : ks ≠ [] := fun z => by rw [z] at c; cases c
      refine ⟨fun σ' H' => ∃ m', m' < 2 * (NB - Fs.length) + (if ks = [] then 0 else 1) ∧ wdW K P w H y a F Ts st m' σ' H', fun _ _ z => z, ?_⟩
      rw [if_neg hne]
      intro lt nlt
      have nFt : F ≠ lt := ne_of_none eF nlt
      have nyt : ly ≠ lt := ne_of_none ely nlt
      have s1 := (Sm.refl H1).upd (u := sdO P w lt []) nlt
      refine ⟨_, rfl, ly, rfl, ⟨_, SqL.of (s1.lst ely)⟩, for_list (K := K) (a := ly) (xs := ks.map V.ref) (fun i σ H2 => ∃ (ms : SX) (G : List Std) (y4 y5 y6 y7 : Option V),
          σ = [some (.ref y), some (.ref a), some (.ref ly), some (.ref lt), y4, y5, y6, y7, some (.ref F)] ∧ Sm H1 H2 ∧ H2 lt = some (sdO P w lt ms) ∧ SKeys H2 ms ∧ ms.map (·.1) = G.map (fun s => s.map oL) ∧
          (∀ x ∈ ms, ∃ ws, WayAt H2 x.2.2 ws ∧ ws ≠ [] ∧ ws.length < Fs.length + 1) ∧ WdJ Ts st Fs G (Ls.take i))
        ⟨[], [], y4, y5, y6, y7, rfl, s1, upd_same, fun x hx => (by cases hx), rfl, fun x hx => (by cases hx), WdJ.start hI⟩ (fun i σ H2 _ ⟨_, _, _, _, _, _, _, z, _⟩ => SqL.of (z.lst ely)) (fun i x σ H2 hx z => ?_) (fun σ H2 z => ?_)⟩
      · obtain ⟨ms, G, z4, z5, z6, z7, rfl, sm2, elt, kM, hmk, hmw, hJ⟩ := z
        obtain ⟨k, hk, rfl⟩ : ∃ k, ks[i]? = some k ∧ x = .ref k := by
          rw [List.getElem?_map] at hx
          cases e : ks[i]? with
          | none => rw [e] at hx; cases hx
          | some u => rw [e] at hx; exact ⟨u, rfl, (Option.some.inj hx).symm⟩
        obtain ⟨s, hs', sk⟩ := Paired.get' pL hk
        have hsF : s ∈ Fs := hI.sub s (List.mem_of_getElem? hs')
        have hsR : WR Ts st s := hI.re s hsF
        have hsW : Wf n s := hsR.wf hwf
        have n2 := (sl.n.trans sm2.n)
        refine ⟨_, rfl, _, rfl, y, k, n, g, Ts, s, rfl, hy.xn n2, hY, sk.xn sm2.n, hsW.1, fun H3 nl L s3 nnl ⟨ts, eL, pS⟩ lL hL => ⟨nl, rfl, ⟨_, SqL.of eL⟩, ?_⟩⟩
        refine for_list (K := K) (a := nl) (xs := ts.map V.ref) (fun j σ H4 => ∃ (ms : SX) (G : List Std) (y5 y6 y7 : Option V),
            σ = [some (.ref y), some (.ref a), some (.ref ly), some (.ref lt), some (.ref k), y5, y6, y7, some (.ref F)] ∧ Sm H1 H4 ∧ H4 lt = some (sdO P w lt ms) ∧ SKeys H4 ms ∧ ms.map (·.1) = G.map (fun s => s.map oL) ∧
            (∀ x ∈ ms, ∃ ws, WayAt H4 x.2.2 ws ∧ ws ≠ [] ∧ ws.length < Fs.length + 1) ∧ H4 nl = some (.lst (ts.map V.ref)) ∧ Paired (fun t p => H4 t = some (.tup (tieV p))) ts L ∧ WdJ Ts st Fs G (Ls.take i) ∧ ∀ q ∈ L.take j, slidS s q.1 q.2 ∈ Fs ++ G)
          ⟨ms, G, z5, z6, z7, rfl, sm2.trans s3, s3.ext elt, kM.xn s3.n, hmk, fun x hx => (let ⟨ws, h1, h2⟩ := hmw x hx; ⟨ws, h1.xn s3.n, h2⟩), eL, pS, hJ, fun q hq => by simp at hq⟩
          (fun j σ H4 _ ⟨_, _, _, _, _, _, _, _, _, _, _, z, _⟩ => SqL.of z) (fun j x σ H4 hx z => ?_) (fun σ H4 z => ?_)
        · obtain ⟨ms, G, w5, w6, w7, rfl, sm4, elt4, kM4, hmk4, hmw4, enl, pS4, hJ4, hD⟩ := z
          obtain ⟨t, ht, rfl⟩ : ∃ t, ts[j]? = some t ∧ x = .ref t := by
            rw [List.getElem?_map] at hx
            cases e : ts[j]? with
            | none => rw [e] at hx; cases hx
            | some u => rw [e] at hx; exact ⟨u, rfl, (Option.some.inj hx).symm⟩
          obtain ⟨⟨p, h⟩, hq, et⟩ := Paired.get' pS4 ht
          have hsl : slides Ts s p h := (hL p h).mp (List.mem_of_getElem? hq)
          have hpl : p < s.length := (List.getElem?_eq_some_iff.mp hsl.1.choose_spec).1
          have hhl : h < s.length := (List.getElem?_eq_some_iff.mp hsl.2.2).1
          have hR' : WR Ts st (slidS s p h) := hsR.step hsl
          refine ⟨_, rfl, _, rfl, k, t, s, p, h, rfl, sk.xn sm4.n, et, hpl, hhl, by rw [hsW.1]; exact h7, fun H5 ol s5 nol eol => ?_⟩
          have sm5 := sm4.trans s5
          have kol : Rd H5 ol (.tup (((slidS s p h).map oL).map lfV)) := .inl (by rw [map_oL]; exact eol)
          have sdF : SD P w H5 F xs := ⟨.inl (sm5.ext eF), kF.xn sm5.n⟩
          have lM : ms.length = G.length := by have := congrArg List.length hmk4; simpa using this
          have lFG : (Fs ++ G).length ≤ NB := wf_len h7 hJ4.nd fun s hs => (hJ4.re s hs).wf hwf
          refine ⟨_, rfl, _, rfl, F, ol, (slidS s p h).map oL, xs, rfl, sdF, rfl, kol, _, rfl, ite2 (fun c2 => ?_) (fun c2 => ?_)⟩
          · have hnF : slidS s p h ∉ Fs := fun z => by
              have : (slidS s p h).map oL ∈ xs.map (·.1) := by rw [hkeys]; exact List.mem_map.mpr ⟨_, z, rfl⟩
              obtain ⟨_, _, _, e⟩ := valS_some this
              rw [e] at c2; cases c2
            obtain ⟨x0, hx0, e0, ev0⟩ := valS_some (xs := xs) (k := s.map oL) (by rw [hkeys]; exact List.mem_map.mpr ⟨_, hsF, rfl⟩)
            obtain ⟨ws, hwy, hwl⟩ := hways x0 hx0
            obtain ⟨wa, us, ewa, eus, pus⟩ := hwy.xn sm5.n
            have lus := Paired.length pus
            have hlw : ws.length < 2097152 + 1 := by have e : NB = 2097152 := (by rfl); omega
            refine ⟨_, rfl, _, rfl, F, k, s.map oL, x0.2.2, xs, rfl, sdF, rfl, (sk.xn sm5.n).key, ev0, _, rfl, (by show 1 ≤ sizeLine; decide), fun T1 nT1 => ?_⟩
            have s6 := (Sm.refl H5).new (u := .tup [.ref t]) nT1
            have et6 := s6.tup (s5.tup et)
            refine ⟨wa, T1, us.map V.ref, [.ref t], ewa, rfl, SqT.of (s6.tup eus), SqT.of upd_same, ?_, fun h0 => ?_, fun _ h => absurd h (by simp), fun h0 _ p0 np => ?_⟩
            · rw [List.length_map, lus, sizeLine_eq]; show ws.length + 1 ≤ _; omega
            · have hh : Sm H5 (upd H5 T1 (.tup [.ref t])) ∧ WayAt (upd H5 T1 (.tup [.ref t])) (.ref T1) (ws ++ [(p, h)]) := by
                have hus : us = [] := by simpa using h0
                subst hus
                cases pus
                exact ⟨s6, T1, [t], rfl, upd_same, .cons et6 .nil⟩
              revert hh
              generalize upd H5 T1 (.tup [.ref t]) = H6
              generalize V.ref T1 = v
              intro hh
              obtain ⟨s7, wy⟩ := hh
              have sm7 := sm5.trans s7
              have elt7 : H6 lt = some (sdO P w lt ms) := s7.ext (s5.ext elt4)
              have kM7 : SKeys H6 ms := (kM4.xn s5.n).xn s7.n
              have kol7 : Rd H6 ol (.tup (((slidS s p h).map oL).map lfV)) := s7.n.rd (fun _ z => by cases z) kol
              have hmw7 : ∀ x ∈ ms, ∃ ws, WayAt H6 x.2.2 ws ∧ ws ≠ [] ∧ ws.length < Fs.length + 1 := fun x hx => let ⟨ws, h1, h2⟩ := hmw4 x hx; ⟨ws, (h1.xn s5.n).xn s7.n, h2⟩
              obtain ⟨wg, hg, hg1, hg2⟩ : ∃ wg, WayAt H6 ((valS ms ((slidS s p h).map oL)).getD v) wg ∧ wg ≠ [] ∧ wg.length < Fs.length + 1 := by
                by_cases hm : (slidS s p h).map oL ∈ ms.map (·.1)
                · obtain ⟨x1, hx1, _, e1⟩ := valS_some hm
                  rw [e1]
                  exact hmw7 x1 hx1
                · rw [valS_none.mpr hm]
                  exact ⟨_, wy, by simp, by rw [List.length_append]; show ws.length + 1 < _; omega⟩
              refine ⟨_, rfl, _, rfl, lt, ms, rfl, ⟨.inl elt7, kM7⟩, _, rfl, _, rfl, ol, _, ms, ⟨.inl elt7, kM7⟩, rfl, kol7, ?_⟩
              refine ⟨_, _, wayD (ws ++ [(p, h)]), wayD wg, rfl, wy.dp, hg.dp, alike2 _ _, depth2 _ _, fun v' hv' => ?_⟩
              obtain ⟨wf, hf, hf1, hf2⟩ : ∃ wf, WayAt H6 v' wf ∧ wf ≠ [] ∧ wf.length < Fs.length + 1 := by
                rcases hv' with rfl | rfl
                · exact ⟨_, wy, by simp, by rw [List.length_append]; show ws.length + 1 < _; omega⟩
                · exact ⟨wg, hg, hg1, hg2⟩
              have tn := tn_upd (u := sdO P w lt (putS ms ((slidS s p h).map oL) ol v')) elt7
              have nnl : nl ≠ lt := fun z => by
                have := s7.lst (s5.lst enl)
                rw [z, elt7] at this; cases this
              refine ⟨_, rfl, _, rfl, lt, ol, _, ms, rfl, elt7, kM7, rfl, kol7, by rw [lM, sizeLine_eq]; rw [List.length_append] at lFG; have e : NB = 2097152 := (by rfl); omega, ?_⟩
              refine ⟨putS ms ((slidS s p h).map oL) ol v', if slidS s p h ∈ G then G else G ++ [slidS s p h], _, _, _, rfl, sm7.upd nlt, upd_same, (kM7.put kol7).tn tn, ?_, fun x hx => ?_, ?_, ?_, ?_, fun q hq' => ?_⟩
              · rw [putS_keys, hmk4]
                by_cases hG : slidS s p h ∈ G
                · rw [if_pos hG, if_pos (List.mem_map.mpr ⟨_, hG, rfl⟩)]
                · rw [if_neg hG, if_neg (fun z => hG (by obtain ⟨u, hu', e⟩ := List.mem_map.mp z; rw [← mapL_inj e]; exact hu')), List.map_append]; rfl
              · rcases putS_mem hx with z | ⟨x1, _, e, _⟩ | e
                · obtain ⟨ws', h1, h2⟩ := hmw7 x z
                  exact ⟨ws', h1.tn tn, h2⟩
                · rw [e]; exact ⟨wf, hf.tn tn, hf1, hf2⟩
                · rw [e]; exact ⟨wf, hf.tn tn, hf1, hf2⟩
              · rw [upd_ne nnl]; exact s7.lst (s5.lst enl)
              · exact Paired.imp' (fun _ _ z => tn.t _ _ (s7.tup (s5.tup z))) pS4
              · by_cases hG : slidS s p h ∈ G
                · rw [if_pos hG]; exact hJ4
                · rw [if_neg hG]
                  exact hJ4.add (fun z => (List.mem_append.mp z).elim hnF hG) hR'
              · have hin : slidS s p h ∈ Fs ++ (if slidS s p h ∈ G then G else G ++ [slidS s p h]) := by
                  by_cases hG : slidS s p h ∈ G
                  · rw [if_pos hG]; exact List.mem_append_right _ hG
                  · rw [if_neg hG]; exact List.mem_append_right _ (List.mem_append_right _ (by simp))
                rw [take_succ' hq] at hq'
                rcases List.mem_append.mp hq' with z | z
                · have := hD q z
                  rcases List.mem_append.mp this with z | z
                  · exact List.mem_append_left _ z
                  · refine List.mem_append_right _ ?_
                    split
                    · exact z
                    · exact List.mem_append_left _ z
                · have : q = (p, h) := by simpa using z
                  rw [this]; exact hin
            · have hh : Sm H5 (upd (upd H5 T1 (.tup [.ref t])) p0 (.tup (us.map V.ref ++ [.ref t]))) ∧ WayAt (upd (upd H5 T1 (.tup [.ref t])) p0 (.tup (us.map V.ref ++ [.ref t]))) (.ref p0) (ws ++ [(p, h)]) := by
                have s7 := s6.new (u := .tup (us.map V.ref ++ [.ref t])) np
                exact ⟨s7, p0, us ++ [t], rfl, by rw [upd_same, List.map_append]; rfl, paired_app (Paired.imp' (fun _ _ z => s7.tup z) pus) (.cons (s7.tup (s5.tup et)) .nil)⟩
              revert hh
              generalize upd (upd H5 T1 (.tup [.ref t])) p0 (.tup (us.map V.ref ++ [.ref t])) = H6
              generalize V.ref p0 = v
              intro hh
              obtain ⟨s7, wy⟩ := hh
              have sm7 := sm5.trans s7
              have elt7 : H6 lt = some (sdO P w lt ms) := s7.ext (s5.ext elt4)
              have kM7 : SKeys H6 ms := (kM4.xn s5.n).xn s7.n
              have kol7 : Rd H6 ol (.tup (((slidS s p h).map oL).map lfV)) := s7.n.rd (fun _ z => by cases z) kol
              have hmw7 : ∀ x ∈ ms, ∃ ws, WayAt H6 x.2.2 ws ∧ ws ≠ [] ∧ ws.length < Fs.length + 1 := fun x hx => let ⟨ws, h1, h2⟩ := hmw4 x hx; ⟨ws, (h1.xn s5.n).xn s7.n, h2⟩
              obtain ⟨wg, hg, hg1, hg2⟩ : ∃ wg, WayAt H6 ((valS ms ((slidS s p h).map oL)).getD v) wg ∧ wg ≠ [] ∧ wg.length < Fs.length + 1 := by
                by_cases hm : (slidS s p h).map oL ∈ ms.map (·.1)
                · obtain ⟨x1, hx1, _, e1⟩ := valS_some hm
                  rw [e1]
                  exact hmw7 x1 hx1
                · rw [valS_none.mpr hm]
                  exact ⟨_, wy, by simp, by rw [List.length_append]; show ws.length + 1 < _; omega⟩
              refine ⟨_, rfl, _, rfl, lt, ms, rfl, ⟨.inl elt7, kM7⟩, _, rfl, _, rfl, ol, _, ms, ⟨.inl elt7, kM7⟩, rfl, kol7, ?_⟩
              refine ⟨_, _, wayD (ws ++ [(p, h)]), wayD wg, rfl, wy.dp, hg.dp, alike2 _ _, depth2 _ _, fun v' hv' => ?_⟩
              obtain ⟨wf, hf, hf1, hf2⟩ : ∃ wf, WayAt H6 v' wf ∧ wf ≠ [] ∧ wf.length < Fs.length + 1 := by
                rcases hv' with rfl | rfl
                · exact ⟨_, wy, by simp, by rw [List.length_append]; show ws.length + 1 < _; omega⟩
                · exact ⟨wg, hg, hg1, hg2⟩
              have tn := tn_upd (u := sdO P w lt (putS ms ((slidS s p h).map oL) ol v')) elt7
              have nnl : nl ≠ lt := fun z => by
                have := s7.lst (s5.lst enl)
                rw [z, elt7] at this; cases this
              refine ⟨_, rfl, _, rfl, lt, ol, _, ms, rfl, elt7, kM7, rfl, kol7, by rw [lM, sizeLine_eq]; rw [List.length_append] at lFG; have e : NB = 2097152 := (by rfl); omega, ?_⟩
              refine ⟨putS ms ((slidS s p h).map oL) ol v', if slidS s p h ∈ G then G else G ++ [slidS s p h], _, _, _, rfl, sm7.upd nlt, upd_same, (kM7.put kol7).tn tn, ?_, fun x hx => ?_, ?_, ?_, ?_, fun q hq' => ?_⟩
              · rw [putS_keys, hmk4]
                by_cases hG : slidS s p h ∈ G
                · rw [if_pos hG, if_pos (List.mem_map.mpr ⟨_, hG, rfl⟩)]
                · rw [if_neg hG, if_neg (fun z => hG (by obtain ⟨u, hu', e⟩ := List.mem_map.mp z; rw [← mapL_inj e]; exact hu')), List.map_append]; rfl
              · rcases putS_mem hx with z | ⟨x1, _, e, _⟩ | e
                · obtain ⟨ws', h1, h2⟩ := hmw7 x z
                  exact ⟨ws', h1.tn tn, h2⟩
                · rw [e]; exact ⟨wf, hf.tn tn, hf1, hf2⟩
                · rw [e]; exact ⟨wf, hf.tn tn, hf1, hf2⟩
              · rw [upd_ne nnl]; exact s7.lst (s5.lst enl)
              · exact Paired.imp' (fun _ _ z => tn.t _ _ (s7.tup (s5.tup z))) pS4
              · by_cases hG : slidS s p h ∈ G
                · rw [if_pos hG]; exact hJ4
                · rw [if_neg hG]
                  exact hJ4.add (fun z => (List.mem_append.mp z).elim hnF hG) hR'
              · have hin : slidS s p h ∈ Fs ++ (if slidS s p h ∈ G then G else G ++ [slidS s p h]) := by
                  by_cases hG : slidS s p h ∈ G
                  · rw [if_pos hG]; exact List.mem_append_right _ hG
                  · rw [if_neg hG]; exact List.mem_append_right _ (List.mem_append_right _ (by simp))
                rw [take_succ' hq] at hq'
                rcases List.mem_append.mp hq' with z | z
                · have := hD q z
                  rcases List.mem_append.mp this with z | z
                  · exact List.mem_append_left _ z
                  · refine List.mem_append_right _ ?_
                    split
                    · exact z
                    · exact List.mem_append_left _ z
                · have : q = (p, h) := by simpa using z
                  rw [this]; exact hin
          · have hF : slidS s p h ∈ Fs := Classical.byContradiction fun z => c2 (by
              rw [valS_none.mpr (fun y => z (by rw [hkeys] at y; obtain ⟨u, hu', e⟩ := List.mem_map.mp y; rw [← mapL_inj e]; exact hu'))]; rfl)
            refine ⟨ms, G, _, _, _, rfl, sm5, s5.ext elt4, kM4.xn s5.n, hmk4, fun x hx => (let ⟨ws, h1, h2⟩ := hmw4 x hx; ⟨ws, h1.xn s5.n, h2⟩), s5.lst enl, Paired.imp' (fun _ _ z => s5.tup z) pS4, hJ4, fun q hq' => ?_⟩
            rw [take_succ' hq] at hq'
            rcases List.mem_append.mp hq' with z | z
            · exact hD q z
            · have : q = (p, h) := by simpa using z
              rw [this]; exact List.mem_append_left _ hF
        · obtain ⟨ms4, G4, w5, w6, w7, rfl, sm4, elt4, kM4, hmk4, hmw4, enl, pS4, hJ4, hD⟩ := z
          refine ⟨ms4, G4, _, _, _, _, rfl, sm4, elt4, kM4, hmk4, hmw4, ?_⟩
          rw [take_succ' hs']
          refine hJ4.more fun p h hsl => ?_
          have hp := (hL p h).mpr hsl
          have l1 := Paired.length pS4
          exact hD (p, h) (by rw [List.length_map, l1, List.take_length]; exact hp)
      · obtain ⟨ms, G, z4, z5, z6, z7, rfl, sm2, elt, kM, hmk, hmw, hJ⟩ := z
        have lp := Paired.length pL
        rw [List.length_map, lp, List.take_length] at hJ
        have lM : ms.length = G.length := by have := congrArg List.length hmk; simpa using this
        have lFG : (Fs ++ G).length ≤ NB := wf_len h7 hJ.nd fun s hs => (hJ.re s hs).wf hwf
        have lFG' : Fs.length + G.length ≤ NB := by rw [List.length_append] at lFG; exact lFG
        have eF2 := sm2.ext eF
        have kF2 := kF.xn sm2.n
        have eNB : NB = 2097152 := rfl
        refine ⟨_, rfl, F, xs, rfl, ⟨.inl eF2, kF2⟩, _, rfl, lt, xs, ms, rfl, nFt, eF2, kF2, ⟨.inl elt, kM⟩, fun z => ?_, fun x hx hm => ?_, by rw [lxs, lM, sizeLine_eq]; omega, ?_⟩
        · have : st.map oL ∈ xs.map (·.1) := by rw [hkeys]; exact List.mem_map.mpr ⟨_, hI.st, rfl⟩
          rw [z] at this; cases this
        · have h1 : x.1 ∈ G.map (fun s => s.map oL) := by rw [← hmk]; exact List.mem_map.mpr ⟨_, hx, rfl⟩
          rw [hkeys] at hm
          obtain ⟨s1, hs1, e1⟩ := List.mem_map.mp h1
          obtain ⟨s2, hs2, e2⟩ := List.mem_map.mp hm
          have : s1 = s2 := mapL_inj (e1.trans e2.symm)
          exact (List.nodup_append.mp hJ.nd).2.2 s2 hs2 s1 hs1 this.symm
        have tn := tn_upd (u := sdO P w F (xs ++ ms)) eF2
        have sl2 := sl.of_sm sm2
        have sl3 : Sl K H (upd H2 F (sdO P w F (xs ++ ms))) := sl2.upd nF fun _ => by
          rw [eF2]
          exact ⟨fun ps z => (by cases z), fun c q z => sdO_ne c q (Option.some.inj z)⟩
        have elt3 : upd H2 F (sdO P w F (xs ++ ms)) lt = some (sdO P w lt ms) := by rw [upd_ne nFt.symm]; exact elt
        have kA : SKeys (upd H2 F (sdO P w F (xs ++ ms))) (xs ++ ms) := fun x hx => by
          rcases List.mem_append.mp hx with z | z
          · exact kF2.tn tn x z
          · exact kM.tn tn x z
        have hkA : (xs ++ ms).map (·.1) = (Fs ++ G).map (fun s => s.map oL) := by rw [List.map_append, List.map_append, hkeys, hmk]
        have ndA : ((xs ++ ms).map (·.1)).Nodup := by
          rw [hkA, List.nodup_iff_pairwise_ne, List.pairwise_map]
          exact (List.nodup_iff_pairwise_ne.mp hJ.nd).imp fun hne e => hne (mapL_inj e)
        have hwM : ∀ x ∈ ms, ∃ ws, WayAt (upd H2 F (sdO P w F (xs ++ ms))) x.2.2 ws ∧ ws ≠ [] ∧ ws.length < Fs.length + 1 := fun x hx => let ⟨ws, h1, h2⟩ := hmw x hx; ⟨ws, h1.tn tn, h2⟩
        have hwX : ∀ x ∈ xs, ∃ ws, WayAt (upd H2 F (sdO P w F (xs ++ ms))) x.2.2 ws ∧ ws.length < Fs.length := fun x hx => let ⟨ws, h1, h2⟩ := hways x hx; ⟨ws, (h1.xn sm2.n).tn tn, h2⟩
        have hval : ∀ x ∈ ms, valS (xs ++ ms) x.1 = some x.2.2 := fun x hx => by
          have hm : x ∈ xs ++ ms := List.mem_append_right _ hx
          obtain ⟨x1, hx1, e1, e2⟩ := valS_some (List.mem_map.mpr ⟨x, hm, rfl⟩ : x.1 ∈ (xs ++ ms).map (·.1))
          rw [e2, key_unique ndA hx1 hm e1]
        obtain ⟨enc, henc⟩ : ∃ enc : List Leaf → List (Nat × Nat), ∀ x ∈ ms, WayAt (upd H2 F (sdO P w F (xs ++ ms))) x.2.2 (enc x.1) ∧ enc x.1 ≠ [] := by
          classical
          refine ⟨fun k => if h : ∃ x ∈ ms, x.1 = k then (hwM h.choose h.choose_spec.1).choose else [], fun x hx => ?_⟩
          have h : ∃ y ∈ ms, y.1 = x.1 := ⟨x, hx, rfl⟩
          have e : h.choose = x := key_unique ndA (List.mem_append_right _ h.choose_spec.1) (List.mem_append_right _ hx) h.choose_spec.2
          simp only [dif_pos h]
          have := (hwM h.choose h.choose_spec.1).choose_spec
          exact ⟨way_cast (by rw [e]) this.1, this.2.1⟩
        refine ⟨_, rfl, lt, F, ms, xs ++ ms, fun k => wayD (enc k), rfl, ⟨.inl elt3, kM.tn tn⟩, rfl, ⟨.inl upd_same, kA⟩, sl3.w, fun x hx => ⟨_, hval x hx, (henc x hx).1.dp, fun h u as r => pure_way _ h u as r, Nat.le_trans (depth_way _) (by decide)⟩, ?_, ?_, fun H4 p ks' xn ht2 hT2 np hperm => ?_⟩
        · intro d hd d' hd'
          obtain ⟨x, _, rfl⟩ := List.mem_map.mp hd
          obtain ⟨x', _, rfl⟩ := List.mem_map.mp hd'
          exact alike_ways _ _
        · refine .inl fun d hd => ?_
          obtain ⟨x, hx, rfl⟩ := List.mem_map.mp hd
          show ∃ y r, PyData.tuple ((enc x.1).map pairD) = .tuple (y :: r)
          cases e : enc x.1 with
          | nil => exact absurd e (henc x hx).2
          | cons q r => exact ⟨pairD q, r.map pairD, rfl⟩
        have sl4 : Sl K H H4 := ⟨sl3.n.trans xn, fun b ps n e => ht2 b ps n (sl3.t b ps n e), hT2⟩
        have xp : Xn H4 (upd H4 p (.lst (ks'.map V.ref))) := (Xn.refl H4).upd np
        have x5 := xn.trans xp
        have hlay : ∀ k ∈ ks', ∃ s ∈ G, StAt (upd H4 p (.lst (ks'.map V.ref))) k s := fun k hk => by
          obtain ⟨x, hx, e⟩ := List.mem_map.mp (hperm.mem_iff.mp hk)
          have h1 : x.1 ∈ G.map (fun s => s.map oL) := by rw [← hmk]; exact List.mem_map.mpr ⟨_, hx, rfl⟩
          obtain ⟨s1, hs1, e1⟩ := List.mem_map.mp h1
          refine ⟨s1, hs1, ?_⟩
          have := (kM.tn tn).xn x5 x hx
          rw [← e1, map_oL, e] at this
          exact this
        obtain ⟨Ls', pL', hsub⟩ := layer_of hlay
        have hall : ∀ s ∈ G, s ∈ Ls' := fun s hs => by
          have h1 : s.map oL ∈ ms.map (·.1) := by rw [hmk]; exact List.mem_map.mpr ⟨_, hs, rfl⟩
          obtain ⟨x, hx, e⟩ := List.mem_map.mp h1
          have hk : x.2.1 ∈ ks' := hperm.mem_iff.mpr (List.mem_map.mpr ⟨x, hx, rfl⟩)
          obtain ⟨s', hs', sk⟩ := paired_mem pL' hk
          have := (kM.tn tn).xn x5 x hx
          rw [e, map_oL] at this
          have e2 : s = s' := StAt.inj this sk
          rw [e2]; exact hs'
        refine ⟨2 * (NB - (Fs ++ G).length) + (if ks' = [] then 0 else 1), ?_, xs ++ ms, Fs ++ G, p, ks', Ls', _, _, _, _, _, rfl, sl4.new np, ?_, kA.xn x5, hkA, fun x hx => ?_, upd_same, pL', hJ.turn hI hsub hall, rfl⟩
        · rw [List.length_append]
          by_cases hG : G = []
          · have hms : ms = [] := List.length_eq_zero_iff.mp (by rw [lM, hG]; rfl)
            have hks : ks' = [] := by rw [hms] at hperm; exact List.perm_nil.mp hperm
            rw [if_pos hks, hG]
            show 2 * (NB - (Fs.length + 0)) + 0 < _
            omega
          · have h1 : 0 < G.length := List.length_pos_iff.mpr hG
            split <;> omega
        · exact x5.ext upd_same
        · rw [List.length_append]
          rcases List.mem_append.mp hx with z | z
          · obtain ⟨ws, h1, h2⟩ := hwX x z
            exact ⟨ws, h1.xn x5, by omega⟩
          · obtain ⟨ws, h1, _, h2⟩ := hwM x z
            have h3 : 0 < ms.length := List.length_pos_iff.mpr (fun e => by rw [e] at z; cases z)
            exact ⟨ws, h1.xn x5, by omega⟩
    · -- the end
      have hks : ks = [] := by
        cases ks with
        | nil => rfl
        | cons b r => exact absurd rfl c
      subst hks
      cases pL
      exact ⟨_, rfl, q H1 F xs Fs sl nF eF kF hkeys hI.nd hI.all⟩
end
end HT
/-! text W5 -/
set_option maxHeartbeats 4000000
namespace HT
open PySem PySem.Spec PyProof.Rows L2
theorem tn_upd2 {H : Hp} {a : Addr} {u0 u : HO} (h : H a = some u0) (n1 : ∀ xs, u0 ≠ .tup xs) (n2 : ∀ o v, u0 ≠ .frz o v) : Tn H (upd H a u) :=
  ⟨fun b xs e => by rw [upd_ne (fun z => by rw [z, h] at e; exact n1 _ (Option.some.inj e))]; exact e, fun b o v e => by rw [upd_ne (fun z => by rw [z, h] at e; exact n2 _ _ (Option.some.inj e))]; exact e⟩
theorem putK_mem {l : List Nat} {v : Nat} (h : v ∈ l) : putK (dkN l) (Sum.inl (v : Int)) (.bl true) = dkN l := by
  unfold putK
  split
  · unfold dkN
    rw [List.map_map]
    refine List.map_congr_left fun x hx => ?_
    show (if (Sum.inl (x : Int) : Key) = Sum.inl (v : Int) then (Sum.inl (x : Int), V.bl true) else (Sum.inl (x : Int), V.bl true)) = _
    split <;> rfl
  · next c =>
    refine absurd ?_ c
    rw [List.any_eq_true]
    exact ⟨(Sum.inl (v : Int), .bl true), List.mem_map.mpr ⟨v, h, rfl⟩, decide_eq_true rfl⟩
/-! ### for k in d, d a dict of standings that is read no more after -/
section
variable {X : Cx} {pins : List (Addr × Obj)} {σ : L2.St} {H : Hp} {s : Shared} {d : Addr} {o : Obj}
theorem inv_frzS {xs : SX} (I : Inv X pins σ H s) (h : H d = some (.frz o (sdO X.prog X.w d xs))) :
    (d == sysModules) = false ∧ s.heap.get? d = some o ∧ o.ExactDict ∧ ∃ (es : Array DictEntry) (ep : Nat), o.data = .dict es ep ∧ es.size = xs.length ∧
      ∀ (i : Nat) (x : List Leaf × Addr × V), xs[i]? = some x → ∃ (en : DictEntry), es[i]? = some en ∧ en.key = .ref x.2.1 := by
  obtain ⟨hd, ⟨⟨z, hs, vs, rel, o', es, ep, ho, hx, hdt, he, _⟩, _, _⟩⟩ := I.hok d _ h
  rw [hd] at ho
  cases ho
  have l1 : es.size = vs.length := size_of_entries he
  have l2 : xs.length = vs.length := Paired.length rel
  refine ⟨hs, hd, hx, es, ep, hdt, by omega, fun i x e => ?_⟩
  obtain ⟨b, hb, e1, e2, _⟩ := paired_get rel e
  have q := entry_at he i
  rw [hb] at q
  exact ⟨_, q, by show Value.ref b.2.1 = _; rw [e2]⟩
end
def Itks (P : Program) (w : World) (d : Addr) (o : Obj) (xs : SX) : It :=
  ⟨fun i H => H d = some (.frz o (sdO P w d xs)) ∧ i < xs.length, fun i H x H' => H' = H ∧ ∃ e, xs[i]? = some e ∧ x = .ref e.2.1, fun i H => H d = some (.frz o (sdO P w d xs)) ∧ xs.length ≤ i⟩
theorem turn_keysS {P : Program} {w : World} {K : PySem.W.Frag} {tg : Expr} {d : Addr} {o : Obj} {es : Array DictEntry} {ep : Nat} {xs : SX} (it : Addr) (hod : o.data = .dict es ep) : Turn P w K tg (Itks P w d o xs) [it] it (fun i h => h.IsKeyIter it d i xs.length ep) where
  mem := by simp
  obj := fun i h st b hb => by
    have e : b = it := by simpa using hb
    subst e
    obtain ⟨oi, e, c, dd⟩ := st
    exact ⟨oi, e, fun v z => by rw [dd] at z; cases z⟩
  keep := fun i h h' st k => st.at fun oi e => k it (by simp) oi e
  item := by
    intro X hP hw hK hc i pins s σ H E I hf st hg
    subst hP hw hK
    obtain ⟨hd, hi⟩ := hg
    obtain ⟨f0, f1, f2, f3, f4, f5⟩ := hf it (by simp)
    obtain ⟨hs, hgd, hx, es', ep', hdt, hsz, ent⟩ := inv_frzS I hd
    obtain ⟨rfl, rfl⟩ := dict_ep hod hdt
    obtain ⟨x, hx2⟩ : ∃ p, xs[i]? = some p := ⟨xs[i], List.getElem?_eq_getElem hi⟩
    obtain ⟨en, hen, hkey⟩ := ent i x hx2
    refine next_key_item st hgd hdt hsz hen fun h' st' sb => ?_
    have I1 : Inv X pins σ H { s with heap := h' } := I.turned (t' := s.toks) (fun b ob hb e => (sb.2 b hb).trans e) f0 f1 f3 f4 f5
    obtain ⟨oi, e, c, dd⟩ := id st'
    exact ⟨en.key, rfl, go_of (s := { s with heap := h' }) e c dd (by decide) ⟨.ref x.2.1, H, I1, hkey, ⟨rfl, x, hx2, rfl⟩, st', fun b hb => (hf b hb).1⟩⟩
  done := by
    intro X hP hw hK hc i pins s σ H E I hf st hg
    subst hP hw hK
    obtain ⟨hd, hi⟩ := hg
    obtain ⟨f0, f1, f2, f3, f4, f5⟩ := hf it (by simp)
    obtain ⟨hs, hgd, hx, es', ep', hdt, hsz, ent⟩ := inv_frzS I hd
    obtain ⟨rfl, rfl⟩ := dict_ep hod hdt
    exact next_key_end (I.ok.hd hc) st hgd hdt hsz hi fun h' eb => ⟨rfl, I.turned (t' := s.toks) (fun b ob hb e => eb b ob hb e) f0 f1 f3 f4 f5⟩
  self := fun A i s Q E st h => by
    refine wpAny_pyIter_slot st.typeIs F.slot_dict_keyiterator_iter (wpAny_call_entry F.slot_dict_keyiterator_iter st.typeIs F.entry_dict_keyiterator_iter ?_ (F.args_dict_keyiterator_iter_1 _))
    show wpAny _ _ (ret (.ref it)) _ _ s
    exact wpAny_pure ⟨_, rfl, "dict_keyiterator", _, st.typeIs, F.slot_dict_keyiterator_next.lookup, h⟩
def iSKeys (P : Program) (w : World) (td : TE) : TI := fun σ H R => td σ H fun x H1 => ∃ d xs, x = .ref d ∧ H1 d = some (sdO P w d xs) ∧ ∀ od, R (Itks P w d od xs) (upd H1 d (.frz od (sdO P w d xs)))
theorem pi_skeys {X : Cx} {tg e : Expr} {td : TE} (he : PE X e td) : PI X tg e (iSKeys X.prog X.w td) := by
  refine ⟨fun pins s σ H R I h => ?_⟩
  refine thn (he.run pins s σ H _ I h) fun u s1 ⟨x, H1, I1, rx, d, xs, ex, hd, q⟩ => ?_
  subst ex
  obtain rfl : u = Value.ref d := rx
  obtain ⟨od, I2⟩ := I1.lock hd (show Mut (some (sdO X.prog X.w d xs)) from True.intro)
  obtain ⟨hs, hgd, hx, es, ep, hdt, hsz, ent⟩ := inv_frzS I2 (by rw [upd_same])
  refine iter_keys hs hgd hx hdt (pi_one (tk := s1.toks) I2 _ (turn_keysS _ hdt) ⟨_, Heap.get?_push_size _ rfl, rfl, ?_⟩ (q od))
  rw [hsz] <;> rfl
theorem walk_keysS {P : Program} {w : World} {d : Addr} {o : Obj} {xs : SX} : Walk (Itks P w d o xs) xs.length (fun H => H d = some (.frz o (sdO P w d xs))) (fun i H x H' => H' = H ∧ ∃ e, xs[i]? = some e ∧ x = .ref e.2.1) :=
  ⟨fun _ _ hi q => ⟨q, hi⟩, fun _ q => ⟨q, Nat.le_refl _⟩, fun _ _ _ _ _ _ y => y⟩
section
variable {P : Program} {w : World} {K : PySem.W.Frag} {mg : Str → Option Value} {base : Heap}
/-! ### gate_books -/
def spGate (K : PySem.W.Frag) : Sp := fun vs H Q _ => ∃ (y a : Addr) (n g : Nat) (T : List (Nat × Nat)) (s : Std), vs = [.ref y, .ref a] ∧ YardAt H y n T g ∧ YardOk n T g ∧ StAt H a s ∧ Wf n s ∧ LamX.TabS H (tabP K "words_from") (lamQ "words_from") ∧
  ∀ H' l (B : List Nat), Sl K H H' → H l = none → H' l = some (.lst (iv B)) → B.length ≤ n → (∀ b, b ∈ B ↔ ∃ s', WR T s s' ∧ s'[g]? = some (some b)) → Q (.ref l) H'
theorem sc_gate : FnScope ["yard", "standing", "found", "one"] ["yard", "standing"] (defScope s_gate_books) := ⟨rfl, rfl, rfl, by decide +kernel, rfl, by decide +kernel, by decide +kernel⟩
theorem Sl.upd' {H H' : Hp} (e : Sl K H H') {a : Addr} {u v : HO} (h : H a = none) (h2 : H' a = some v) (h3 : (∀ ps, v ≠ .tbl ps) ∧ ∀ φ, v ≠ .ext φ) : Sl K H (L2.upd H' a u) :=
  e.upd h fun _ => by
    rw [h2]
    exact ⟨fun ps z => h3.1 ps (Option.some.inj z), fun c q z => h3.2 _ (Option.some.inj z)⟩
theorem ok_gate_books (T : Txt K mg) (B : Tbs K mg base) : Ok P w K mg base CX0 4 "gate_books" ["yard", "standing"] (spGate K) := by
  refine ok_of (f_gate_books T) (g_gate_books T) sc_gate (fun _ _ _ _ _ _ us hl => match us, hl with | [_, _], _ => rfl) (fun vs H Q E h => ?_) (fun cdv A outer s H vs Q E hcd hr h => ?_)
  · obtain ⟨y, a, n, g, T, s, rfl, _⟩ := h
    rfl
  · obtain ⟨y, a, n, g, Ts, st, rfl, hy, hY, hs, hwf, hT, q⟩ := h
    have nd := sc_gate.nd
    have hu := hu_of hr
    refine ⟨_, pss_cons (ps_set (i := 2) nd rfl (.inl rfl) pe_dnewK)
      (pss_cons (ps_for PassesOwn.never rfl (pi_skeys (pe_cl (ok_words_from T B) hr (pa_cons (pv 0) (pa_cons (pv 1) pa_nil)))) (pg_name (i := 3) nd rfl (.inl rfl))
        (pss_one (ps_if (pt_cmp (pc_notN (pe_ix ix_tup (pv 3) (pe_ix ix_tup (pv 0) pe_int (fun _ _ => rfl)) (fun _ _ => rfl))))
          (pss_one (ps_dput hu (pv 2) (pe_ix ix_tup (pv 3) (pe_ix ix_tup (pv 0) pe_int (fun _ _ => rfl)) (fun _ _ => rfl)) pe_bl (by rfl))) pss_nil)))
      (pss_one (ps_ret (pe_callB (call_sortedDI (by rfl)) (by rfl) (m_sorted T) (by decide +kernel) (pa_cons (pv 2) pa_nil))))), ?_⟩
    obtain ⟨ta, ey, hTa⟩ := id hy
    have h7 := hY.n7
    have hg := hY.gate
    refine fun F nF => ?_
    have sl0 := (Sl.refl hT).new (u := .dK []) nF
    refine ⟨_, rfl, _, rfl, y, a, n, g, Ts, st, rfl, hy.xn sl0.n, hY, hs.xn sl0.n, hwf, sl0.w, fun H2 l xs Fs sl1 nl el kK hk hnd hF => ⟨l, xs, rfl, el, fun od => ?_⟩⟩
    have nlF : F ≠ l := ne_of_none upd_same nl
    have sl2 : Sl K H H2 := ⟨sl0.n.trans sl1.n, fun b ps nb e => sl1.t b ps nb (sl0.t b ps nb e), sl1.w⟩
    have nl0 : H l = none := sl0.free nl
    have eF2 : H2 F = some (.dK []) := sl1.n.dK upd_same
    have lxs : xs.length = Fs.length := by have := congrArg List.length hk; simpa using this
    have sl3 : Sl K H (upd H2 l (.frz od (sdO P w l xs))) := sl2.upd nl0 fun _ => by
      rw [el]
      exact ⟨fun ps z => (by cases z), fun c q z => sdO_ne c q (Option.some.inj z)⟩
    refine for_it walk_keysS (fun i σ H' => ∃ (Bs : List Nat) (y3 : Option V), σ = [some (.ref y), some (.ref a), some (.ref F), y3] ∧ Sl K H H' ∧ H' l = some (.frz od (sdO P w l xs)) ∧ H' F = some (.dK (dkN Bs)) ∧ Bs.Nodup ∧ SKeys H' xs ∧
        (∀ b, b ∈ Bs ↔ ∃ s' ∈ Fs.take i, s'[g]? = some (some b)))
      ⟨[], none, rfl, sl3, upd_same, by rw [upd_ne nlF]; exact eF2, List.nodup_nil, kK.tn (tn_upd el), fun b => by simp⟩ (fun i σ H' _ z => z.choose_spec.choose_spec.2.2.1) (fun i x σ H' H'' hi z yx => ?_) (fun σ H' z => ?_)
    · obtain ⟨Bs, y3, rfl, sl, el', eF, ndB, kS, hB⟩ := z
      obtain ⟨rfl, e, he, rfl⟩ := yx
      obtain ⟨s', hs', es⟩ : ∃ s', Fs[i]? = some s' ∧ e.1 = s'.map oL := by
        have h1 : (xs.map (·.1))[i]? = some e.1 := by rw [List.getElem?_map, he]; rfl
        rw [hk, List.getElem?_map] at h1
        cases q2 : Fs[i]? with
        | none => rw [q2] at h1; cases h1
        | some s' => rw [q2] at h1; exact ⟨s', rfl, (Option.some.inj h1).symm⟩
      have sk : StAt H'' e.2.1 s' := by
        have := kS e (List.mem_of_getElem? he)
        rw [es, map_oL] at this
        exact this
      have hw' : Wf n s' := ((hF s').mp (List.mem_of_getElem? hs')).wf hwf
      have hgs : g < s'.length := by rw [hw'.1]; exact hg
      have hat : (s'.map oV)[g]? = some (oV s'[g]) := by rw [List.getElem?_map, List.getElem?_eq_getElem hgs]; rfl
      have hget : s'[g]? = some s'[g] := List.getElem?_eq_getElem hgs
      have ey' := sl.n.tup ey
      refine ⟨_, rfl, _, rfl, y, _, 2, .int (g : Int), rfl, rfl, SqT.of ey', atI_nat (j := 2) rfl, e.2.1, _, (g : Int), oV s'[g], rfl, rfl, sk.sqT, atI_nat (j := g) hat, _, rfl, ite2 (fun c => ?_) (fun c => ?_)⟩
      · obtain ⟨b, hb⟩ : ∃ b, s'[g] = some b := by
          cases q3 : s'[g] with
          | none => rw [q3] at c; cases c
          | some b => exact ⟨b, rfl⟩
        have hbn : b < n := hw'.2 b (by rw [← hb]; exact List.getElem_mem hgs)
        have lB : Bs.length ≤ n := len_le ndB fun v hv => by
          obtain ⟨s2, h2, h3⟩ := (hB v).mp hv
          exact (((hF s2).mp (List.mem_of_mem_take h2)).wf hwf).2 v (List.mem_of_getElem? h3)
        refine ⟨_, rfl, _, rfl, _, rfl, y, _, 2, .int (g : Int), rfl, rfl, SqT.of ey', atI_nat (j := 2) rfl, e.2.1, _, (g : Int), oV s'[g], rfl, rfl, sk.sqT, atI_nat (j := g) hat, F, upd H'' F (.dK (putK (dkN Bs) (Sum.inl (b : Int)) (.bl true))), rfl, ?_, ?_⟩
        · rw [hb]
          exact DPut.k (k := Sum.inl (b : Int)) eF (by unfold dkN; rw [List.length_map]; exact small1000 (by omega))
        have eput : putK (dkN Bs) (Sum.inl (b : Int)) (.bl true) = dkN (if b ∈ Bs then Bs else Bs ++ [b]) := by
          by_cases hm : b ∈ Bs
          · rw [if_pos hm, putK_mem hm]
          · rw [if_neg hm, putK_dkN hm]
        rw [eput]
        refine ⟨if b ∈ Bs then Bs else Bs ++ [b], _, rfl, sl.upd' nF eF ⟨fun ps z => (by cases z), fun φ z => (by cases z)⟩, by rw [upd_ne nlF.symm]; exact el', upd_same, ?_, kS.tn (tn_upd2 eF (fun xs z => by cases z) fun o u z => by cases z), fun v => ?_⟩
        · by_cases hm : b ∈ Bs
          · rw [if_pos hm]; exact ndB
          · rw [if_neg hm]
            exact List.nodup_append.mpr ⟨ndB, by simp, fun x hx y hy e => hm (by have : y = b := by simpa using hy
                                                                                 rw [← this, ← e]; exact hx)⟩
        · have h1 : v ∈ (if b ∈ Bs then Bs else Bs ++ [b]) ↔ v ∈ Bs ∨ v = b := by
            by_cases hm : b ∈ Bs
            · rw [if_pos hm]; exact ⟨.inl, fun z => z.elim id fun e => e ▸ hm⟩
            · rw [if_neg hm]; simp
          rw [h1, hB, take_succ' hs']
          constructor
          · rintro (⟨s2, h2, h3⟩ | rfl)
            · exact ⟨s2, List.mem_append_left _ h2, h3⟩
            · exact ⟨s', List.mem_append_right _ (by simp), by rw [hget, hb]⟩
          · rintro ⟨s2, h2, h3⟩
            rcases List.mem_append.mp h2 with h2 | h2
            · exact .inl ⟨s2, h2, h3⟩
            · have : s2 = s' := by simpa using h2
              rw [this, hget, hb] at h3
              exact .inr (by simpa using h3.symm)
      · have hno : s'[g]? = some none := by
          rw [hget]
          cases q3 : s'[g] with
          | none => rfl
          | some b => rw [q3] at c; exact absurd rfl c
        refine ⟨Bs, _, rfl, sl, el', eF, ndB, kS, fun v => ?_⟩
        rw [hB, take_succ' hs']
        constructor
        · rintro ⟨s2, h2, h3⟩; exact ⟨s2, List.mem_append_left _ h2, h3⟩
        · rintro ⟨s2, h2, h3⟩
          rcases List.mem_append.mp h2 with h2 | h2
          · exact ⟨s2, h2, h3⟩
          · have : s2 = s' := by simpa using h2
            rw [this, hno] at h3; cases h3
    · obtain ⟨Bs, y3, rfl, sl, el', eF, ndB, kS, hB⟩ := z
      rw [lxs, List.take_length] at hB
      have lB : Bs.length ≤ n := len_le ndB fun v hv => by
        obtain ⟨s2, h2, h3⟩ := (hB v).mp hv
        exact (((hF s2).mp h2).wf hwf).2 v (List.mem_of_getElem? h3)
      refine ⟨_, rfl, F, _, Bs.map (fun v : Nat => (v : Int)), rfl, .inl eF, ?_, by rw [List.length_map]; omega, fun ys p hp _ np => ?_⟩
      · unfold dkN; rw [List.map_map, List.map_map]; rfl
      · obtain ⟨m, rfl, hm⟩ := perm_nat hp
        have e2 : (m.map fun v : Nat => (v : Int)).map V.int = iv m := by rw [iv_int]
        rw [e2]
        refine q _ p m (sl.new np) (sl.free np) upd_same (by rw [hm.length_eq]; exact lB) fun b => ?_
        rw [hm.mem_iff, hB]
        exact ⟨fun ⟨s2, h2, h3⟩ => ⟨s2, (hF s2).mp h2, h3⟩, fun ⟨s2, h2, h3⟩ => ⟨s2, (hF s2).mpr h2, h3⟩⟩
end
end HT
/-! text M1 -/
set_option maxHeartbeats 4000000
namespace HT
open PySem PySem.Spec PyProof.Rows L2
/-! ### for k, v in d.items(), d a dict of tuples, read no more after -/
section
variable {X : Cx} {pins : List (Addr × Obj)} {σ : L2.St} {H : Hp} {s : Shared} {d : Addr} {o : Obj}
theorem inv_frzS2 {xs : SX} (I : Inv X pins σ H s) (h : H d = some (.frz o (sdO X.prog X.w d xs))) :
    (d == sysModules) = false ∧ s.heap.get? d = some o ∧ o.ExactDict ∧ ∃ (es : Array DictEntry) (ep : Nat), o.data = .dict es ep ∧ es.size = xs.length ∧
      ∀ (i : Nat) (x : List Leaf × Addr × V), xs[i]? = some x → ∃ (en : DictEntry), es[i]? = some en ∧ en.key = .ref x.2.1 ∧ RelV x.2.2 en.val := by
  obtain ⟨hd, ⟨⟨z, hs, vs, rel, o', es, ep, ho, hx, hdt, he, _⟩, _, _⟩⟩ := I.hok d _ h
  rw [hd] at ho
  cases ho
  have l1 : es.size = vs.length := size_of_entries he
  have l2 : xs.length = vs.length := Paired.length rel
  refine ⟨hs, hd, hx, es, ep, hdt, by omega, fun i x e => ?_⟩
  obtain ⟨b, hb, e1, e2, e3⟩ := paired_get rel e
  have q := entry_at he i
  rw [hb] at q
  exact ⟨_, q, by show Value.ref b.2.1 = _; rw [e2], e3⟩
end
def Itis (P : Program) (w : World) (d : Addr) (o : Obj) (xs : SX) : It :=
  ⟨fun i H => H d = some (.frz o (sdO P w d xs)) ∧ i < xs.length, fun i H x H' => ∃ T e, xs[i]? = some e ∧ x = .ref T ∧ H T = none ∧ H' = upd H T (.tup [.ref e.2.1, e.2.2]), fun i H => H d = some (.frz o (sdO P w d xs)) ∧ xs.length ≤ i⟩
theorem turn_itemsS {P : Program} {w : World} {K : PySem.W.Frag} {elts : List Expr} {kk : Nat} {tpos : Pos} {d : Addr} {o : Obj} {es : Array DictEntry} {ep : Nat} {xs : SX} (it : Addr) (hod : o.data = .dict es ep) :
    Turn P w K (.Tuple elts kk tpos) (Itis P w d o xs) [it] it (fun i h => ∃ ok ov, IsItemIter h it d i xs.length ep ok ov) where
  mem := by simp
  obj := fun i h st b hb => by
    have e : b = it := by simpa using hb
    subst e
    obtain ⟨ok, ov, e⟩ := st
    exact ⟨_, e, fun v z => nomatch z⟩
  keep := fun i h h' st k => let ⟨ok, ov, e⟩ := st; ⟨ok, ov, k it (by simp) _ e⟩
  item := by
    intro X hP hw hK hc i pins s σ H E I hf st hg
    subst hP hw hK
    obtain ⟨hd, hi⟩ := hg
    obtain ⟨hs, hgd, hx, es', ep', hdt, hsz, ent⟩ := inv_frzS2 I hd
    obtain ⟨rfl, rfl⟩ := dict_ep hod hdt
    obtain ⟨e, he⟩ : ∃ p, xs[i]? = some p := ⟨xs[i], List.getElem?_eq_getElem hi⟩
    obtain ⟨en, hen, hkey, ru⟩ := ent i e he
    obtain ⟨ok, ov, hit⟩ := st
    rw [← hsz] at hit
    have hlt : it < s.heap.objs.size := Heap.lt_size hit
    have hie : i < es'.size := by omega
    have hene : es'[i] = en := by rw [Array.getElem?_eq_getElem hie] at hen; exact Option.some.inj hen
    refine wpAny_pyNext_items_item_raw hit ⟨o, hgd, hx, hdt⟩ hie fun h' ho hT hz hk => ?_
    rw [hene, hkey] at ho hT
    refine ⟨_, rfl, wpAny_letOwnedTupleGo_items (s := { s with heap := h' }) ho fun h'' he' sb => ?_⟩
    have hT2 : h''.get? s.heap.objs.size = some { cls := .type "tuple", data := .seq #[.ref e.2.1, en.val] } := (sb.2 _ (Nat.ne_of_gt hlt)).trans hT
    have new : ObjOk X.prog X.w (upd H s.heap.objs.size (.tup [.ref e.2.1, e.2.2])) h'' s.heap.objs.size (.tup [.ref e.2.1, e.2.2]) :=
      ⟨by show 2 ≤ sizeLine; decide, [.ref e.2.1, en.val], .cons rfl (.cons ru .nil), ⟨_, hT2, rfl, _, rfl⟩⟩
    have I1 : Inv X pins σ (upd H s.heap.objs.size (.tup [.ref e.2.1, e.2.2])) { s with heap := h'' } :=
      I.turnedNew (t' := s.toks) (ch := [it]) (fun b ob hb e => (sb.2 b (by simpa using hb)).trans (hk b ob (by simpa using hb) e)) hf (Nat.le_refl _) new
    refine ⟨.ref s.heap.objs.size, _, I1, rfl, ⟨_, e, he, rfl, I.hok.fresh (Nat.le_refl _), rfl⟩, ⟨.ref e.2.1, en.val, ?_⟩, fun b hb => ?_⟩
    · rw [← hsz]; exact he'
    · have e : b = it := by simpa using hb
      rw [e, upd_ne (Nat.ne_of_lt hlt)]
      exact (hf it (by simp)).1
  done := by
    intro X hP hw hK hc i pins s σ H E I hf st hg
    subst hP hw hK
    obtain ⟨hd, hi⟩ := hg
    obtain ⟨f0, f1, f2, f3, f4, f5⟩ := hf it (by simp)
    obtain ⟨hs, hgd, hx, es', ep', hdt, hsz, ent⟩ := inv_frzS2 I hd
    obtain ⟨rfl, rfl⟩ := dict_ep hod hdt
    obtain ⟨ok, ov, hit⟩ := st
    rw [← hsz] at hit
    exact wpAny_pyNext_items_end_raw (I.ok.hd hc) hit ⟨o, hgd, hx, hdt⟩ (by omega) fun h' eb => ⟨rfl, I.turned (t' := s.toks) (fun b ob hb e => eb b ob hb e) f0 f1 f3 f4 f5⟩
  self := fun A i s Q E st h => let ⟨_, _, e⟩ := st; PySem.W.kcp_self e h
def iSItems (P : Program) (w : World) (td : TE) : TI := fun σ H R => td σ H fun x H1 => ∃ d xs, x = .ref d ∧ H1 d = some (sdO P w d xs) ∧ SKeys H1 xs ∧ ∀ od, R (Itis P w d od xs) (upd H1 d (.frz od (sdO P w d xs)))
theorem pi_sitems {X : Cx} {e : Expr} {td : TE} {apos cpos tpos : Pos} {elts : List Expr} {kk : Nat} (he : PE X e td) (hbase : attributeBase e "items" X.env (eval e X.env) = eval e X.env := by rfl) (hline : (apos.endLine == cpos.line) = true := by rfl) :
    PI X (.Tuple elts kk tpos) (.Call (.Attribute e "items" apos) [] [] cpos) (iSItems X.prog X.w td) := by
  refine ⟨fun pins s σ H R I h => ?_⟩
  refine wpAny_Call_method (T := "dict") (id := "dict.items") hbase rfl hline F.plainAttrs_dict F.slot_dict_items F.type_dict_items (thn (he.run pins s σ H _ I h) fun u s1 ⟨x, H1, I1, rx, d, xs, ex, hd, hk, q⟩ => ?_)
  subst ex
  obtain rfl : u = Value.ref d := rx
  have g : SD X.prog X.w H1 d xs := ⟨.inl hd, hk⟩
  refine ⟨sd_typeIs I1 g, sd_noDict I1 g, ?_⟩
  obtain ⟨od, I2⟩ := I1.lock hd (show Mut (some (sdO X.prog X.w d xs)) from True.intro)
  obtain ⟨hs, hgd, hx, es, ep, hdt, hsz, ent⟩ := inv_frzS2 I2 (by rw [upd_same])
  have raw : s1.heap.DictRaw d es ep := ⟨od, hgd, hx, hdt⟩
  have I3 : Inv X pins σ (upd H1 d (.frz od (sdO X.prog X.w d xs))) { s1 with heap := s1.heap.push { cls := .type "dict_items", data := .fields #[.ref d] } } := I2.kept (t' := s1.toks) fun b ob q => Heap.get?_push_of_some _ q
  have fin : wpAny (model X.prog X.w) X.A (pyIter (.ref s1.heap.objs.size)) (PIE X pins σ (.Tuple elts kk tpos) R) X.xe { s1 with heap := s1.heap.push { cls := .type "dict_items", data := .fields #[.ref d] } } := by
    refine wpAny_pyIter_items_raw (d := d) ⟨_, Heap.get?_push_size _ rfl, rfl, rfl⟩ (raw.at fun o e => Heap.get?_push_of_some _ e) (pi_one (tk := s1.toks) I3 _ (turn_itemsS _ hdt) ⟨.none, .none, ?_⟩ (q od))
    rw [← hsz]
    exact Heap.get?_push_size _ rfl
  show wpAny _ _ (callWith cpos (.builtin "dict.items") [.ref d] [] []) _ X.xe s1
  exact method_meetsIn F.slot_dict_items F.entry_dict_items rfl (PySem.evalArgs_none ⟨rfl, raw.typeIs, F.args_dict_items_1 _, _, meets_dict_items_raw d hs, ⟨es, ep, raw⟩, fin⟩)
theorem walk_itemsS {P : Program} {w : World} {d : Addr} {o : Obj} {xs : SX} : Walk (Itis P w d o xs) xs.length (fun H => H d = some (.frz o (sdO P w d xs))) (fun i H x H' => ∃ T e, xs[i]? = some e ∧ x = .ref T ∧ H T = none ∧ H' = upd H T (.tup [.ref e.2.1, e.2.2])) :=
  ⟨fun _ _ hi q => ⟨q, hi⟩, fun _ q => ⟨q, Nat.le_refl _⟩, fun _ _ _ _ _ _ y => y⟩
end HT
/-! text M2 -/
set_option maxHeartbeats 4000000
namespace HT
open PySem PySem.Spec PyProof.Rows L2
/-! ### {k: v for .. in ..}, a dict of tuples (turned from the rule for dicts of ints and texts) -/
section
variable {X : Cx}
theorem sd_dictSet {pins : List (Addr × Obj)} {σ : L2.St} {H : Hp} {s : Shared} {E : Value → Shared → Prop} {D b : Addr} {xs : SX} {k : List Leaf} {v : V} {r : Value} {Q : Unit → Shared → Prop} (hu : X.A.units + 1 < cLine) (I : Inv X pins σ H s) (ea : H D = some (sdO X.prog X.w D xs)) (g : SKeys H xs) (hl : xs.length < sizeLine)
    (eb : Rd H b (.tup (k.map lfV))) (rv : RelV v r) (h : ∀ s', Inv X pins σ (upd H D (sdO X.prog X.w D (putS xs k b v))) s' → Q () s') : wpAny (model X.prog X.w) X.A (dictSet D (.ref b) r) Q E s := by
  obtain ⟨z, hd, vs, rel, dd⟩ := sd_rd I.hok (⟨.inl ea, g⟩ : SD X.prog X.w H D xs)
  have hz : vs.length ≤ sizeLine := by rw [← Paired.length rel]; exact z
  have hl' : (putS xs k b v).length ≤ sizeLine := by have := putS_len xs k b v; omega
  refine wpAny_dictSet_heap (hsz := hz) (knd := LfK X.prog X.w) (by show X.A.units < cLine; omega) (lkey_of I.hok eb) dd fun h' dd' hs => h _ ?_
  have he : ∃ q, h'.get? D = some q := let ⟨q, _, _, hq, _⟩ := dd'; ⟨q, hq⟩
  exact d_write I (by rw [ea]; exact True.intro) hs he (sd_new hl' hd (rel.put k b rv) dd')
def tSDc (P : Program) (w : World) (wi : TI) (g : TG) (tt : TT) (tk tv : TE) (vs : List Nat) : TE := fun σ H Q => wi σ H fun J H1 => ∀ D, H1 D = none → ∃ W : Nat → Nat → Hp → Prop, (∃ m, W 0 m (upd H1 D (sdO P w D []))) ∧ ∀ i m H, W i m H →
  (J.stop i H ∧ Q (.ref D) H) ∨ (J.go i H ∧ ∃ Nx : Hp → Prop, (∀ H', Nx H' → ∃ m', m' < m ∧ W (i + 1) m' H') ∧ ∀ x H', J.yld i H x H' → g x (wipe σ vs) H' fun σ2 H2 => wipe σ2 vs = wipe σ vs ∧ tt σ2 H2 fun b H3 =>
    if b = true then tk σ2 H3 fun y H4 => tv σ2 H4 fun z H5 => ∃ xs b k, y = .ref b ∧ Rd H5 b (.tup (k.map lfV)) ∧ H5 D = some (sdO P w D xs) ∧ SKeys H5 xs ∧ xs.length < sizeLine ∧ Nx (upd H5 D (sdO P w D (putS xs k b z))) else Nx H3)
theorem sdc_core {pins : List (Addr × Obj)} {s : Shared} {σ : L2.St} {H : Hp} {Q : VK} {kx vx tg iter : Expr} {ifs : List Expr} {scope : Scope} {own : List (Str × Nat)} {pos pos' : Pos} {wi : TI} {g : TG} {tt : TT} {tk tv : TE} {use : Option (Value → Sem Unit)} {Qf : Value → Shared → Prop}
    (hu : X.A.units + 1 < cLine) (hc : X.calm = true) (hN : X.N.Nodup) (I : Inv X pins σ H s) (hi : PI X tg iter wi) (ok : BlkOk X.N X.env.scope scope own)
    (hg : ∀ (s : Shared) (H : Hp) (C : Addr) (cl : List (Str × Addr)) (fp : List Addr), PG (X.blk s H scope (compEnvC scope cl C X.env) fp) tg g) (ht : ∀ (s : Shared) (H : Hp) (C : Addr) (cl : List (Str × Addr)) (fp : List Addr), PTs (X.blk s H scope (compEnvC scope cl C X.env) fp) ifs tt)
    (hk : ∀ (s : Shared) (H : Hp) (C : Addr) (cl : List (Str × Addr)) (fp : List Addr), PE (X.blk s H scope (compEnvC scope cl C X.env) fp) kx tk)
    (he : ∀ (s : Shared) (H : Hp) (C : Addr) (cl : List (Str × Addr)) (fp : List Addr), PE (X.blk s H scope (compEnvC scope cl C X.env) fp) vx tv) (hs : ∀ x, foldedSetIterable iter X.env x = pure x)
    (h : tSDc X.prog X.w wi g tt tk tv (own.map (·.2)) σ H Q)
    (hRR : ∀ D C s' m H', Inv X pins σ H' s' → Q (.ref D) H' → s'.heap.Ns C m → FpOk X pins H' C → compPost (model X.prog X.w) X.A X.xe use Qf (.ref D) C (.ok .next) s') :
    wpAny (model X.prog X.w) X.A (comprehension (.DictComp kx vx [⟨tg, iter, ifs, 0⟩] scope pos) scope X.env pos' newDict false (eval iter X.env) use) Qf X.xe s := by
  have hfree : ∀ y ∈ scope.names, y.2 = .free → ∃ c, X.env.cells.lookup y.1 = some c := fun y hy e => by
    rcases ok.free y hy e with k | k
    · exact I.ok.has _ (.inl k)
    · exact I.ok.has _ (.inr k)
  refine wpAny_comprehension_free (use := use) rfl hs (closure_ok hfree) ok.kind (fun y hy e => by rw [ok.uniq y hy, e])
    (thn (hi.run pins s σ H _ I h) fun xv s1 hx => thn hx fun itv s2 h2 => ?_)
  obtain ⟨it, fp, tn, J, H2, e, I2, T, st2, f2, q⟩ := h2
  subst e
  refine wpAny_newObj_type (newEnv_comp ?_)
  generalize hD : s2.heap.objs.size = D
  have hDn : H2 D = none := I2.hok.fresh (Nat.le_of_eq hD)
  obtain ⟨W, ⟨m0, w0⟩, turn⟩ := q D hDn
  -- the new list
  generalize hs3 : ({ s2 with heap := s2.heap.push { cls := .type "dict", data := .dict #[] } } : Shared) = s3
  have I3 : Inv X pins σ (upd H2 D (sdO X.prog X.w D [])) s3 := by
    rw [← hs3]
    refine I2.laid (t' := s2.toks) (fun b o e => Heap.get?_push_of_some _ e) (Nat.le_of_eq hD) ?_
    rw [← hD]
    exact sd_empty s2.heap I2.big
  have h3 : s3.heap = s2.heap.push { cls := .type "dict", data := .dict #[] } := by rw [← hs3]
  have sz : ∀ b ∈ fp, b < s2.heap.objs.size := fun b hb => by
    obtain ⟨o, e, _⟩ := T.obj _ _ st2 b hb
    exact Heap.lt_size e
  have f3 : ∀ b ∈ fp, FpOk X pins (upd H2 D (sdO X.prog X.w D [])) b ∧ b < s3.heap.objs.size := fun b hb => by
    have hlt := sz b hb
    refine ⟨⟨?_, (f2 b hb).2⟩, by rw [h3, Heap.size_push]; exact Nat.lt_succ_of_lt hlt⟩
    rw [upd_ne (by rw [← hD]; exact Nat.ne_of_lt hlt)]
    exact (f2 b hb).1
  have st3 : tn 0 s3.heap := T.keep _ _ _ st2 fun b _ o e => by rw [h3]; exact Heap.get?_push_of_some _ e
  have I4 := block_start I3 ok hN f3
  have pg := hg s3 (upd H2 D (sdO X.prog X.w D [])) s3.heap.objs.size (cellsFrom (s3.heap.objs.size + 1) scope.names (cloFrom X.env.cells scope.names [])) fp
  have pt := ht s3 (upd H2 D (sdO X.prog X.w D [])) s3.heap.objs.size (cellsFrom (s3.heap.objs.size + 1) scope.names (cloFrom X.env.cells scope.names [])) fp
  have pk := hk s3 (upd H2 D (sdO X.prog X.w D [])) s3.heap.objs.size (cellsFrom (s3.heap.objs.size + 1) scope.names (cloFrom X.env.cells scope.names [])) fp
  have pe := he s3 (upd H2 D (sdO X.prog X.w D [])) s3.heap.objs.size (cellsFrom (s3.heap.objs.size + 1) scope.names (cloFrom X.env.cells scope.names [])) fp
  show codeAny _ _ (.compStart (.DictComp kx vx [⟨tg, iter, ifs, 0⟩] scope pos) 0 (.ref it) (.ref D) (compEnvC scope (cellsFrom (s3.heap.objs.size + 1) scope.names (cloFrom X.env.cells scope.names [])) s3.heap.objs.size X.env)) (compPost (model X.prog X.w) X.A X.xe use Qf (.ref D) s3.heap.objs.size) { s3 with heap := pushCells (s3.heap.push { cls := .type "dict", data := .dict #[] }) scope.names }
  have nfp : ∀ b ∈ fp, (upd H2 D (sdO X.prog X.w D [])) b = none := fun b hb => (f3 b hb).1.1
  generalize hce : compEnvC scope (cellsFrom (s3.heap.objs.size + 1) scope.names (cloFrom X.env.cells scope.names [])) s3.heap.objs.size X.env = ce at I4 pg pt pk pe ⊢
  have cL : ce.locals = s3.heap.objs.size := by subst hce; rfl
  generalize hH3 : upd H2 D (sdO X.prog X.w D []) = H3 at I3 I4 pg pt pk pe w0 nfp f3
  generalize hs4 : ({ s3 with heap := pushCells (s3.heap.push { cls := .type "dict", data := .dict #[] }) scope.names } : Shared) = s4 at I4 ⊢
  have st4 : tn 0 s4.heap := T.keep _ _ _ st3 fun b _ o e => by rw [← hs4]; exact pushCells_keeps _ _ _ _ (Heap.get?_push_of_some _ e)
  have stat : ∀ {σ' : L2.St} {H' : Hp} {s' : Shared}, Inv (X.blk s3 H3 scope ce fp) [] σ' H' s' → (∀ b ∈ fp, H' b = none) → ∀ b ∈ fp, FpOk (X.blk s3 H3 scope ce fp) [] H' b := fun {σ' H' s'} I' hn b hb =>
    ⟨hn b hb, (I'.ok.exf b hb).1, I'.ok.exfs b hb, .inl hb, fun x c e => (I'.ok.exf b hb).2 x c e, fun p hp => absurd (show p ∈ ([] : List (Addr × Obj)) ++ [] from hp) (by simp)⟩
  have loop : codeAny (model X.prog X.w) X.A (.compLoop (.DictComp kx vx [⟨tg, iter, ifs, 0⟩] scope pos) 0 (.ref it) (.ref D) ce) (compPost (model X.prog X.w) X.A X.xe use Qf (.ref D) s3.heap.objs.size) s4 := by
    refine compLoop_anyD (fun n s' => ∃ i H', Inv (X.blk s3 H3 scope ce fp) [] (wipe σ (own.map (·.2))) H' s' ∧ tn i s'.heap ∧ (∀ b ∈ fp, H' b = none) ∧ W i n H') ?_ m0 ⟨0, H3, I4, st4, nfp, w0⟩
    rintro n s5 ⟨i, H5, I5, st5, n5, w5⟩
    rcases turn i n H5 w5 with ⟨stop, qq⟩ | ⟨go, Nx, hNx, step⟩
    · have td := T.done (X.blk s3 H3 scope ce fp) rfl rfl rfl hc i [] s5 _ H5 (fun _ _ => False) I5 (stat I5 n5) st5 stop
      refine thnF td fun r s6 ⟨hr, I6⟩ => ?_
      subst hr
      -- back in the def's context
      have I7 : Inv X pins σ H5 s6 := I3.call' (ch := fp) I6.os I6.base I6.hok I6.bare fun b hb => ⟨(f3 b hb).1.2.2.2.1, (f3 b hb).1.2.1, (f3 b hb).1.2.2.2.2.1, (f3 b hb).1.2.2.2.2.2⟩
      have nC : H5 s3.heap.objs.size = none := by
        have z : H5 ce.locals = none := I6.free
        rw [cL] at z
        exact z
      obtain ⟨m, hn, _⟩ := I6.loc
      have hn : s6.heap.Ns ce.locals m := hn
      rw [cL] at hn
      exact hRR D s3.heap.objs.size s6 m H5 I7 qq hn (I3.fpOk (Nat.le_refl _) nC)
    · have ti := T.item (X.blk s3 H3 scope ce fp) rfl rfl rfl hc i [] s5 _ H5 (fun _ _ => False) I5 (stat I5 n5) st5 go
      refine thnF ti fun r s6 ⟨u, hr, h6⟩ => ?_
      subst hr
      refine thnF h6 fun _ s7 ⟨x, H7, I7, r7, y7, st7, n7⟩ => ?_
      have I7' := I7.pinned (stat I7 n7) (T.obj _ _ st7)
      refine thnF (pg.run _ s7 _ H7 x u _ I7' r7 (step x H7 y7)) fun _ s8 ⟨σ8, H8, I8, hw8, q8⟩ => ?_
      refine thnF (pt.run _ s8 σ8 H8 _ I8 q8) fun b s9 ⟨H9, I9, q9⟩ => ?_
      -- the turn's end
      have fin : ∀ {s' : Shared} {H' : Hp}, Inv (X.blk s3 H3 scope ce fp) ([] ++ pinsAt fp s7.heap) σ8 H' s' → Nx H' → ∃ m, m < n ∧ ∃ i H', Inv (X.blk s3 H3 scope ce fp) [] (wipe σ (own.map (·.2))) H' s' ∧ tn i s'.heap ∧ (∀ b ∈ fp, H' b = none) ∧ W i m H' := fun {s' H'} I' nx => by
        obtain ⟨m', hm, w'⟩ := hNx H' nx
        have pin' : ∀ b ∈ fp, ∀ o, s7.heap.get? b = some o → s'.heap.get? b = some o ∧ H' b = none := fun b hb o e =>
          let z := I'.pin (b, o) (List.mem_append_right _ (List.mem_append_right _ (mem_pinsAt hb e)))
          ⟨z.1, z.2.1⟩
        have hl : (wipe σ (own.map (·.2))).length = σ8.length := by rw [← hw8, wipe_length]
        refine ⟨m', hm, i + 1, H', (I'.unpinned (pins := [])).weak hl (fun j v e => ?_), T.keep _ _ _ st7 fun b hb o e => (pin' b hb o e).1, fun b hb => ?_, w'⟩
        · rw [← hw8] at e
          exact (wipe_some e).1
        · obtain ⟨o, e, _⟩ := T.obj _ _ st7 b hb
          exact (pin' b hb o e).2
      cases b with
      | false =>
        simp only [Bool.false_eq_true, if_false] at q9 ⊢
        exact fin I9 q9
      | true =>
        simp only [if_true] at q9 ⊢
        refine thnF (pk.run _ s9 σ8 H9 _ I9 q9) fun z s10 ⟨yk, H10, I10, r10, q10⟩ => ?_
        refine thnF (pe.run _ s10 σ8 H10 _ I10 q10) fun z2 s11 ⟨yv, H11, I11, r11, xs, b, k, ek, hb11, hD11, hk11, hz11, nx⟩ => ?_
        subst ek
        cases r10
        exact sd_dictSet (X := X.blk s3 H3 scope ce fp) hu I11 hD11 hk11 hz11 hb11 r11 fun s12 I12 => fin I12 nx
  exact codeAny_compStart_dict loop (T.self X.A 0 _ _ _ st4 loop)
/-- as a value -/
theorem pe_sdc {kx vx tg iter : Expr} {ifs : List Expr} {scope : Scope} {own : List (Str × Nat)} {pos : Pos} {wi : TI} {g : TG} {tt : TT} {tk tv : TE} (hu : X.A.units + 1 < cLine) (hc : X.calm = true) (hN : X.N.Nodup) (hi : PI X tg iter wi) (ok : BlkOk X.N X.env.scope scope own)
    (hg : ∀ (s : Shared) (H : Hp) (C : Addr) (cl : List (Str × Addr)) (fp : List Addr), PG (X.blk s H scope (compEnvC scope cl C X.env) fp) tg g) (ht : ∀ (s : Shared) (H : Hp) (C : Addr) (cl : List (Str × Addr)) (fp : List Addr), PTs (X.blk s H scope (compEnvC scope cl C X.env) fp) ifs tt)
    (hk : ∀ (s : Shared) (H : Hp) (C : Addr) (cl : List (Str × Addr)) (fp : List Addr), PE (X.blk s H scope (compEnvC scope cl C X.env) fp) kx tk)
    (he : ∀ (s : Shared) (H : Hp) (C : Addr) (cl : List (Str × Addr)) (fp : List Addr), PE (X.blk s H scope (compEnvC scope cl C X.env) fp) vx tv) (hs : ∀ x, foldedSetIterable iter X.env x = pure x := by intro _; rfl) :
    PE X (.DictComp kx vx [⟨tg, iter, ifs, 0⟩] scope pos) (tSDc X.prog X.w wi g tt tk tv (own.map (·.2))) := by
  refine ⟨fun pins s σ H Q I h => ?_⟩
  rw [arm_eval_DictComp]
  refine sdc_core hu hc hN I hi ok hg ht hk he hs h fun D C s' m H' I' q hn f => ⟨m, hn, fun h'' sb => ?_⟩
  obtain ⟨f0, f1, f2, f3, f4, f5⟩ := f
  exact ⟨.ref D, H', I'.turned (t' := s'.toks) (fun b o hb e => (sb.2 b hb).trans e) f0 f1 f3 f4 f5, rfl, q⟩
/-- a dict comprehension over it: Pv by the turn and the heap -/
theorem sdc_it {P : Program} {w : World} {J : It} {n : Nat} {G : Hp → Prop} {Y : Nat → Hp → V → Hp → Prop} (wk : Walk J n G Y) {g : TG} {tt : TT} {tk tv : TE} {vs : List Nat} {σ : L2.St} {H1 : Hp} {D : Addr} {Qd : Hp → Prop} (Pv : Nat → Hp → Prop) (h0 : Pv 0 (upd H1 D (sdO P w D []))) (hG : ∀ i H, i ≤ n → Pv i H → G H)
    (hs : ∀ i x H H', i < n → Pv i H → Y i H x H' → g x (wipe σ vs) H' fun σ2 H2 => wipe σ2 vs = wipe σ vs ∧ tt σ2 H2 fun b H3 =>
      if b = true then tk σ2 H3 fun y H4 => tv σ2 H4 fun z H5 => ∃ xs b k, y = .ref b ∧ Rd H5 b (.tup (k.map lfV)) ∧ H5 D = some (sdO P w D xs) ∧ SKeys H5 xs ∧ xs.length < sizeLine ∧ Pv (i + 1) (upd H5 D (sdO P w D (putS xs k b z))) else Pv (i + 1) H3) (hd : ∀ H, Pv n H → Qd H) :
    ∃ W : Nat → Nat → Hp → Prop, (∃ m, W 0 m (upd H1 D (sdO P w D []))) ∧ ∀ i m H, W i m H →
      (J.stop i H ∧ Qd H) ∨ (J.go i H ∧ ∃ Nx : Hp → Prop, (∀ H', Nx H' → ∃ m', m' < m ∧ W (i + 1) m' H') ∧ ∀ x H', J.yld i H x H' → g x (wipe σ vs) H' fun σ2 H2 => wipe σ2 vs = wipe σ vs ∧ tt σ2 H2 fun b H3 =>
        if b = true then tk σ2 H3 fun y H4 => tv σ2 H4 fun z H5 => ∃ xs b k, y = .ref b ∧ Rd H5 b (.tup (k.map lfV)) ∧ H5 D = some (sdO P w D xs) ∧ SKeys H5 xs ∧ xs.length < sizeLine ∧ Nx (upd H5 D (sdO P w D (putS xs k b z))) else Nx H3) := by
  refine ⟨fun i m H => m = n - i ∧ i ≤ n ∧ Pv i H, ⟨n, by simp, Nat.zero_le _, h0⟩, ?_⟩
  rintro i m H ⟨rfl, hi, p⟩
  have q := hG i H hi p
  by_cases hlt : i < n
  · exact .inr ⟨wk.goes i H hlt q, Pv (i + 1), fun H' p' => ⟨n - (i + 1), by omega, rfl, hlt, p'⟩, fun x H' y => hs i x H H' hlt p (wk.yields i H x H' hlt q y)⟩
  · have e : i = n := by omega
    subst e
    exact .inl ⟨wk.stops H q, hd H p⟩
end
end HT
/-! text P1 -/
set_option maxHeartbeats 4000000
namespace HT
open PySem PySem.Spec PyProof.Rows L2
open PySem.W (AllAlike Sortable EachIs sorted_data)
/-! ### sorted(xs), xs a list of alike data -/
theorem each_zip {K : PySem.W.Frag} {H : Hp} : ∀ {xs : List V} {its : List Value} {ds : List PyData}, Vals xs its → DpAll K H xs ds → EachIs (fun (v : Value) (b : V × PyData) => RelV b.1 v ∧ Dp K H b.1 b.2) its (xs.zip ds)
  | [], _, _, r, d => by cases r; cases d; exact .nil
  | x :: xs, _, _, r, d => by
    cases r with
    | cons h t =>
      cases d with
      | cons h2 t2 => exact .cons ⟨h, h2⟩ (each_zip t t2)
theorem dpAll_len {K : PySem.W.Frag} {H : Hp} : ∀ {xs : List V} {ds : List PyData}, DpAll K H xs ds → xs.length = ds.length
  | [], _, d => by cases d; rfl
  | x :: xs, _, d => by
    cases d with
    | cons h2 t2 => rw [List.length_cons, List.length_cons, dpAll_len t2]
theorem each_vals : ∀ {out : List Value} {bs : List (V × PyData)}, EachIs (fun (v : Value) (b : V × PyData) => RelV b.1 v) out bs → Vals (bs.map (·.1)) out
  | _, _, .nil => .nil
  | _, _, .cons h t => .cons h (each_vals t)
def rSortD (K : PySem.W.Frag) : List V → Hp → VK → Prop := fun vs H Q => ∃ a xs ds, vs = [.ref a] ∧ SqL K H a xs ∧ DpAll K H xs ds ∧ AllAlike ds ∧ Sortable ds ∧ (∀ d ∈ ds, d.depth ≤ 20) ∧ ∀ ys p, ys.Perm xs → H p = none → Q (.ref p) (upd H p (.lst ys))
theorem cr_sortD {X : Cx} {k : Nat} (hr : Room k X.A) : CallR X (.builtin "sorted") (rSortD X.K) := by
  intro pins s σ H vs us Q I r h
  obtain ⟨a, xs, ds, rfl, hs, hd, hal, hso, hdp, q⟩ := h
  obtain ⟨u, rfl, rx⟩ := vals1 r
  cases rx
  obtain ⟨its, rv, pl, hz⟩ := I.list hs
  have ez := each_zip rv hd
  have ld := dpAll_len hd
  have e2 : (xs.zip ds).map Prod.snd = ds := List.map_snd_zip (by omega)
  have e1 : (xs.zip ds).map Prod.fst = xs := List.map_fst_zip (by omega)
  have lz : (xs.zip ds).length = xs.length := by rw [List.length_zip]; omega
  refine sorted_data (R := fun (v : Value) (b : V × PyData) => RelV b.1 v) (enc := Prod.snd) (bs := xs.zip ds) pl.isList (ez.mono fun _ _ z => z.1) (ez.mono fun v b z => Dp.reads I b.2 b.1 v z.2 z.1) (by rw [e2]; exact hal) (by rw [e2]; exact hso) (by rw [lz]; exact hz) (fun b hb => ?_) fun out hl eo => ?_
  · have hb2 : b.2 ∈ ds := by rw [← e2]; exact List.mem_map.mpr ⟨b, hb, rfl⟩
    have := hdp _ hb2
    have := hr.un
    omega
  · have rv' := each_vals eo
    have hp : (((xs.zip ds).mergeSort (PySem.W.dataLe false Prod.snd)).map (·.1)).Perm xs := by
      have := (List.mergeSort_perm (xs.zip ds) (PySem.W.dataLe false Prod.snd)).map Prod.fst
      rw [e1] at this
      exact this
    obtain ⟨ep, he'⟩ := PyProof.Rows.sortedAll_at s.heap its (List.toArray out)
    exact ⟨.ref _, upd H (s.heap.objs.size + 1) (.lst _), I.laid (t' := s.toks) (fun _ _ => PyProof.Rows.sortedAll_old) (Nat.le_succ _) ⟨by rw [hp.length_eq]; exact hz, out, ep, rv', he'⟩, rfl, q _ _ hp (I.hok.fresh (Nat.le_succ _))⟩
end HT
/-! text P2 -/
set_option maxHeartbeats 4000000
namespace HT
open PySem PySem.Spec PyProof.Rows L2
theorem nodup_snoc {α : Type} {l : List α} {v : α} (h : l.Nodup) (n : v ∉ l) : (l ++ [v]).Nodup := by
  refine List.nodup_append.mpr ⟨h, by simp, fun u hu x hx e => n ?_⟩
  have : x = v := by simpa using hx
  rw [← this, ← e]; exact hu
/-! ### programs -/
abbrev Ins : Type := Str × Option Int
def insV : Ins → List V
  | (x, none) => [.str x]
  | (x, some k) => [.str x, .int k]
def PrAt (H : Hp) (a : Addr) (p : List Ins) : Prop := ∃ ts : List Addr, H a = some (.tup (ts.map V.ref)) ∧ Paired (fun t i => H t = some (.tup (insV i))) ts p
theorem PrAt.xn {H H' : Hp} {a : Addr} {p : List Ins} (e : Xn H H') (h : PrAt H a p) : PrAt H' a p := let ⟨ts, h1, h2⟩ := h; ⟨ts, e.tup h1, Paired.imp' (fun _ _ z => e.tup z) h2⟩
theorem PrAt.len {H : Hp} {p : List Ins} {ts : List Addr} (h : Paired (fun t i => H t = some (.tup (insV i))) ts p) : (ts.map V.ref).length = p.length := by rw [List.length_map]; exact Paired.length h
/-- the instruction at i -/
theorem PrAt.at {H : Hp} {p : List Ins} {ts : List Addr} (h : Paired (fun t i => H t = some (.tup (insV i))) ts p) {i : Nat} {x : Ins} (hi : p[i]? = some x) : ∃ t, (ts.map V.ref)[i]? = some (.ref t) ∧ H t = some (.tup (insV x)) := by
  have hl := Paired.length h
  have hlt : i < ts.length := by rw [hl]; exact (List.getElem?_eq_some_iff.mp hi).1
  obtain ⟨y, e1, e2⟩ := Paired.get' h (List.getElem?_eq_getElem hlt)
  rw [hi] at e1
  cases e1
  exact ⟨ts[i], by rw [List.getElem?_map, List.getElem?_eq_getElem hlt]; rfl, e2⟩
theorem insV_0 (x : Ins) : (insV x)[0]? = some (.str x.1) := by
  obtain ⟨a, b⟩ := x
  cases b <;> rfl
def asking (x : Str) : Prop := x = "get" ∨ x = "plus" ∨ x = "minus" ∨ x = "set"
/-- a jump of the program -/
def jump (x : Str) : Prop := x = "zero" ∨ x = "go"
/-- the program's shape -/
def PrOk (books : Nat) (p : List Ins) : Prop := 1 ≤ p.length ∧ p.length ≤ 20 ∧ ∀ x ∈ p,
  (x.2 = none ∧ (x.1 = "say" ∨ x.1 = "ask" ∨ x.1 = "stop")) ∨
  (∃ k : Nat, x.2 = some (k : Int) ∧ ((asking x.1 ∧ k < books) ∨ (jump x.1 ∧ k ≤ p.length))) ∨ (∃ k : Int, x.2 = some k ∧ x.1 = "put" ∧ -1000000 ≤ k ∧ k ≤ 1000000)
def plain (p : List Ins) (i : Nat) : Prop := ∃ x, p[i]? = some x ∧ x.1 ≠ "go" ∧ x.1 ≠ "stop"
theorem jump_arg {books : Nat} {p : List Ins} (h : PrOk books p) {i : Nat} {x : Ins} (hi : p[i]? = some x) (hj : jump x.1) : ∃ k : Nat, x.2 = some (k : Int) ∧ k ≤ p.length := by
  have hx := h.2.2 x (List.mem_of_getElem? hi)
  have e1 : ("zero" : Str) ≠ "say" := by decide
  rcases hx with ⟨_, h1⟩ | ⟨k, h1, h2⟩ | ⟨k, _, h1, _⟩
  · exfalso
    rcases hj with hj | hj <;> rcases h1 with h1 | h1 | h1 <;> rw [hj] at h1 <;> exact absurd h1 (by decide)
  · rcases h2 with ⟨h2, _⟩ | ⟨_, h3⟩
    · exfalso
      rcases hj with hj | hj <;> rcases h2 with h2 | h2 | h2 | h2 <;> rw [hj] at h2 <;> exact absurd h2 (by decide)
    · exact ⟨k, h1, h3⟩
  · exfalso
    rcases hj with hj | hj <;> rw [hj] at h1 <;> exact absurd h1 (by decide)
theorem insV_1 {x : Ins} {k : Int} (h : x.2 = some k) : (insV x)[1]? = some (.int k) := by
  obtain ⟨a, b⟩ := x
  have h : b = some k := h
  subst h; rfl
section
variable {P : Program} {w : World} {K : PySem.W.Frag} {mg : Str → Option Value} {base : Heap}
def spStands : Sp := fun vs H Q _ => ∃ (a : Addr) (books i : Nat) (p : List Ins), vs = [.ref a, .int (i : Int)] ∧ PrAt H a p ∧ PrOk books p ∧ i ≤ p.length ∧
  ∀ H' (r : Int), Sm H H' → (r = -1 ∨ ∃ j : Nat, r = (j : Int) ∧ plain p j) → (plain p i → r = (i : Int)) → Q (.int r) H'
theorem sc_stands : FnScope ["program", "index", "met"] ["program", "index"] (defScope s_stands) := ⟨rfl, rfl, rfl, by decide +kernel, rfl, by decide +kernel, by decide +kernel⟩
theorem ok_stands (T : Txt K mg) : Ok P w K mg base CX0 1 "stands" ["program", "index"] spStands := by
  refine ok_of (f_stands T) (g_stands T) sc_stands (fun _ _ _ _ _ _ us hl => match us, hl with | [_, _], _ => rfl) (fun vs H Q E h => ?_) (fun cdv A outer s H vs Q E hcd hr h => ?_)
  · obtain ⟨a, b, i, p, rfl, _⟩ := h
    rfl
  · obtain ⟨a, b, i0, p, rfl, hp, hok, hi0, q⟩ := h
    have nd := sc_stands.nd
    obtain ⟨te, hE⟩ := i_END T
    refine ⟨_, pss_cons (ps_set (i := 2) nd rfl (.inl rfl) (pe_lst pa_nil))
      (pss_cons (ps_while PassesOwn.never (PW.pt (pw_and (pt_cmpR op_lt (pv 1) (pe_callB call_len_seq (by rfl) (m_len T) PySem.boot_len (pa_cons (pv 0) pa_nil)) (nomark _)) (pw_and1 (pt_cmpR op_eq (pe_ix ix_tup (pe_ix ix_tup (pv 0) (pv 1) (fun _ _ => rfl)) pe_int (fun _ _ => rfl)) pe_str (nomark _)))))
        (pss_cons (ps_if (pt_cmpR op_in_seq (pv 1) (pv 2) (by rfl)) (pss_one (ps_ret (pe_glob (v := .int (-1)) (by rfl) hE ⟨_, rfl⟩))) pss_nil)
        (pss_cons (ps_expr (pe_bm PySem.F.plainAttrs_list PySem.F.slot_list_append PySem.F.type_list_append mt_append (pv 2) (pa_cons (pv 1) pa_nil)))
        (pss_one (ps_set (i := 1) nd rfl (.inl rfl) (pe_ix ix_tup (pe_ix ix_tup (pv 0) (pv 1) (fun _ _ => rfl)) pe_int (fun _ _ => rfl)))))))
      (pss_one (ps_ret (pe_ifExp (PW.pt (pw_or (pt_cmpR op_eq (pv 1) (pe_callB call_len_seq (by rfl) (m_len T) PySem.boot_len (pa_cons (pv 0) pa_nil)) (nomark _)) (pw_or1 (pt_cmpR op_eq (pe_ix ix_tup (pe_ix ix_tup (pv 0) (pv 1) (fun _ _ => rfl)) pe_int (fun _ _ => rfl)) pe_str (nomark _))))) (pe_glob (v := .int (-1)) (by rfl) hE ⟨_, rfl⟩) (pv 1))))), ?_⟩
    obtain ⟨ts, ea, pt⟩ := id hp
    have hlen := PrAt.len pt
    have h20 := hok.2.1
    refine ⟨Nat.zero_le _, fun M0 nM0 => ?_⟩
    refine ⟨fun m σ H' => ∃ (i : Nat) (M : List Nat), σ = [some (.ref a), some (.int (i : Int)), some (.ref M0)] ∧ Sm H H' ∧ H' M0 = some (.lst (iv M)) ∧ M.Nodup ∧ (∀ v ∈ M, v < p.length) ∧ i ≤ p.length ∧ (i = i0 ∨ ¬ plain p i0) ∧ m = p.length - M.length, ⟨_, i0, [], rfl, (Sm.refl H).upd nM0, upd_same, by simp, fun v hv => (by cases hv), hi0, .inl rfl, rfl⟩, fun m σ H1 hw => ?_⟩
    obtain ⟨i, M, rfl, sm, eM, ndM, hM, hi, hpl, rfl⟩ := hw
    have lM := len_le ndM hM
    have ea1 := sm.tup ea
    refine ⟨_, rfl, _, rfl, a, _, rfl, .inr (SqT.of ea1), _, _, rfl, rfl, _, rfl, ite2 (fun c => ?_) (fun c => ?_)⟩
    · have hil : i < p.length := by have := of_decide_eq_true c; rw [hlen] at this; omega
      obtain ⟨x, hx⟩ : ∃ x, p[i]? = some x := ⟨p[i], List.getElem?_eq_getElem hil⟩
      obtain ⟨t, ht, et⟩ := PrAt.at pt hx
      have et1 := sm.tup et
      refine ⟨_, rfl, _, rfl, a, _, (i : Int), .ref t, rfl, rfl, SqT.of ea1, atI_nat (j := i) ht, t, _, 0, .str x.1, rfl, rfl, SqT.of et1, atI_nat (j := 0) (insV_0 x), rfl, _, rfl, ite2 (fun c2 => ?_) (fun c2 => ?_)⟩
      · have hgo : x.1 = "go" := by have := of_decide_eq_true c2; injection this
        have hnp : ¬ plain p i0 := by
          rcases hpl with rfl | h
          · rintro ⟨y, hy, h1, _⟩
            rw [hx] at hy
            cases hy
            exact h1 hgo
          · exact h
        obtain ⟨k, hk, hkl⟩ := jump_arg hok hx (.inr hgo)
        refine ⟨_, fun _ _ z => z, ?_⟩
        refine ⟨_, rfl, _, rfl, M0, _, rfl, .inl (SqL.of eM), rfl, iv_flat M, _, rfl, ite2 (fun c3 => ?_) (fun c3 => ?_)⟩
        · exact q H1 (-1) sm (.inl rfl) fun z => absurd z hnp
        · have hnM : i ∉ M := fun z => c3 (by
            rw [if_neg (by decide), inV_iv]; exact decide_eq_true z)
          have ndM' : (M ++ [i]).Nodup := nodup_snoc ndM hnM
          have hM' : ∀ v ∈ M ++ [i], v < p.length := fun v hv => (List.mem_append.mp hv).elim (hM v) fun z => by
            have : v = i := by simpa using z
            rw [this]; exact hil
          have lM' := len_le ndM' hM'
          rw [List.length_append, List.length_singleton] at lM'
          refine ⟨.ref M0, rfl, .inl ⟨rfl, _, SqL.of eM⟩, _, rfl, M0, _, _, rfl, rfl, eM, by rw [List.length_map]; exact small1000 (by omega), ?_⟩
          have sm2 := sm.upd (u := .lst (iv M ++ [.int (i : Int)])) nM0
          refine ⟨_, rfl, _, rfl, a, _, (i : Int), .ref t, rfl, rfl, SqT.of (sm2.tup ea), atI_nat (j := i) ht, t, _, 1, .int (k : Int), rfl, rfl, SqT.of (sm2.tup et), atI_nat (j := 1) (insV_1 hk), ?_⟩
          refine ⟨p.length - (M ++ [i]).length, ?_, k, M ++ [i], rfl, sm2, ?_, ndM', hM', hkl, .inr hnp, rfl⟩
          · rw [List.length_append, List.length_singleton]; omega
          · rw [upd_same]; simp [iv]
      · have hgo : x.1 ≠ "go" := fun z => c2 (decide_eq_true (by rw [z]))
        refine ⟨_, rfl, _, rfl, a, _, rfl, .inr (SqT.of ea1), rfl, _, rfl, ite2 (fun c4 => ?_) (fun _ => ?_)⟩
        · have := V.int.inj (of_decide_eq_true c4)
          rw [hlen] at this; omega
        refine ⟨_, rfl, _, rfl, a, _, (i : Int), .ref t, rfl, rfl, SqT.of ea1, atI_nat (j := i) ht, t, _, 0, .str x.1, rfl, rfl, SqT.of et1, atI_nat (j := 0) (insV_0 x), rfl, _, rfl, ite2 (fun c3 => ?_) (fun c3 => ?_)⟩
        · have hst : x.1 = "stop" := by have := of_decide_eq_true c3; injection this
          refine q H1 (-1) sm (.inl rfl) fun hp0 => ?_
          exfalso
          rcases hpl with rfl | h
          · obtain ⟨y, hy, _, h2⟩ := hp0
            rw [hx] at hy
            cases hy
            exact h2 hst
          · exact h hp0
        · have hst : x.1 ≠ "stop" := fun z => c3 (decide_eq_true (by rw [z]))
          refine ⟨_, rfl, q H1 (i : Int) sm (.inr ⟨i, rfl, x, hx, hgo, hst⟩) fun hp0 => ?_⟩
          rcases hpl with rfl | h
          · rfl
          · exact absurd hp0 h
    · have hil : i = p.length := by
        have : ¬ ((i : Int) < ((ts.map V.ref).length : Nat)) := fun z => c (decide_eq_true z)
        rw [hlen] at this; omega
      refine ⟨_, rfl, _, rfl, a, _, rfl, .inr (SqT.of ea1), rfl, _, rfl, ite2 (fun _ => ?_) (fun c4 => absurd (decide_eq_true (by rw [hlen, hil])) c4)⟩
      refine q H1 (-1) sm (.inl rfl) fun hp0 => ?_
      exfalso
      rcases hpl with rfl | h
      · obtain ⟨y, hy, _⟩ := hp0
        rw [List.getElem?_eq_none (by omega)] at hy
        cases hy
      · exact h hp0
end
end HT
/-! text P3 -/
set_option maxHeartbeats 4000000
namespace HT
open PySem PySem.Spec PyProof.Rows L2
theorem mem_one {α : Type} {a x : α} (h : x ∈ [a]) : x = a := by simpa using h
theorem cut_one (x y : V) : cutV [x, y] none (some 1) = [x] := by rfl
section
variable {P : Program} {w : World} {K : PySem.W.Frag} {mg : Str → Option Value} {base : Heap}
def okNext (p : List Ins) (i : Nat) (rs : List Int) : Prop := rs.length ≤ 2 ∧ (∀ r ∈ rs, r = -1 ∨ ∃ j : Nat, r = (j : Int) ∧ plain p j) ∧ (plain p (i + 1) → ((i + 1 : Nat) : Int) ∈ rs)
def spNexts : Sp := fun vs H Q _ => ∃ (a : Addr) (books i : Nat) (p : List Ins), vs = [.ref a, .int (i : Int)] ∧ PrAt H a p ∧ PrOk books p ∧ i < p.length ∧
  ∀ H' l (rs : List Int), Sm H H' → H l = none → H' l = some (.lst (rs.map V.int)) → okNext p i rs → Q (.ref l) H'
theorem sc_nexts : FnScope ["program", "index", "found"] ["program", "index"] (defScope s_nexts) := ⟨rfl, rfl, rfl, by decide +kernel, rfl, by decide +kernel, by decide +kernel⟩
theorem ok_nexts (T : Txt K mg) : Ok P w K mg base CX0 2 "nexts" ["program", "index"] spNexts := by
  refine ok_of (f_nexts T) (g_nexts T) sc_nexts (fun _ _ _ _ _ _ us hl => match us, hl with | [_, _], _ => rfl) (fun vs H Q E h => ?_) (fun cdv A outer s H vs Q E hcd hr h => ?_)
  · obtain ⟨a, b, i, p, rfl, _⟩ := h
    rfl
  · obtain ⟨a, b, i, p, rfl, hp, hok, hi, q⟩ := h
    have nd := sc_nexts.nd
    refine ⟨_, pss_cons (ps_if (pt_cmpR op_eq (pe_ix ix_tup (pe_ix ix_tup (pv 0) (pv 1) (fun _ _ => rfl)) pe_int (fun _ _ => rfl)) pe_str (nomark _))
        (pss_cons (ps_set (i := 2) nd rfl (.inl rfl) (pe_lst (pa_cons (pe_cl (ok_stands T) hr (pa_cons (pv 0) (pa_cons (pe_ix ix_tup (pe_ix ix_tup (pv 0) (pv 1) (fun _ _ => rfl)) pe_int (fun _ _ => rfl)) pa_nil))) (pa_cons (pe_cl (ok_stands T) hr (pa_cons (pv 0) (pa_cons (pe_op op_add (pv 1) pe_int) pa_nil))) pa_nil))))
        (pss_one (ps_ret (pe_ifExp (pt_cmpR op_eq (pe_ix ix_list (pv 2) pe_int (fun _ _ => rfl)) (pe_ix ix_list (pv 2) pe_int (fun _ _ => rfl)) (nomark _)) (pe_slice sl_list (pv 2) po_none (po_some pe_int)) (pv 2))))) pss_nil)
      (pss_one (ps_ret (pe_lst (pa_cons (pe_cl (ok_stands T) hr (pa_cons (pv 0) (pa_cons (pe_op op_add (pv 1) pe_int) pa_nil))) pa_nil)))), ?_⟩
    obtain ⟨ts, ea, pt⟩ := id hp
    obtain ⟨x, hx⟩ : ∃ x, p[i]? = some x := ⟨p[i], List.getElem?_eq_getElem hi⟩
    obtain ⟨t, ht, et⟩ := PrAt.at pt hx
    refine ⟨_, rfl, _, rfl, a, _, (i : Int), .ref t, rfl, rfl, SqT.of ea, atI_nat (j := i) ht, t, _, 0, .str x.1, rfl, rfl, SqT.of et, atI_nat (j := 0) (insV_0 x), rfl, _, rfl, ite2 (fun c => ?_) (fun c => ?_)⟩
    · have hz : x.1 = "zero" := by
        have := of_decide_eq_true c
        injection this
      obtain ⟨k, hk, hkl⟩ := jump_arg hok hx (.inl hz)
      refine ⟨_, rfl, _, rfl, _, rfl, a, _, (i : Int), .ref t, rfl, rfl, SqT.of ea, atI_nat (j := i) ht, t, _, 1, .int (k : Int), rfl, rfl, SqT.of et, atI_nat (j := 1) (insV_1 hk), a, b, k, p, rfl, hp, hok, hkl, fun H1 r1 s1 h1 _ => ?_⟩
      refine ⟨_, rfl, _, rfl, (i : Int), 1, rfl, rfl, a, b, i + 1, p, rfl, hp.xn s1.n, hok, hi, fun H2 r2 s2 h2 h2' => ?_⟩
      have s12 := s1.trans s2
      refine ⟨(by show 2 ≤ sizeLine; decide), fun l nl => ?_⟩
      have s3 := s12.new (u := .lst [.int r1, .int r2]) nl
      have hall : ∀ r ∈ [r1, r2], r = -1 ∨ ∃ j : Nat, r = (j : Int) ∧ plain p j := fun r hr => by
        rcases List.mem_cons.mp hr with e | e
        · rw [e]; exact h1
        · rw [mem_one e]; exact h2
      refine ⟨_, rfl, l, _, 0, .int r1, rfl, rfl, SqL.of upd_same, atI_nat (j := 0) rfl, _, rfl, l, _, 1, .int r2, rfl, rfl, SqL.of upd_same, atI_nat (j := 1) rfl, rfl, _, rfl, ite2 (fun c2 => ?_) (fun c2 => ?_)⟩
      · have e12 : r1 = r2 := V.int.inj (of_decide_eq_true c2)
        refine ⟨_, rfl, 1, rfl, l, _, rfl, SqL.of upd_same, fun p1 np => ?_⟩
        rw [cut_one]
        refine q _ p1 [r1] (s3.new np) (s3.free np) upd_same ⟨by show 1 ≤ 2; decide, fun r h => hall r (by rw [mem_one h]; simp), fun h => ?_⟩
        rw [e12, h2' h]; simp
      · exact ⟨_, rfl, q _ l [r1, r2] s3 (s12.free nl) upd_same ⟨Nat.le_refl _, hall, fun h => by rw [h2' h]; simp⟩⟩
    · refine ⟨_, rfl, _, rfl, (i : Int), 1, rfl, rfl, a, b, i + 1, p, rfl, hp, hok, hi, fun H1 r s1 hr1 hr2 => ?_⟩
      refine ⟨(by show 1 ≤ sizeLine; decide), fun l nl => ?_⟩
      exact q _ l [r] (s1.new nl) (s1.free nl) upd_same ⟨by show 1 ≤ 2; decide, fun r' h => by rw [mem_one h]; exact hr1, fun h => by rw [hr2 h]; simp⟩
end
end HT
/-! text A8 -/
set_option maxHeartbeats 4000000
namespace HT
open PySem PySem.Spec PyProof.Rows L2
open GxR (TabG Tabbed)
theorem dp_ints {K : PySem.W.Frag} {H : Hp} : ∀ l : List Int, DpAll K H (l.map V.int) (l.map PyData.int)
  | [] => .nil
  | n :: r => .cons (.int n) (dp_ints r)
theorem dp_iv {K : PySem.W.Frag} {H : Hp} (l : List Nat) : DpAll K H (iv l) ((l.map fun v : Nat => (v : Int)).map PyData.int) := by
  rw [iv_int]; exact dp_ints _
theorem eqv_nil (l : List PyData) : PyData.eqv (.list l) (.list []) = l.isEmpty := by
  cases l <;> simp [PyData.eqv, PyData.eqvAll]
section
variable {P : Program} {w : World} {K : PySem.W.Frag} {mg : Str → Option Value} {base : Heap}
/-! ### is_free, keeps_all -/
def Free (n : Nat) (T : List (Nat × Nat)) (g : Nat) : Prop := ∀ v, v < n → v ≠ g → ¬ Cut n T v
def spFree (K : PySem.W.Frag) : Sp := fun vs H Q _ => ∃ (y : Addr) (n g : Nat) (T : List (Nat × Nat)), vs = [.ref y] ∧ YardAt H y n T g ∧ YardOk n T g ∧ TbH K H ∧ ∀ H' b, Sg K H H' → (b = true ↔ Free n T g) → Q (.bl b) H'
theorem sc_is_free : FnScope ["yard", "place"] ["yard"] (defScope s_is_free) := ⟨rfl, rfl, rfl, by decide +kernel, rfl, by decide +kernel, by decide +kernel⟩
theorem ok_is_free (T : Txt K mg) (B : Tbs K mg base) : Ok P w K mg base CX0 4 "is_free" ["yard"] (spFree K) := by
  refine ok_of (f_is_free T) (g_is_free T) sc_is_free (fun _ _ _ _ _ _ us hl => match us, hl with | [_], _ => rfl) (fun vs H Q E h => ?_) (fun cdv A outer s H vs Q E hcd hr h => ?_)
  · obtain ⟨y, n, g, T, rfl, _⟩ := h
    rfl
  · obtain ⟨y, n, g, Ts, rfl, hy, hY, hB, q⟩ := h
    have nd := sc_is_free.nd
    have hr3 : Room 3 _ := hr
    refine ⟨_, pss_cons (ps_expr (pe_cl (ok_need_yard T B) hr3 (pa_cons (pv 0) pa_nil)))
      (pss_one (ps_ret (pe_cmpR (op_eqD hr.units) (pe_lc (own := [("place", 1)]) (g := gName 1) (tt := tTest (tOp rNe (tVar 1) (tOp (rIxT K) (tVar 0) (tC (.int 2))))) rfl nd (pi_list (pe_cl (ok_parting_of T) hr3 (pa_cons (pv 0) pa_nil))) (blkOk_by (N := ["yard", "place"]) (sc := defScope s_is_free) (by decide +kernel))
          (fun _ _ _ _ _ => pg_name (i := 1) nd rfl (.inl rfl)) (fun _ _ _ _ _ => pts_one (pt_cmpR op_ne (pv 1) (pe_ix ix_tup (pv 0) pe_int (fun _ _ => rfl)) (nomark _))) (fun _ _ _ _ _ => pv 1))
        (pe_lst pa_nil) (nomark _)))), ?_⟩
    refine ⟨_, rfl, y, n, g, Ts, rfl, hy, hY, hB, fun H1 s1 => ?_⟩
    refine ⟨_, rfl, y, n, g, Ts, rfl, hy.xn s1.n, hY, fun H2 l C s2 nl eL lC hC => ⟨l, rfl, ⟨_, SqL.of eL⟩, fun D nD => ?_⟩⟩
    have s12 := s1.trans s2.g
    obtain ⟨a, ey, _⟩ := id hy
    have hlen := hY.n7
    refine lc_list (K := K) (a := l) (xs := iv C) (fun i H' => Sm H2 H' ∧ H' D = some (.lst (iv ((C.take i).filter fun v => v ≠ g)))) ⟨(Sm.refl H2).new nD, upd_same⟩ (fun i H' _ z => SqL.of (z.1.lst eL)) (fun i x H' hx z => ?_) (fun H' z => ?_)
    · obtain ⟨sm, eD⟩ := z
      obtain ⟨u, hu, rfl⟩ : ∃ u : Nat, C[i]? = some u ∧ x = .int u := by
        rw [List.getElem?_map] at hx
        cases e : C[i]? with
        | none => rw [e] at hx; cases hx
        | some u => rw [e] at hx; exact ⟨u, rfl, (Option.some.inj hx).symm⟩
      refine ⟨rfl, _, rfl, _, rfl, y, _, 2, .int (g : Int), rfl, rfl, SqT.of ((s12.trans sm.g).tup ey), atI_nat (j := 2) rfl, rfl, _, rfl, ite2 (fun c => ?_) (fun c => ?_)⟩
      · have hne : u ≠ g := fun e => by rw [e] at c; simp at c
        refine ⟨_, rfl, _, eD, ?_, sm.upd nD, ?_⟩
        · rw [List.length_map]
          have := List.length_filter_le (fun v : Nat => decide (v ≠ g)) (C.take i)
          rw [List.length_take] at this
          exact small1000 (by omega)
        · rw [upd_same, take_succ' hu, List.filter_append]; simp [iv, hne]
      · have he : u = g := Decidable.byContradiction fun e => c (by rw [decide_eq_false (fun z => e (by have := V.int.inj z; omega))]; rfl)
        refine ⟨sm, ?_⟩
        rw [eD, take_succ' hu, List.filter_append]; simp [he]
    · obtain ⟨sm, eD⟩ := z
      rw [List.length_map, List.take_length] at eD
      refine ⟨Nat.zero_le _, fun E' nE => ?_⟩
      have hDE : D ≠ E' := ne_of_none eD nE
      refine ⟨_, _, .lst (SqL.of (by rw [upd_ne hDE]; exact eD)) (dp_iv _), .lst (SqL.of upd_same) .nil, PySem.W.shaped_ints _, by decide +kernel, ?_⟩
      refine q _ _ ((s12.trans sm.g).new nE) ?_
      rw [eqv_nil]
      rw [List.isEmpty_iff, List.map_eq_nil_iff, List.map_eq_nil_iff, List.filter_eq_nil_iff]
      constructor
      · intro h v hv hg hc
        exact h v ((hC v).mpr ⟨hv, hc⟩) (by simpa using hg)
      · intro h v hv hg
        obtain ⟨h1, h2⟩ := (hC v).mp hv
        exact h v h1 (by simpa using hg) h2
theorem sc_keeps_all : FnScope ["yard"] ["yard"] (defScope s_keeps_all) := ⟨rfl, rfl, rfl, by decide +kernel, rfl, by decide +kernel, by decide +kernel⟩
theorem ok_keeps_all (T : Txt K mg) (B : Tbs K mg base) : Ok P w K mg base CX0 5 "keeps_all" ["yard"] (spFree K) := by
  refine ok_of (f_keeps_all T) (g_keeps_all T) sc_keeps_all (fun _ _ _ _ _ _ us hl => match us, hl with | [_], _ => rfl) (fun vs H Q E h => ?_) (fun cdv A outer s H vs Q E hcd hr h => ?_)
  · obtain ⟨y, n, g, T, rfl, _⟩ := h
    rfl
  · obtain ⟨y, n, g, Ts, rfl, hy, hY, hB, q⟩ := h
    refine ⟨_, pss_cons (ps_expr (pe_cl (ok_need_yard T B) (hr.mono (by decide)) (pa_cons (pv 0) pa_nil))) (pss_one (ps_ret (pe_cl (ok_is_free T B) hr (pa_cons (pv 0) pa_nil)))), ?_⟩
    exact ⟨_, rfl, y, n, g, Ts, rfl, hy, hY, hB, fun H1 s1 => ⟨_, rfl, y, n, g, Ts, rfl, hy.xn s1.n, hY, hB.sg s1, fun H2 b s2 hb => q H2 b (s1.trans s2) hb⟩⟩
end
end HT
/-! text P4a -/
set_option maxHeartbeats 4000000
namespace HT
open PySem PySem.Spec PyProof.Rows L2
open PySem.W (AllAlike AlikeAll Sortable alike alikeAll)
def rCatN (K : PySem.W.Frag) : R2 := fun x y H Q => ∃ a b xs ys, x = .ref a ∧ y = .ref b ∧ SqT K H a xs ∧ H b = some (.tup ys) ∧ ys ≠ [] ∧ xs.length + ys.length ≤ sizeLine ∧ ∀ p H', Sm H H' → H' p = some (.tup (xs ++ ys)) → Q (.ref p) H'
theorem op_catN {X : Cx} : OpR X (binaryOp .Add) (rCatN X.K) := by
  intro pins s σ H x y v u Q I rx ry h
  obtain ⟨a, b, xs, ys, rfl, rfl, ha, hb, hy, hl, q⟩ := h
  refine op_catA pins s σ H _ _ v u Q I rx ry ⟨a, b, xs, ys, rfl, rfl, ha, SqT.of hb, hl, fun h0 => ?_, fun _ h => absurd h hy, fun h0 _ p np => ?_⟩
  · subst h0
    exact q b H (Sm.refl H) (by rw [List.nil_append]; exact hb)
  · exact q p _ ((Sm.refl H).new np) upd_same
theorem yes_if {σ : L2.St} {H : Hp} {A B : Hp → Prop} (h : A H) : tYes σ H (fun b H3 => if b = true then A H3 else B H3) := by
  show if true = true then A H else B H
  rw [if_pos rfl]
  exact h
def asksB (p : List Ins) (i b : Nat) : Prop := ∃ x, p[i]? = some x ∧ asking x.1 ∧ x.2 = some (b : Int)
def Gate (T : List (Nat × Nat)) (s : Std) (g b : Nat) : Prop := ∃ s', WR T s s' ∧ s'[g]? = some (some b)
def Passes (p : List Ins) (G : Nat → Prop) : Prop := ∃ F : List Nat, (plain p 0 → 0 ∈ F) ∧ (∀ i ∈ F, plain p (i + 1) → i + 1 ∈ F) ∧ ∀ i ∈ F, ∀ b, asksB p i b → G b
theorem ask_arg {books : Nat} {p : List Ins} (h : PrOk books p) {i : Nat} {x : Ins} (hi : p[i]? = some x) (hj : asking x.1) : ∃ k : Nat, x.2 = some (k : Int) ∧ k < books := by
  have hx := h.2.2 x (List.mem_of_getElem? hi)
  rcases hx with ⟨_, h1⟩ | ⟨k, h1, h2⟩ | ⟨k, _, h1, _⟩
  · exfalso
    rcases hj with hj | hj | hj | hj <;> rcases h1 with h1 | h1 | h1 <;> rw [hj] at h1 <;> exact absurd h1 (by decide)
  · rcases h2 with ⟨_, h3⟩ | ⟨h2, _⟩
    · exact ⟨k, h1, h3⟩
    · exfalso
      rcases hj with hj | hj | hj | hj <;> rcases h2 with h2 | h2 <;> rw [hj] at h2 <;> exact absurd h2 (by decide)
  · exfalso
    rcases hj with hj | hj | hj | hj <;> rw [hj] at h1 <;> exact absurd h1 (by decide)
theorem inV_ask (x : Str) : inV (.str x) [.str "get", .str "plus", .str "minus", .str "set"] = true ↔ asking x := by
  unfold inV asking
  simp [eqV]
  constructor
  · rintro (h | h | h | h) <;> simp [h]
  · rintro (h | h | h | h) <;> simp [h]
/-- at t a pair of a way and an index -/
def LyE (H : Hp) (t : Addr) (e : List Int × Int) : Prop := ∃ wa, H t = some (.tup [.ref wa, .int e.2]) ∧ H wa = some (.tup (e.1.map V.int))
theorem LyE.tn {H H' : Hp} {t : Addr} {e : List Int × Int} (x : Tn H H') (h : LyE H t e) : LyE H' t e := let ⟨wa, h1, h2⟩ := h; ⟨wa, x.t _ _ h1, x.t _ _ h2⟩
theorem LyE.idx {H : Hp} {t : Addr} {e e' : List Int × Int} (h : LyE H t e) (h' : LyE H t e') : e.2 = e'.2 := by
  obtain ⟨wa, h1, _⟩ := h
  obtain ⟨wb, h2, _⟩ := h'
  rw [h1] at h2
  have h2 := Option.some.inj h2
  injection h2 with h2
  injection h2 with _ h2
  injection h2 with h2 _
  exact V.int.inj h2
abbrev LyP (H : Hp) : List Addr → List (List Int × Int) → Prop := Paired (fun t e => LyE H t e)
abbrev EnP (H : Hp) : List Addr → List (List Int) → Prop := Paired (fun t e => H t = some (.tup (e.map V.int)))
theorem LyP.tn {H H' : Hp} {ts : List Addr} {L : List (List Int × Int)} (x : Tn H H') (h : LyP H ts L) : LyP H' ts L := Paired.imp' (fun _ _ z => z.tn x) h
theorem EnP.tn {H H' : Hp} {ts : List Addr} {L : List (List Int)} (x : Tn H H') (h : EnP H ts L) : EnP H' ts L := Paired.imp' (fun _ _ z => x.t _ _ z) h
theorem PrAt.tn {H H' : Hp} {a : Addr} {p : List Ins} (e : Tn H H') (h : PrAt H a p) : PrAt H' a p := let ⟨ts, h1, h2⟩ := h; ⟨ts, e.t _ _ h1, Paired.imp' (fun _ _ z => e.t _ _ z) h2⟩
def intsD (e : List Int) : PyData := .tuple (e.map PyData.int)
def lyD (e : List Int × Int) : PyData := .tuple [intsD e.1, .int e.2]
theorem alike_intsD (a b : List Int) : alike (intsD a) (intsD b) = true := PySem.W.alike_ints a b
theorem alike_lyD (a b : List Int × Int) : alike (lyD a) (lyD b) = true := by
  show (alike (intsD a.1) (intsD b.1) && (alike (.int a.2) (.int b.2) && alikeAll [] [])) = true
  rw [alike_intsD]; rfl
theorem depth_intsD (a : List Int) : (intsD a).depth ≤ 1 := by
  unfold intsD
  rw [PyData.depth, PySem.W.depth_ints] <;> decide
theorem depth_lyD (a : List Int × Int) : (lyD a).depth ≤ 2 := by
  have := depth_intsD a.1
  unfold lyD
  simp only [PyData.depth, PyData.depthAll]
  omega
theorem dp_intsT {K : PySem.W.Frag} {H : Hp} {t : Addr} {e : List Int} (h : H t = some (.tup (e.map V.int))) : Dp K H (.ref t) (intsD e) := .tup (SqT.of h) (dp_ints e)
theorem dpAll_en {K : PySem.W.Frag} {H : Hp} : ∀ {ts : List Addr} {E : List (List Int)}, EnP H ts E → DpAll K H (ts.map V.ref) (E.map intsD)
  | _, _, .nil => .nil
  | _, _, .cons h t => .cons (dp_intsT h) (dpAll_en t)
theorem dpAll_ly {K : PySem.W.Frag} {H : Hp} : ∀ {ts : List Addr} {E : List (List Int × Int)}, LyP H ts E → DpAll K H (ts.map V.ref) (E.map lyD)
  | _, _, .nil => .nil
  | _, _, .cons h t => .cons (let ⟨_, h1, h2⟩ := h; .tup (SqT.of h1) (.cons (dp_intsT h2) (.cons (.int _) .nil))) (dpAll_ly t)
theorem depthAll_en : ∀ E : List (List Int), PyData.depthAll (E.map intsD) ≤ 1
  | [] => by simp [PyData.depthAll]
  | e :: E => by
    rw [List.map_cons, PyData.depthAll]
    have := depthAll_en E
    have := depth_intsD e
    omega
theorem refsV_perm {as : List Addr} {out : List V} (h : out.Perm (as.map V.ref)) : ∃ bs : List Addr, bs.Perm as ∧ out = bs.map V.ref := by
  refine ⟨out.map fun v => match v with | .ref a => a | _ => 0, ?_, ?_⟩
  · have := h.map fun v => match v with | .ref a => a | _ => 0
    rw [List.map_map] at this
    refine this.trans (List.Perm.of_eq ?_)
    rw [show ((fun v => match v with | .ref a => a | _ => 0) ∘ V.ref : Addr → Addr) = id from rfl, List.map_id]
  · rw [List.map_map]
    have : ∀ v ∈ out, (V.ref ∘ fun v => match v with | .ref a => a | _ => 0) v = v := fun v hv => by
      obtain ⟨a, _, rfl⟩ := List.mem_map.mp (h.mem_iff.mp hv)
      rfl
    conv => lhs; rw [← List.map_id out]
    exact List.map_congr_left fun v hv => (this v hv).symm
theorem ly_of {H : Hp} {G : List (List Int × Int)} : ∀ {ks : List Addr}, (∀ k ∈ ks, ∃ s ∈ G, LyE H k s) → ∃ Ls, LyP H ks Ls ∧ ∀ s ∈ Ls, s ∈ G
  | [], _ => ⟨[], .nil, fun _ h => by cases h⟩
  | k :: ks, h => by
    obtain ⟨Ls, h1, h2⟩ := ly_of (ks := ks) fun k hk => h k (List.mem_cons_of_mem _ hk)
    obtain ⟨s, hs, hk⟩ := h k (List.mem_cons_self ..)
    exact ⟨s :: Ls, .cons hk h1, fun t ht => (List.mem_cons.mp ht).elim (fun e => e ▸ hs) (h2 t)⟩
theorem paired_mem2 {α β : Type} {F : α → β → Prop} : ∀ {l : List α} {m : List β}, Paired F l m → ∀ {b : β}, b ∈ m → ∃ a ∈ l, F a b
  | _, _, .nil, _, h => by cases h
  | _, _, .cons h t, b, hm => (List.mem_cons.mp hm).elim (fun e => ⟨_, List.mem_cons_self .., e ▸ h⟩) fun z => let ⟨a, ha, hf⟩ := paired_mem2 t z; ⟨a, List.mem_cons_of_mem _ ha, hf⟩
/-- between two turns -/
structure BwI (p : List Ins) (B Fd : List Nat) (L : List (List Int × Int)) : Prop where
  nd : Fd.Nodup
  lt : ∀ i ∈ Fd, i < p.length
  ix : ∀ e ∈ L, e.2 = -1 ∨ ∃ j : Nat, e.2 = (j : Int) ∧ plain p j
  st : plain p 0 → 0 ∈ Fd ∨ ∃ e ∈ L, e.2 = 0
  cl : ∀ i ∈ Fd, plain p (i + 1) → i + 1 ∈ Fd ∨ ∃ e ∈ L, e.2 = ((i + 1 : Nat) : Int)
  ok : ∀ i ∈ Fd, ∀ b, asksB p i b → b ∈ B
  we : ∀ e ∈ L, e.1.length ≤ Fd.length
structure BwJ (p : List Ins) (B Fd0 Fd : List Nat) (E : List (List Int)) (R La : List (List Int × Int)) : Prop where
  nd : Fd.Nodup
  lt : ∀ i ∈ Fd, i < p.length
  ix : ∀ e ∈ La, e.2 = -1 ∨ ∃ j : Nat, e.2 = (j : Int) ∧ plain p j
  st : plain p 0 → 0 ∈ Fd ∨ (∃ e ∈ R, e.2 = 0) ∨ ∃ e ∈ La, e.2 = 0
  cl : ∀ i ∈ Fd, plain p (i + 1) → i + 1 ∈ Fd ∨ (∃ e ∈ R, e.2 = ((i + 1 : Nat) : Int)) ∨ ∃ e ∈ La, e.2 = ((i + 1 : Nat) : Int)
  ok : ∀ i ∈ Fd, ∀ b, asksB p i b → b ∈ B ∨ E ≠ []
  en : E ≠ [] → ∃ i b, asksB p i b ∧ b ∉ B
  gr : La ≠ [] → Fd0.length < Fd.length
  ge : Fd0.length ≤ Fd.length
  le : La.length ≤ 2 * Fd.length
  we : ∀ e ∈ La, e.1.length ≤ Fd0.length + 1
  el : E.length ≤ Fd.length
theorem BwJ.start {p : List Ins} {B Fd : List Nat} {L : List (List Int × Int)} (i : BwI p B Fd L) : BwJ p B Fd Fd [] L [] :=
  ⟨i.nd, i.lt, fun e h => (by cases h), fun h => (i.st h).elim .inl fun z => .inr (.inl z), fun k hk h => (i.cl k hk h).elim .inl fun z => .inr (.inl z), fun k hk b h => .inl (i.ok k hk b h), fun h => absurd rfl h, fun h => absurd rfl h, Nat.le_refl _, Nat.zero_le _, fun e h => (by cases h), Nat.zero_le _⟩
theorem BwJ.skip {p : List Ins} {B Fd0 Fd : List Nat} {E : List (List Int)} {R La : List (List Int × Int)} {e : List Int × Int} (j : BwJ p B Fd0 Fd E (e :: R) La) (h : e.2 = -1 ∨ ∃ k : Nat, e.2 = (k : Int) ∧ k ∈ Fd) : BwJ p B Fd0 Fd E R La := by
  have key : ∀ k : Nat, (∃ e' ∈ e :: R, e'.2 = (k : Int)) → k ∈ Fd ∨ ∃ e' ∈ R, e'.2 = (k : Int) := fun k ⟨e', h1, h2⟩ => by
    rcases List.mem_cons.mp h1 with z | z
    · rw [z] at h2
      rcases h with h | ⟨m, h, hm⟩
      · omega
      · exact .inl (by have : k = m := by omega
                       rw [this]; exact hm)
    · exact .inr ⟨e', z, h2⟩
  refine ⟨j.nd, j.lt, j.ix, fun h => ?_, fun i hi h => ?_, j.ok, j.en, j.gr, j.ge, j.le, j.we, j.el⟩
  · rcases j.st h with z | z | z
    · exact .inl z
    · rcases key 0 z with z | z
      · exact .inl z
      · exact .inr (.inl z)
    · exact .inr (.inr z)
  · rcases j.cl i hi h with z | z | z
    · exact .inl z
    · rcases key (i + 1) z with z | z
      · exact .inl z
      · exact .inr (.inl z)
    · exact .inr (.inr z)
theorem BwJ.take {p : List Ins} {B Fd0 Fd : List Nat} {E E' : List (List Int)} {R La : List (List Int × Int)} {e : List Int × Int} (j : BwJ p B Fd0 Fd E (e :: R) La) {k : Nat} (he : e.2 = (k : Int)) (hk : k ∉ Fd) (hp : plain p k) {w : List Int} {rs : List Int} (hn : okNext p k rs) (hw : w.length ≤ Fd0.length + 1)
    (hl : E'.length ≤ E.length + 1) (hE : E ≠ [] → E' ≠ []) (hok : ∀ b, asksB p k b → b ∈ B ∨ E' ≠ []) (hen : E' ≠ [] → ∃ i b, asksB p i b ∧ b ∉ B) : BwJ p B Fd0 (Fd ++ [k]) E' R (La ++ rs.map fun r => (w, r)) := by
  have hkl : k < p.length := by
    obtain ⟨x, hx, _⟩ := hp
    exact (List.getElem?_eq_some_iff.mp hx).1
  have key : ∀ m : Nat, (m ∈ Fd ∨ (∃ e' ∈ e :: R, e'.2 = (m : Int)) ∨ ∃ e' ∈ La, e'.2 = (m : Int)) → m ∈ Fd ++ [k] ∨ (∃ e' ∈ R, e'.2 = (m : Int)) ∨ ∃ e' ∈ La ++ rs.map (fun r => (w, r)), e'.2 = (m : Int) := fun m h => by
    rcases h with h | ⟨e', h1, h2⟩ | ⟨e', h1, h2⟩
    · exact .inl (List.mem_append_left _ h)
    · rcases List.mem_cons.mp h1 with z | z
      · rw [z, he] at h2
        exact .inl (List.mem_append_right _ (by have : m = k := by omega
                                                simp [this]))
      · exact .inr (.inl ⟨e', z, h2⟩)
    · exact .inr (.inr ⟨e', List.mem_append_left _ h1, h2⟩)
  refine ⟨nodup_snoc j.nd hk, fun i hi => ?_, fun e' h => ?_, fun h => key 0 (j.st h), fun i hi h => ?_, fun i hi b h => ?_, hen, fun _ => ?_, ?_, ?_, fun e' h => ?_, by rw [List.length_append, List.length_singleton]; have := j.el; omega⟩
  · rcases List.mem_append.mp hi with z | z
    · exact j.lt i z
    · rw [mem_one z]; exact hkl
  · rcases List.mem_append.mp h with z | z
    · exact j.ix e' z
    · obtain ⟨r, hr, rfl⟩ := List.mem_map.mp z
      exact hn.2.1 r hr
  · rcases List.mem_append.mp hi with z | z
    · exact key (i + 1) (j.cl i z h)
    · rw [mem_one z] at h ⊢
      exact .inr (.inr ⟨(w, ((k + 1 : Nat) : Int)), List.mem_append_right _ (List.mem_map.mpr ⟨_, hn.2.2 h, rfl⟩), rfl⟩)
  · rcases List.mem_append.mp hi with z | z
    · exact (j.ok i z b h).imp id hE
    · rw [mem_one z] at h; exact hok b h
  · rw [List.length_append, List.length_singleton]; have := j.ge; omega
  · rw [List.length_append, List.length_singleton]; have := j.ge; omega
  · rw [List.length_append, List.length_append, List.length_map, List.length_singleton]; have := j.le; have := hn.1; omega
  · rcases List.mem_append.mp h with z | z
    · exact j.we e' z
    · obtain ⟨r, hr, rfl⟩ := List.mem_map.mp z
      exact hw
theorem BwJ.turn {p : List Ins} {B Fd0 Fd : List Nat} {La L' : List (List Int × Int)} (j : BwJ p B Fd0 Fd [] [] La) (h1 : ∀ e ∈ L', e ∈ La) (h2 : ∀ e ∈ La, ∃ e' ∈ L', e'.2 = e.2) : BwI p B Fd L' := by
  have key : ∀ m : Nat, (m ∈ Fd ∨ (∃ e' ∈ ([] : List (List Int × Int)), e'.2 = (m : Int)) ∨ ∃ e' ∈ La, e'.2 = (m : Int)) → m ∈ Fd ∨ ∃ e' ∈ L', e'.2 = (m : Int) := fun m h => by
    rcases h with h | ⟨e', h3, _⟩ | ⟨e', h3, h4⟩
    · exact .inl h
    · cases h3
    · obtain ⟨e2, a, b⟩ := h2 e' h3
      exact .inr ⟨e2, a, b.trans h4⟩
  refine ⟨j.nd, j.lt, fun e h => j.ix e (h1 e h), fun h => key 0 (j.st h), fun i hi h => key (i + 1) (j.cl i hi h), fun i hi b h => (j.ok i hi b h).elim id fun z => absurd rfl z, fun e h => ?_⟩
  have h3 := j.we e (h1 e h)
  have h4 := j.gr (fun z => by have := h1 e h; rw [z] at this; cases this)
  omega
theorem BwI.none {p : List Ins} {B Fd : List Nat} (i : BwI p B Fd []) {G : Nat → Prop} (h : ∀ b, b ∈ B ↔ G b) : Passes p G :=
  ⟨Fd, fun z => (i.st z).elim id fun ⟨_, x, _⟩ => (by cases x), fun k hk z => (i.cl k hk z).elim id fun ⟨_, x, _⟩ => (by cases x), fun k hk b z => (h b).mp (i.ok k hk b z)⟩
end HT
/-! text M3 -/
set_option maxHeartbeats 4000000
namespace HT
open PySem PySem.Spec PyProof.Rows L2
/-! ### marks of ties -/
def tL (t : Nat × Nat) : List Leaf := [.num (t.1 : Int), .num (t.2 : Int)]
theorem tL_inj {t u : Nat × Nat} (h : tL t = tL u) : t = u := by
  unfold tL at h
  injection h with h1 h2
  injection h1 with h1
  injection h2 with h2
  injection h2 with h2
  exact Prod.ext (by omega) (by omega)
theorem tL_V (t : Nat × Nat) : (tL t).map lfV = tieV t := rfl
/-- the dict of the marks mk -/
def mkX (E : List (Addr × (Nat × Nat))) (mk : Nat × Nat → Nat) : SX := E.map fun e => (tL e.2, e.1, V.int (mk e.2 : Int))
theorem mkX_keys (E : List (Addr × (Nat × Nat))) (mk : Nat × Nat → Nat) : (mkX E mk).map (·.1) = (E.map (·.2)).map tL := by
  unfold mkX
  rw [List.map_map, List.map_map]; rfl
theorem zip_snd {ts : List Addr} {T : List (Nat × Nat)} (h : ts.length = T.length) : (ts.zip T).map (·.2) = T := List.map_snd_zip (by omega)
theorem valS_mk {E : List (Addr × (Nat × Nat))} {mk : Nat × Nat → Nat} {t : Nat × Nat} (h : t ∈ E.map (·.2)) : valS (mkX E mk) (tL t) = some (.int (mk t : Int)) := by
  obtain ⟨x, hx, e1, e2⟩ := valS_some (xs := mkX E mk) (k := tL t) (by rw [mkX_keys]; exact List.mem_map.mpr ⟨t, h, rfl⟩)
  obtain ⟨e, _, rfl⟩ := List.mem_map.mp hx
  rw [e2, tL_inj e1]
theorem mkX_congr {E : List (Addr × (Nat × Nat))} {mk mk' : Nat × Nat → Nat} (h : ∀ t ∈ E.map (·.2), mk t = mk' t) : mkX E mk = mkX E mk' := by
  unfold mkX
  refine List.map_congr_left fun e he => ?_
  rw [h e.2 (List.mem_map.mpr ⟨e, he, rfl⟩)]
theorem mkX_snoc (E : List (Addr × (Nat × Nat))) (mk : Nat × Nat → Nat) (a : Addr) (t : Nat × Nat) (h : t ∉ E.map (·.2)) : putS (mkX E mk) (tL t) a (.int (mk t : Int)) = mkX (E ++ [(a, t)]) mk := by
  unfold putS
  rw [valS_none.mpr (fun z => h (by rw [mkX_keys] at z; obtain ⟨u, hu, e⟩ := List.mem_map.mp z; rw [← tL_inj e]; exact hu))]
  rw [if_neg (by simp)]
  unfold mkX
  rw [List.map_append]; rfl
/-- the marks' dict stands -/
def MkAt (P : Program) (w : World) (H : Hp) (d : Addr) (E : List (Addr × (Nat × Nat))) (mk : Nat × Nat → Nat) : Prop := H d = some (sdO P w d (mkX E mk))
def EAt (H : Hp) (E : List (Addr × (Nat × Nat))) : Prop := ∀ e ∈ E, H e.1 = some (.tup (tieV e.2))
theorem EAt.keys {H : Hp} {E : List (Addr × (Nat × Nat))} {mk : Nat × Nat → Nat} (h : EAt H E) : SKeys H (mkX E mk) := fun x hx => by
  obtain ⟨e, he, rfl⟩ := List.mem_map.mp hx
  exact .inl (h e he)
theorem EAt.tn {H H' : Hp} {E : List (Addr × (Nat × Nat))} (t : Tn H H') (h : EAt H E) : EAt H' E := fun e he => t.t _ _ (h e he)
section
variable {P : Program} {w : World} {K : PySem.W.Frag} {mg : Str → Option Value} {base : Heap}
def jn (mk : Nat × Nat → Nat) (one other : Nat) : Nat × Nat → Nat := fun t => if mk t = one then other else mk t
def spJoined (P : Program) (w : World) : Sp := fun vs H Q _ => ∃ (d : Addr) (a b : Nat) (E : List (Addr × (Nat × Nat))) (mk : Nat × Nat → Nat), vs = [.ref d, .int (a : Int), .int (b : Int)] ∧ MkAt P w H d E mk ∧ EAt H E ∧ (E.map (·.2)).Nodup ∧ E.length ≤ 40 ∧
  ∀ H' l od, Sm (upd H d (.frz od (sdO P w d (mkX E mk)))) H' → H l = none → MkAt P w H' l E (jn mk a b) → Q (.ref l) H'
theorem sc_joined : FnScope ["marks", "one", "other", "tie", "mark"] ["marks", "one", "other"] (defScope s_joined) := ⟨rfl, rfl, rfl, by decide +kernel, rfl, by decide +kernel, by decide +kernel⟩
theorem ok_joined (T : Txt K mg) : Ok P w K mg base CX0 1 "joined" ["marks", "one", "other"] (spJoined P w) := by
  refine ok_of (f_joined T) (g_joined T) sc_joined (fun _ _ _ _ _ _ us hl => match us, hl with | [_, _, _], _ => rfl) (fun vs H Q E h => ?_) (fun cdv A outer s H vs Q E hcd hr h => ?_)
  · obtain ⟨d, a, b, E, mk, rfl, _⟩ := h
    rfl
  · obtain ⟨d, a, b, Es, mk, rfl, hd, hE, hnd, hlen, q⟩ := h
    have nd := sc_joined.nd
    have hu := hu_of hr
    refine ⟨_, pss_one (ps_ret (pe_sdc (own := [("tie", 3), ("mark", 4)]) (tt := tYes) (tk := tVar 3) (tv := tIf (tTest (tOp rEq (tVar 4) (tVar 1))) (tVar 2) (tVar 4)) hu rfl nd (pi_sitems (pv 0)) (blkOk_by (N := ["marks", "one", "other", "tie", "mark"]) (sc := defScope s_joined) (by decide +kernel))
        (g := gTup K 2 (gCons (gName 3) (gCons (gName 4) gNil))) (fun _ _ _ _ _ => by exact pg_tup rfl (pgs_cons (pg_name (i := 3) nd rfl (.inl rfl)) (pgs_cons (pg_name (i := 4) nd rfl (.inl rfl)) pgs_nil))) (fun _ _ _ _ _ => pts_nil) (fun _ _ _ _ _ => pv 3) (fun _ _ _ _ _ => pe_ifExp (pt_cmpR op_eq (pv 4) (pv 1) (by rfl)) (pv 2) (pv 4)))), ?_⟩
    have kE := hE.keys (mk := mk)
    have lX : (mkX Es mk).length = Es.length := by unfold mkX; rw [List.length_map]
    refine ⟨_, rfl, d, mkX Es mk, rfl, hd, kE, fun od D nD => ?_⟩
    have tnd := tn_upd (u := .frz od (sdO P w d (mkX Es mk))) hd
    have hE1 := hE.tn tnd
    refine sdc_it walk_itemsS (fun i H' => Sm (upd H d (.frz od (sdO P w d (mkX Es mk)))) H' ∧ H' D = some (sdO P w D (mkX (Es.take i) (jn mk a b)))) ⟨(Sm.refl _).new nD, upd_same⟩ (fun i H' _ z => z.1.frz upd_same) (fun i x H' H'' hi z yx => ?_) (fun H' z => ?_)
    · obtain ⟨sm, eD⟩ := z
      obtain ⟨Tp, e, he, rfl, nT, rfl⟩ := yx
      obtain ⟨e0, he0, rfl⟩ : ∃ e0, Es[i]? = some e0 ∧ e = (tL e0.2, e0.1, V.int (mk e0.2 : Int)) := by
        unfold mkX at he
        rw [List.getElem?_map] at he
        cases q2 : Es[i]? with
        | none => rw [q2] at he; cases he
        | some e0 => rw [q2] at he; exact ⟨e0, rfl, (Option.some.inj he).symm⟩
      have smT := sm.new (u := .tup [.ref e0.1, .int (mk e0.2 : Int)]) nT
      have hEi : EAt (upd H' Tp (.tup [.ref e0.1, .int (mk e0.2 : Int)])) Es := hE1.tn smT.n.tn
      have eDT : upd H' Tp (.tup [.ref e0.1, .int (mk e0.2 : Int)]) D = some (sdO P w D (mkX (Es.take i) (jn mk a b))) := by rw [upd_ne (ne_of_none eD nT)]; exact eD
      have fin : ∀ v : Nat, v = jn mk a b e0.2 → ∃ xs bb k, V.ref e0.1 = .ref bb ∧ Rd (upd H' Tp (.tup [.ref e0.1, .int (mk e0.2 : Int)])) bb (.tup (k.map lfV)) ∧ upd H' Tp (.tup [.ref e0.1, .int (mk e0.2 : Int)]) D = some (sdO P w D xs) ∧ SKeys (upd H' Tp (.tup [.ref e0.1, .int (mk e0.2 : Int)])) xs ∧ xs.length < sizeLine ∧
          (Sm (upd H d (.frz od (sdO P w d (mkX Es mk)))) (upd (upd H' Tp (.tup [.ref e0.1, .int (mk e0.2 : Int)])) D (sdO P w D (putS xs k bb (.int (v : Int))))) ∧ upd (upd H' Tp (.tup [.ref e0.1, .int (mk e0.2 : Int)])) D (sdO P w D (putS xs k bb (.int (v : Int)))) D = some (sdO P w D (mkX (Es.take (i + 1)) (jn mk a b)))) := by
        rintro v rfl
        refine ⟨mkX (Es.take i) (jn mk a b), e0.1, tL e0.2, rfl, .inl (hEi e0 (List.mem_of_getElem? he0)), eDT, EAt.keys (fun e h => hEi e (List.mem_of_mem_take h)), ?_, smT.upd nD, ?_⟩
        · unfold mkX
          rw [List.length_map, List.length_take]
          exact small1000 (by omega)
        · have hn : e0.2 ∉ (Es.take i).map (·.2) := by
            intro z
            have h1 : (Es.map (·.2)).take (i + 1) = (Es.take i).map (·.2) ++ [e0.2] := by rw [← List.map_take, take_succ' he0, List.map_append]; rfl
            have h2 : ((Es.map (·.2)).take (i + 1)).Nodup := List.Sublist.nodup (List.take_sublist _ _) hnd
            rw [h1, List.nodup_append] at h2
            exact h2.2.2 _ z _ (by simp) rfl
          rw [upd_same, mkX_snoc _ _ _ _ hn, take_succ' he0]
      refine ⟨Tp, _, rfl, SqT.of upd_same, rfl, _, _, rfl, _, _, rfl, rfl, rfl, ?_⟩
      refine yes_if ?_
      refine ⟨_, rfl, _, rfl, _, rfl, rfl, _, rfl, ite2 (fun c => ?_) (fun c => ?_)⟩
      · have e1 : mk e0.2 = a := by have := V.int.inj (of_decide_eq_true c); omega
        exact ⟨_, rfl, fin b (by unfold jn; rw [if_pos e1])⟩
      · have e1 : mk e0.2 ≠ a := fun z => c (decide_eq_true (by rw [z]))
        exact ⟨_, rfl, fin (mk e0.2) (by unfold jn; rw [if_neg e1])⟩
    · obtain ⟨sm, eD⟩ := z
      rw [lX, List.take_length] at eD
      refine q H' D od sm ?_ eD
      by_cases hb : D = d
      · rw [hb, upd_same] at nD; cases nD
      · rw [upd_ne hb] at nD; exact nD
end
end HT
/-! text M4 -/
set_option maxHeartbeats 4000000
namespace HT
open PySem PySem.Spec PyProof.Rows L2
section
variable {X : Cx}
/-- name = {..} on one line, the name a local -/
theorem ps_setSdc {i : Nat} {y : Str} {py : Pos} {kx vx tg iter : Expr} {ifs : List Expr} {scope : Scope} {own : List (Str × Nat)} {pos spos : Pos} {wi : TI} {g : TG} {tt : TT} {tk tv : TE} (hu : X.A.units + 1 < cLine) (hc : X.calm = true) (hN : X.N.Nodup) (hy : X.N[i]? = some y) (hyl : X.env.scope.names.lookup y = some .local)
    (hsw : swapsWith (.DictComp kx vx [⟨tg, iter, ifs, 0⟩] scope pos) (some (.Name y py)) spos.line X.env = pure true) (hi : PI X tg iter wi) (ok : BlkOk X.N X.env.scope scope own)
    (hg : ∀ (s : Shared) (H : Hp) (C : Addr) (cl : List (Str × Addr)) (fp : List Addr), PG (X.blk s H scope (compEnvC scope cl C X.env) fp) tg g) (ht : ∀ (s : Shared) (H : Hp) (C : Addr) (cl : List (Str × Addr)) (fp : List Addr), PTs (X.blk s H scope (compEnvC scope cl C X.env) fp) ifs tt)
    (hk : ∀ (s : Shared) (H : Hp) (C : Addr) (cl : List (Str × Addr)) (fp : List Addr), PE (X.blk s H scope (compEnvC scope cl C X.env) fp) kx tk)
    (he : ∀ (s : Shared) (H : Hp) (C : Addr) (cl : List (Str × Addr)) (fp : List Addr), PE (X.blk s H scope (compEnvC scope cl C X.env) fp) vx tv) (hs : ∀ x, foldedSetIterable iter X.env x = pure x := by intro _; rfl) :
    PS X (.Assign [.Name y py] (.DictComp kx vx [⟨tg, iter, ifs, 0⟩] scope pos) spos) (tAsg (tSDc X.prog X.w wi g tt tk tv (own.map (·.2))) (gName i)) := by
  refine ⟨fun pins s σ H D I h => ?_⟩
  rw [exec_Assign_Name_used _ _ _ _ hsw]
  refine wpAny_bind (wpAny_standAt (wpAny_bind ?_))
  show wpAny _ X.A (do let _ ← comprehension (.DictComp kx vx [⟨tg, iter, ifs, 0⟩] scope pos) scope X.env (firstIterPos [⟨tg, iter, ifs, 0⟩] pos) newDict false (eval iter X.env) (some (assign (.Name y py) X.env))) _ _ s
  have h : tSDc X.prog X.w wi g tt tk tv (own.map (·.2)) σ H (fun x H1 => gName i x σ H1 D.nx) := h
  refine wpAny_bind (thn (sdc_core (Qf := fun _ s' => SP X pins D .next s') hu hc hN I hi ok hg ht hk he hs h fun L C s' m H' I' q hn f => ?_) fun _ s' hq => wpAny_pure (wpAny_pure hq))
  show wpAny _ _ (assign (.Name y py) X.env (.ref L)) _ _ _
  refine wpAny_assign_Name (store_ok2 (v := V.ref L) I' hN hy (.inl hyl) rfl (fun s2 I2 ⟨a, sb, ha⟩ => ?_) (.inr hyl))
  obtain ⟨f0, f1, f2, f3, f4, f5⟩ := f
  have haC : C ≠ a := by
    rcases ha with z | z
    · rw [z]; exact f1
    · exact fun e => f4 y a z e.symm
  refine ⟨m, hn.sameBut sb haC, fun h3 sb3 => ?_⟩
  exact ⟨_, H', I2.turned (t' := s2.toks) (fun b o hb e => (sb3.2 b hb).trans e) f0 f1 f3 f4 f5, q⟩
theorem sw_trueD {kx vx : Expr} {gs : List Comprehension} {scope : Scope} {pos py : Pos} {y : Str} {l : Nat} {env : Env} (hk : env.scope.kind = .function) (hy : env.scope.names.lookup y = some .local) (hl : (py.line == pos.line) = true)
    (ha : (scope.names.any fun (n, k) => n == y && (k == .local || k == .cell)) = false) : swapsWith (.DictComp kx vx gs scope pos) (some (.Name y py)) l env = pure true := by
  have ky : env.kindOf y = some .local := hy
  have hb : env.blockKind = .function := by unfold Env.blockKind; rw [hk]; rfl
  unfold swapsWith
  simp only [hb, ky, ha, Expr.pos, hl]
  rfl
end
def oe (t : Nat × Nat) (p : Nat) : Nat := if t.1 = p then t.2 else t.1
def inc (t : Nat × Nat) (p : Nat) : Prop := t.1 = p ∨ t.2 = p
/-- in one block -/
inductive Blk (T : List (Nat × Nat)) : Nat × Nat → Nat × Nat → Prop
  | refl (t : Nat × Nat) : Blk T t t
  | step {t u : Nat × Nat} {p : Nat} : t ∈ T → u ∈ T → inc t p → inc u p → Reach T [p] (oe t p) (oe u p) → Blk T t u
  | symm {t u : Nat × Nat} : Blk T t u → Blk T u t
  | trans {t u v : Nat × Nat} : Blk T t u → Blk T u v → Blk T t v
/-- what the marks say is sound -/
def Snd (T : List (Nat × Nat)) (mk : Nat × Nat → Nat) : Prop := ∀ t ∈ T, ∀ u ∈ T, mk t = mk u → Blk T t u
theorem snd_jn {T : List (Nat × Nat)} {mk : Nat × Nat → Nat} (h : Snd T mk) {t u : Nat × Nat} (ht : t ∈ T) (hu : u ∈ T) (b : Blk T t u) : Snd T (jn mk (mk u) (mk t)) := by
  intro x hx y hy e
  unfold jn at e
  by_cases h1 : mk x = mk u
  · rw [if_pos h1] at e
    by_cases h2 : mk y = mk u
    · exact h x hx y hy (h1.trans h2.symm)
    · rw [if_neg h2] at e
      exact ((h x hx u hu h1).trans b.symm).trans (h t ht y hy e)
  · rw [if_neg h1] at e
    by_cases h2 : mk y = mk u
    · rw [if_pos h2] at e
      exact (h x hx t ht e).trans (b.trans (h u hu y hy h2.symm))
    · rw [if_neg h2] at e
      exact h x hx y hy e
theorem jn_eq {mk : Nat × Nat → Nat} {a b : Nat} {x y : Nat × Nat} (h : mk x = mk y) : jn mk a b x = jn mk a b y := by unfold jn; rw [h]
theorem jn_both {mk : Nat × Nat → Nat} (t u : Nat × Nat) : jn mk (mk u) (mk t) t = jn mk (mk u) (mk t) u := by
  unfold jn
  rw [if_pos rfl]
  split <;> rfl
/-- the pairs at p are joined -/
def DoneAt (T : List (Nat × Nat)) (mk : Nat × Nat → Nat) (p : Nat) : Prop := ∀ t ∈ T, ∀ u ∈ T, inc t p → inc u p → Reach T [p] (oe t p) (oe u p) → mk t = mk u
theorem blk_mark {T : List (Nat × Nat)} {mk : Nat × Nat → Nat} {n : Nat} (hb : Bnd n T) (h : ∀ p < n, DoneAt T mk p) {t u : Nat × Nat} (b : Blk T t u) : mk t = mk u := by
  induction b with
  | refl => rfl
  | step ht hu h1 h2 hr =>
    rename_i t u p
    have hp : p < n := by
      rcases h1 with e | e
      · rw [← e]; exact (hb t ht).1
      · rw [← e]; exact (hb t ht).2
    exact h p hp t ht u hu h1 h2 hr
  | symm _ ih => exact ih.symm
  | trans _ _ ih1 ih2 => exact ih1.trans ih2
theorem mem_zip_paired {α β : Type} {R : α → β → Prop} : ∀ {l : List α} {m : List β}, Paired R l m → ∀ e ∈ l.zip m, R e.1 e.2
  | _, _, .nil, e, he => by simp at he
  | _, _, .cons r t, e, he => by
    rw [List.zip_cons_cons] at he
    rcases List.mem_cons.mp he with z | z
    · rw [z]; exact r
    · exact mem_zip_paired t e z
theorem snd_idx {T : List (Nat × Nat)} : Snd T (fun t => T.idxOf t) := by
  intro t ht u hu e
  have e : T.idxOf t = T.idxOf u := e
  have h1 := List.getElem_idxOf (List.idxOf_lt_length_of_mem ht)
  have h2 := List.getElem_idxOf (List.idxOf_lt_length_of_mem hu)
  have : t = u := by rw [← h1, ← h2]; simp only [e]
  rw [this]; exact .refl u
theorem asc_nodup {T : List (Nat × Nat)} (h : T.Pairwise lexP) : T.Nodup := h.imp fun {a b} z e => by
  subst e
  unfold lexP at z
  omega
/-- the pairs of p with their addresses -/
def ownE (E : List (Addr × (Nat × Nat))) (p : Nat) : List (Addr × (Nat × Nat)) := E.filter fun e => decide (e.2.1 = p ∨ e.2.2 = p)
theorem mem_ownE {E : List (Addr × (Nat × Nat))} {p : Nat} {e : Addr × (Nat × Nat)} : e ∈ ownE E p ↔ e ∈ E ∧ inc e.2 p := by
  unfold ownE inc
  rw [List.mem_filter, decide_eq_true_iff]
theorem inV_tie (p : Nat) (t : Nat × Nat) : inV (.int (p : Int)) (tieV t) = decide (t.1 = p ∨ t.2 = p) := by
  have : tieV t = iv [t.1, t.2] := rfl
  rw [this, inV_iv, decide_eq_decide]
  simp [eq_comm]
/-- told for the pairs done -/
def Part (T : List (Nat × Nat)) (mk : Nat × Nat → Nat) (p : Nat) (D O : List (Addr × (Nat × Nat))) : Prop := ∀ e ∈ D, ∀ f ∈ O, Reach T [p] (oe e.2 p) (oe f.2 p) → mk e.2 = mk f.2
theorem Part.jn {T : List (Nat × Nat)} {mk : Nat × Nat → Nat} {p a b : Nat} {D O : List (Addr × (Nat × Nat))} (h : Part T mk p D O) : Part T (jn mk a b) p D O := fun e he f hf r => jn_eq (h e he f hf r)
theorem DoneAt.jn {T : List (Nat × Nat)} {mk : Nat × Nat → Nat} {p a b : Nat} (h : DoneAt T mk p) : DoneAt T (jn mk a b) p := fun t ht u hu h1 h2 r => jn_eq (h t ht u hu h1 h2 r)
theorem part_done {T : List (Nat × Nat)} {mk : Nat × Nat → Nat} {p : Nat} {E : List (Addr × (Nat × Nat))} (hE : E.map (·.2) = T) (h : Part T mk p (ownE E p) (ownE E p)) : DoneAt T mk p := by
  intro t ht u hu h1 h2 r
  rw [← hE] at ht hu
  obtain ⟨e, he, rfl⟩ := List.mem_map.mp ht
  obtain ⟨f, hf, rfl⟩ := List.mem_map.mp hu
  exact h e (mem_ownE.mpr ⟨he, h1⟩) f (mem_ownE.mpr ⟨hf, h2⟩) r
theorem oe_lt {n : Nat} {T : List (Nat × Nat)} (b : Bnd n T) {t : Nat × Nat} (h : t ∈ T) (p : Nat) : oe t p < n := by
  unfold oe
  split
  · exact (b t h).2
  · exact (b t h).1
theorem oe_V (t : Nat × Nat) (p : Nat) : V.int (if t.1 = p then (t.2 : Int) else t.1) = V.int (oe t p : Int) := by
  unfold oe
  split <;> rfl
section
variable {P : Program} {w : World} {K : PySem.W.Frag} {mg : Str → Option Value} {base : Heap}
def spMarks (P : Program) (w : World) : Sp := fun vs H Q _ => ∃ (y a : Addr) (n g : Nat) (T : List (Nat × Nat)) (ts : List Addr), vs = [.ref y] ∧ H y = some (.tup [.int (n : Int), .ref a, .int (g : Int)]) ∧ H a = some (.tup (ts.map V.ref)) ∧ Paired (fun t p => H t = some (.tup (tieV p))) ts T ∧ YardOk n T g ∧
  ∀ H' l (mk : Nat × Nat → Nat), Sm H H' → H l = none → MkAt P w H' l (ts.zip T) mk → (∀ t ∈ T, ∀ u ∈ T, mk t = mk u ↔ Blk T t u) → Q (.ref l) H'
theorem sc_marks : FnScope ["yard", "places", "ties", "gate", "tie", "marks", "place", "own", "together", "other", "at"] ["yard"] (defScope s_marks_of) := ⟨rfl, rfl, rfl, by decide +kernel, rfl, by decide +kernel, by decide +kernel⟩
theorem ok_marks_of (T : Txt K mg) : Ok P w K mg base CX0 3 "marks_of" ["yard"] (spMarks P w) := by
  refine ok_of (f_marks_of T) (g_marks_of T) sc_marks (fun _ _ _ _ _ _ us hl => match us, hl with | [_], _ => rfl) (fun vs H Q E h => ?_) (fun cdv A outer s H vs Q E hcd hr h => ?_)
  · obtain ⟨y, a, n, g, T, ts, rfl, _⟩ := h
    rfl
  · obtain ⟨y, a, n, g, Ts, ts, rfl, hy, ha, hp, hY, q⟩ := h
    have nd := sc_marks.nd
    have hu := hu_of hr
    have hr1 : Room 1 _ := hr.mono (by decide)
    refine ⟨_, pss_cons (ps_asg (pv 0) (pg_tup rfl (pgs_cons (pg_name (i := 1) nd rfl (.inl rfl)) (pgs_cons (pg_name (i := 2) nd rfl (.inl rfl)) (pgs_cons (pg_name (i := 3) nd rfl (.inl rfl)) pgs_nil)))))
      (pss_cons (ps_setSdc (i := 5) (own := [("at", 10), ("tie", 4)]) (g := gTup K 2 (gCons (gName 10) (gCons (gName 4) gNil))) (tt := tYes) (tk := tVar 4) (tv := tVar 10) hu rfl nd rfl rfl (sw_trueD rfl rfl rfl (by decide +kernel)) (pi_enumT (by rfl) (m_enumerate T) (pa_cons (pv 2) pa_nil)) (blkOk_by (N := ["yard", "places", "ties", "gate", "tie", "marks", "place", "own", "together", "other", "at"]) (sc := defScope s_marks_of) (by decide +kernel))
          (fun _ _ _ _ _ => by exact pg_tup rfl (pgs_cons (pg_name (i := 10) nd rfl (.inl rfl)) (pgs_cons (pg_name (i := 4) nd rfl (.inl rfl)) pgs_nil))) (fun _ _ _ _ _ => pts_nil) (fun _ _ _ _ _ => pv 4) (fun _ _ _ _ _ => pv 10))
      (pss_cons (ps_for PassesOwn.never rfl (pi_range1 rfl (m_range T) (pa_cons (pv 1) pa_nil)) (pg_name (i := 6) nd rfl (.inr rfl))
        (pss_cons (ps_setLc (i := 7) (own := [("tie", 4)]) (g := gName 4) (tt := tTest (tOp (rIn K false) (tVar 6) (tVar 4))) (te := tVar 4) rfl nd rfl rfl (sw_true rfl rfl rfl (by decide +kernel)) (pi_tup (pv 2)) (blkOk_by (N := ["yard", "places", "ties", "gate", "tie", "marks", "place", "own", "together", "other", "at"]) (sc := defScope s_marks_of) (by decide +kernel))
            (fun _ _ _ _ _ => pg_name (i := 4) nd rfl (.inl rfl)) (fun _ _ _ _ _ => pts_one (pt_cmpR op_in_seq (pv 6) (pv 4) (by rfl))) (fun _ _ _ _ _ => pv 4))
        (pss_one (ps_for PassesOwn.never rfl (pi_list (pv 7)) (pg_name (i := 4) nd rfl (.inl rfl))
          (pss_cons (ps_set (i := 8) nd rfl (.inl rfl) (pe_cl (ok_hanging T) hr (pa_cons (pv 1) (pa_cons (pv 2) (pa_cons (pe_cl (ok_other_end T) hr1 (pa_cons (pv 4) (pa_cons (pv 6) pa_nil))) (pa_cons (pe_tup (pa_cons (pv 6) pa_nil)) pa_nil))))))
          (pss_one (ps_for PassesOwn.never rfl (pi_list (pv 7)) (pg_name (i := 9) nd rfl (.inl rfl))
            (pss_one (ps_if (PW.pt (pw_and (pt_cmpR op_in_seq (pe_cl (ok_other_end T) hr1 (pa_cons (pv 9) (pa_cons (pv 6) pa_nil))) (pv 8) (by rfl)) (pw_and1 (pt_cmpR op_ne (pe_sget hu (pv 5) (pv 9) (fun _ _ => rfl)) (pe_sget hu (pv 5) (pv 4) (fun _ _ => rfl)) (nomark _)))))
              (pss_one (ps_set (i := 5) nd rfl (.inl rfl) (pe_cl (ok_joined T) hr1 (pa_cons (pv 5) (pa_cons (pe_sget hu (pv 5) (pv 9) (fun _ _ => rfl)) (pa_cons (pe_sget hu (pv 5) (pv 4) (fun _ _ => rfl)) pa_nil)))))) pss_nil)))))))))
      (pss_one (ps_ret (pv 5))))), ?_⟩
    have n2 := hY.n2
    have n7 := hY.n7
    have hlen := hY.len
    have lT : ts.length = Ts.length := Paired.length hp
    have hE : (ts.zip Ts).map (·.2) = Ts := zip_snd lT
    have hE1 : (ts.zip Ts).map (·.1) = ts := List.map_fst_zip (by omega)
    have lE : (ts.zip Ts).length = Ts.length := by rw [List.length_zip]; omega
    have hEA : EAt H (ts.zip Ts) := mem_zip_paired hp
    have hnd : Ts.Nodup := asc_nodup hY.asc
    have hmE : ∀ e ∈ ts.zip Ts, e.2 ∈ Ts := fun e he => by rw [← hE]; exact List.mem_map.mpr ⟨e, he, rfl⟩
    have hb := hY.bnd
    refine ⟨_, rfl, y, _, rfl, SqT.of hy, rfl, _, _, rfl, _, _, rfl, _, _, rfl, rfl, ?_⟩
    refine ⟨_, rfl, a, ts.map V.ref, rfl, SqT.of ha, fun M0 nM => ?_⟩
    refine sdc_it (walk_enumT (K := K) (a := a) (xs := ts.map V.ref)) (fun i H' => Sm H H' ∧ H' M0 = some (sdO P w M0 (mkX ((ts.zip Ts).take i) fun t => Ts.idxOf t))) ⟨(Sm.refl H).upd nM, upd_same⟩ (fun i H' _ z => SqT.of (z.1.tup ha)) (fun i x H' H'' hi z yx => ?_) (fun H1 z => ?_)
    · obtain ⟨sm, eM⟩ := z
      obtain ⟨Tp, x0, b0, rfl, nT, rfl, e1, e2⟩ := yx
      obtain rfl : x0 = .int (i : Nat) := (Option.some.inj e1).symm
      obtain ⟨t, u, rfl, f1, f2, f3⟩ := TiesAt.get hp e2
      have sT := sm.new (u := .tup [.int (i : Nat), .ref t]) nT
      have f4 : (ts.zip Ts)[i]? = some (t, u) := by rw [List.getElem?_zip_eq_some]; exact ⟨f1, f2⟩
      have hidx : Ts.idxOf u = i := by
        obtain ⟨hl, e⟩ := List.getElem?_eq_some_iff.mp f2
        rw [← e]; exact List.Nodup.idxOf_getElem hnd i hl
      refine ⟨Tp, _, rfl, SqT.of upd_same, rfl, _, _, rfl, _, _, rfl, rfl, rfl, ?_⟩
      refine yes_if ?_
      refine ⟨_, rfl, _, rfl, mkX ((ts.zip Ts).take i) (fun t => Ts.idxOf t), t, tL u, rfl, .inl (sT.tup f3), ?_, EAt.keys (fun e he => sT.tup (hEA e (List.mem_of_mem_take he))), ?_, sT.upd nM, ?_⟩
      · rw [upd_ne (ne_of_none eM nT)]; exact eM
      · unfold mkX
        rw [List.length_map, List.length_take]
        exact small1000 (by omega)
      · have hn : u ∉ ((ts.zip Ts).take i).map (·.2) := by
          rw [List.map_take, hE]
          intro z
          have h2 : (Ts.take (i + 1)).Nodup := List.Sublist.nodup (List.take_sublist _ _) hnd
          rw [take_succ' f2, List.nodup_append] at h2
          exact h2.2.2 _ z _ (by simp) rfl
        rw [upd_same, show V.int (i : Nat) = V.int ((Ts.idxOf u : Nat) : Int) by rw [hidx], mkX_snoc _ (fun t => Ts.idxOf t) _ _ hn, take_succ' f4]
        rfl
    · obtain ⟨sm, eM⟩ := z
      rw [List.length_map, lT, ← lE, List.take_length] at eM
      refine ⟨_, rfl, _, rfl, by omega, by omega, for_range (lo := 0) (n := n) (fun i σ H' => ∃ (mk : Nat × Nat → Nat) (l : Addr) (y4 y6 y7 y8 y9 : Option V), σ = [some (.ref y), some (.int n), some (.ref a), some (.int g), y4, some (.ref l), y6, y7, y8, y9, none] ∧ Sm H H' ∧ H l = none ∧ MkAt P w H' l (ts.zip Ts) mk ∧ Snd Ts mk ∧ ∀ p < i, DoneAt Ts mk p)
        ⟨_, M0, none, none, none, none, none, rfl, sm, nM, eM, snd_idx, fun p hp => by omega⟩ (fun i σ H' hi z => ?_) (fun σ H' z => ?_)⟩
      · rw [Int.zero_add]
        obtain ⟨mk, l, y4, y6, y7, y8, y9, rfl, sm1, nl, hM, hS, hD⟩ := z
        refine ⟨_, rfl, a, rfl, ⟨_, SqT.of (sm1.tup ha)⟩, fun O nO => ?_⟩
        refine lc_tup (K := K) (a := a) (xs := ts.map V.ref) (fun j H2 => Sm H' H2 ∧ H2 O = some (.lst ((ownE ((ts.zip Ts).take j) i).map fun e => V.ref e.1))) ⟨(Sm.refl H').upd nO, upd_same⟩ (fun j H2 _ z => SqT.of (z.1.tup (sm1.tup ha))) (fun j x H2 hx z => ?_) (fun H2 z => ?_)
        · obtain ⟨s2, eO⟩ := z
          obtain ⟨t, u, rfl, f1, f2, f3⟩ := TiesAt.get hp hx
          have f4 : (ts.zip Ts)[j]? = some (t, u) := by rw [List.getElem?_zip_eq_some]; exact ⟨f1, f2⟩
          have eS : ownE ((ts.zip Ts).take (j + 1)) i = ownE ((ts.zip Ts).take j) i ++ if u.1 = i ∨ u.2 = i then [(t, u)] else [] := by
            unfold ownE
            rw [take_succ' f4, List.filter_append]
            congr 1
            by_cases c : u.1 = i ∨ u.2 = i <;> simp [c]
          refine ⟨rfl, _, rfl, _, rfl, t, _, rfl, .inr (SqT.of (s2.tup (sm1.tup f3))), rfl, rfl, _, rfl, ite2 (fun c => ?_) (fun c => ?_)⟩
          · rw [if_neg (by decide), inV_tie, decide_eq_true_iff] at c
            refine ⟨_, rfl, _, eO, ?_, s2.upd nO, ?_⟩
            · rw [List.length_map]
              refine small1000 (Nat.le_trans (List.length_filter_le _ _) ?_)
              rw [List.length_take]; omega
            · rw [upd_same, eS, if_pos c, List.map_append]; rfl
          · rw [if_neg (by decide), inV_tie, decide_eq_true_iff] at c
            refine ⟨s2, ?_⟩
            rw [eO, eS, if_neg c, List.append_nil]
        · obtain ⟨s2, eO⟩ := z
          rw [List.length_map, lT, ← lE, List.take_length] at eO
          have nO' : H O = none := sm1.free nO
          have hOl : ∀ {H' : Hp} {d : Addr} {mk : Nat × Nat → Nat}, MkAt P w H' d (ts.zip Ts) mk → H' O = some (.lst ((ownE (ts.zip Ts) i).map fun e => V.ref e.1)) → O ≠ d := fun hm ho e => by
            unfold MkAt at hm
            rw [← e, ho] at hm; cases hm
          have hEO : ((ownE (ts.zip Ts) i).map fun e => V.ref e.1) = ((ownE (ts.zip Ts) i).map fun e => V.ref e.1) := rfl
          have oI : ∀ {j : Nat} {x : V}, ((ownE (ts.zip Ts) i).map fun e => V.ref e.1)[j]? = some x → ∃ e, (ownE (ts.zip Ts) i)[j]? = some e ∧ x = .ref e.1 ∧ e ∈ ts.zip Ts ∧ inc e.2 i := fun {j x} h => by
            rw [List.getElem?_map] at h
            cases q2 : (ownE (ts.zip Ts) i)[j]? with
            | none => rw [q2] at h; cases h
            | some e => rw [q2] at h; exact ⟨e, rfl, (Option.some.inj h).symm, mem_ownE.mp (List.mem_of_getElem? q2)⟩
          refine ⟨_, rfl, O, rfl, ⟨_, SqL.of eO⟩, for_list (K := K) (a := O) (xs := (ownE (ts.zip Ts) i).map fun e => V.ref e.1) (fun j σ H' => ∃ (mk : Nat × Nat → Nat) (l : Addr) (y4 y8 y9 : Option V), σ = [some (.ref y), some (.int n), some (.ref a), some (.int g), y4, some (.ref l), some (.int i), some (.ref O), y8, y9, none] ∧ Sm H H' ∧ H l = none ∧ MkAt P w H' l (ts.zip Ts) mk ∧ H' O = some (.lst ((ownE (ts.zip Ts) i).map fun e => V.ref e.1)) ∧ Snd Ts mk ∧ (∀ p < i, DoneAt Ts mk p) ∧ Part Ts mk i ((ownE (ts.zip Ts) i).take j) (ownE (ts.zip Ts) i))
            ⟨mk, l, _, _, _, rfl, sm1.trans s2, nl, s2.ext hM, eO, hS, hD, fun e he => by simp at he⟩ (fun j σ H' _ ⟨_, _, _, _, _, _, _, _, _, z, _⟩ => SqL.of z) (fun j x σ H' hx z => ?_) (fun σ H' z => ?_)⟩
          · obtain ⟨mk, l, y4, y8, y9, rfl, sm3, nl, hM, eO, hS, hD, hP⟩ := z
            obtain ⟨e, he, rfl, heE, hei⟩ := oI hx
            have heT := sm3.tup (hEA e heE)
            refine ⟨_, rfl, _, rfl, _, rfl, _, rfl, e.1, e.2.1, e.2.2, i, rfl, SqT.of heT, ?_⟩
            rw [oe_V]
            refine ⟨_, rfl, (by show 1 ≤ sizeLine; decide), fun wo nwo => ?_⟩
            have s4 := sm3.new (u := .tup [.int (i : Int)]) nwo
            have T3 : TiesAt H' a Ts := ⟨ts, sm3.tup ha, Paired.imp' (fun _ _ z => sm3.tup z) hp⟩
            have T4 : TiesAt (upd H' wo (.tup [.int (i : Int)])) a Ts := ⟨ts, s4.tup ha, Paired.imp' (fun _ _ z => s4.tup z) hp⟩
            refine ⟨_, a, wo, Ts, oe e.2 i, n, [i], rfl, T4, hlen, SqT.of upd_same, hb, oe_lt hb (hmE e heE) i, by omega, fun H5 lt L s5 nlt eL rL mL => ?_⟩
            have nOw : O ≠ wo := ne_of_none eO nwo
            have nlw : l ≠ wo := ne_of_none hM nwo
            have eO5 : H5 O = some (.lst ((ownE (ts.zip Ts) i).map fun e => V.ref e.1)) := s5.lst (by rw [upd_ne nOw]; exact eO)
            have hM5 : MkAt P w H5 l (ts.zip Ts) mk := s5.ext (by rw [upd_ne nlw]; exact hM)
            have nlt' : H lt = none := s4.free nlt
            refine ⟨_, rfl, O, rfl, ⟨_, SqL.of eO5⟩, for_list (K := K) (a := O) (xs := (ownE (ts.zip Ts) i).map fun e => V.ref e.1) (fun k σ H' => ∃ (mk : Nat × Nat → Nat) (l : Addr) (y9 : Option V), σ = [some (.ref y), some (.int n), some (.ref a), some (.int g), some (.ref e.1), some (.ref l), some (.int i), some (.ref O), some (.ref lt), y9, none] ∧ Sm H H' ∧ H l = none ∧ MkAt P w H' l (ts.zip Ts) mk ∧ H' O = some (.lst ((ownE (ts.zip Ts) i).map fun e => V.ref e.1)) ∧ H' lt = some (.lst (iv L)) ∧ Snd Ts mk ∧ (∀ p < i, DoneAt Ts mk p) ∧ Part Ts mk i ((ownE (ts.zip Ts) i).take j) (ownE (ts.zip Ts) i) ∧ Part Ts mk i [e] ((ownE (ts.zip Ts) i).take k))
              ⟨mk, l, _, rfl, s4.trans s5, nl, hM5, eO5, eL, hS, hD, hP, fun e _ f hf => by simp at hf⟩ (fun j σ H' _ ⟨_, _, _, _, _, _, _, z, _⟩ => SqL.of z) (fun k x σ H' hx z => ?_) (fun σ H' z => ?_)⟩
            · obtain ⟨mk, l, y9, rfl, sm6, nl, hM, eO, eL, hS, hD, hP, hQ⟩ := z
              obtain ⟨f, hf, rfl, hfE, hfi⟩ := oI hx
              have heT := sm6.tup (hEA e heE)
              have hfT := sm6.tup (hEA f hfE)
              have hK : SKeys H' (mkX (ts.zip Ts) mk) := EAt.keys (fun e he => sm6.tup (hEA e he))
              have vf := valS_mk (E := ts.zip Ts) (mk := mk) (t := f.2) (by rw [hE]; exact hmE f hfE)
              have ve := valS_mk (E := ts.zip Ts) (mk := mk) (t := e.2) (by rw [hE]; exact hmE e heE)
              have more : ∀ mk' : Nat × Nat → Nat, Part Ts mk' i [e] ((ownE (ts.zip Ts) i).take k) → (Reach Ts [i] (oe e.2 i) (oe f.2 i) → mk' e.2 = mk' f.2) → Part Ts mk' i [e] ((ownE (ts.zip Ts) i).take (k + 1)) := by
                intro mk' hQ hr x hx y hy r
                rw [take_succ' hf] at hy
                rcases List.mem_append.mp hy with z | z
                · exact hQ x hx y z r
                · have e1 : x = e := by simpa using hx
                  have e2 : y = f := by simpa using z
                  subst e1 e2
                  exact hr r
              refine ⟨_, rfl, _, rfl, f.1, f.2.1, f.2.2, i, rfl, SqT.of hfT, ?_⟩
              rw [oe_V]
              refine ⟨_, rfl, lt, _, rfl, .inl (SqL.of eL), rfl, iv_flat L, _, rfl, ite2 (fun c => ?_) (fun c => ?_)⟩
              · rw [if_neg (by decide), inV_iv, decide_eq_true_iff, mL] at c
                refine ⟨_, rfl, _, rfl, l, f.1, tL f.2, .int (mk f.2 : Int), mkX (ts.zip Ts) mk, rfl, ⟨.inl hM, hK⟩, rfl, .inl hfT, vf, ?_⟩
                refine ⟨_, rfl, _, rfl, l, e.1, tL e.2, .int (mk e.2 : Int), mkX (ts.zip Ts) mk, rfl, ⟨.inl hM, hK⟩, rfl, .inl heT, ve, ?_⟩
                have step := snd_jn hS (hmE e heE) (hmE f hfE) (.step (hmE e heE) (hmE f hfE) hei hfi c)
                refine ⟨rfl, _, rfl, ite2 (fun c2 => ?_) (fun c2 => ?_)⟩
                · refine ⟨_, rfl, _, rfl, _, rfl, l, f.1, tL f.2, .int (mk f.2 : Int), mkX (ts.zip Ts) mk, rfl, ⟨.inl hM, hK⟩, rfl, .inl hfT, vf, ?_⟩
                  refine ⟨_, rfl, _, rfl, l, e.1, tL e.2, .int (mk e.2 : Int), mkX (ts.zip Ts) mk, rfl, ⟨.inl hM, hK⟩, rfl, .inl heT, ve, ?_⟩
                  refine ⟨l, mk f.2, mk e.2, ts.zip Ts, mk, rfl, hM, fun e he => sm6.tup (hEA e he), by rw [hE]; exact hnd, by omega, fun H7 l' od s7 nl' hM' => ?_⟩
                  have s8 := sm6.upd (u := .frz od (sdO P w l (mkX (ts.zip Ts) mk))) nl
                  refine ⟨_, l', _, rfl, s8.trans s7, sm6.free nl', hM', s7.lst (by rw [upd_ne (hOl hM eO)]; exact eO), s7.lst ?_, step, fun p hp => (hD p hp).jn, hP.jn, more _ hQ.jn fun _ => jn_both _ _⟩
                  rw [upd_ne (fun z => by unfold MkAt at hM; rw [← z, eL] at hM; cases hM)]
                  exact eL
                · have e2 : mk e.2 = mk f.2 := by
                    refine Decidable.byContradiction fun z => c2 ?_
                    rw [decide_eq_false (fun y => z (by have := V.int.inj y; omega))]; rfl
                  exact ⟨mk, l, _, rfl, sm6, nl, hM, eO, eL, hS, hD, hP, more mk hQ fun _ => e2⟩
              · rw [if_neg (by decide), inV_iv, decide_eq_true_iff, mL] at c
                exact ⟨mk, l, _, rfl, sm6, nl, hM, eO, eL, hS, hD, hP, more mk hQ fun r => absurd r c⟩
            · obtain ⟨mk, l, y9, rfl, sm6, nl, hM, eO, eL, hS, hD, hP, hQ⟩ := z
              rw [List.length_map, List.take_length] at hQ
              refine ⟨mk, l, _, _, _, rfl, sm6, nl, hM, eO, hS, hD, fun x hx f hf r => ?_⟩
              rw [take_succ' he] at hx
              rcases List.mem_append.mp hx with z | z
              · exact hP x z f hf r
              · exact hQ x z f hf r
          · obtain ⟨mk, l, y4, y8, y9, rfl, sm3, nl, hM, eO, hS, hD, hP⟩ := z
            rw [List.length_map, List.take_length] at hP
            refine ⟨mk, l, _, _, _, _, _, rfl, sm3, nl, hM, hS, fun p hp => ?_⟩
            by_cases e : p = i
            · rw [e]; exact part_done hE hP
            · exact hD p (by omega)
      · obtain ⟨mk, l, y4, y6, y7, y8, y9, rfl, sm1, nl, hM, hS, hD⟩ := z
        exact ⟨_, rfl, q _ l mk sm1 nl hM fun t ht u hu => ⟨fun e => hS t ht u hu e, fun b => blk_mark hb hD b⟩⟩
end
end HT
/-! text E2 -/
set_option maxHeartbeats 4000000
namespace HT
open PySem PySem.Spec PyProof.Rows L2
/-! ### set(xs), xs a list of ints (turned from the rule for tuples of ints) -/
section
variable {P : Program} {w : World} {A : Around} {E : Value → Shared → Prop} {s : Shared}
set_option maxHeartbeats 3200000 in
theorem call_set_lstI {l : Addr} {items : Array Value} (ns : List Int) {Q : Value → Shared → Prop} (hh : A.handled = none) (hl : s.heap.IsList l items) (hit : IntsAre items.toList ns) (hb : ns.length + 1 < scanBound)
    (h : ∀ (h' : Heap) (tk c : Nat), SetR w h' s.heap.objs.size (fun j => decide (j ∈ ns)) c → c ≤ ns.length → (∀ b o, s.heap.get? b = some o → h'.get? b = some o) → Q (.ref s.heap.objs.size) { s with heap := h', toks := tk }) :
    wpAny (model P w) A (call (.type "set") [.ref l]) Q E s := by
  have hisz : items.size = ns.length := by
    have q := IntsAre.length hit
    rw [Array.length_toList] at q
    exact q
  obtain ⟨c, tl, hmro⟩ := F.called_set.mro
  have hmade := F.called_set.made
  have hsub := F.called_set.sub
  refine wpAny_call (codeAny_of_tree ?_)
  show wpAny _ _ (callAny (.type "set") _) _ _ _
  refine wpAny_pure ⟨Code.quiet_builtin _ (by decide +kernel), codeAny_builtin F.entry_type_call ?_⟩
  rw [Around.under_plain (weight_type_call_type "set" [.ref l] []) rfl]
  have h1 := F.called_set.notType
  have h2 := F.called_set.canCreate
  have hct := F.typeCall_set_1 (.ref l)
  repeat (any_goals (first | assumption | wp_step))
  refine codeAny_mono (code_set_led1 (.ref l) (E := E) (Q₁ := fun obj s₁ => obj = .ref s.heap.objs.size ∧ s₁ = { s with heap := s.heap.push { cls := .type "set", dict := none, data := .set #[] 0 (.fresh 0 0 (!w.params.followText "set-order")) } }) ⟨rfl, rfl⟩) fun r s₁ hr => ?_
  cases r with
  | error e => exact hr
  | ok fl =>
    cases fl with
    | ret obj =>
      obtain ⟨rfl, rfl⟩ := hr
      have hS : (s.heap.push { cls := .type "set", dict := none, data := .set #[] 0 (.fresh 0 0 (!w.params.followText "set-order")) }).get? s.heap.objs.size = some { cls := .type "set", dict := none, data := .set #[] 0 (.fresh 0 0 (!w.params.followText "set-order")) } := Heap.get?_push_size _ rfl
      have hT : Shared.TypeIs { s with heap := s.heap.push { cls := .type "set", dict := none, data := .set #[] 0 (.fresh 0 0 (!w.params.followText "set-order")) } } (.ref s.heap.objs.size) "set" := ⟨_, hS, rfl⟩
      have hli := F.called_set.init.lookup
      have hbi := F.called_set.init.bind (.ref s.heap.objs.size)
      repeat (any_goals (first | assumption | wp_step))
      refine codeAny_mono (codeAny_call_builtin (R := wants (fun r s₂ => r = .none ∧ ∃ h' tk c, s₂ = { s with heap := h', toks := tk } ∧ SetR w h' s.heap.objs.size (fun j => decide (j ∈ ns)) c ∧ c ≤ ns.length ∧
          (∀ b o, s.heap.get? b = some o → h'.get? b = some o)) E) F.called_set.init.plain F.entry_set_init (check_set_init_1 hT ?_)) fun r₂ s₂ hr₂ => ?_
      · obtain ⟨ol, hol, hcl, nl, hdl⟩ := hl
        obtain ⟨ocls, odict, odata, oslots⟩ := ol
        simp only at hcl hdl
        subst hcl; subst hdl
        have hol' : (s.heap.push { cls := .type "set", dict := none, data := .set #[] 0 (.fresh 0 0 (!w.params.followText "set-order")) }).get? l = some { cls := .type "list", dict := odict, data := .seq items nl, slots := oslots } := Heap.get?_push_of_some _ hol
        have hsls := F.sub_list_set
        have hslf := F.sub_list_frozenset
        have hne : (Value.type "list" == Value.type "dict") = false := by decide
        have hl1 : (s.heap.push { cls := .type "set", dict := none, data := .set #[] 0 (.fresh 0 0 (!w.params.followText "set-order")) }).IsList l items := ⟨_, hol', rfl, nl, rfl⟩
        unfold Builtin.«set.__init__» noKeywords Builtin.Frozenset.updateFrom
        generalize hPI : pyIter = PI
        wp_walk
        subst hPI
        refine wpAny_pyIter_list hl1 ?_
        refine wpAny_bind (wpAny_runValue ?_)
        have hlS : l < s.heap.objs.size := Heap.lt_size hol
        have hh3 : A.in1.in1.in1.handled = none := by simp [hh]
        have hz1 : (s.heap.push { cls := .type "set", dict := none, data := .set #[] 0 (.fresh 0 0 (!w.params.followText "set-order")) }).objs.size = s.heap.objs.size + 1 := Heap.size_push ..
        have hneI : l ≠ (s.heap.push { cls := .type "set", dict := none, data := .set #[] 0 (.fresh 0 0 (!w.params.followText "set-order")) }).objs.size := by
          rw [Heap.size_push]; exact Nat.ne_of_lt (Nat.lt_succ_of_lt hlS)
        have hSf : s.heap.objs.size ∉ [(s.heap.push { cls := .type "set", dict := none, data := .set #[] 0 (.fresh 0 0 (!w.params.followText "set-order")) }).objs.size, l] := by
          rw [Heap.size_push]; simp only [List.mem_cons, List.mem_singleton, List.not_mem_nil, or_false, not_or]
          exact ⟨Nat.ne_of_lt (Nat.lt_succ_self _), Nat.ne_of_gt hlS⟩
        have hval : ∀ (i : Nat) (v : Value), items[i]? = some v → ∃ k t, ns[i]? = some k ∧ v = .int k t := fun i v hv => by
          have hi : i < ns.length := by rw [← hisz]; exact (Array.getElem?_eq_some_iff.mp hv).1
          obtain ⟨t, e⟩ := PyProof.Rows.IntsAre.int_at hit i v (by rw [Array.getElem?_toList]; exact hv)
          refine ⟨ns[i], t, List.getElem?_eq_getElem hi, ?_⟩
          rw [e, List.getD_eq_getElem?_getD, List.getElem?_eq_getElem hi] <;> rfl
        refine set_update_ints ((Walks.list hh3 _ l hneI items).toS) s.heap.objs.size
          hSf ns hisz hb hval (items.size - 0) 0 _ (by omega) (Nat.zero_le _)
          ⟨⟨_, Heap.get?_push_size _ rfl, rfl, rfl⟩, (hl1.push _)⟩ ?hS0 ?hR
        case hS0 =>
          have hget : ((s.heap.push { cls := .type "set", dict := none, data := .set #[] 0 (.fresh 0 0 (!w.params.followText "set-order")) }).push { cls := .type "list_iterator", data := .fields #[.ref l, .int 0 0] }).get? s.heap.objs.size
              = some { cls := .type "set", dict := none, data := .set #[] 0 (.fresh 0 0 (!w.params.followText "set-order")) } := Heap.get?_push_of_some _ hS
          exact ⟨0, Nat.le_refl 0, setR_new_at hget⟩
        case hR =>
          intro s' c' hm hc' hS'
          obtain ⟨h', g2, d', tk', os'⟩ := s'
          have eg : g2 = s.gens := hm.gens
          have ed : d' = s.drawn := hm.drawn
          have eo : os' = s.os := hm.os
          subst eg; subst ed; subst eo
          show wpAny _ _ _ _ _ _
          refine wpAny_pure ?_
          show wpAny _ _ (ret Value.none) _ _ _
          rw [hisz] at hc'
          refine wpAny_pure ⟨rfl, h', tk', c', rfl, hS', hc', fun b o e => ?_⟩
          have hb0 : b < s.heap.objs.size := Heap.lt_size e
          have hb1 : b ≠ s.heap.objs.size := Nat.ne_of_lt hb0
          have hb2 : b ≠ (s.heap.push { cls := .type "set", dict := none, data := .set #[] 0 (.fresh 0 0 (!w.params.followText "set-order")) }).objs.size := by
            rw [Heap.size_push]; exact Nat.ne_of_lt (Nat.lt_succ_of_lt hb0)
          exact hm.heap b o (by simp only [List.mem_cons, List.mem_singleton, List.not_mem_nil, or_false, not_or]; exact ⟨hb1, hb2⟩) (Heap.get?_push_of_some _ (Heap.get?_push_of_some _ e))
      · cases r₂ with
        | error e => exact hr₂
        | ok fl₂ =>
          cases fl₂ with
          | ret r =>
            obtain ⟨rfl, h', tk, c', rfl, hS', hc', hk'⟩ := hr₂
            repeat (any_goals (first | assumption | wp_step))
            exact h _ _ _ hS' hc' hk'
          | _ => exact hr₂.elim
    | _ => exact hr.elim
end
section
variable {X : Cx}
/-- set(xs), xs a list of ints -/
def rSetOfI (K : PySem.W.Frag) (w : World) : List V → Hp → VK → Prop := fun xs H Q => ∃ (l : Addr) (ns : List Int), xs = [V.ref l] ∧ SqL K H l (ns.map V.int) ∧ ns.length < 1000 ∧ ∀ a c, H a = none → c ≤ ns.length → Q (.ref a) (upd H a (SetO w a (fun j => decide (j ∈ ns)) c))
theorem cr_setOfI (hc : X.calm = true) : CallR X (.type "set") (rSetOfI X.K X.w) := by
  intro pins s σ H xs us Q I r h
  obtain ⟨l, ns, rfl, hl, hf, q⟩ := h
  rw [Vals.ref1 r]
  obtain ⟨its, rv, pl, hz⟩ := I.list hl
  have hn : H s.heap.objs.size = none := I.hok.fresh (Nat.le_refl _)
  refine call_set_lstI (w := X.w) ns (I.ok.hd hc) pl.isList (by simpa using rv.ints) (by unfold scanBound; omega) fun h' tk c R hcl k => ?_
  exact ⟨.ref s.heap.objs.size, upd H s.heap.objs.size (SetO X.w s.heap.objs.size _ c), I.laid (t' := tk) k (Nat.le_refl _) (setO_new R), rfl, q _ c hn hcl⟩
end
/-! ### xs.extend(t), t a tuple -/
theorem list_extend_tupX (l : Addr) (items : Array Value) (n : Nat) (b : Addr) (dd : Option Addr) (sl : Array (Option Value)) (items2 : Array Value) (n2 : Nat) (hs0 : ¬(!items.isEmpty && Builtin.List.listTooLong (items.size + items2.size)) = true) (hs1 : items.size ≤ sizeLine) (hs2 : items.size + items2.size ≤ sizeLine + 1) :
    Meets (Builtin.«list.extend» ⟨[.ref l, .ref b], []⟩) (fun _ R s => s.heap.get? l = some { cls := .type "list", dict := none, data := .seq items n, slots := #[] } ∧ s.heap.get? b = some { cls := .type "tuple", dict := dd, data := .seq items2 n2, slots := sl } ∧ R (.ok (.ret Value.none)) { s with heap := s.heap.update l (Obj.mapSeq fun x => x ++ items2), toks := s.toks }) :=
  .of_wp fun prog w A R s h => by
    obtain ⟨hp, g, d, tk, os⟩ := s; obtain ⟨hl, hb, h⟩ := h; have f1 := AutoSeq1.idx_int; have f2 := AutoSeq1.sub_tuple_tuple; have f3 := AutoSeq1.sub_list_list; have f4 := AutoSeq1.sub_tuple_list; have f5 := AutoSeq1.sub_list_tuple;
    have hz' : (items ++ items2).size ≤ sizeLine + 1 := by rw [Array.size_append]; exact hs2
    wp_walk using (wpAny_updateSeq hl rfl (hz := hs1) (_hz' := hz')), AutoSeq1.wpAny_loadPart' hl, AutoSeq1.wpAny_loadPart' hb; exact ⟨_, rfl, h⟩
def rExtendT (K : PySem.W.Frag) : V → List V → Hp → VK → Prop := fun x vs H Q => ∃ l b xs zs, x = .ref l ∧ vs = [.ref b] ∧ H l = some (.lst xs) ∧ SqT K H b zs ∧ xs.length + zs.length ≤ sizeLine ∧ Q .non (upd H l (.lst (xs ++ zs)))
theorem mt_extendT {X : Cx} : MtM X "list.extend" (rExtendT X.K) := by
  intro pins s σ H x vs v us Q I rx rv h
  obtain ⟨l, b, xs, zs, rfl, rfl, hH, hB, hz, q⟩ := h
  cases rx
  obtain ⟨u, rfl, ru⟩ := rv.one
  cases ru
  obtain ⟨z, its, n, r, hl, e⟩ := I.lstM hH
  obtain ⟨its2, r2, ⟨⟨cls, dd, dt, sl⟩, e2, hc, n2, hd⟩, hz2⟩ := I.tuple hB
  simp only at hc hd
  subst hc hd
  have l2 := r2.length
  have hsz : its.toArray.size + its2.toArray.size ≤ sizeLine := by rw [List.size_toArray, List.size_toArray]; omega
  have hlong : ¬ (!its.toArray.isEmpty && Builtin.List.listTooLong (its.toArray.size + its2.toArray.size)) = true := by
    rw [notLongL hsz, Bool.and_false]
    exact Bool.false_ne_true
  refine call_meets F.slot_list_extend ⟨_, e, rfl⟩ F.entry_list_extend (F.args_list_extend_2 _ _)
    (list_extend_tupX l its.toArray n b dd sl its2.toArray n2 hlong (by rw [List.size_toArray]; omega) (by omega)) ⟨e, e2, ?_⟩
  refine ⟨.non, _, I.lset (its' := its ++ its2) hH e (by simp) (r.append r2) ?_, rfl, q⟩
  rw [List.length_append]
  omega
end HT
/-! text M5 -/
set_option maxHeartbeats 4000000
namespace HT
open PySem PySem.Spec PyProof.Rows L2
open PySem.W (AllAlike AlikeAll Sortable alike alikeAll)
/-- the places of the ties marked k, as the text lists them -/
def lotL (T : List (Nat × Nat)) (mk : Nat × Nat → Nat) (k : Int) : List Nat := (T.filter fun u => decide ((mk u : Int) = k)).flatMap fun u => [u.1, u.2]
theorem mem_lotL {T : List (Nat × Nat)} {mk : Nat × Nat → Nat} {k : Int} {v : Nat} : v ∈ lotL T mk k ↔ ∃ u ∈ T, (mk u : Int) = k ∧ inc u v := by
  unfold lotL inc
  rw [List.mem_flatMap]
  constructor
  · rintro ⟨u, hu, h⟩
    rw [List.mem_filter, decide_eq_true_iff] at hu
    exact ⟨u, hu.1, hu.2, by simp at h; omega⟩
  · rintro ⟨u, hu, h1, h2⟩
    exact ⟨u, List.mem_filter.mpr ⟨hu, decide_eq_true h1⟩, by simp; omega⟩
theorem lotL_snoc {T : List (Nat × Nat)} {mk : Nat × Nat → Nat} {k : Int} {i : Nat} {u : Nat × Nat} (h : T[i]? = some u) : lotL (T.take (i + 1)) mk k = lotL (T.take i) mk k ++ if (mk u : Int) = k then [u.1, u.2] else [] := by
  unfold lotL
  rw [take_succ' h, List.filter_append, List.flatMap_append]
  congr 1
  by_cases c : (mk u : Int) = k <;> simp [c]
theorem lotL_len (T : List (Nat × Nat)) (mk : Nat × Nat → Nat) (k : Int) : (lotL T mk k).length ≤ 2 * T.length := by
  induction T with
  | nil => simp [lotL]
  | cons u T ih =>
    unfold lotL at ih ⊢
    rw [List.filter_cons]
    split
    · rw [List.flatMap_cons, List.length_append]; simp at ih ⊢; omega
    · rw [List.length_cons]; omega
theorem iv_ints (l : List Nat) : iv l = (l.map fun v : Nat => (v : Int)).map V.int := by unfold iv; rw [List.map_map]; rfl
theorem ints_iv {ns : List Int} (h : ∀ z ∈ ns, 0 ≤ z) : ns.map V.int = iv (ns.map Int.toNat) := by
  unfold iv
  rw [List.map_map]
  refine List.map_congr_left fun z hz => ?_
  have := h z hz
  show V.int z = V.int ((z.toNat : Nat) : Int)
  rw [Int.toNat_of_nonneg this]
/-- the places of the block of t -/
def IsLot (T : List (Nat × Nat)) (t : Nat × Nat) (L : List Nat) : Prop := ∀ v, v ∈ L ↔ ∃ u ∈ T, Blk T t u ∧ inc u v
abbrev LtP (H : Hp) : List Addr → List (List Nat) → Prop := Paired (fun p L => H p = some (.tup (iv L)))
theorem LtP.en {H : Hp} : ∀ {ps : List Addr} {Ls : List (List Nat)}, LtP H ps Ls → EnP H ps (Ls.map fun L => L.map fun v : Nat => (v : Int))
  | _, _, .nil => .nil
  | _, _, .cons h t => .cons (by rw [← iv_ints]; exact h) (LtP.en t)
theorem lt_of {H : Hp} {G : List (List Nat)} {ps : List Addr} (pG : LtP H ps G) : ∀ {ks : List Addr}, (∀ k ∈ ks, k ∈ ps) → ∃ Ls, LtP H ks Ls ∧ ∀ s ∈ Ls, s ∈ G
  | [], _ => ⟨[], .nil, fun _ h => by cases h⟩
  | k :: ks, h => by
    obtain ⟨Ls, h1, h2⟩ := lt_of pG (ks := ks) fun k hk => h k (List.mem_cons_of_mem _ hk)
    have hk := h k (List.mem_cons_self ..)
    obtain ⟨i, hi⟩ := List.getElem?_of_mem hk
    obtain ⟨L, hL, hr⟩ := Paired.get' pG hi
    exact ⟨L :: Ls, .cons hr h1, fun t ht => (List.mem_cons.mp ht).elim (fun e => e ▸ List.mem_of_getElem? hL) (h2 t)⟩
theorem LtP.tn {H H' : Hp} {ts : List Addr} {L : List (List Nat)} (x : Tn H H') (h : LtP H ts L) : LtP H' ts L := Paired.imp' (fun _ _ z => x.t _ _ z) h
section
variable {P : Program} {w : World} {K : PySem.W.Frag} {mg : Str → Option Value} {base : Heap}
def spPieces : Sp := fun vs H Q _ => ∃ (y : Addr) (n g : Nat) (T : List (Nat × Nat)), vs = [.ref y] ∧ YardAt H y n T g ∧ YardOk n T g ∧
  ∀ H' l (ps : List Addr) (Ls : List (List Nat)), Sm H H' → H l = none → H' l = some (.lst (ps.map V.ref)) → LtP H' ps Ls → ps.length ≤ T.length → (∀ L ∈ Ls, ∃ t ∈ T, IsLot T t L) → (∀ t ∈ T, ∃ L ∈ Ls, IsLot T t L) → Q (.ref l) H'
theorem sc_pieces : FnScope ["yard", "marks", "found", "tie", "mark", "lot"] ["yard"] (defScope s_pieces_of) := ⟨rfl, rfl, rfl, by decide +kernel, rfl, by decide +kernel, by decide +kernel⟩
theorem ok_pieces_of (T : Txt K mg) : Ok P w K mg base CX0 4 "pieces_of" ["yard"] spPieces := by
  refine ok_of (f_pieces_of T) (g_pieces_of T) sc_pieces (fun _ _ _ _ _ _ us hl => match us, hl with | [_], _ => rfl) (fun vs H Q E h => ?_) (fun cdv A outer s H vs Q E hcd hr h => ?_)
  · obtain ⟨y, n, g, T, rfl, _⟩ := h
    rfl
  · obtain ⟨y, n, g, Ts, rfl, ⟨a, hy, ts, ha, hp⟩, hY, q⟩ := h
    have nd := sc_pieces.nd
    have hu := hu_of hr
    refine ⟨_, pss_cons (ps_asg (pe_tup (pa_cons (pe_cl (ok_marks_of T) hr (pa_cons (pv 0) pa_nil)) (pa_cons (pe_lst pa_nil) pa_nil))) (pg_tup rfl (pgs_cons (pg_name (i := 1) nd rfl (.inr rfl)) (pgs_cons (pg_name (i := 2) nd rfl (.inl rfl)) pgs_nil))))
      (pss_cons (ps_for PassesOwn.never rfl (pi_list (pe_callB (cr_sortedSet rfl) (by rfl) (m_sorted T) (by decide +kernel) (pa_cons (pe_callTy (cr_setOfI rfl) (by rfl) (m_set T) (by decide +kernel) (pa_cons
            (pe_lc (own := [("tie", 3)]) (g := gName 3) (tt := tYes) (te := tSGet P w (tVar 1) (tVar 3)) rfl nd (pi_tup (pe_ix ix_tup (pv 0) pe_int (fun _ _ => rfl))) (blkOk_by (N := ["yard", "marks", "found", "tie", "mark", "lot"]) (sc := defScope s_pieces_of) (by decide +kernel))
              (fun _ _ _ _ _ => pg_name (i := 3) nd rfl (.inl rfl)) (fun _ _ _ _ _ => pts_nil) (fun _ _ _ _ _ => pe_sget hu (pv 1) (pv 3) (fun _ _ => rfl))) pa_nil)) pa_nil))) (pg_name (i := 4) nd rfl (.inl rfl))
        (pss_cons (ps_set (i := 5) nd rfl (.inl rfl) (pe_lst pa_nil))
        (pss_cons (ps_for PassesOwn.never rfl (pi_tup (pe_ix ix_tup (pv 0) pe_int (fun _ _ => rfl))) (pg_name (i := 3) nd rfl (.inl rfl))
          (pss_one (ps_if (pt_cmpR op_eq (pe_sget hu (pv 1) (pv 3) (fun _ _ => rfl)) (pv 4) (nomark _))
            (pss_one (ps_expr (pe_bm PySem.F.plainAttrs_list PySem.F.slot_list_extend PySem.F.type_list_extend mt_extendT (pv 5) (pa_cons (pv 3) pa_nil)))) pss_nil)))
        (pss_one (ps_expr (pe_bm PySem.F.plainAttrs_list PySem.F.slot_list_append PySem.F.type_list_append mt_append (pv 2) (pa_cons
            (pe_callTy call_tuple_of (by rfl) (m_tuple T) (by decide +kernel) (pa_cons (pe_callB (cr_sortedSet rfl) (by rfl) (m_sorted T) (by decide +kernel) (pa_cons (pe_callTy (cr_setOfI rfl) (by rfl) (m_set T) (by decide +kernel) (pa_cons (pv 5) pa_nil)) pa_nil)) pa_nil)) pa_nil)))))))
      (pss_one (ps_ret (pe_callB (cr_sortD hr) (by rfl) (m_sorted T) (by decide +kernel) (pa_cons (pv 2) pa_nil))))), ?_⟩
    have hlen := hY.len
    have lT : ts.length = Ts.length := Paired.length hp
    have hE : (ts.zip Ts).map (·.2) = Ts := zip_snd lT
    have hEA : EAt H (ts.zip Ts) := mem_zip_paired hp
    have hmE : ∀ e ∈ ts.zip Ts, e.2 ∈ Ts := fun e he => by rw [← hE]; exact List.mem_map.mpr ⟨e, he, rfl⟩
    refine ⟨_, rfl, y, a, n, g, Ts, ts, rfl, hy, ha, hp, hY, fun H1 M mk s1 nM hM hmk => ?_⟩
    refine ⟨Nat.zero_le _, fun F nF => ?_⟩
    refine ⟨by show 2 ≤ sizeLine; decide, fun wp nwp => ?_⟩
    have nFM : M ≠ F := ne_of_none hM nF
    have s2 := s1.new (u := .lst []) nF
    have s3 := s2.new (u := .tup [.ref M, .ref F]) nwp
    have nMw : M ≠ wp := ne_of_none (H := upd H1 F (.lst [])) (by rw [upd_ne nFM]; exact hM) nwp
    have nFw : F ≠ wp := ne_of_none (H := upd H1 F (.lst [])) upd_same nwp
    have hM3 : MkAt P w (upd (upd H1 F (.lst [])) wp (.tup [.ref M, .ref F])) M (ts.zip Ts) mk := by
      unfold MkAt
      rw [upd_ne nMw, upd_ne nFM]; exact hM
    refine ⟨wp, _, rfl, SqT.of upd_same, rfl, _, _, rfl, _, _, rfl, rfl, ?_⟩
    refine ⟨_, rfl, y, _, 1, .ref a, rfl, rfl, SqT.of (s3.tup hy), rfl, a, rfl, ⟨_, SqT.of (s3.tup ha)⟩, fun D nD => ?_⟩
    have nMD : M ≠ D := ne_of_none hM3 nD
    have eF3 : upd (upd H1 F (.lst [])) wp (.tup [.ref M, .ref F]) F = some (.lst []) := by rw [upd_ne nFw]; exact upd_same
    have nFD : F ≠ D := ne_of_none eF3 nD
    have nF0 : H F = none := s1.free nF
    refine lc_tup (K := K) (a := a) (xs := ts.map V.ref) (fun i H2 => Sm (upd (upd H1 F (.lst [])) wp (.tup [.ref M, .ref F])) H2 ∧ H2 D = some (.lst ((Ts.take i).map fun u => V.int (mk u : Int)))) ⟨(Sm.refl _).new nD, upd_same⟩ (fun i H' _ z => SqT.of (z.1.tup (s3.tup ha))) (fun i x H' hx z => ?_) (fun H2 z => ?_)
    · obtain ⟨s4, eD⟩ := z
      obtain ⟨t, u, rfl, f1, f2, f3⟩ := TiesAt.get hp hx
      have f4 : (ts.zip Ts)[i]? = some (t, u) := by rw [List.getElem?_zip_eq_some]; exact ⟨f1, f2⟩
      have ve := valS_mk (E := ts.zip Ts) (mk := mk) (t := u) (by rw [hE]; exact List.mem_of_getElem? f2)
      refine ⟨rfl, yes_if ?_⟩
      refine ⟨_, rfl, _, rfl, M, t, tL u, .int (mk u : Int), mkX (ts.zip Ts) mk, rfl, ⟨.inl (s4.ext hM3), EAt.keys (fun e he => (s3.trans s4).tup (hEA e he))⟩, rfl, .inl ((s3.trans s4).tup f3), ve, ?_⟩
      refine ⟨_, eD, ?_, s4.upd nD, ?_⟩
      · rw [List.length_map, List.length_take]
        exact small1000 (by omega)
      · rw [upd_same, take_succ' f2, List.map_append]; rfl
    · obtain ⟨s4, eD⟩ := z
      rw [List.length_map, lT, List.take_length] at eD
      have s5 := s3.trans s4
      have eDi : H2 D = some (.lst ((Ts.map fun u => (mk u : Int)).map V.int)) := by rw [List.map_map]; exact eD
      refine ⟨D, Ts.map fun u => (mk u : Int), rfl, SqL.of eDi, by rw [List.length_map]; omega, fun St c nSt hc => ?_⟩
      rw [List.length_map] at hc
      refine ⟨St, _, c, rfl, upd_same, by omega, fun ns SL hns hmem hln nSL => ?_⟩
      have nFS : F ≠ St := ne_of_none (s4.lst eF3) nSt
      have eF4 : upd H2 St (SetO w St (fun j => decide (j ∈ Ts.map fun u => (mk u : Int))) c) F = some (.lst []) := by rw [upd_ne nFS]; exact s4.lst eF3
      have nFL : F ≠ SL := ne_of_none eF4 nSL
      have s6 : Sm H (upd (upd H2 St (SetO w St (fun j => decide (j ∈ Ts.map fun u => (mk u : Int))) c)) SL (.lst (ns.map V.int))) := (s5.new nSt).new nSL
      have sM : Sm (upd (upd H1 F (.lst [])) wp (.tup [.ref M, .ref F])) (upd (upd H2 St (SetO w St (fun j => decide (j ∈ Ts.map fun u => (mk u : Int))) c)) SL (.lst (ns.map V.int))) := (s4.new nSt).new nSL
      have hmem' : ∀ k : Int, k ∈ ns ↔ ∃ u ∈ Ts, (mk u : Int) = k := fun k => by rw [hmem k]; simp
      refine ⟨SL, rfl, ⟨_, SqL.of upd_same⟩, for_list (K := K) (a := SL) (xs := ns.map V.int) (fun i σ H' => ∃ (ps : List Addr) (Ls : List (List Nat)) (y3 y4 y5 : Option V), σ = [some (.ref y), some (.ref M), some (.ref F), y3, y4, y5] ∧ Sm H H' ∧ MkAt P w H' M (ts.zip Ts) mk ∧ H' SL = some (.lst (ns.map V.int)) ∧ H' F = some (.lst (ps.map V.ref)) ∧ LtP H' ps Ls ∧ Paired (fun L k => ∀ v, v ∈ L ↔ ∃ u ∈ Ts, (mk u : Int) = k ∧ inc u v) Ls (ns.take i) ∧ F ≠ SL)
        ⟨[], [], none, none, none, rfl, s6, sM.ext hM3, upd_same, by rw [upd_ne nFL]; exact eF4, .nil, .nil, nFL⟩ (fun i σ H' _ ⟨_, _, _, _, _, _, _, _, z, _⟩ => SqL.of z) (fun i x σ H' hx z => ?_) (fun σ H' z => ?_)⟩
      · obtain ⟨ps, Ls, y3, y4, y5, rfl, sm, hM, eS, eF, pL, pN, nFL⟩ := z
        obtain ⟨k, hk, rfl⟩ : ∃ k : Int, ns[i]? = some k ∧ x = .int k := by
          rw [List.getElem?_map] at hx
          cases e : ns[i]? with
          | none => rw [e] at hx; cases hx
          | some u => rw [e] at hx; exact ⟨u, rfl, (Option.some.inj hx).symm⟩
        refine ⟨Nat.zero_le _, fun O nO => ?_⟩
        have lps : ps.length ≤ i := by
          have h1 := Paired.length pL
          have h2 := Paired.length pN
          rw [List.length_take] at h2
          omega
        have hin : i < ns.length := (List.getElem?_eq_some_iff.mp hk).1
        have nO0 : H O = none := sm.free nO
        have nMO : M ≠ O := ne_of_none hM nO
        have nSO : SL ≠ O := ne_of_none eS nO
        have nFO : F ≠ O := ne_of_none eF nO
        refine ⟨_, rfl, y, _, 1, .ref a, rfl, rfl, SqT.of ((sm.new nO).tup hy), rfl, a, rfl, ⟨_, SqT.of ((sm.new nO).tup ha)⟩, for_tup (K := K) (a := a) (xs := ts.map V.ref) (fun j σ H2 => ∃ (y3 : Option V), σ = [some (.ref y), some (.ref M), some (.ref F), y3, some (.int k), some (.ref O)] ∧ Sm H' H2 ∧ H2 O = some (.lst (iv (lotL (Ts.take j) mk k))))
          ⟨_, rfl, (Sm.refl _).new nO, upd_same⟩ (fun j σ H2 _ ⟨_, _, z, _⟩ => SqT.of (z.tup (sm.tup ha))) (fun j x σ H2 hx z => ?_) (fun σ H2 z => ?_)⟩
        · obtain ⟨y3, rfl, s7, eO⟩ := z
          obtain ⟨t, u, rfl, f1, f2, f3⟩ := TiesAt.get hp hx
          have ve := valS_mk (E := ts.zip Ts) (mk := mk) (t := u) (by rw [hE]; exact List.mem_of_getElem? f2)
          have ft := s7.tup (sm.tup f3)
          refine ⟨_, rfl, _, rfl, M, t, tL u, .int (mk u : Int), mkX (ts.zip Ts) mk, rfl, ⟨.inl (s7.ext hM), EAt.keys (fun e he => (sm.trans s7).tup (hEA e he))⟩, rfl, .inl ft, ve, ?_⟩
          refine ⟨_, rfl, rfl, _, rfl, ite2 (fun c => ?_) (fun c => ?_)⟩
          · have c' := V.int.inj (of_decide_eq_true c)
            have hl := lotL_len (Ts.take j) mk k
            rw [List.length_take] at hl
            refine ⟨.ref O, rfl, .inl ⟨rfl, _, SqL.of eO⟩, _, rfl, O, t, _, _, rfl, rfl, eO, SqT.of ft, ?_, _, rfl, s7.upd nO, ?_⟩
            · rw [List.length_map]
              exact Nat.le_of_lt (small1000 (by show _ + 2 ≤ 1000; omega))
            · rw [upd_same, lotL_snoc f2, if_pos c', show iv (lotL (Ts.take j) mk k ++ [u.1, u.2]) = iv (lotL (Ts.take j) mk k) ++ tieV u by unfold iv; rw [List.map_append]; rfl]
          · have c' : (mk u : Int) ≠ k := fun z => c (decide_eq_true (by rw [z]))
            refine ⟨_, rfl, s7, ?_⟩
            rw [eO, lotL_snoc f2, if_neg c', List.append_nil]
        · obtain ⟨y3, rfl, s7, eO⟩ := z
          rw [List.length_map, lT, List.take_length] at eO
          have hl := lotL_len Ts mk k
          refine ⟨.ref F, rfl, .inl ⟨rfl, _, SqL.of (s7.lst eF)⟩, _, rfl, O, (lotL Ts mk k).map fun v : Nat => (v : Int), rfl, SqL.of (by rw [← iv_ints]; exact eO), by rw [List.length_map]; omega, fun S2 c2 nS2 hc2 => ?_⟩
          rw [List.length_map] at hc2
          refine ⟨S2, _, c2, rfl, upd_same, by omega, fun n2 L2' hn2 hm2 hl2 nL2 => ?_⟩
          have hn0 : ∀ z ∈ n2, 0 ≤ z := fun z hz => by
            rw [hm2] at hz
            obtain ⟨v, _, e⟩ := List.mem_map.mp (of_decide_eq_true hz)
            omega
          rw [ints_iv hn0]
          refine ⟨L2', iv (n2.map Int.toNat), rfl, .inl ⟨SqL.of upd_same, fun tp ntp => ?_⟩⟩
          have s8 : Sm H' (upd (upd (upd H2 S2 (SetO w S2 (fun j => decide (j ∈ (lotL Ts mk k).map fun v : Nat => (v : Int))) c2)) L2' (.lst (iv (n2.map Int.toNat)))) tp (.tup (iv (n2.map Int.toNat)))) := ((s7.new nS2).new nL2).new ntp
          refine ⟨F, _, _, rfl, rfl, s8.lst eF, ?_, ps ++ [tp], Ls ++ [n2.map Int.toNat], _, _, _, rfl, ?_, ?_, ?_, ?_, ?_, ?_, nFL⟩
          · rw [List.length_map]; exact small1000 (by omega)
          · exact (sm.trans s8).upd nF0
          · unfold MkAt; rw [upd_ne nFM]; exact s8.ext hM
          · rw [upd_ne nFL.symm]; exact s8.lst eS
          · rw [upd_same, List.map_append]; rfl
          · refine paired_app (Paired.imp' (fun p L z => ?_) pL) (.cons ?_ .nil)
            · rw [upd_ne (fun e => by rw [e, eF] at z; cases z)]; exact s8.tup z
            · rw [upd_ne (fun e => by have z := s8.lst eF; rw [← e, upd_same] at z; cases z)]; exact upd_same
          · rw [take_succ' hk]
            refine paired_app pN (.cons (fun v => ?_) .nil)
            rw [← mem_lotL, List.mem_map]
            constructor
            · rintro ⟨z, hz, rfl⟩
              rw [hm2] at hz
              obtain ⟨v, hv, e⟩ := List.mem_map.mp (of_decide_eq_true hz)
              have : z.toNat = v := by omega
              rw [this]; exact hv
            · intro hv
              exact ⟨(v : Int), (hm2 _).mpr (decide_eq_true (List.mem_map.mpr ⟨v, hv, rfl⟩)), by simp⟩
      · obtain ⟨ps, Ls, y3, y4, y5, rfl, sm, hM, eS, eF, pL, pN, nFL⟩ := z
        rw [List.length_map, List.take_length] at pN
        have hne : ∀ L ∈ Ls, L ≠ [] := fun L hL e => by
          obtain ⟨k, hk, hr⟩ := paired_mem pN hL
          obtain ⟨u, hu, e1⟩ := (hmem' k).mp hk
          have := (hr u.1).mpr ⟨u, hu, e1, .inl rfl⟩
          rw [e] at this; cases this
        refine ⟨_, rfl, F, ps.map V.ref, (Ls.map fun L => L.map fun v : Nat => (v : Int)).map intsD, rfl, SqL.of eF, dpAll_en pL.en, fun d hd d' hd' => ?_, .inl fun d hd => ?_, fun d hd => ?_, fun ys pp hperm np => ?_⟩
        · obtain ⟨u, _, rfl⟩ := List.mem_map.mp hd
          obtain ⟨u', _, rfl⟩ := List.mem_map.mp hd'
          exact alike_intsD u u'
        · obtain ⟨u, hu', rfl⟩ := List.mem_map.mp hd
          obtain ⟨L, hL, rfl⟩ := List.mem_map.mp hu'
          cases L with
          | nil => exact absurd rfl (hne [] hL)
          | cons v L => exact ⟨_, _, rfl⟩
        · obtain ⟨u, _, rfl⟩ := List.mem_map.mp hd
          exact Nat.le_trans (depth_intsD u) (by decide)
        · obtain ⟨ks, hks, rfl⟩ := refsV_perm hperm
          have xp : Xn H' (upd H' pp (.lst (ks.map V.ref))) := (Xn.refl _).upd np
          have pL' := pL.tn xp.tn
          obtain ⟨Ls', pK, hsub⟩ := lt_of pL' (ks := ks) fun k hk => hks.mem_iff.mp hk
          have hlot : ∀ L ∈ Ls, ∃ t ∈ Ts, IsLot Ts t L := fun L hL => by
            obtain ⟨k, hk, hr⟩ := paired_mem pN hL
            obtain ⟨u, hu, e1⟩ := (hmem' k).mp hk
            refine ⟨u, hu, fun v => (hr v).trans ⟨?_, ?_⟩⟩
            · rintro ⟨x, hx, e2, h3⟩
              exact ⟨x, hx, (hmk u hu x hx).mp (by omega), h3⟩
            · rintro ⟨x, hx, e2, h3⟩
              exact ⟨x, hx, by rw [← (hmk u hu x hx).mpr e2]; exact e1, h3⟩
          have lps : ps.length ≤ Ts.length := by
            have h1 := Paired.length pL
            have h2 := Paired.length pN
            omega
          refine q _ pp ks Ls' (sm.new np) (sm.free np) upd_same pK (by rw [hks.length_eq]; exact lps) (fun L hL => hlot L (hsub L hL)) fun t ht => ?_
          obtain ⟨L, hL, hr⟩ := paired_mem2 pN ((hmem' (mk t : Int)).mpr ⟨t, ht, rfl⟩)
          obtain ⟨p, hpp, hpL⟩ := paired_mem2 pL' hL
          obtain ⟨L2, hL2, hp2⟩ := paired_mem pK (hks.mem_iff.mpr hpp)
          have eL : iv L2 = iv L := by
            rw [hpL] at hp2
            injection hp2 with z
            injection z with z
            exact z.symm
          have eL2 : ∀ v, v ∈ L2 ↔ v ∈ L := fun v => by
            have h1 : ∀ L : List Nat, v ∈ L ↔ V.int (v : Int) ∈ iv L := fun L => by
              unfold iv
              rw [List.mem_map]
              refine ⟨fun h => ⟨v, h, rfl⟩, ?_⟩
              rintro ⟨x, hx, e⟩
              have e := V.int.inj e
              have e' : x = v := by omega
              rw [← e']; exact hx
            rw [h1 L2, h1 L, eL]
          refine ⟨L2, hL2, fun v => (eL2 v).trans ((hr v).trans ⟨?_, ?_⟩)⟩
          · rintro ⟨x, hx, e2, h3⟩
            exact ⟨x, hx, (hmk t ht x hx).mp (by omega), h3⟩
          · rintro ⟨x, hx, e2, h3⟩
            exact ⟨x, hx, by rw [(hmk t ht x hx).mpr e2], h3⟩
end
end HT
/-! text P4 -/
set_option maxHeartbeats 4000000
namespace HT
open PySem PySem.Spec PyProof.Rows L2
open PySem.W (AllAlike AlikeAll Sortable alike alikeAll)
theorem asking_at {K : PySem.W.Frag} {mg : Str → Option Value} (T : Txt K mg) (H : Hp) : SqT K H (He.ga K "ASKING") [.str "get", .str "plus", .str "minus", .str "set"] := by
  obtain ⟨_, _, _, _, c⟩ := T.ex
  have h := c.more
  unfold ex at h
  simp only [Bool.and_eq_true] at h
  exact He.tupB_ok h.2.2.2.2.2.2 H
section
variable {P : Program} {w : World} {K : PySem.W.Frag} {mg : Str → Option Value} {base : Heap}
def spBarWay (K : PySem.W.Frag) : Sp := fun vs H Q _ => ∃ (y a pr : Addr) (n g nb : Nat) (T : List (Nat × Nat)) (s : Std) (p : List Ins), vs = [.ref y, .ref a, .ref pr] ∧ YardAt H y n T g ∧ YardOk n T g ∧ StAt H a s ∧ Wf n s ∧ PrAt H pr p ∧ PrOk nb p ∧ LamX.TabS H (tabP K "words_from") (lamQ "words_from") ∧
  ∀ H' v, Sl K H H' → (v = .non ∨ ∃ t, v = .ref t) → (v = .non → Passes p (Gate T s g)) → (v ≠ .non → ∃ i b, asksB p i b ∧ ¬ Gate T s g b) → Q v H'
theorem sc_barway : FnScope ["yard", "standing", "program", "books", "found", "layer", "ends", "later", "way", "index", "other"] ["yard", "standing", "program"] (defScope s_barred_way) := ⟨rfl, rfl, rfl, by decide +kernel, rfl, by decide +kernel, by decide +kernel⟩
theorem ok_barred_way (T : Txt K mg) (B : Tbs K mg base) : Ok P w K mg base CX0 5 "barred_way" ["yard", "standing", "program"] (spBarWay K) := by
  refine ok_of (f_barred_way T) (g_barred_way T) sc_barway (fun _ _ _ _ _ _ us hl => match us, hl with | [_, _, _], _ => rfl) (fun vs H Q E h => ?_) (fun cdv A outer s H vs Q E hcd hr h => ?_)
  · obtain ⟨y, a, pr, n, g, nb, T, s, p, rfl, _⟩ := h
    rfl
  · obtain ⟨y, a, pr, n, g, nb, Ts, st, p, rfl, hy, hY, hs, hwf, hp, hok, hT, q⟩ := h
    have nd := sc_barway.nd
    have hu := hu_of hr
    obtain ⟨te, hE⟩ := i_END T
    have hr1 : Room 1 _ := hr.mono (by decide)
    have hr2 : Room 2 _ := hr.mono (by decide)
    refine ⟨_, pss_cons (ps_set (i := 3) nd rfl (.inl rfl) (pe_cl (ok_gate_books T B) hr (pa_cons (pv 0) (pa_cons (pv 1) pa_nil))))
      (pss_cons (ps_par (i := 4) (j := 5) (by rfl) nd rfl rfl (by decide) rfl rfl (pa_cons pe_dnewK (pa_cons (pe_lst (pa_cons (pe_tup (pa_cons (pe_tup pa_nil) (pa_cons (pe_cl (ok_stands T) hr1 (pa_cons (pv 2) (pa_cons pe_int pa_nil))) pa_nil))) pa_nil)) pa_nil)) (by rfl))
      (pss_cons (ps_while PassesOwn.never (pt_truth (pv 5) (by intro _; rfl))
        (pss_cons (ps_par (i := 6) (j := 7) (by rfl) nd rfl rfl (by decide) rfl rfl (pa_cons (pe_lst pa_nil) (pa_cons (pe_lst pa_nil) pa_nil)) (by rfl))
        (pss_cons (ps_for PassesOwn.never rfl (pi_list (pv 5)) (by exact pg_tup rfl (pgs_cons (pg_name (i := 8) nd rfl (.inr rfl)) (pgs_cons (pg_name (i := 9) nd rfl (.inr rfl)) pgs_nil)))
          (pss_cons (ps_if (PW.pt (pw_or (pt_cmpR op_eq (pv 9) (pe_glob (v := .int (-1)) (by rfl) hE ⟨_, rfl⟩) (by rfl)) (pw_or1 (pt_cmp (pc_din hu (pv 9) (pv 4)))))) (pss_one ps_continue) pss_nil)
          (pss_cons (ps_dput hu (pv 4) (pv 9) pe_bl (by rfl))
          (pss_cons (ps_if (PW.pt (pw_and (pt_cmpR op_in_seq (pe_ix ix_tup (pe_ix ix_tup (pv 2) (pv 9) (fun _ _ => rfl)) pe_int (fun _ _ => rfl)) (pe_glob (v := .ref (He.ga K "ASKING")) (by rfl) (g_ASKING T) rfl) (by rfl)) (pw_and1 (pt_cmpR op_notIn_seq (pe_ix ix_tup (pe_ix ix_tup (pv 2) (pv 9) (fun _ _ => rfl)) pe_int (fun _ _ => rfl)) (pv 3) (by rfl)))))
              (pss_one (ps_expr (pe_bm PySem.F.plainAttrs_list PySem.F.slot_list_append PySem.F.type_list_append mt_append (pv 6) (pa_cons (pe_op op_catN (pv 8) (pe_tup (pa_cons (pv 9) pa_nil))) pa_nil)))) pss_nil)
          (pss_one (ps_expr (pe_bm PySem.F.plainAttrs_list PySem.F.slot_list_extend PySem.F.type_list_extend mt_extend (pv 7) (pa_cons
            (pe_lc (own := [("other", 10)]) (g := gName 10) (tt := tYes) (te := tTup (tCons (tOp (rCatN K) (tVar 8) (tTup (tCons (tVar 9) tNil))) (tCons (tVar 10) tNil))) rfl nd (pi_list (pe_cl (ok_nexts T) hr2 (pa_cons (pv 2) (pa_cons (pv 9) pa_nil)))) (blkOk_by (N := ["yard", "standing", "program", "books", "found", "layer", "ends", "later", "way", "index", "other"]) (sc := defScope s_barred_way) (by decide +kernel))
              (fun _ _ _ _ _ => pg_name (i := 10) nd rfl (.inl rfl)) (fun _ _ _ _ _ => pts_nil) (fun _ _ _ _ _ => pe_tup (pa_cons (pe_op op_catN (pv 8) (pe_tup (pa_cons (pv 9) pa_nil))) (pa_cons (pv 10) pa_nil)))) pa_nil))))))))
        (pss_cons (ps_if (pt_truth (pv 6) (by intro _; rfl)) (pss_one (ps_ret (pe_callB (cr_minLD hr) (by rfl) (m_min T) (by decide +kernel) (pa_cons (pv 6) pa_nil)))) pss_nil)
        (pss_one (ps_set (i := 5) nd rfl (.inl rfl) (pe_callB (cr_sortD hr) (by rfl) (m_sorted T) (by decide +kernel) (pa_cons (pv 7) pa_nil))))))))
      (pss_one (ps_ret pe_non)))), ?_⟩
    obtain ⟨ta, ey, hTa⟩ := id hy
    have h20 := hok.2.1
    have h1p := hok.1
    have hask : SqT K H (He.ga K "ASKING") [.str "get", .str "plus", .str "minus", .str "set"] := asking_at T H
    -- books, found, layer
    refine ⟨_, rfl, _, rfl, y, a, n, g, Ts, st, rfl, hy, hY, hs, hwf, hT, fun H1 bk Bs sl1 nbk ebk lB hB => ?_⟩
    have hp1 := hp.xn sl1.n
    intro F nF
    have sl2 := sl1.new (u := .dK []) nF
    refine ⟨Nat.zero_le _, fun W0 nW0 => ?_⟩
    have sl3 := sl2.new (u := .tup []) nW0
    refine ⟨_, rfl, pr, nb, 0, p, rfl, hp.xn sl3.n, hok, Nat.zero_le _, fun H4 r0 s4 hr0 hr0' => ?_⟩
    have sl4 := sl3.of_sm s4
    refine ⟨(by show 2 ≤ sizeLine; decide), fun T0 nT0 => ⟨(by show 1 ≤ sizeLine; decide), fun L0 nL0 => ⟨_, _, rfl, ?_⟩⟩⟩
    have sl5 := sl4.new (u := .tup [.ref W0, .int r0]) nT0
    have sl6 := sl5.new (u := .lst [.ref T0]) nL0
    have nFH : H F = none := sl1.free nF
    have nT0F : F ≠ T0 := ne_of_none (s4.dK (by rw [upd_ne (ne_of_none upd_same nW0), upd_same])) nT0
    have eF4 : H4 F = some (.dK []) := s4.dK (by rw [upd_ne (ne_of_none upd_same nW0), upd_same])
    have eF5 : upd H4 T0 (.tup [.ref W0, .int r0]) F = some (.dK []) := by rw [upd_ne nT0F]; exact eF4
    have nFL0 : F ≠ L0 := ne_of_none eF5 nL0
    have ebk2 : upd (upd H1 F (.dK [])) W0 (.tup []) bk = some (.lst (iv Bs)) := by
      rw [upd_ne (ne_of_none (show upd H1 F (.dK []) bk = some (.lst (iv Bs)) by rw [upd_ne (ne_of_none ebk nF)]; exact ebk) nW0), upd_ne (ne_of_none ebk nF)]; exact ebk
    have ebk4 : H4 bk = some (.lst (iv Bs)) := s4.lst ebk2
    have ebk5 : upd H4 T0 (.tup [.ref W0, .int r0]) bk = some (.lst (iv Bs)) := by rw [upd_ne (ne_of_none ebk4 nT0)]; exact ebk4
    have eW4 : H4 W0 = some (.tup []) := s4.tup upd_same
    have eT5 : upd H4 T0 (.tup [.ref W0, .int r0]) W0 = some (.tup []) := by rw [upd_ne (ne_of_none eW4 nT0)]; exact eW4
    have nTL : T0 ≠ L0 := ne_of_none upd_same nL0
    have nFb : F ≠ bk := fun z => by rw [z, ebk4] at eF4; cases eF4
    refine ⟨fun m σ H' => ∃ (Fd : List Nat) (L : List (List Int × Int)) (ly : Addr) (ts : List Addr) (y6 y7 y8 y9 : Option V), σ = [some (.ref y), some (.ref a), some (.ref pr), some (.ref bk), some (.ref F), some (.ref ly), y6, y7, y8, y9, none] ∧ Sl K H H' ∧
        H' bk = some (.lst (iv Bs)) ∧ H' F = some (.dK (dkN Fd)) ∧ H' ly = some (.lst (ts.map V.ref)) ∧ LyP H' ts L ∧ BwI p Bs Fd L ∧ m = 2 * (p.length - Fd.length) + (if ts = [] then 0 else 1),
      ⟨_, [], [([], r0)], L0, [T0], none, none, none, none, rfl, sl6, ?_, ?_, upd_same, .cons ⟨W0, ?_, ?_⟩ .nil, ⟨by simp, fun i h => (by cases h), fun e h => ?_, fun h => .inr ⟨([], r0), by simp, hr0' h⟩, fun i h => (by cases h), fun i h => (by cases h), fun e h => ?_⟩, rfl⟩, fun m σ H1 hw => ?_⟩
    · rw [upd_ne (ne_of_none ebk5 nL0)]; exact ebk5
    · rw [upd_ne nFL0]; exact eF5
    · rw [upd_ne nTL, upd_same]
    · rw [upd_ne (ne_of_none eT5 nL0)]; exact eT5
    · rw [mem_one h]; exact hr0
    · rw [mem_one h]; exact Nat.le_refl _
    obtain ⟨Fd, L, ly, ts, y6, y7, y8, y9, rfl, sl, ebk', eF, ely, pL, hI, rfl⟩ := hw
    have lFd := len_le hI.nd hI.lt
    refine ⟨_, rfl, _, .inl ⟨_, SqL.of ely, rfl⟩, ite2 (fun c => ?_) (fun c => ?_)⟩
    · have hne : ts ≠ [] := fun z => by rw [z] at c; cases c
      refine ⟨_, fun _ _ z => z, ?_⟩
      refine ⟨Nat.zero_le _, fun en nen => ⟨Nat.zero_le _, fun lt nlt => ⟨_, _, rfl, ?_⟩⟩⟩
      have s1 := (Sm.refl H1).upd (u := .lst []) nen
      have nel : en ≠ lt := ne_of_none upd_same nlt
      have s2 := s1.new (u := .lst []) nlt
      have nlyen : ly ≠ en := ne_of_none ely nen
      have nlylt : ly ≠ lt := ne_of_none (s1.lst ely) nlt
      have nben : bk ≠ en := ne_of_none ebk' nen
      have nblt : bk ≠ lt := ne_of_none (s1.lst ebk') nlt
      have nFen : F ≠ en := ne_of_none eF nen
      have nFlt : F ≠ lt := ne_of_none (s1.dK eF) nlt
      have nFly : F ≠ ly := fun z => by rw [z, ely] at eF; cases eF
      have nenH : H en = none := sl.free nen
      have nltH : H lt = none := sl.free (s1.free nlt)
      have lp := Paired.length pL
      refine ⟨_, rfl, ly, rfl, ⟨_, SqL.of (s2.lst ely)⟩, for_list (K := K) (a := ly) (xs := ts.map V.ref) (fun k σ H' => ∃ (Fd' : List Nat) (E : List (List Int)) (La : List (List Int × Int)) (es ls : List Addr) (y8 y9 : Option V),
          σ = [some (.ref y), some (.ref a), some (.ref pr), some (.ref bk), some (.ref F), some (.ref ly), some (.ref en), some (.ref lt), y8, y9, none] ∧ Sl K H H' ∧ H' bk = some (.lst (iv Bs)) ∧ H' F = some (.dK (dkN Fd')) ∧ H' ly = some (.lst (ts.map V.ref)) ∧ LyP H' ts L ∧
          H' en = some (.lst (es.map V.ref)) ∧ EnP H' es E ∧ H' lt = some (.lst (ls.map V.ref)) ∧ LyP H' ls La ∧ BwJ p Bs Fd Fd' E (L.drop k) La)
        ⟨Fd, [], [], [], [], y8, y9, rfl, sl.of_sm s2, s2.lst ebk', s2.dK eF, s2.lst ely, pL.tn s2.n.tn, by rw [upd_ne nel, upd_same]; rfl, .nil, upd_same, .nil, BwJ.start hI⟩ (fun k σ H' _ ⟨_, _, _, _, _, _, _, _, _, _, _, z, _⟩ => SqL.of z) (fun k x σ H' hx z => ?_) (fun σ H' z => ?_)⟩
      · obtain ⟨Fd', E, La, es, ls, y8, y9, rfl, sl, ebk', eF, ely, pL, een, pE, elt, pA, hJ⟩ := z
        obtain ⟨t, ht, rfl⟩ : ∃ t, ts[k]? = some t ∧ x = .ref t := by
          rw [List.getElem?_map] at hx
          cases e : ts[k]? with
          | none => rw [e] at hx; cases hx
          | some u => rw [e] at hx; exact ⟨u, rfl, (Option.some.inj hx).symm⟩
        obtain ⟨e, he, wa, et, ewa⟩ := Paired.get' pL ht
        have hdrop : L.drop k = e :: L.drop (k + 1) := List.drop_eq_getElem_cons (List.getElem?_eq_some_iff.mp he).1 |>.trans (by rw [(List.getElem?_eq_some_iff.mp he).2])
        rw [hdrop] at hJ
        have heL := List.mem_of_getElem? he
        have hwe := hI.we e heL
        have lFd' := len_le hJ.nd hJ.lt
        refine ⟨t, _, rfl, SqT.of et, rfl, _, _, rfl, _, _, rfl, rfl, ?_⟩
        refine ⟨_, rfl, rfl, _, rfl, ite2 (fun c1 => ?_) (fun c1 => ?_)⟩
        · have e1 : e.2 = -1 := V.int.inj (of_decide_eq_true c1)
          exact ⟨Fd', E, La, es, ls, _, _, rfl, sl, ebk', eF, ely, pL, een, pE, elt, pA, hJ.skip (.inl e1)⟩
        · have hn1 : e.2 ≠ -1 := fun z => c1 (decide_eq_true (by rw [z]))
          obtain ⟨j, hj, hpj⟩ : ∃ j : Nat, e.2 = (j : Int) ∧ plain p j := (hI.ix e heL).resolve_left hn1
          rw [hj]
          refine ⟨_, rfl, _, rfl, F, _, rfl, DGet.k (k := Sum.inl (j : Int)) eF, _, rfl, ite2 (fun c2 => ?_) (fun c2 => ?_)⟩
          · rw [valV_dkN] at c2
            exact ⟨Fd', E, La, es, ls, _, _, rfl, sl, ebk', eF, ely, pL, een, pE, elt, pA, hJ.skip (.inr ⟨j, hj, of_decide_eq_true c2⟩)⟩
          · rw [valV_dkN] at c2
            have hjF : j ∉ Fd' := fun z => c2 (decide_eq_true z)
            have hjl : j < p.length := by
              obtain ⟨x, hx, _⟩ := hpj
              exact (List.getElem?_eq_some_iff.mp hx).1
            obtain ⟨x, hx, hxg, hxs⟩ := id hpj
            refine ⟨_, rfl, _, rfl, F, _, rfl, DPut.k (k := Sum.inl (j : Int)) eF (by unfold dkN; rw [List.length_map]; exact small1000 (by omega)), ?_⟩
            rw [putK_dkN hjF]
            have slA : Sl K H (upd H' F (.dK (dkN (Fd' ++ [j])))) := sl.upd' nFH eF ⟨fun ps z => (by cases z), fun φ z => (by cases z)⟩
            have tnA : Tn H' (upd H' F (.dK (dkN (Fd' ++ [j])))) := tn_upd2 eF (fun xs z => by cases z) fun o u z => by cases z
            have nbF : bk ≠ F := fun z => by rw [z, eF] at ebk'; cases ebk'
            have ebkA : upd H' F (.dK (dkN (Fd' ++ [j]))) bk = some (.lst (iv Bs)) := by rw [upd_ne nbF]; exact ebk'
            have elyA : upd H' F (.dK (dkN (Fd' ++ [j]))) ly = some (.lst (ts.map V.ref)) := by rw [upd_ne nFly.symm]; exact ely
            have eenA : upd H' F (.dK (dkN (Fd' ++ [j]))) en = some (.lst (es.map V.ref)) := by rw [upd_ne nFen.symm]; exact een
            have eltA : upd H' F (.dK (dkN (Fd' ++ [j]))) lt = some (.lst (ls.map V.ref)) := by rw [upd_ne nFlt.symm]; exact elt
            have eFA : upd H' F (.dK (dkN (Fd' ++ [j]))) F = some (.dK (dkN (Fd' ++ [j]))) := upd_same
            have pLA := pL.tn tnA
            have pEA := pE.tn tnA
            have pAA := pA.tn tnA
            have ewaA := tnA.t _ _ ewa
            generalize upd H' F (.dK (dkN (Fd' ++ [j]))) = HA at slA ebkA elyA eenA eltA eFA pLA pEA pAA ewaA ⊢
            obtain ⟨tp, ep, pp⟩ := hp.xn slA.n
            obtain ⟨t2, ht2, et2⟩ := PrAt.at pp hx
            have hlw : e.1.length < 16777000 := by omega
            have hlE := Paired.length pEA
            refine ⟨_, rfl, _, rfl, pr, _, (j : Int), .ref t2, rfl, rfl, SqT.of ep, atI_nat (j := j) ht2, t2, _, 0, .str x.1, rfl, rfl, SqT.of et2, atI_nat (j := 0) (insV_0 x), He.ga K "ASKING", _, rfl, .inr (asking_at T HA), rfl, rfl, _, rfl, ite2 (fun c3 => ?_) (fun c3 => ?_)⟩
            · rw [if_neg (by decide)] at c3
              have hask : asking x.1 := (inV_ask x.1).mp c3
              obtain ⟨bb, hbb, hbl⟩ := ask_arg hok hx hask
              refine ⟨_, rfl, _, rfl, pr, _, (j : Int), .ref t2, rfl, rfl, SqT.of ep, atI_nat (j := j) ht2, t2, _, 1, .int (bb : Int), rfl, rfl, SqT.of et2, atI_nat (j := 1) (insV_1 hbb), _, rfl, bk, _, rfl, .inl (SqL.of ebkA), rfl, iv_flat Bs, _, rfl, ite2 (fun c4 => ?_) (fun c4 => ?_)⟩
              · rw [if_pos rfl, inV_iv] at c4
                have hbn : bb ∉ Bs := by simpa using c4
                refine ⟨.ref en, rfl, .inl ⟨rfl, _, SqL.of eenA⟩, _, rfl, _, rfl, (by show 1 ≤ sizeLine; decide), fun T1 nT1 => ?_⟩
                have sT := (Sm.refl HA).new (u := .tup [.int (j : Int)]) nT1
                refine ⟨wa, T1, e.1.map V.int, [.int (j : Int)], rfl, rfl, SqT.of (sT.tup ewaA), upd_same, by simp, by rw [List.length_map, sizeLine_eq]; show e.1.length + 1 ≤ _; omega, fun p1 HC sC eC => ?_⟩
                have sAC := sT.trans sC
                have eenC := sAC.lst eenA
                refine ⟨en, es.map V.ref, .ref p1, rfl, rfl, eenC, by rw [List.length_map]; exact small1000 (by have := hJ.el; omega), ?_⟩
                have slB : Sl K H (upd HC en (.lst (es.map V.ref ++ [.ref p1]))) := (slA.of_sm sAC).upd' nenH eenC ⟨fun ps z => (by cases z), fun φ z => (by cases z)⟩
                have tnB : Tn HC (upd HC en (.lst (es.map V.ref ++ [.ref p1]))) := tn_upd2 eenC (fun xs z => by cases z) fun o u z => by cases z
                have ebkB : upd HC en (.lst (es.map V.ref ++ [.ref p1])) bk = some (.lst (iv Bs)) := by rw [upd_ne nben]; exact sAC.lst ebkA
                have eFB : upd HC en (.lst (es.map V.ref ++ [.ref p1])) F = some (.dK (dkN (Fd' ++ [j]))) := by rw [upd_ne nFen]; exact sAC.dK eFA
                have elyB : upd HC en (.lst (es.map V.ref ++ [.ref p1])) ly = some (.lst (ts.map V.ref)) := by rw [upd_ne nlyen]; exact sAC.lst elyA
                have pLB := (pLA.tn sAC.n.tn).tn tnB
                have eenB : upd HC en (.lst (es.map V.ref ++ [.ref p1])) en = some (.lst ((es ++ [p1]).map V.ref)) := by rw [upd_same, List.map_append]; rfl
                have pEB : EnP (upd HC en (.lst (es.map V.ref ++ [.ref p1]))) (es ++ [p1]) (E ++ [e.1 ++ [(j : Int)]]) := Paired.snoc ((pEA.tn sAC.n.tn).tn tnB) (by rw [List.map_append]; exact tnB.t _ _ eC)
                have eltB : upd HC en (.lst (es.map V.ref ++ [.ref p1])) lt = some (.lst (ls.map V.ref)) := by rw [upd_ne nel.symm]; exact sAC.lst eltA
                have pAB := (pAA.tn sAC.n.tn).tn tnB
                have ewaB := tnB.t _ _ (sAC.tup ewaA)
                have hE0 : (E ++ [e.1 ++ [(j : Int)]]).length ≤ E.length + 1 := by rw [List.length_append]; exact Nat.le_refl _
                have hE1 : E ≠ [] → E ++ [e.1 ++ [(j : Int)]] ≠ [] := fun _ => by simp
                have hE2 : ∀ b, asksB p j b → b ∈ Bs ∨ E ++ [e.1 ++ [(j : Int)]] ≠ [] := fun _ _ => .inr (by simp)
                have hE3 : E ++ [e.1 ++ [(j : Int)]] ≠ [] → ∃ i b, asksB p i b ∧ b ∉ Bs := fun _ => ⟨j, bb, ⟨x, hx, hask, hbb⟩, hbn⟩
                generalize upd HC en (.lst (es.map V.ref ++ [.ref p1])) = HB at slB ebkB eFB elyB pLB eenB pEB eltB pAB ewaB ⊢
                have hpB := hp.xn slB.n
                refine ⟨.ref lt, rfl, .inl ⟨rfl, _, SqL.of eltB⟩, ?_⟩
                refine ⟨_, rfl, _, rfl, pr, nb, j, p, rfl, hpB, hok, hjl, fun H3 nl rs s3 nnl eL okN => ⟨nl, rfl, ⟨_, SqL.of eL⟩, fun D nD => ?_⟩⟩
                have lrs := okN.1
                refine lc_list (K := K) (a := nl) (xs := rs.map V.int) (fun q H5 => Sm H3 H5 ∧ ∃ us : List Addr, H5 D = some (.lst (us.map V.ref)) ∧ LyP H5 us ((rs.take q).map fun r => (e.1 ++ [(j : Int)], r)))
                  ⟨(Sm.refl H3).new nD, [], upd_same, .nil⟩ (fun q H5 _ z => SqL.of (z.1.lst eL)) (fun q x H5 hx z => ?_) (fun H5 z => ?_)
                · obtain ⟨s5, us, eD, pU⟩ := z
                  obtain ⟨r, hr', rfl⟩ : ∃ r, rs[q]? = some r ∧ x = .int r := by
                    rw [List.getElem?_map] at hx
                    cases e2 : rs[q]? with
                    | none => rw [e2] at hx; cases hx
                    | some u => rw [e2] at hx; exact ⟨u, rfl, (Option.some.inj hx).symm⟩
                  have hq2 : q < 2 := Nat.lt_of_lt_of_le (List.getElem?_eq_some_iff.mp hr').1 lrs
                  have lus := Paired.length pU
                  rw [List.length_map, List.length_take] at lus
                  have s35 := s3.trans s5
                  refine ⟨rfl, yes_if ?_⟩
                  refine ⟨_, rfl, _, rfl, (by show 1 ≤ sizeLine; decide), fun T2 nT2 => ?_⟩
                  have s6 := s35.new (u := .tup [.int (j : Int)]) nT2
                  refine ⟨wa, T2, e.1.map V.int, [.int (j : Int)], rfl, rfl, SqT.of (s6.tup ewaB), upd_same, by simp, by rw [List.length_map, sizeLine_eq]; show e.1.length + 1 ≤ _; omega, fun p2 H6 s7 e7 => ?_⟩
                  have s57 := (s5.new (u := .tup [.int (j : Int)]) nT2).trans s7
                  have s07 := ((Sm.refl H5).new (u := .tup [.int (j : Int)]) nT2).trans s7
                  refine ⟨_, rfl, (by show 2 ≤ sizeLine; decide), fun t3 nt3 => ⟨us.map V.ref, ?_, ?_, (s57.new nt3).upd nD, us ++ [t3], ?_, ?_⟩⟩
                  · rw [upd_ne (ne_of_none (s07.lst eD) nt3)]; exact s07.lst eD
                  · rw [List.length_map]; exact small1000 (by omega)
                  · rw [upd_same]; simp
                  · rw [take_succ' hr', List.map_append]
                    have eD6 := s07.lst eD
                    have nDt : t3 ≠ D := fun z => by rw [z, eD6] at nt3; cases nt3
                    have tnX : Tn H6 (upd (upd H6 t3 (.tup [.ref p2, .int r])) D (.lst (us.map V.ref ++ [.ref t3]))) :=
                      ⟨fun b xs e => by rw [upd_ne (fun z => by rw [z, eD6] at e; cases e), upd_ne (ne_of_none e nt3)]; exact e, fun b o u e => by rw [upd_ne (fun z => by rw [z, eD6] at e; cases e), upd_ne (ne_of_none e nt3)]; exact e⟩
                    refine Paired.snoc ((pU.tn s07.n.tn).tn tnX) ⟨p2, ?_, ?_⟩
                    · rw [upd_ne nDt, upd_same]
                    · have := tnX.t _ _ e7
                      rw [List.map_append]
                      exact this
                · obtain ⟨s5, us, eD, pU⟩ := z
                  have lus := Paired.length pU
                  rw [List.length_map, List.length_take, List.length_map] at lus
                  rw [List.length_map, List.take_length] at pU
                  have lls := Paired.length pAB
                  have lLa := hJ.le
                  have s35 := s3.trans s5
                  have elt5 := s35.lst eltB
                  have nDlt : D ≠ lt := fun z => by rw [z] at nD; rw [s3.lst eltB] at nD; cases nD
                  refine ⟨lt, D, ls.map V.ref, us.map V.ref, rfl, rfl, elt5, eD, by rw [List.length_map, List.length_map, sizeLine_eq]; omega, ?_⟩
                  have tnX : Tn H5 (upd H5 lt (.lst (ls.map V.ref ++ us.map V.ref))) := tn_upd2 elt5 (fun xs z => by cases z) fun o u z => by cases z
                  have slC : Sl K H (upd H5 lt (.lst (ls.map V.ref ++ us.map V.ref))) := (slB.of_sm s35).upd' nltH elt5 ⟨fun ps z => (by cases z), fun φ z => (by cases z)⟩
                  refine ⟨Fd' ++ [j], _, La ++ rs.map (fun r => (e.1 ++ [(j : Int)], r)), _, ls ++ us, _, _, rfl, slC, ?_, ?_, ?_, (pLB.tn s35.n.tn).tn tnX, ?_, (pEB.tn s35.n.tn).tn tnX, by rw [upd_same, List.map_append], paired_app ((pAB.tn s35.n.tn).tn tnX) (pU.tn tnX), hJ.take hj hjF hpj okN (by rw [List.length_append, List.length_singleton]; omega) hE0 hE1 hE2 hE3⟩
                  · rw [upd_ne nblt]; exact s35.lst ebkB
                  · rw [upd_ne nFlt]; exact s35.dK eFB
                  · rw [upd_ne nlylt]; exact s35.lst elyB
                  · rw [upd_ne nel]; exact s35.lst eenB
              · rw [if_pos rfl, inV_iv] at c4
                have hbin : bb ∈ Bs := by simpa using c4
                have hE2 : ∀ b, asksB p j b → b ∈ Bs ∨ E ≠ [] := fun b ⟨x2, h1, _, h3⟩ => .inl (by
                  rw [hx] at h1
                  cases h1
                  rw [hbb] at h3
                  have : (bb : Int) = b := Option.some.inj h3
                  have : bb = b := by omega
                  rw [← this]; exact hbin)
                have hE0 : E.length ≤ E.length + 1 := Nat.le_succ _
                have hE1 : E ≠ [] → E ≠ [] := id
                have hE3 := hJ.en
                have slB := slA; have ebkB := ebkA; have eFB := eFA; have elyB := elyA; have pLB := pLA; have eenB := eenA; have pEB := pEA; have eltB := eltA; have pAB := pAA; have ewaB := ewaA
                have hpB := hp.xn slB.n
                refine ⟨.ref lt, rfl, .inl ⟨rfl, _, SqL.of eltB⟩, ?_⟩
                refine ⟨_, rfl, _, rfl, pr, nb, j, p, rfl, hpB, hok, hjl, fun H3 nl rs s3 nnl eL okN => ⟨nl, rfl, ⟨_, SqL.of eL⟩, fun D nD => ?_⟩⟩
                have lrs := okN.1
                refine lc_list (K := K) (a := nl) (xs := rs.map V.int) (fun q H5 => Sm H3 H5 ∧ ∃ us : List Addr, H5 D = some (.lst (us.map V.ref)) ∧ LyP H5 us ((rs.take q).map fun r => (e.1 ++ [(j : Int)], r)))
                  ⟨(Sm.refl H3).new nD, [], upd_same, .nil⟩ (fun q H5 _ z => SqL.of (z.1.lst eL)) (fun q x H5 hx z => ?_) (fun H5 z => ?_)
                · obtain ⟨s5, us, eD, pU⟩ := z
                  obtain ⟨r, hr', rfl⟩ : ∃ r, rs[q]? = some r ∧ x = .int r := by
                    rw [List.getElem?_map] at hx
                    cases e2 : rs[q]? with
                    | none => rw [e2] at hx; cases hx
                    | some u => rw [e2] at hx; exact ⟨u, rfl, (Option.some.inj hx).symm⟩
                  have hq2 : q < 2 := Nat.lt_of_lt_of_le (List.getElem?_eq_some_iff.mp hr').1 lrs
                  have lus := Paired.length pU
                  rw [List.length_map, List.length_take] at lus
                  have s35 := s3.trans s5
                  refine ⟨rfl, yes_if ?_⟩
                  refine ⟨_, rfl, _, rfl, (by show 1 ≤ sizeLine; decide), fun T2 nT2 => ?_⟩
                  have s6 := s35.new (u := .tup [.int (j : Int)]) nT2
                  refine ⟨wa, T2, e.1.map V.int, [.int (j : Int)], rfl, rfl, SqT.of (s6.tup ewaB), upd_same, by simp, by rw [List.length_map, sizeLine_eq]; show e.1.length + 1 ≤ _; omega, fun p2 H6 s7 e7 => ?_⟩
                  have s57 := (s5.new (u := .tup [.int (j : Int)]) nT2).trans s7
                  have s07 := ((Sm.refl H5).new (u := .tup [.int (j : Int)]) nT2).trans s7
                  refine ⟨_, rfl, (by show 2 ≤ sizeLine; decide), fun t3 nt3 => ⟨us.map V.ref, ?_, ?_, (s57.new nt3).upd nD, us ++ [t3], ?_, ?_⟩⟩
                  · rw [upd_ne (ne_of_none (s07.lst eD) nt3)]; exact s07.lst eD
                  · rw [List.length_map]; exact small1000 (by omega)
                  · rw [upd_same]; simp
                  · rw [take_succ' hr', List.map_append]
                    have eD6 := s07.lst eD
                    have nDt : t3 ≠ D := fun z => by rw [z, eD6] at nt3; cases nt3
                    have tnX : Tn H6 (upd (upd H6 t3 (.tup [.ref p2, .int r])) D (.lst (us.map V.ref ++ [.ref t3]))) :=
                      ⟨fun b xs e => by rw [upd_ne (fun z => by rw [z, eD6] at e; cases e), upd_ne (ne_of_none e nt3)]; exact e, fun b o u e => by rw [upd_ne (fun z => by rw [z, eD6] at e; cases e), upd_ne (ne_of_none e nt3)]; exact e⟩
                    refine Paired.snoc ((pU.tn s07.n.tn).tn tnX) ⟨p2, ?_, ?_⟩
                    · rw [upd_ne nDt, upd_same]
                    · have := tnX.t _ _ e7
                      rw [List.map_append]
                      exact this
                · obtain ⟨s5, us, eD, pU⟩ := z
                  have lus := Paired.length pU
                  rw [List.length_map, List.length_take, List.length_map] at lus
                  rw [List.length_map, List.take_length] at pU
                  have lls := Paired.length pAB
                  have lLa := hJ.le
                  have s35 := s3.trans s5
                  have elt5 := s35.lst eltB
                  have nDlt : D ≠ lt := fun z => by rw [z] at nD; rw [s3.lst eltB] at nD; cases nD
                  refine ⟨lt, D, ls.map V.ref, us.map V.ref, rfl, rfl, elt5, eD, by rw [List.length_map, List.length_map, sizeLine_eq]; omega, ?_⟩
                  have tnX : Tn H5 (upd H5 lt (.lst (ls.map V.ref ++ us.map V.ref))) := tn_upd2 elt5 (fun xs z => by cases z) fun o u z => by cases z
                  have slC : Sl K H (upd H5 lt (.lst (ls.map V.ref ++ us.map V.ref))) := (slB.of_sm s35).upd' nltH elt5 ⟨fun ps z => (by cases z), fun φ z => (by cases z)⟩
                  refine ⟨Fd' ++ [j], _, La ++ rs.map (fun r => (e.1 ++ [(j : Int)], r)), _, ls ++ us, _, _, rfl, slC, ?_, ?_, ?_, (pLB.tn s35.n.tn).tn tnX, ?_, (pEB.tn s35.n.tn).tn tnX, by rw [upd_same, List.map_append], paired_app ((pAB.tn s35.n.tn).tn tnX) (pU.tn tnX), hJ.take hj hjF hpj okN (by rw [List.length_append, List.length_singleton]; omega) hE0 hE1 hE2 hE3⟩
                  · rw [upd_ne nblt]; exact s35.lst ebkB
                  · rw [upd_ne nFlt]; exact s35.dK eFB
                  · rw [upd_ne nlylt]; exact s35.lst elyB
                  · rw [upd_ne nel]; exact s35.lst eenB
            · rw [if_neg (by decide)] at c3
              have hask : ¬ asking x.1 := fun z => c3 ((inV_ask x.1).mpr z)
              have hE2 : ∀ b, asksB p j b → b ∈ Bs ∨ E ≠ [] := fun b ⟨x2, h1, h2, _⟩ => absurd (by
                rw [hx] at h1
                cases h1
                exact h2) hask
              have hE0 : E.length ≤ E.length + 1 := Nat.le_succ _
              have hE1 : E ≠ [] → E ≠ [] := id
              have hE3 := hJ.en
              have slB := slA; have ebkB := ebkA; have eFB := eFA; have elyB := elyA; have pLB := pLA; have eenB := eenA; have pEB := pEA; have eltB := eltA; have pAB := pAA; have ewaB := ewaA
              have hpB := hp.xn slB.n
              refine ⟨.ref lt, rfl, .inl ⟨rfl, _, SqL.of eltB⟩, ?_⟩
              refine ⟨_, rfl, _, rfl, pr, nb, j, p, rfl, hpB, hok, hjl, fun H3 nl rs s3 nnl eL okN => ⟨nl, rfl, ⟨_, SqL.of eL⟩, fun D nD => ?_⟩⟩
              have lrs := okN.1
              refine lc_list (K := K) (a := nl) (xs := rs.map V.int) (fun q H5 => Sm H3 H5 ∧ ∃ us : List Addr, H5 D = some (.lst (us.map V.ref)) ∧ LyP H5 us ((rs.take q).map fun r => (e.1 ++ [(j : Int)], r)))
                ⟨(Sm.refl H3).new nD, [], upd_same, .nil⟩ (fun q H5 _ z => SqL.of (z.1.lst eL)) (fun q x H5 hx z => ?_) (fun H5 z => ?_)
              · obtain ⟨s5, us, eD, pU⟩ := z
                obtain ⟨r, hr', rfl⟩ : ∃ r, rs[q]? = some r ∧ x = .int r := by
                  rw [List.getElem?_map] at hx
                  cases e2 : rs[q]? with
                  | none => rw [e2] at hx; cases hx
                  | some u => rw [e2] at hx; exact ⟨u, rfl, (Option.some.inj hx).symm⟩
                have hq2 : q < 2 := Nat.lt_of_lt_of_le (List.getElem?_eq_some_iff.mp hr').1 lrs
                have lus := Paired.length pU
                rw [List.length_map, List.length_take] at lus
                have s35 := s3.trans s5
                refine ⟨rfl, yes_if ?_⟩
                refine ⟨_, rfl, _, rfl, (by show 1 ≤ sizeLine; decide), fun T2 nT2 => ?_⟩
                have s6 := s35.new (u := .tup [.int (j : Int)]) nT2
                refine ⟨wa, T2, e.1.map V.int, [.int (j : Int)], rfl, rfl, SqT.of (s6.tup ewaB), upd_same, by simp, by rw [List.length_map, sizeLine_eq]; show e.1.length + 1 ≤ _; omega, fun p2 H6 s7 e7 => ?_⟩
                have s57 := (s5.new (u := .tup [.int (j : Int)]) nT2).trans s7
                have s07 := ((Sm.refl H5).new (u := .tup [.int (j : Int)]) nT2).trans s7
                refine ⟨_, rfl, (by show 2 ≤ sizeLine; decide), fun t3 nt3 => ⟨us.map V.ref, ?_, ?_, (s57.new nt3).upd nD, us ++ [t3], ?_, ?_⟩⟩
                · rw [upd_ne (ne_of_none (s07.lst eD) nt3)]; exact s07.lst eD
                · rw [List.length_map]; exact small1000 (by omega)
                · rw [upd_same]; simp
                · rw [take_succ' hr', List.map_append]
                  have eD6 := s07.lst eD
                  have nDt : t3 ≠ D := fun z => by rw [z, eD6] at nt3; cases nt3
                  have tnX : Tn H6 (upd (upd H6 t3 (.tup [.ref p2, .int r])) D (.lst (us.map V.ref ++ [.ref t3]))) :=
                    ⟨fun b xs e => by rw [upd_ne (fun z => by rw [z, eD6] at e; cases e), upd_ne (ne_of_none e nt3)]; exact e, fun b o u e => by rw [upd_ne (fun z => by rw [z, eD6] at e; cases e), upd_ne (ne_of_none e nt3)]; exact e⟩
                  refine Paired.snoc ((pU.tn s07.n.tn).tn tnX) ⟨p2, ?_, ?_⟩
                  · rw [upd_ne nDt, upd_same]
                  · have := tnX.t _ _ e7
                    rw [List.map_append]
                    exact this
              · obtain ⟨s5, us, eD, pU⟩ := z
                have lus := Paired.length pU
                rw [List.length_map, List.length_take, List.length_map] at lus
                rw [List.length_map, List.take_length] at pU
                have lls := Paired.length pAB
                have lLa := hJ.le
                have s35 := s3.trans s5
                have elt5 := s35.lst eltB
                have nDlt : D ≠ lt := fun z => by rw [z] at nD; rw [s3.lst eltB] at nD; cases nD
                refine ⟨lt, D, ls.map V.ref, us.map V.ref, rfl, rfl, elt5, eD, by rw [List.length_map, List.length_map, sizeLine_eq]; omega, ?_⟩
                have tnX : Tn H5 (upd H5 lt (.lst (ls.map V.ref ++ us.map V.ref))) := tn_upd2 elt5 (fun xs z => by cases z) fun o u z => by cases z
                have slC : Sl K H (upd H5 lt (.lst (ls.map V.ref ++ us.map V.ref))) := (slB.of_sm s35).upd' nltH elt5 ⟨fun ps z => (by cases z), fun φ z => (by cases z)⟩
                refine ⟨Fd' ++ [j], _, La ++ rs.map (fun r => (e.1 ++ [(j : Int)], r)), _, ls ++ us, _, _, rfl, slC, ?_, ?_, ?_, (pLB.tn s35.n.tn).tn tnX, ?_, (pEB.tn s35.n.tn).tn tnX, by rw [upd_same, List.map_append], paired_app ((pAB.tn s35.n.tn).tn tnX) (pU.tn tnX), hJ.take hj hjF hpj okN (by rw [List.length_append, List.length_singleton]; omega) hE0 hE1 hE2 hE3⟩
                · rw [upd_ne nblt]; exact s35.lst ebkB
                · rw [upd_ne nFlt]; exact s35.dK eFB
                · rw [upd_ne nlylt]; exact s35.lst elyB
                · rw [upd_ne nel]; exact s35.lst eenB
      · obtain ⟨Fd', E, La, es, ls, y8, y9, rfl, sl, ebk', eF, ely, pL, een, pE, elt, pA, hJ⟩ := z
        rw [List.length_map, lp, List.drop_length] at hJ
        have lFd' := len_le hJ.nd hJ.lt
        have lEs := Paired.length pE
        have lls := Paired.length pA
        have hLa := hJ.le
        refine ⟨_, rfl, _, .inl ⟨_, SqL.of een, rfl⟩, ite2 (fun c5 => ?_) (fun c5 => ?_)⟩
        · have hes : es ≠ [] := fun z => by rw [z] at c5; cases c5
          have hEne : E ≠ [] := fun z => by
            rw [z] at pE
            cases pE
            exact hes rfl
          obtain ⟨i, b, h1, h2⟩ := hJ.en hEne
          cases E with
          | nil => exact absurd rfl hEne
          | cons e0 E =>
            refine ⟨_, rfl, en, es.map V.ref, intsD e0, E.map intsD, rfl, SqL.of een, dpAll_en pE, ⟨fun d hd d' hd' => ?_, fun d hd z => ?_⟩, Nat.le_trans (depthAll_en (e0 :: E)) (by decide), fun v hv => ?_⟩
            · have hd : d ∈ (e0 :: E).map intsD := hd
              have hd' : d' ∈ (e0 :: E).map intsD := hd'
              obtain ⟨u, _, rfl⟩ := List.mem_map.mp hd
              obtain ⟨u', _, rfl⟩ := List.mem_map.mp hd'
              exact alike_intsD u u'
            · have hd : d ∈ (e0 :: E).map intsD := hd
              obtain ⟨u, _, rfl⟩ := List.mem_map.mp hd
              cases z
            · obtain ⟨t, _, rfl⟩ := List.mem_map.mp hv
              exact q _ _ sl (.inr ⟨t, rfl⟩) (fun z => by cases z) fun _ => ⟨i, b, h1, fun z => h2 ((hB b).mpr z)⟩
        · have hes : es = [] := by
            cases es with
            | nil => rfl
            | cons b r => exact absurd rfl c5
          subst hes
          cases pE
          refine ⟨_, rfl, lt, ls.map V.ref, La.map lyD, rfl, SqL.of elt, dpAll_ly pA, fun d hd d' hd' => ?_, .inl fun d hd => ?_, fun d hd => ?_, fun ys pp hperm np => ?_⟩
          · obtain ⟨u, _, rfl⟩ := List.mem_map.mp hd
            obtain ⟨u', _, rfl⟩ := List.mem_map.mp hd'
            exact alike_lyD u u'
          · obtain ⟨u, _, rfl⟩ := List.mem_map.mp hd
            exact ⟨_, _, rfl⟩
          · obtain ⟨u, _, rfl⟩ := List.mem_map.mp hd
            exact Nat.le_trans (depth_lyD u) (by decide)
          · obtain ⟨ks, hks, rfl⟩ := refsV_perm hperm
            have xp : Xn H' (upd H' pp (.lst (ks.map V.ref))) := (Xn.refl _).upd np
            have pA' := pA.tn xp.tn
            obtain ⟨L', pL', hsub⟩ := ly_of (H := upd H' pp (.lst (ks.map V.ref))) (G := La) (ks := ks) fun t ht => by
              obtain ⟨e, he, hl⟩ := paired_mem pA' (hks.mem_iff.mp ht)
              exact ⟨e, he, hl⟩
            have hall : ∀ e ∈ La, ∃ e' ∈ L', e'.2 = e.2 := fun e he => by
              obtain ⟨t, ht, hl⟩ := paired_mem2 pA' he
              obtain ⟨e', he', hl'⟩ := paired_mem pL' (hks.mem_iff.mpr ht)
              exact ⟨e', he', hl'.idx hl⟩
            refine ⟨2 * (p.length - Fd'.length) + (if ks = [] then 0 else 1), ?_, Fd', L', pp, ks, _, _, _, _, rfl, sl.new np, ?_, ?_, upd_same, pL', hJ.turn hsub hall, rfl⟩
            · have hg := hJ.ge
              rw [if_neg hne]
              by_cases hLa0 : La = []
              · have : ks = [] := by
                  have h1 : ls = [] := List.length_eq_zero_iff.mp (by rw [lls, hLa0]; rfl)
                  rw [h1] at hks
                  exact List.perm_nil.mp hks
                rw [if_pos this]; omega
              · have := hJ.gr hLa0
                split <;> omega
            · rw [upd_ne (ne_of_none ebk' np)]; exact ebk'
            · rw [upd_ne (ne_of_none eF np)]; exact eF
    · have hts : ts = [] := by
        cases ts with
        | nil => rfl
        | cons b r => exact absurd rfl c
      subst hts
      cases pL
      exact q H1 .non sl (.inl rfl) (fun _ => hI.none hB) fun z => absurd rfl z
end
end HT
/-! text P5 -/
set_option maxHeartbeats 4000000
namespace HT
open PySem PySem.Spec PyProof.Rows L2
open GxR (TabG Tabbed)
/-! ### need_standing, of a standing -/
def bks (s : Std) : List Nat := s.filterMap id
structure StdOk (n : Nat) (s : Std) : Prop where
  len : s.length = n
  hole : none ∈ s
  nd : (bks s).Nodup
  lt : ∀ b ∈ bks s, b < (bks s).length
  ne : bks s ≠ []
theorem mem_bks {s : Std} {b : Nat} : b ∈ bks s ↔ some b ∈ s := by
  unfold bks
  rw [List.mem_filterMap]
  constructor
  · rintro ⟨x, hx, e⟩
    have e : x = some b := e
    rw [← e]; exact hx
  · intro h
    exact ⟨some b, h, rfl⟩
theorem bks_len (s : Std) : (bks s).length ≤ s.length := List.length_filterMap_le _ _
theorem StdOk.wf {n : Nat} {s : Std} (h : StdOk n s) : Wf n s := ⟨h.len, fun b hb => by
  have h1 := h.lt b (mem_bks.mpr hb)
  have h2 := bks_len s
  have := h.len
  omega⟩
theorem StAt.ty {K : PySem.W.Frag} {H : Hp} {a : Addr} {s : Std} (h : StAt H a s) : TyX K H (.ref a) (.type "tuple") := by
  rcases h with h | ⟨o, h⟩
  · exact .base (.tup h)
  · exact .fTuple h
theorem inV_non (s : Std) (h : none ∈ s) : inV .non (s.map oV) = true := by
  unfold inV
  rw [List.any_eq_true]
  exact ⟨.non, List.mem_map.mpr ⟨none, h, rfl⟩, rfl⟩
theorem flat_oV (s : Std) : (s.map oV).all flatV = true := by
  rw [List.all_eq_true]
  intro x hx
  obtain ⟨y, _, rfl⟩ := List.mem_map.mp hx
  cases y <;> rfl
theorem fm_take {s : Std} {i : Nat} {x : Option Nat} (h : s[i]? = some x) : (s.take (i + 1)).filterMap id = (s.take i).filterMap id ++ (match x with | none => [] | some b => [b]) := by
  rw [take_succ' h, List.filterMap_append]
  cases x <;> rfl
theorem nodup_int {l : List Nat} (h : l.Nodup) : (l.map fun v : Nat => (v : Int)).Nodup := by
  rw [List.nodup_iff_pairwise_ne, List.pairwise_map]
  exact (List.nodup_iff_pairwise_ne.mp h).imp fun hne e => hne (by omega)
section
variable {P : Program} {w : World} {K : PySem.W.Frag} {mg : Str → Option Value} {base : Heap}
def spNeedStd (K : PySem.W.Frag) : Sp := fun vs H Q _ => ∃ (y a : Addr) (n g : Nat) (T : List (Nat × Nat)) (s : Std), vs = [.ref y, .ref a] ∧ YardAt H y n T g ∧ n ≤ 7 ∧ StAt H a s ∧ StdOk n s ∧ TbH K H ∧ ∀ H', Sg K H H' → Q .non H'
theorem sc_need_std : FnScope ["yard", "value", "books", "one"] ["yard", "value"] (defScope s_need_standing) := ⟨rfl, rfl, rfl, by decide +kernel, rfl, by decide +kernel, by decide +kernel⟩
theorem ok_need_standing (T : Txt K mg) (B : Tbs K mg base) : Ok P w K mg base CX0 2 "need_standing" ["yard", "value"] (spNeedStd K) := by
  refine ok_of (f_need_standing T) (g_need_standing T) sc_need_std (fun _ _ _ _ _ _ us hl => match us, hl with | [_, _], _ => rfl) (fun vs H Q E h => ?_) (fun cdv A outer s H vs Q E hcd hr h => ?_)
  · obtain ⟨y, a, n, g, T, s, rfl, _⟩ := h
    rfl
  · obtain ⟨y, a, n, g, Ts, st, rfl, hy, h7, hs, hok, hB, q⟩ := h
    have nd := sc_need_std.nd
    obtain ⟨TB, kP⟩ := B _ mem_tf1
    refine ⟨_, pss_cons (ps_if (PW.pt (pw_or (pt_not (pt_val (pe_callB call_isi (by rfl) (m_isinstance T) (by decide +kernel) (pa_cons (pv 1) (pa_cons (pe_bltn (v := .ty "tuple") (by rfl) (m_tuple T) (by decide +kernel) rfl) pa_nil)))))
          (pw_or (pt_cmpR op_ne (pe_callB call_len_seq (by rfl) (m_len T) PySem.boot_len (pa_cons (pv 1) pa_nil)) (pe_ix ix_tup (pv 0) pe_int (fun _ _ => rfl)) (by rfl))
            (pw_or1 (pt_cmpR op_notIn_seq pe_non (pv 1) (by rfl)))))) pss_never pss_nil)
      (pss_cons (ps_set (i := 2) nd rfl (.inr rfl) (pe_lc (own := [("one", 3)]) (g := gName 3) (tt := tB (tNotN (tVar 3))) (te := tVar 3) rfl nd (pi_tup (pv 1)) (blkOk_by (N := ["yard", "value", "books", "one"]) (sc := defScope s_need_standing) (by decide +kernel))
            (fun _ _ _ _ _ => pg_name (i := 3) nd rfl (.inl rfl)) (fun _ _ _ _ _ => pts_one (pt_cmp (pc_notN (pv 3)))) (fun _ _ _ _ _ => pv 3)))
      (pss_one (ps_if (PW.pt (pw_or (pt_not (pt_truth (pv 2) (by intro _; rfl)))
          (pw_or (pt_not (pt_val (pe_allG hr (by rfl) (m_all T) TB (by exact hcd) (gsc_by (sc := defScope s_need_standing) (by decide +kernel) rfl) (pv 2) (by intro v; rfl) kP)))
            (pw_or1 (pt_cmpR op_lt (pe_lenSetI (by rfl) (by rfl) (m_len T) (by rfl) (m_set T) (pv 2)) (pe_callB call_len_seq (by rfl) (m_len T) PySem.boot_len (pa_cons (pv 2) pa_nil)) (by rfl)))))) pss_never pss_nil))), ?_⟩
    obtain ⟨ta, ey, hTa⟩ := id hy
    have hl : (st.map oV).length = n := by rw [List.length_map]; exact hok.len
    refine ⟨_, rfl, _, _, _, _, true, rfl, .ty "tuple", hs.ty, kit_ty (by decide +kernel), _, rfl, iteF ?_⟩
    refine ⟨_, rfl, a, _, rfl, .inr hs.sqT, _, rfl, y, _, 0, .int (n : Int), rfl, rfl, SqT.of ey, atI_nat (j := 0) rfl, rfl, _, rfl, iteNS (by rw [hl]) ?_⟩
    refine ⟨_, rfl, a, _, rfl, .inr hs.sqT, rfl, flat_oV st, _, rfl, ?_⟩
    rw [if_pos rfl, inV_non st hok.hole]
    refine iteF ?_
    -- books
    refine ⟨_, rfl, a, rfl, ⟨_, hs.sqT⟩, fun D nD => ?_⟩
    refine lc_tup (K := K) (a := a) (xs := st.map oV) (fun i H' => Sm H H' ∧ H' D = some (.lst (iv ((st.take i).filterMap id)))) ⟨(Sm.refl H).upd nD, upd_same⟩ (fun i H' _ z => (hs.xn z.1.n).sqT) (fun i x H' hx z => ?_) (fun H1 z => ?_)
    · obtain ⟨s1, eD⟩ := z
      obtain ⟨v, hv, rfl⟩ : ∃ v, st[i]? = some v ∧ x = oV v := by
        rw [List.getElem?_map] at hx
        cases e : st[i]? with
        | none => rw [e] at hx; cases hx
        | some u => rw [e] at hx; exact ⟨u, rfl, (Option.some.inj hx).symm⟩
      have hi : i < st.length := (List.getElem?_eq_some_iff.mp hv).1
      have hlen := hok.len
      have hfl : ((st.take i).filterMap id).length ≤ i := Nat.le_trans (List.length_filterMap_le _ _) (by rw [List.length_take]; exact Nat.min_le_left _ _)
      refine ⟨rfl, _, rfl, _, rfl, ite2 (fun c => ?_) (fun c => ?_)⟩
      · cases v with
        | none => cases c
        | some b =>
          refine ⟨_, rfl, _, eD, by rw [List.length_map]; exact small1000 (by omega), s1.upd nD, ?_⟩
          rw [upd_same, fm_take hv]
          simp [iv, oV]
      · cases v with
        | none => exact ⟨s1, by rw [eD, fm_take hv]; simp⟩
        | some b => exact absurd rfl c
    · obtain ⟨s1, eD⟩ := z
      rw [List.length_map, List.take_length] at eD
      have eD : H1 D = some (.lst (iv (bks st))) := eD
      have lb := bks_len st
      have hlen := hok.len
      have hB1 := hB.sg (Sm.g (K := K) s1)
      refine ⟨_, rfl, _, .inl ⟨_, SqL.of eD, rfl⟩, ?_⟩
      have hne : (iv (bks st)).isEmpty = false := by
        cases e : bks st with
        | nil => exact absurd e hok.ne
        | cons x r => rfl
      rw [hne]
      refine iteF ?_
      refine ⟨_, rfl, D, _, List.replicate (bks st).length true, rfl, .inl (SqL.of eD), hB1 _ mem_tf1, by rw [List.length_replicate, List.length_map], fun pins j v hv => ?_, fun H2 tb => ?_⟩
      · obtain ⟨b, hb, rfl⟩ : ∃ b, (bks st)[j]? = some b ∧ v = .int (b : Nat) := by
          rw [List.getElem?_map] at hv
          cases e : (bks st)[j]? with
          | none => rw [e] at hv; cases hv
          | some u => rw [e] at hv; exact ⟨u, rfl, (Option.some.inj hv).symm⟩
        have hj : j < (bks st).length := (List.getElem?_eq_some_iff.mp hb).1
        have hlt := hok.lt b (List.mem_of_getElem? hb)
        have e1 : trB (List.replicate (bks st).length true) j = true := by
          unfold trB
          rw [List.getD_eq_getElem?_getD, List.getElem?_replicate, if_pos hj]; rfl
        rw [e1]
        refine EltOk.of_eq (show isNum 0 (((bks st).length : Int) - 1) (.int (b : Int)) = true by rw [isNum_int, decide_eq_true (by omega), decide_eq_true (by omega)]; rfl) (elt_isnum T hr (hB1 _ mem_tf1) kP rfl rfl rfl rfl rfl (fun s1 C code A' E' s₂ I M2 hk => ?_) (by intro env; rfl))
        have hP : tabP K "need_standing" ≠ D := fun z => by
          obtain ⟨ps, e, _⟩ := hB1 _ mem_tf1
          have e : H1 (tabP K "need_standing") = some (.tbl ps) := e
          rw [z, eD] at e; cases e
        obtain ⟨its, rv, pl, _⟩ := I.list (SqL.of eD)
        have hli : its.length = (bks st).length := by rw [← rv.length, List.length_map]
        refine wpAny_BinOp (wpAny_Call_Name_kw (ev_blt M2 rfl rfl rfl rfl (m_len T) PySem.boot_len (PyProof.Rows.callWith_builtin1 (Calls.spliced_cons (ev_capt (i := 2) (v := .ref D) I rfl rfl (.inl rfl) (tabg_ne (hB1 _ mem_tf1)) hk fun u ru => Calls.spliced_nil ?_)) rfl rfl)))
        obtain rfl : u = Value.ref D := ru
        refine PySem.Calls.call_len_list (items := its.toArray) (pl.isList.at fun o e => hk _ _ (Ne.symm hP) e) (by rw [List.size_toArray, hli]; omega) ?_
        have e2 : (its.toArray.size : Int) = ((bks st).length : Int) := by rw [List.size_toArray, hli]
        rw [e2]
        exact wpAny_Constant_int (sub_int ⟨_, rfl, keeps_refl' _ _⟩)
      · have e3 : (List.replicate (bks st).length true).all id = true := by
          rw [List.all_eq_true]; intro x hx; rw [List.eq_of_mem_replicate hx]; rfl
        rw [e3]
        have sg2 : Sg K H H2 := (Sm.g s1).trans (Tabbed.sg tb (hB1 _ mem_tf1) (lam_not T).2.1)
        have eD2 : H2 D = some (.lst (iv (bks st))) := (Tabbed.sg tb (hB1 _ mem_tf1) (lam_not T).2.1 : Sg K H1 H2).lst eD
        refine ⟨_, rfl, iteF ?_⟩
        refine ⟨_, rfl, D, (bks st).map (fun v : Nat => (v : Int)), rfl, SqL.of (by rw [eD2, iv_int]), by rw [List.length_map]; omega, nodup_int hok.nd, _, rfl, D, _, rfl, .inl (SqL.of eD2), _, _, rfl, rfl, _, rfl, ?_⟩
        rw [List.length_map, List.length_map]
        refine ite2 (fun c => ?_) (fun _ => q H2 sg2)
        have := of_decide_eq_true c
        omega
end
end HT
/-! text P6 -/
set_option maxHeartbeats 4000000
namespace HT
open PySem PySem.Spec PyProof.Rows L2
open GxR (TabG Tabbed)
/-- one instruction's shape -/
def InsOk (books many : Nat) (x : Ins) : Prop :=
  (x.2 = none ∧ (x.1 = "say" ∨ x.1 = "ask" ∨ x.1 = "stop")) ∨
  (∃ k : Nat, x.2 = some (k : Int) ∧ ((asking x.1 ∧ k < books) ∨ (jump x.1 ∧ k ≤ many))) ∨ (∃ k : Int, x.2 = some k ∧ x.1 = "put" ∧ -1000000 ≤ k ∧ k ≤ 1000000)
section
variable {P : Program} {w : World} {K : PySem.W.Frag} {mg : Str → Option Value} {base : Heap}
def spIsIns : Sp := fun vs H Q _ => ∃ (t : Addr) (books many : Nat) (pl : V) (x : Ins), vs = [.ref t, .int (books : Int), .int (many : Int), pl] ∧ H t = some (.tup (insV x)) ∧ InsOk books many x ∧ ∀ H', Sm H H' → Q (.bl true) H'
theorem sc_is_ins : FnScope ["value", "books", "many", "places"] ["value", "books", "many", "places"] (defScope s_is_instruction) := ⟨rfl, rfl, rfl, by decide +kernel, rfl, by decide +kernel, by decide +kernel⟩
theorem ok_is_instruction (T : Txt K mg) : Ok P w K mg base CX0 2 "is_instruction" ["value", "books", "many", "places"] spIsIns := by
  refine ok_of (f_is_instruction T) (g_is_instruction T) sc_is_ins (fun _ _ _ _ _ _ us hl => match us, hl with | [_, _, _, _], _ => rfl) (fun vs H Q E h => ?_) (fun cdv A outer s H vs Q E hcd hr h => ?_)
  · obtain ⟨t, b, m, pl, x, rfl, _⟩ := h
    rfl
  · obtain ⟨t, b, m, pl, x, rfl, et, hx, q⟩ := h
    have nd := sc_is_ins.nd
    obtain ⟨tg, hG⟩ := i_GREATEST T
    refine ⟨_, pss_cons (ps_if (PW.pt (pw_or (pt_not (pt_val (pe_callB call_isi (by rfl) (m_isinstance T) (by decide +kernel) (pa_cons (pv 0) (pa_cons (pe_bltn (v := .ty "tuple") (by rfl) (m_tuple T) (by decide +kernel) rfl) pa_nil)))))
          (pw_or (pt_not (pt_chain op_le op_le pe_int (pe_callB call_len_seq (by rfl) (m_len T) PySem.boot_len (pa_cons (pv 0) pa_nil)) pe_int))
            (pw_or1 (pt_not (pt_val (pe_callB call_isi (by rfl) (m_isinstance T) (by decide +kernel) (pa_cons (pe_ix ix_tup (pv 0) pe_int (fun _ _ => rfl)) (pa_cons (pe_bltn (v := .ty "str") (by rfl) (m_str T) (by decide +kernel) rfl) pa_nil))))))))) pss_never pss_nil)
      (pss_cons (ps_if (pt_cmpR op_eq (pe_callB call_len_seq (by rfl) (m_len T) PySem.boot_len (pa_cons (pv 0) pa_nil)) pe_int (by rfl))
          (pss_one (ps_ret (pe_cmpR op_in_seq (pe_ix ix_tup (pv 0) pe_int (fun _ _ => rfl)) (pe_tup (pa_cons pe_str (pa_cons pe_str (pa_cons pe_str pa_nil)))) (by rfl)))) pss_nil)
      (pss_cons (ps_if (pt_cmpR op_eq (pe_callB call_len_seq (by rfl) (m_len T) PySem.boot_len (pa_cons (pv 0) pa_nil)) pe_int (by rfl)) pss_never pss_nil)
      (pss_cons (ps_if (pt_cmpR op_in_seq (pe_ix ix_tup (pv 0) pe_int (fun _ _ => rfl)) (pe_glob (v := .ref (He.ga K "ASKING")) (by rfl) (g_ASKING T) rfl) (by rfl))
          (pss_one (ps_ret (pe_cl (ok_is_number T) hr (pa_cons (pe_ix ix_tup (pv 0) pe_int (fun _ _ => rfl)) (pa_cons pe_int (pa_cons (pe_op op_sub (pv 1) pe_int) pa_nil)))))) pss_nil)
      (pss_cons (ps_if (pt_cmpR op_eq (pe_ix ix_tup (pv 0) pe_int (fun _ _ => rfl)) pe_str (by rfl))
          (pss_one (ps_ret (pe_cl (ok_is_number T) hr (pa_cons (pe_ix ix_tup (pv 0) pe_int (fun _ _ => rfl)) (pa_cons (pe_un un_neg (pe_glob (v := .int 1000000) (by rfl) hG ⟨_, rfl⟩)) (pa_cons (pe_glob (v := .int 1000000) (by rfl) hG ⟨_, rfl⟩) pa_nil)))))) pss_nil)
      (pss_one (ps_ret (pe_and (pe_cmpR op_in_seq (pe_ix ix_tup (pv 0) pe_int (fun _ _ => rfl)) (pe_tup (pa_cons pe_str (pa_cons pe_str pa_nil))) (by rfl)) (pe_one (pe_cl (ok_is_number T) hr (pa_cons (pe_ix ix_tup (pv 0) pe_int (fun _ _ => rfl)) (pa_cons pe_int (pa_cons (pv 2) pa_nil)))))))))))), ?_⟩
    obtain ⟨nm, arg⟩ := x
    cases arg with
    | none =>
      have et : H t = some (.tup [.str nm]) := et
      refine ⟨_, rfl, _, _, _, _, true, rfl, .ty "tuple", .base (.tup et), kit_ty (by decide +kernel), _, rfl, iteF ?_⟩
      refine ⟨_, rfl, t, _, rfl, .inr (SqT.of et), 1, 1, rfl, rfl, _, rfl, ite2 (fun _ => ?_) (fun c => absurd rfl c)⟩
      refine ⟨1, 3, rfl, rfl, _, rfl, iteF ?_⟩
      refine ⟨_, rfl, t, _, 0, .str nm, rfl, rfl, SqT.of et, atI_nat (j := 0) rfl, _, _, _, _, true, rfl, .ty "str", .base (.str nm), kit_ty (by decide +kernel), _, rfl, iteF ?_⟩
      refine ⟨_, rfl, t, _, rfl, .inr (SqT.of et), rfl, _, rfl, ite2 (fun _ => ?_) (fun c => absurd rfl c)⟩
      refine ⟨_, rfl, t, _, 0, .str nm, rfl, rfl, SqT.of et, atI_nat (j := 0) rfl, (by show 3 ≤ sizeLine; decide), fun w0 nw0 => ?_⟩
      refine ⟨w0, _, rfl, .inr (SqT.of upd_same), rfl, rfl, ?_⟩
      have hm : inV (.str nm) [.str "say", .str "ask", .str "stop"] = true := by
        rcases hx with ⟨_, h⟩ | ⟨k, h, _⟩ | ⟨k, h, _⟩
        · rcases h with h | h | h <;> (have h : nm = _ := h) <;> rw [h] <;> decide
        · cases h
        · cases h
      rw [if_neg (by decide), hm]
      exact q _ ((Sm.refl H).new nw0)
    | some k =>
      have et : H t = some (.tup [.str nm, .int k]) := et
      refine ⟨_, rfl, _, _, _, _, true, rfl, .ty "tuple", .base (.tup et), kit_ty (by decide +kernel), _, rfl, iteF ?_⟩
      refine ⟨_, rfl, t, _, rfl, .inr (SqT.of et), 1, 2, rfl, rfl, _, rfl, ite2 (fun _ => ?_) (fun c => absurd rfl c)⟩
      refine ⟨2, 3, rfl, rfl, _, rfl, iteF ?_⟩
      refine ⟨_, rfl, t, _, 0, .str nm, rfl, rfl, SqT.of et, atI_nat (j := 0) rfl, _, _, _, _, true, rfl, .ty "str", .base (.str nm), kit_ty (by decide +kernel), _, rfl, iteF ?_⟩
      refine ⟨_, rfl, t, _, rfl, .inr (SqT.of et), rfl, _, rfl, ite2 (fun c => ?_) (fun _ => ?_)⟩
      · exact absurd (of_decide_eq_true c) (by show ¬ (V.int 2 = V.int 1); decide)
      refine ⟨_, rfl, t, _, rfl, .inr (SqT.of et), rfl, _, rfl, ite2 (fun c => ?_) (fun _ => ?_)⟩
      · exact absurd (of_decide_eq_true c) (by show ¬ (V.int 2 = V.int 3); decide)
      refine ⟨_, rfl, t, _, 0, .str nm, rfl, rfl, SqT.of et, atI_nat (j := 0) rfl, He.ga K "ASKING", _, rfl, .inr (asking_at T H), rfl, rfl, _, rfl, ite2 (fun c => ?_) (fun c => ?_)⟩
      · rw [if_neg (by decide)] at c
        have hask : asking nm := (inV_ask nm).mp c
        obtain ⟨kk, rfl, hk⟩ : ∃ kk : Nat, k = (kk : Int) ∧ kk < b := by
          rcases hx with ⟨h, _⟩ | ⟨kk, h, h2⟩ | ⟨kk, _, h, _⟩
          · cases h
          · refine ⟨kk, Option.some.inj h, ?_⟩
            rcases h2 with ⟨_, h2⟩ | ⟨h2, _⟩
            · exact h2
            · exfalso
              rcases hask with hj | hj | hj | hj <;> rcases h2 with h2 | h2 <;> (have h2 : nm = _ := h2) <;> rw [hj] at h2 <;> exact absurd h2 (by decide)
          · exfalso
            rcases hask with hj | hj | hj | hj <;> (have h : nm = _ := h) <;> rw [hj] at h <;> exact absurd h (by decide)
        refine ⟨_, rfl, t, _, 1, .int (kk : Int), rfl, rfl, SqT.of et, atI_nat (j := 1) rfl, _, rfl, (b : Int), 1, rfl, rfl, _, 0, _, rfl, .inl ⟨_, rfl⟩, ?_⟩
        rw [show isNum 0 ((b : Int) - 1) (.int (kk : Int)) = true by rw [isNum_int, decide_eq_true (by omega), decide_eq_true (by omega)]; rfl]
        exact q H (Sm.refl H)
      · rw [if_neg (by decide)] at c
        have hask : ¬ asking nm := fun z => c ((inV_ask nm).mpr z)
        refine ⟨_, rfl, t, _, 0, .str nm, rfl, rfl, SqT.of et, atI_nat (j := 0) rfl, rfl, _, rfl, ite2 (fun c2 => ?_) (fun c2 => ?_)⟩
        · have hp : nm = "put" := by
            have := of_decide_eq_true c2
            injection this
          obtain ⟨h1, h2⟩ : -1000000 ≤ k ∧ k ≤ 1000000 := by
            rcases hx with ⟨h, _⟩ | ⟨kk, _, h2⟩ | ⟨kk, h, _, h3, h4⟩
            · cases h
            · exfalso
              rcases h2 with ⟨h2, _⟩ | ⟨h2, _⟩
              · exact hask h2
              · rcases h2 with h2 | h2 <;> (have h2 : nm = _ := h2) <;> rw [hp] at h2 <;> exact absurd h2 (by decide)
            · have : k = kk := Option.some.inj h
              omega
          refine ⟨_, rfl, t, _, 1, .int k, rfl, rfl, SqT.of et, atI_nat (j := 1) rfl, 1000000, rfl, _, -1000000, _, rfl, .inl ⟨_, rfl⟩, ?_⟩
          rw [show isNum (-1000000) 1000000 (.int k) = true by rw [isNum_int, decide_eq_true (by omega), decide_eq_true (by omega)]; rfl]
          exact q H (Sm.refl H)
        · have hp : nm ≠ "put" := fun z => c2 (decide_eq_true (by rw [z]))
          obtain ⟨kk, rfl, hk, hj⟩ : ∃ kk : Nat, k = (kk : Int) ∧ kk ≤ m ∧ jump nm := by
            rcases hx with ⟨h, _⟩ | ⟨kk, h, h2⟩ | ⟨kk, _, h, _⟩
            · cases h
            · rcases h2 with ⟨h2, _⟩ | ⟨h2, h3⟩
              · exact absurd h2 hask
              · exact ⟨kk, Option.some.inj h, h3, h2⟩
            · exact absurd h hp
          refine ⟨_, rfl, t, _, 0, .str nm, rfl, rfl, SqT.of et, atI_nat (j := 0) rfl, (by show 2 ≤ sizeLine; decide), fun w0 nw0 => ?_⟩
          have s1 := (Sm.refl H).new (u := .tup [.str "zero", .str "go"]) nw0
          refine ⟨w0, _, rfl, .inr (SqT.of upd_same), rfl, rfl, ?_⟩
          have hm : inV (.str nm) [.str "zero", .str "go"] = true := by
            rcases hj with h | h <;> rw [h] <;> decide
          rw [if_neg (by decide), hm]
          refine ⟨_, rfl, iteT ?_⟩
          refine ⟨_, rfl, t, _, 1, .int (kk : Int), rfl, rfl, SqT.of (s1.tup et), atI_nat (j := 1) rfl, _, rfl, _, 0, _, rfl, .inl ⟨_, rfl⟩, ?_⟩
          rw [show isNum 0 (m : Int) (.int (kk : Int)) = true by rw [isNum_int, decide_eq_true (by omega), decide_eq_true (by omega)]; rfl]
          exact q _ s1
end
end HT
/-! text P7 -/
set_option maxHeartbeats 4000000
namespace HT
open PySem PySem.Spec PyProof.Rows L2
open GxR (TabG Tabbed)
theorem count_non (s : Std) : ((s.map oV).countP fun z => eqV z .non) + (bks s).length = s.length := by
  induction s with
  | nil => rfl
  | cons x r ih =>
    unfold bks at ih ⊢
    cases x with
    | none =>
      rw [List.map_cons, List.countP_cons, List.filterMap_cons_none rfl, List.length_cons]
      have e : (if eqV (oV none) .non = true then 1 else 0) = 1 := rfl
      rw [e]; omega
    | some b =>
      rw [List.map_cons, List.countP_cons, List.filterMap_cons_some (f := id) (b := b) rfl, List.length_cons, List.length_cons]
      have e : (if eqV (oV (some b)) .non = true then 1 else 0) = 0 := rfl
      rw [e]; omega
/-- a standing known to its object -/
def FrS (H : Hp) (a : Addr) (s : Std) : Prop := FrT H a (s.map oV)
theorem FrS.at {H : Hp} {a : Addr} {s : Std} (h : FrS H a s) : StAt H a s := let ⟨o, e, _⟩ := h; .inr ⟨o, e⟩
theorem FrS.xn {H H' : Hp} {a : Addr} {s : Std} (e : Xn H H') (h : FrS H a s) : FrS H' a s := FrT.xn e h
theorem PrOk.ins {books : Nat} {p : List Ins} (h : PrOk books p) {x : Ins} (hx : x ∈ p) : InsOk books p.length x := h.2.2 x hx
section
variable {P : Program} {w : World} {K : PySem.W.Frag} {mg : Str → Option Value} {base : Heap}
def spNeedRows : Sp := fun vs H Q _ => ∃ (a : Addr) (books : Nat) (pl : V) (p : List Ins), vs = [.ref a, .int (books : Int), .int 20, pl] ∧ PrAt H a p ∧ PrOk books p ∧ ∀ H', Sm H H' → Q .non H'
theorem sc_need_rows : FnScope ["value", "books", "most", "places", "index", "instruction"] ["value", "books", "most", "places"] (defScope s_need_rows) := ⟨rfl, rfl, rfl, by decide +kernel, rfl, by decide +kernel, by decide +kernel⟩
theorem ok_need_rows (T : Txt K mg) : Ok P w K mg base CX0 3 "need_rows" ["value", "books", "most", "places"] spNeedRows := by
  refine ok_of (f_need_rows T) (g_need_rows T) sc_need_rows (fun _ _ _ _ _ _ us hl => match us, hl with | [_, _, _, _], _ => rfl) (fun vs H Q E h => ?_) (fun cdv A outer s H vs Q E hcd hr h => ?_)
  · obtain ⟨a, b, pl, p, rfl, _⟩ := h
    rfl
  · obtain ⟨a, b, pl, p, rfl, hp, hok, q⟩ := h
    have nd := sc_need_rows.nd
    refine ⟨_, pss_cons (ps_if (PW.pt (pw_or (pt_not (pt_val (pe_callB call_isi (by rfl) (m_isinstance T) (by decide +kernel) (pa_cons (pv 0) (pa_cons (pe_bltn (v := .ty "tuple") (by rfl) (m_tuple T) (by decide +kernel) rfl) pa_nil)))))
          (pw_or1 (pt_not (pt_chain op_le op_le pe_int (pe_callB call_len_seq (by rfl) (m_len T) PySem.boot_len (pa_cons (pv 0) pa_nil)) (pv 2)))))) pss_never pss_nil)
      (pss_one (ps_for PassesOwn.never rfl (pi_enumT (by rfl) (m_enumerate T) (pa_cons (pv 0) pa_nil)) (by exact pg_tup rfl (pgs_cons (pg_name (i := 4) nd rfl (.inl rfl)) (pgs_cons (pg_name (i := 5) nd rfl (.inl rfl)) pgs_nil)))
        (pss_one (ps_if (pt_not (pt_val (pe_cl (ok_is_instruction T) hr (pa_cons (pv 5) (pa_cons (pv 1) (pa_cons (pe_callB call_len_seq (by rfl) (m_len T) PySem.boot_len (pa_cons (pv 0) pa_nil)) (pa_cons (pv 3) pa_nil))))))) pss_never pss_nil)))), ?_⟩
    obtain ⟨ts, ea, pt⟩ := id hp
    have hlen := PrAt.len pt
    have h1 := hok.1
    have h20 := hok.2.1
    refine ⟨_, rfl, _, _, _, _, true, rfl, .ty "tuple", .base (.tup ea), kit_ty (by decide +kernel), _, rfl, iteF ?_⟩
    refine ⟨_, rfl, a, _, rfl, .inr (SqT.of ea), 1, _, rfl, rfl, _, rfl, ite2 (fun _ => ?_) (fun c => absurd (decide_eq_true (by rw [hlen]; omega)) c)⟩
    refine ⟨_, rfl, _, 20, rfl, rfl, _, rfl, ?_⟩
    rw [show decide (((ts.map V.ref).length : Int) ≤ 20) = true from decide_eq_true (by rw [hlen]; omega)]
    refine iteF ?_
    refine ⟨_, rfl, a, _, rfl, SqT.of ea, for_it (walk_enumT (K := K) (a := a) (xs := ts.map V.ref)) (fun i σ H' => ∃ (y4 y5 : Option V), σ = [some (.ref a), some (.int (b : Int)), some (.int 20), some pl, y4, y5] ∧ Sm H H') ⟨none, none, rfl, Sm.refl H⟩ (fun i σ H' _ ⟨_, _, _, z⟩ => SqT.of (z.tup ea)) (fun i x σ H' H'' hi z yx => ?_) (fun σ H' z => ?_)⟩
    · obtain ⟨y4, y5, rfl, sm⟩ := z
      obtain ⟨Tp, x0, b0, rfl, nT, rfl, e1, e2⟩ := yx
      obtain rfl : x0 = .int (i : Nat) := (Option.some.inj e1).symm
      rw [hlen] at hi
      obtain ⟨xi, hxi⟩ : ∃ x, p[i]? = some x := ⟨p[i], List.getElem?_eq_getElem hi⟩
      obtain ⟨t, ht, et⟩ := PrAt.at pt hxi
      obtain rfl : b0 = .ref t := (Option.some.inj (ht.symm.trans e2)).symm
      have sT := sm.new (u := .tup [.int (i : Nat), .ref t]) nT
      refine ⟨Tp, _, rfl, SqT.of upd_same, rfl, _, _, rfl, _, _, rfl, rfl, ?_⟩
      refine ⟨_, rfl, _, rfl, _, rfl, a, _, rfl, .inr (SqT.of (sT.tup ea)), _, rfl, t, b, p.length, pl, xi, by rw [hlen]; rfl, sT.tup et, hok.ins (List.mem_of_getElem? hxi), fun H3 s3 => ⟨_, rfl, iteF ?_⟩⟩
      exact ⟨_, _, rfl, sT.trans s3⟩
    · obtain ⟨y4, y5, rfl, sm⟩ := z
      exact q H' sm
def spBooksOf : Sp := fun vs H Q _ => ∃ (a : Addr) (s : Std), vs = [.ref a] ∧ FrS H a s ∧ s.length ≤ 7 ∧ Q (.int ((bks s).length : Int)) H
theorem sc_books_of : FnScope ["standing"] ["standing"] (defScope s_books_of) := ⟨rfl, rfl, rfl, by decide +kernel, rfl, by decide +kernel, by decide +kernel⟩
theorem ok_books_of (T : Txt K mg) : Ok P w K mg base CX0 1 "books_of" ["standing"] spBooksOf := by
  refine ok_of (f_books_of T) (g_books_of T) sc_books_of (fun _ _ _ _ _ _ us hl => match us, hl with | [_], _ => rfl) (fun vs H Q E h => ?_) (fun cdv A outer s H vs Q E hcd hr h => ?_)
  · obtain ⟨a, s, rfl, _⟩ := h
    rfl
  · obtain ⟨a, st, rfl, hs, h7, q⟩ := h
    refine ⟨_, pss_one (ps_ret (pe_op op_sub (pe_callB call_len_seq (by rfl) (m_len T) PySem.boot_len (pa_cons (pv 0) pa_nil)) (pe_bmF PySem.F.plainAttrs_tuple PySem.F.slot_tuple_count PySem.F.type_tuple_count mt_tcount (pv 0) (pa_cons pe_non pa_nil)))), ?_⟩
    refine ⟨_, rfl, a, _, rfl, .inr hs.at.sqT, .ref a, rfl, ⟨a, _, rfl, hs⟩, a, _, .non, rfl, rfl, hs.at.sqT, rfl, flat_oV st, _, _, rfl, rfl, ?_⟩
    have := count_non st
    rw [List.length_map]
    have e : ((st.length : Int) - (((st.map oV).countP fun z => eqV z .non) : Nat)) = ((bks st).length : Int) := by omega
    show Q (.int ((st.length : Int) - (((st.map oV).countP fun z => eqV z .non) : Nat))) H
    rw [e]
    exact q
def spNeedProg : Sp := fun vs H Q _ => ∃ (a : Addr) (books : Nat) (p : List Ins), vs = [.int (books : Int), .ref a] ∧ PrAt H a p ∧ PrOk books p ∧ ∀ H', Sm H H' → Q .non H'
theorem sc_need_prog : FnScope ["books", "program"] ["books", "program"] (defScope s_need_program) := ⟨rfl, rfl, rfl, by decide +kernel, rfl, by decide +kernel, by decide +kernel⟩
theorem ok_need_program (T : Txt K mg) : Ok P w K mg base CX0 4 "need_program" ["books", "program"] spNeedProg := by
  refine ok_of (f_need_program T) (g_need_program T) sc_need_prog (fun _ _ _ _ _ _ us hl => match us, hl with | [_, _], _ => rfl) (fun vs H Q E h => ?_) (fun cdv A outer s H vs Q E hcd hr h => ?_)
  · obtain ⟨a, b, p, rfl, _⟩ := h
    rfl
  · obtain ⟨a, b, p, rfl, hp, hok, q⟩ := h
    obtain ⟨tm, hm⟩ := i_MOST_STILL T
    refine ⟨_, pss_one (ps_expr (pe_cl (ok_need_rows T) hr (pa_cons (pv 1) (pa_cons (pv 0) (pa_cons (pe_glob (v := .int 20) (by rfl) hm ⟨_, rfl⟩) (pa_cons pe_int pa_nil)))))), ?_⟩
    exact ⟨_, rfl, _, rfl, a, b, _, p, rfl, hp, hok, q⟩
/-! ### need_all, barred, can_be_kept -/
/-- as Sg, and the table of words_from may have grown too -/
structure Sw (K : PySem.W.Frag) (H H' : Hp) : Prop where
  n : Xn H H'
  t : ∀ b ps, H b = some (.tbl ps) → ∃ qs, H' b = some (.tbl qs) ∧ (TriplesOk ps.toList → TriplesOk qs.toList) ∧ (b = tabP K "law" → qs = ps)
theorem Sg.sw {H H' : Hp} (e : Sg K H H') : Sw K H H' := ⟨e.n, fun b ps h => let ⟨qs, h1, h2, h3⟩ := e.t b ps h; ⟨qs, h1, h2, fun z => h3 (.inr z)⟩⟩
theorem Sm.sw {H H' : Hp} (e : Sm H H') : Sw K H H' := Sg.sw (Sm.g e)
theorem Sw.refl (H : Hp) : Sw K H H := (Sm.refl H).sw
theorem Sw.trans {H H1 H2 : Hp} (a : Sw K H H1) (b : Sw K H1 H2) : Sw K H H2 :=
  ⟨a.n.trans b.n, fun c ps h => let ⟨q1, e1, t1, u1⟩ := a.t c ps h; let ⟨q2, e2, t2, u2⟩ := b.t c q1 e1; ⟨q2, e2, fun z => t2 (t1 z), fun z => (u2 z).trans (u1 z)⟩⟩
theorem Sw.free {H H' : Hp} (e : Sw K H H') {l : Addr} (h : H' l = none) : H l = none := by
  cases q : H l with
  | none => rfl
  | some o =>
    cases o with
    | tbl ps => obtain ⟨qs, e1, _⟩ := e.t l ps q; rw [h] at e1; cases e1
    | _ => rw [e.n l _ q (fun _ z => by cases z)] at h; cases h
theorem Sw.upd {H H' : Hp} (e : Sw K H H') {a : Addr} {u : HO} (h : H a = none) : Sw K H (L2.upd H' a u) :=
  ⟨e.n.upd h, fun c ps q => by rw [upd_ne (ne_of_none q h)]; exact e.t c ps q⟩
theorem Sw.new {H H' : Hp} (e : Sw K H H') {a : Addr} {u : HO} (h : H' a = none) : Sw K H (L2.upd H' a u) := e.upd (e.free h)
theorem Sl.sw {H H' : Hp} (e : Sl K H H') (hne : tabP K "words_from" ≠ tabP K "law") : Sw K H H' :=
  ⟨e.n, fun b ps h => by
    by_cases hb : b = tabP K "words_from"
    · obtain ⟨qs, h1, h2, _⟩ := e.w
      subst hb
      exact ⟨qs, h1, fun _ => h2, fun z => absurd z hne⟩
    · exact ⟨ps, e.t b ps hb h, id, fun _ => rfl⟩⟩
theorem TbH.sw {H H' : Hp} (e : Sw K H H') (h : TbH K H) : TbH K H' := fun p hp => by
  obtain ⟨ps, h1, h2⟩ := h p hp
  obtain ⟨qs, e1, e2, _⟩ := e.t _ ps h1
  exact ⟨qs, e1, e2 h2⟩
/-- the words' table is good -/
abbrev WT (K : PySem.W.Frag) (H : Hp) : Prop := LamX.TabS H (tabP K "words_from") (lamQ "words_from")
theorem WT.sg {H H' : Hp} (e : Sg K H H') (h : WT K H) : WT K H' := by
  obtain ⟨ps, h1, h2, h3⟩ := h
  obtain ⟨qs, e1, e2, e3⟩ := e.t _ ps h1
  obtain rfl := e3 (.inl rfl)
  refine ⟨qs, e1, h2, fun pos cv hc => ?_⟩
  obtain ⟨c, a, b⟩ := h3 pos cv hc
  exact ⟨c, a, e.n.ext b⟩
theorem WT.sm {H H' : Hp} (e : Sm H H') (h : WT K H) : WT K H' := h.sg (Sm.g e)
def spNeedAll (K : PySem.W.Frag) : Sp := fun vs H Q _ => ∃ (y a pr : Addr) (n g : Nat) (T : List (Nat × Nat)) (s : Std) (p : List Ins), vs = [.ref y, .ref a, .ref pr] ∧ YardAt H y n T g ∧ YardOk n T g ∧ FrS H a s ∧ StdOk n s ∧ PrAt H pr p ∧ PrOk (bks s).length p ∧ TbH K H ∧ ∀ H', Sg K H H' → Q .non H'
theorem sc_need_all : FnScope ["yard", "standing", "program"] ["yard", "standing", "program"] (defScope s_need_all) := ⟨rfl, rfl, rfl, by decide +kernel, rfl, by decide +kernel, by decide +kernel⟩
theorem ok_need_all (T : Txt K mg) (B : Tbs K mg base) : Ok P w K mg base CX0 5 "need_all" ["yard", "standing", "program"] (spNeedAll K) := by
  refine ok_of (f_need_all T) (g_need_all T) sc_need_all (fun _ _ _ _ _ _ us hl => match us, hl with | [_, _, _], _ => rfl) (fun vs H Q E h => ?_) (fun cdv A outer s H vs Q E hcd hr h => ?_)
  · obtain ⟨y, a, pr, n, g, T, s, p, rfl, _⟩ := h
    rfl
  · obtain ⟨y, a, pr, n, g, Ts, st, p, rfl, hy, hY, hs, hok, hp, hpo, hB, q⟩ := h
    refine ⟨_, pss_cons (ps_expr (pe_cl (ok_need_yard T B) (hr.mono (by decide)) (pa_cons (pv 0) pa_nil)))
      (pss_cons (ps_expr (pe_cl (ok_need_standing T B) (hr.mono (by decide)) (pa_cons (pv 0) (pa_cons (pv 1) pa_nil))))
      (pss_one (ps_expr (pe_cl (ok_need_program T) hr (pa_cons (pe_cl (ok_books_of T) (hr.mono (by decide)) (pa_cons (pv 1) pa_nil)) (pa_cons (pv 2) pa_nil)))))), ?_⟩
    have h7 := hY.n7
    refine ⟨_, rfl, y, n, g, Ts, rfl, hy, hY, hB, fun H1 s1 => ?_⟩
    refine ⟨_, rfl, _, rfl, y, a, n, g, Ts, st, rfl, hy.xn s1.n, h7, (hs.xn s1.n).at, hok, hB.sg s1, fun H2 s2 => ?_⟩
    have s12 := s1.trans s2
    refine ⟨_, rfl, a, st, rfl, hs.xn s12.n, by rw [hok.len]; exact h7, _, rfl, pr, _, p, rfl, hp.xn s12.n, hpo, fun H3 s3 => ?_⟩
    exact q H3 (s12.trans (Sm.g s3))
def spBarred (K : PySem.W.Frag) : Sp := fun vs H Q _ => ∃ (y a pr : Addr) (n g : Nat) (T : List (Nat × Nat)) (s : Std) (p : List Ins), vs = [.ref y, .ref a, .ref pr] ∧ YardAt H y n T g ∧ YardOk n T g ∧ FrS H a s ∧ StdOk n s ∧ PrAt H pr p ∧ PrOk (bks s).length p ∧ TbH K H ∧ WT K H ∧
  ∀ H' v, Sw K H H' → WT K H' → (v = .non ∨ ∃ t, v = .ref t) → (v = .non → Passes p (Gate T s g)) → (v ≠ .non → ∃ i b, asksB p i b ∧ ¬ Gate T s g b) → Q v H'
theorem sc_barred : FnScope ["yard", "standing", "program"] ["yard", "standing", "program"] (defScope s_barred) := ⟨rfl, rfl, rfl, by decide +kernel, rfl, by decide +kernel, by decide +kernel⟩
theorem ok_barred (T : Txt K mg) (B : Tbs K mg base) : Ok P w K mg base CX0 6 "barred" ["yard", "standing", "program"] (spBarred K) := by
  refine ok_of (f_barred T) (g_barred T) sc_barred (fun _ _ _ _ _ _ us hl => match us, hl with | [_, _, _], _ => rfl) (fun vs H Q E h => ?_) (fun cdv A outer s H vs Q E hcd hr h => ?_)
  · obtain ⟨y, a, pr, n, g, T, s, p, rfl, _⟩ := h
    rfl
  · obtain ⟨y, a, pr, n, g, Ts, st, p, rfl, hy, hY, hs, hok, hp, hpo, hB, hW, q⟩ := h
    refine ⟨_, pss_cons (ps_expr (pe_cl (ok_need_all T B) hr (pa_cons (pv 0) (pa_cons (pv 1) (pa_cons (pv 2) pa_nil))))) (pss_one (ps_ret (pe_cl (ok_barred_way T B) hr (pa_cons (pv 0) (pa_cons (pv 1) (pa_cons (pv 2) pa_nil)))))), ?_⟩
    refine ⟨_, rfl, _, rfl, _, rfl, y, a, pr, n, g, Ts, st, p, rfl, hy, hY, hs, hok, hp, hpo, hB, fun H1 s1 => ?_⟩
    refine ⟨_, rfl, _, rfl, _, rfl, y, a, pr, n, g, _, Ts, st, p, rfl, hy.xn s1.n, hY, (hs.xn s1.n).at, hok.wf, hp.xn s1.n, hpo, hW.sg s1, fun H2 v s2 h1 h2 h3 => ?_⟩
    exact q H2 v (s1.sw.trans (s2.sw (lam_not T).2.2.2.2)) s2.w h1 h2 h3
def spCan (K : PySem.W.Frag) : Sp := fun vs H Q _ => ∃ (y a pr : Addr) (n g : Nat) (T : List (Nat × Nat)) (s : Std) (p : List Ins), vs = [.ref y, .ref a, .ref pr] ∧ YardAt H y n T g ∧ YardOk n T g ∧ FrS H a s ∧ StdOk n s ∧ PrAt H pr p ∧ PrOk (bks s).length p ∧ TbH K H ∧ WT K H ∧
  ∀ H' c, Sw K H H' → WT K H' → (c = true → Passes p (Gate T s g)) → (c = false → ∃ i b, asksB p i b ∧ ¬ Gate T s g b) → Q (.bl c) H'
theorem sc_can : FnScope ["yard", "standing", "program"] ["yard", "standing", "program"] (defScope s_can_be_kept) := ⟨rfl, rfl, rfl, by decide +kernel, rfl, by decide +kernel, by decide +kernel⟩
theorem ok_can_be_kept (T : Txt K mg) (B : Tbs K mg base) : Ok P w K mg base CX0 7 "can_be_kept" ["yard", "standing", "program"] (spCan K) := by
  refine ok_of (f_can_be_kept T) (g_can_be_kept T) sc_can (fun _ _ _ _ _ _ us hl => match us, hl with | [_, _, _], _ => rfl) (fun vs H Q E h => ?_) (fun cdv A outer s H vs Q E hcd hr h => ?_)
  · obtain ⟨y, a, pr, n, g, T, s, p, rfl, _⟩ := h
    rfl
  · obtain ⟨y, a, pr, n, g, Ts, st, p, rfl, hy, hY, hs, hok, hp, hpo, hB, hW, q⟩ := h
    refine ⟨_, pss_one (ps_ret (pe_cmp (pc_isN (pe_cl (ok_barred T B) hr (pa_cons (pv 0) (pa_cons (pv 1) (pa_cons (pv 2) pa_nil))))))), ?_⟩
    refine ⟨_, rfl, _, rfl, _, rfl, y, a, pr, n, g, Ts, st, p, rfl, hy, hY, hs, hok, hp, hpo, hB, hW, fun H1 v s1 hW1 h1 h2 h3 => ?_⟩
    exact q H1 _ s1 hW1 (fun z => h2 (of_decide_eq_true z)) fun z => h3 (of_decide_eq_false z)
end
end HT
/-! text M6 -/
set_option maxHeartbeats 4000000
namespace HT
open PySem PySem.Spec PyProof.Rows L2
open GxR (TabG Tabbed)
section
variable {X : Cx}
/-- all(..) in a comprehension's block -/
def tAllB (X : Cx) (sc2 scope : Scope) (x : Str) (elt : Expr) (Pt : Addr) (te : TE) : TE := fun σ H Q => ∀ s0 H0 cl C fp, tAllG (X.blk s0 H0 sc2 (compEnvC sc2 cl C X.env) fp) scope x elt Pt te σ H Q
theorem pe_allB {s0 : Shared} {H0 : Hp} {sc2 scope : Scope} {cl : List (Str × Addr)} {C Pt : Addr} {fp : List Addr} {e elt : Expr} {x : Str} {te : TE} (h : PE (X.blk s0 H0 sc2 (compEnvC sc2 cl C X.env) fp) e (tAllG (X.blk s0 H0 sc2 (compEnvC sc2 cl C X.env) fp) scope x elt Pt te)) :
    PE (X.blk s0 H0 sc2 (compEnvC sc2 cl C X.env) fp) e (tAllB X sc2 scope x elt Pt te) :=
  ⟨fun pins s σ H Q I q => h.run pins s σ H Q I (q _ _ _ _ _)⟩
def relab (scope sc : Scope) : Scope := { scope with names := scope.names.map fun (n, k) => if (k == NameKind.free && sc.kind == .function && sc.names.lookup n == some .cell) then (n, NameKind.cell) else (n, k) }
end
/-- a lot that is a room -/
def RoomT (T : List (Nat × Nat)) (p h : Nat) (t : Nat × Nat) : Prop := (∃ u ∈ T, Blk T t u ∧ inc u p) ∧ ∀ u ∈ T, Blk T t u → ∀ v, inc u v → v = p ∨ Reach T [p] h v
def StdPl (s : Std) (b p h : Nat) : Prop := s[p]? = some (some b) ∧ (∀ m < p, s[m]? ≠ some (some b)) ∧ s[h]? = some none ∧ ∀ m < h, s[m]? ≠ some none
/-- good: holds p, all else beside -/
def Gd (p : Nat) (Lb L : List Nat) : Prop := p ∈ L ∧ ∀ v ∈ L, v = p ∨ v ∈ Lb
theorem room_gd {T : List (Nat × Nat)} {p h : Nat} {Lb : List Nat} (m : ∀ v, v ∈ Lb ↔ Reach T [p] h v) {t : Nat × Nat} {L : List Nat} (hl : IsLot T t L) : Gd p Lb L ↔ RoomT T p h t := by
  constructor
  · rintro ⟨h1, h2⟩
    refine ⟨(hl p).mp h1, fun u hu b v hv => ?_⟩
    rcases h2 v ((hl v).mpr ⟨u, hu, b, hv⟩) with z | z
    · exact .inl z
    · exact .inr ((m v).mp z)
  · rintro ⟨h1, h2⟩
    refine ⟨(hl p).mpr h1, fun v hv => ?_⟩
    obtain ⟨u, hu, b, hi⟩ := (hl v).mp hv
    rcases h2 u hu b v hi with z | z
    · exact .inl z
    · exact .inr ((m v).mpr z)
theorem idx_no {s : Std} {x : Option Nat} {q : Nat} (h : ∀ m < q, s[m]? ≠ some x) (m : Nat) (z' : V) (hm : m < q) (hz : (s.map oV)[m]? = some z') : eqV z' (oV x) = false := by
  rw [List.getElem?_map] at hz
  cases e : s[m]? with
  | none => rw [e] at hz; cases hz
  | some u =>
    rw [e] at hz
    obtain rfl := Option.some.inj hz
    have hne : u ≠ x := fun z => h m hm (by rw [e, z])
    cases u with
    | none =>
      cases x with
      | none => exact absurd rfl hne
      | some b => rfl
    | some b' =>
      cases x with
      | none => rfl
      | some b =>
        have : b' ≠ b := fun z => hne (by rw [z])
        unfold oV eqV
        simp; omega
theorem idx_yes {s : Std} {x : Option Nat} {q : Nat} (h : s[q]? = some x) : (s.map oV)[q]? = some (oV x) ∧ eqV (oV x) (oV x) = true := by
  rw [List.getElem?_map, h]
  refine ⟨rfl, ?_⟩
  cases x with
  | none => rfl
  | some b => unfold oV eqV; simp
theorem trB_map {α : Type} {f : α → Bool} {l : List α} {j : Nat} {v : α} (h : l[j]? = some v) : trB (l.map f) j = f v := by
  unfold trB
  rw [List.getD_eq_getElem?_getD, List.getElem?_map, h]; rfl
section
variable {P : Program} {w : World} {K : PySem.W.Frag} {mg : Str → Option Value} {base : Heap}
def spRoom (K : PySem.W.Frag) : Sp := fun vs H Q _ => ∃ (y a : Addr) (b n g p h : Nat) (T : List (Nat × Nat)) (s : Std), vs = [.ref y, .ref a, .int (b : Int)] ∧ YardAt H y n T g ∧ YardOk n T g ∧ FrS H a s ∧ s.length = n ∧ StdPl s b p h ∧ TbH K H ∧ (∃ t ∈ T, RoomT T p h t) ∧
  ∀ H' rl L t, Sg K H H' → H' rl = some (.tup (iv L)) → t ∈ T → IsLot T t L → RoomT T p h t → Q (.ref rl) H'
theorem sc_room : FnScope ["yard", "standing", "book", "place", "hole", "beside", "lots", "lot"] ["yard", "standing", "book"] (defScope s_room_of) := ⟨rfl, rfl, rfl, by decide +kernel, rfl, by decide +kernel, by decide +kernel⟩
theorem ok_room_of (T : Txt K mg) (B : Tbs K mg base) : Ok P w K mg base CX0 5 "room_of" ["yard", "standing", "book"] (spRoom K) := by
  refine ok_of (f_room_of T) (g_room_of T) sc_room (fun _ _ _ _ _ _ us hl => match us, hl with | [_, _, _], _ => rfl) (fun vs H Q E h => ?_) (fun cdv A outer s H vs Q E hcd hr h => ?_)
  · obtain ⟨y, a, b, n, g, p, h, T, s, rfl, _⟩ := h
    rfl
  · obtain ⟨y, a, b, n, g, p, h, Ts, st, rfl, hy, hY, hs, hn, hpl, hB, hA, q⟩ := h
    have nd := sc_room.nd
    obtain ⟨TB, kP⟩ := B _ mem_tf3
    have hr2 : Room 2 _ := hr.mono (by decide)
    refine ⟨_, pss_cons (ps_asg (pe_tup (pa_cons (pe_bmF PySem.F.plainAttrs_tuple PySem.F.slot_tuple_index PySem.F.type_tuple_index mt_tindex (pv 1) (pa_cons (pv 2) pa_nil)) (pa_cons (pe_bmF PySem.F.plainAttrs_tuple PySem.F.slot_tuple_index PySem.F.type_tuple_index mt_tindex (pv 1) (pa_cons pe_non pa_nil)) pa_nil)))
          (pg_tup rfl (pgs_cons (pg_name (i := 3) nd rfl (.inr rfl)) (pgs_cons (pg_name (i := 4) nd rfl (.inl rfl)) pgs_nil))))
      (pss_cons (ps_set (i := 5) nd rfl (.inr rfl) (pe_cl (ok_hanging T) hr2 (pa_cons (pe_ix ix_tup (pv 0) pe_int (fun _ _ => rfl)) (pa_cons (pe_ix ix_tup (pv 0) pe_int (fun _ _ => rfl)) (pa_cons (pv 4) (pa_cons (pe_tup (pa_cons (pv 3) pa_nil)) pa_nil))))))
      (pss_cons (ps_setLc (i := 6) (own := [("lot", 7)]) (g := gName 7) (tt := tAnd (tTest (tOp (rIn K false) (tVar 3) (tVar 7))) (tB (tAllB _ _ _ _ _ _ (tVar 7)))) (te := tVar 7) rfl nd rfl rfl (sw_true rfl rfl rfl (by decide +kernel)) (pi_list (pe_cl (ok_pieces_of T) hr (pa_cons (pv 0) pa_nil))) (blkOk_by (N := ["yard", "standing", "book", "place", "hole", "beside", "lots", "lot"]) (sc := defScope s_room_of) (by decide +kernel))
          (fun _ _ _ _ _ => pg_name (i := 7) nd rfl (.inl rfl))
          (fun _ _ _ _ _ => pts_one (PW.pt (pw_and (pt_cmpR op_in_seq (pv 3) (pv 7) (by rfl)) (pw_and1 (pt_val (pe_allB (pe_allG hr (by rfl) (m_all T) TB (by exact hcd) (gsc_by (sc := relab _ (defScope s_room_of)) (by decide +kernel) rfl) (pv 7) (by intro v; rfl) kP))))))) (fun _ _ _ _ _ => pv 7))
      (pss_one (ps_ret (pe_ix ix_list (pv 6) pe_int (fun _ _ => rfl)))))), ?_⟩
    have n2 := hY.n2
    have n7 := hY.n7
    have hlen := hY.len
    have hb := hY.bnd
    obtain ⟨ta, ey, hT⟩ := id hy
    have hst := hs.at.sqT (K := K)
    obtain ⟨p1, p2⟩ := idx_yes hpl.1
    obtain ⟨h1, h2⟩ := idx_yes hpl.2.2.1
    have hp : p < n := by rw [← hn]; exact (List.getElem?_eq_some_iff.mp hpl.1).1
    have hh : h < n := by rw [← hn]; exact (List.getElem?_eq_some_iff.mp hpl.2.2.1).1
    refine ⟨.ref a, rfl, ⟨a, _, rfl, hs⟩, _, rfl, a, st.map oV, .int (b : Int), p, oV (some b), rfl, rfl, hst, rfl, flat_oV st, p1, p2, idx_no hpl.2.1, ?_⟩
    refine ⟨.ref a, rfl, ⟨a, _, rfl, hs⟩, a, st.map oV, .non, h, oV none, rfl, rfl, hst, rfl, flat_oV st, h1, h2, idx_no hpl.2.2.2, ?_⟩
    refine ⟨by show 2 ≤ sizeLine; decide, fun wp nwp => ?_⟩
    have s1 := (Sm.refl H).new (u := .tup [.int (p : Nat), .int (h : Nat)]) nwp
    refine ⟨wp, _, rfl, SqT.of upd_same, rfl, _, _, rfl, _, _, rfl, rfl, ?_⟩
    refine ⟨_, rfl, y, _, 0, .int n, rfl, rfl, SqT.of (s1.tup ey), atI_nat (j := 0) rfl, ?_⟩
    refine ⟨_, rfl, y, _, 1, .ref ta, rfl, rfl, SqT.of (s1.tup ey), atI_nat (j := 1) rfl, ?_⟩
    refine ⟨_, rfl, _, rfl, (by show 1 ≤ sizeLine; decide), fun wo nwo => ?_⟩
    have s2 := s1.new (u := .tup [.int (p : Nat)]) nwo
    refine ⟨_, ta, wo, Ts, h, n, [p], rfl, hT.sm s2, hlen, SqT.of upd_same, hb, hh, by omega, fun H3 bl Lb s3 nbl eB rB mB => ?_⟩
    have s4 := s2.trans s3
    refine ⟨_, rfl, y, n, g, Ts, rfl, hy.sm s4, hY, fun H5 pl ps Ls s5 npl ePl pL lps hL1 hL2 => ⟨pl, rfl, ⟨_, SqL.of ePl⟩, fun D nD => ?_⟩⟩
    have s6 := s4.trans s5
    have eB5 := s5.lst eB
    have lPL := Paired.length pL
    refine lc_list (K := K) (a := pl) (xs := ps.map V.ref) (fun i H2 => ∃ (as : List Addr) (Ls' : List (List Nat)), Sg K H5 H2 ∧ H2 D = some (.lst (as.map V.ref)) ∧ LtP H5 as Ls' ∧ (∀ L ∈ Ls', L ∈ Ls ∧ Gd p Lb L) ∧ (∀ j < i, ∀ L, Ls[j]? = some L → Gd p Lb L → as ≠ []) ∧ as.length ≤ i)
      ⟨[], [], ((Sm.refl H5).new nD).g, upd_same, .nil, (fun L hL => by cases hL), (fun j hj => absurd hj (by omega)), Nat.le_refl _⟩ (fun i H2 _ ⟨_, _, z, _⟩ => SqL.of (z.n.lst ePl)) (fun i x H2 hx z => ?_) (fun H2 z => ?_)
    · obtain ⟨as, Ls', sg, eD, pA, hG, hN, hl⟩ := z
      obtain ⟨p0, L, rfl, hp0, hL0, eL⟩ : ∃ p0 L, x = .ref p0 ∧ ps[i]? = some p0 ∧ Ls[i]? = some L ∧ H5 p0 = some (.tup (iv L)) := by
        rw [List.getElem?_map] at hx
        cases e : ps[i]? with
        | none => rw [e] at hx; cases hx
        | some u =>
          rw [e] at hx
          obtain ⟨L, hL, hr⟩ := Paired.get' pL e
          exact ⟨u, L, (Option.some.inj hx).symm, rfl, hL, hr⟩
      have hi : i < ps.length := (List.getElem?_eq_some_iff.mp hp0).1
      have eL2 := sg.n.tup eL
      have skip : ¬ Gd p Lb L → ∀ H3, Sg K H5 H3 → H3 D = some (.lst (as.map V.ref)) → ∃ (as : List Addr) (Ls' : List (List Nat)), Sg K H5 H3 ∧ H3 D = some (.lst (as.map V.ref)) ∧ LtP H5 as Ls' ∧ (∀ L ∈ Ls', L ∈ Ls ∧ Gd p Lb L) ∧ (∀ j < i + 1, ∀ L, Ls[j]? = some L → Gd p Lb L → as ≠ []) ∧ as.length ≤ i + 1 := fun hg H3 sg3 eD3 =>
        ⟨as, Ls', sg3, eD3, pA, hG, fun j hj L' hL' hg' => by
          by_cases e : j = i
          · rw [e, hL0] at hL'
            rw [← Option.some.inj hL'] at hg'
            exact absurd hg' hg
          · exact hN j (by omega) L' hL' hg', by omega⟩
      refine ⟨rfl, _, rfl, _, rfl, p0, _, rfl, .inr (SqT.of eL2), rfl, iv_flat L, _, rfl, ite2 (fun c => ?_) (fun c => ?_)⟩
      · rw [if_neg (by decide), inV_iv, decide_eq_true_iff] at c
        intro s0 H0 cl C fp
        refine ⟨_, rfl, p0, iv L, L.map (fun v : Nat => decide ((v : Int) = (p : Int)) || decide ((v : Int) ∈ Lb.map fun v : Nat => (v : Int))), rfl, .inr (SqT.of eL2), (hB.sg (s6.g.trans sg)) _ mem_tf3, by unfold iv; rw [List.length_map, List.length_map], fun pins j v hv => ?_, fun H3 tb => ?_⟩
        · obtain ⟨k, hk, rfl⟩ : ∃ k : Nat, L[j]? = some k ∧ v = .int k := by
            unfold iv at hv
            rw [List.getElem?_map] at hv
            cases e : L[j]? with
            | none => rw [e] at hv; cases hv
            | some u => rw [e] at hv; exact ⟨u, rfl, (Option.some.inj hv).symm⟩
          rw [trB_map hk]
          exact elt_eqin hr ((hB.sg (s6.g.trans sg)) _ mem_tf3) rfl rfl (i := 3) (j := 5) rfl rfl (.inl rfl) rfl rfl rfl (.inl rfl) rfl rfl rfl rfl rfl rfl (SqL.of (by rw [← iv_ints]; exact sg.n.lst eB5))
        · have sg3 := sg.trans (Tabbed.sg tb ((hB.sg (s6.g.trans sg)) _ mem_tf3) (lam_not T).2.2.2.1)
          have eD3 : H3 D = some (.lst (as.map V.ref)) := (Tabbed.sg tb ((hB.sg (s6.g.trans sg)) _ mem_tf3) (lam_not T).2.2.2.1).n.lst eD
          have hall : (List.all (L.map (fun v : Nat => decide ((v : Int) = (p : Int)) || decide ((v : Int) ∈ Lb.map fun v : Nat => (v : Int)))) id = true) ↔ ∀ v ∈ L, v = p ∨ v ∈ Lb := by
            rw [List.all_eq_true]
            simp
            constructor
            · intro z v hv
              rcases z v hv with e | ⟨u, hu, e⟩
              · exact .inl (by omega)
              · exact .inr (by rw [show v = u by omega]; exact hu)
            · intro z v hv
              rcases z v hv with e | e
              · exact .inl (by omega)
              · exact .inr ⟨v, e, rfl⟩
          refine ⟨_, rfl, ite2 (fun c2 => ?_) (fun c2 => ?_)⟩
          · have hgd : Gd p Lb L := ⟨c, hall.mp c2⟩
            refine ⟨_, rfl, _, eD3, ?_, as ++ [p0], Ls' ++ [L], sg3.upd nD, ?_, paired_app pA (.cons eL .nil), ?_, fun j hj L' hL' hg' => by simp, ?_⟩
            · rw [List.length_map]
              exact small1000 (by omega)
            · rw [upd_same, List.map_append]; rfl
            · intro L' hL'
              rcases List.mem_append.mp hL' with z | z
              · exact hG L' z
              · have : L' = L := by simpa using z
                rw [this]; exact ⟨List.mem_of_getElem? hL0, hgd⟩
            · rw [List.length_append, List.length_singleton]; omega
          · exact skip (fun z => c2 (hall.mpr z.2)) H3 sg3 eD3
      · rw [if_neg (by decide), inV_iv, decide_eq_true_iff] at c
        exact skip (fun z => c z.1) H2 sg eD
    · obtain ⟨as, Ls', sg, eD, pA, hG, hN, hl⟩ := z
      rw [List.length_map] at hN
      obtain ⟨t, ht, hrt⟩ := hA
      obtain ⟨L, hL, hLt⟩ := hL2 t ht
      obtain ⟨j, hj⟩ := List.getElem?_of_mem hL
      have hjl : j < ps.length := by rw [lPL]; exact (List.getElem?_eq_some_iff.mp hj).1
      have hne := hN j hjl L hj ((room_gd mB hLt).mpr hrt)
      cases pA with
      | nil => exact absurd rfl hne
      | cons eA pA' =>
        rename_i a0 L0 as' Ls''
        obtain ⟨hm0, hg0⟩ := hG L0 (List.mem_cons_self ..)
        obtain ⟨t0, ht0, hL0⟩ := hL1 L0 hm0
        exact ⟨_, rfl, D, _, 0, .ref a0, rfl, rfl, SqL.of eD, atI_nat (j := 0) rfl, q H2 a0 L0 t0 (s6.g.trans sg) (sg.n.tup eA) ht0 hL0 ((room_gd mB hL0).mp hg0)⟩
end
end HT
/-! text M7 -/
set_option maxHeartbeats 4000000
namespace HT
open PySem PySem.Spec PyProof.Rows L2
open GxR (TabG Tabbed)
def GateIn (T : List (Nat × Nat)) (t : Nat × Nat) (g : Nat) : Prop := ∃ u ∈ T, Blk T t u ∧ inc u g
/-- the book's room holds the gate -/
def InRoom (T : List (Nat × Nat)) (s : Std) (g b : Nat) (x : Bool) : Prop := ∃ p h t, StdPl s b p h ∧ t ∈ T ∧ RoomT T p h t ∧ (x = true ↔ GateIn T t g)
theorem first_at {s : List (Option Nat)} {x : Option Nat} (h : x ∈ s) : ∃ p : Nat, s[p]? = some x ∧ ∀ m < p, s[m]? ≠ some x := by
  induction s with
  | nil => cases h
  | cons y r ih =>
    by_cases e : y = x
    · exact ⟨0, by simp [e], fun m hm => by omega⟩
    · obtain ⟨p, h1, h2⟩ := ih ((List.mem_cons.mp h).resolve_left fun z => e z.symm)
      refine ⟨p + 1, by simpa using h1, fun m hm => ?_⟩
      cases m with
      | zero => simpa using e
      | succ m => simpa using h2 m (by omega)
theorem std_pl {n : Nat} {s : Std} (hok : StdOk n s) {b : Nat} (hb : b ∈ bks s) : ∃ p h, StdPl s b p h := by
  obtain ⟨p, h1, h2⟩ := first_at (mem_bks.mp hb)
  obtain ⟨h, h3, h4⟩ := first_at hok.hole
  exact ⟨p, h, h1, h2, h3, h4⟩
section
variable {P : Program} {w : World} {K : PySem.W.Frag} {mg : Str → Option Value} {base : Heap}
def spNeverOf (K : PySem.W.Frag) : Sp := fun vs H Q _ => ∃ (y a : Addr) (n g : Nat) (T : List (Nat × Nat)) (s : Std), vs = [.ref y, .ref a] ∧ YardAt H y n T g ∧ YardOk n T g ∧ FrS H a s ∧ StdOk n s ∧ TbH K H ∧ (∀ b p h, StdPl s b p h → ∃ t ∈ T, RoomT T p h t) ∧
  ∀ H' l (L : List Nat), Sg K H H' → H' l = some (.lst (iv L)) → L.length ≤ n → (∀ b ∈ L, b ∈ bks s ∧ InRoom T s g b false) → (∀ b ∈ bks s, b ∉ L → InRoom T s g b true) → Q (.ref l) H'
theorem sc_never_of : FnScope ["yard", "standing", "books", "book"] ["yard", "standing"] (defScope s_never_of) := ⟨rfl, rfl, rfl, by decide +kernel, rfl, by decide +kernel, by decide +kernel⟩
theorem ok_never_of (T : Txt K mg) (B : Tbs K mg base) : Ok P w K mg base CX0 6 "never_of" ["yard", "standing"] (spNeverOf K) := by
  refine ok_of (f_never_of T) (g_never_of T) sc_never_of (fun _ _ _ _ _ _ us hl => match us, hl with | [_, _], _ => rfl) (fun vs H Q E h => ?_) (fun cdv A outer s H vs Q E hcd hr h => ?_)
  · obtain ⟨y, a, n, g, T, s, rfl, _⟩ := h
    rfl
  · obtain ⟨y, a, n, g, Ts, st, rfl, hy, hY, hs, hok, hB, hA, q⟩ := h
    have nd := sc_never_of.nd
    refine ⟨_, pss_cons (ps_set (i := 2) nd rfl (.inl rfl) (pe_callB cr_sorted (by rfl) (m_sorted T) (by decide +kernel) (pa_cons (pe_lc (own := [("book", 3)]) (g := gName 3) (tt := tB (tNotN (tVar 3))) (te := tVar 3) rfl nd (pi_tup (pv 1)) (blkOk_by (N := ["yard", "standing", "books", "book"]) (sc := defScope s_never_of) (by decide +kernel))
            (fun _ _ _ _ _ => pg_name (i := 3) nd rfl (.inl rfl)) (fun _ _ _ _ _ => pts_one (pt_cmp (pc_notN (pv 3)))) (fun _ _ _ _ _ => pv 3)) pa_nil)))
      (pss_one (ps_ret (pe_lc (own := [("book", 3)]) (g := gName 3) (tt := tTest (tOp (rIn K true) (tOp (rIxT K) (tVar 0) (tC (.int 2))) _)) (te := tVar 3) rfl nd (pi_list (pv 2)) (blkOk_by (N := ["yard", "standing", "books", "book"]) (sc := defScope s_never_of) (by decide +kernel))
            (fun _ _ _ _ _ => pg_name (i := 3) nd rfl (.inl rfl)) (fun _ _ _ _ _ => pts_one (pt_cmpR op_notIn_seq (pe_ix ix_tup (pv 0) pe_int (fun _ _ => rfl)) (pe_cl (ok_room_of T B) hr (pa_cons (pv 0) (pa_cons (pv 1) (pa_cons (pv 3) pa_nil)))) (by rfl))) (fun _ _ _ _ _ => pv 3)))), ?_⟩
    obtain ⟨ta, ey, hTa⟩ := id hy
    have n7 := hY.n7
    have hlen := hok.len
    refine ⟨_, rfl, a, rfl, ⟨_, hs.at.sqT⟩, fun D nD => ?_⟩
    refine lc_tup (K := K) (a := a) (xs := st.map oV) (fun i H' => Sm H H' ∧ H' D = some (.lst (iv ((st.take i).filterMap id)))) ⟨(Sm.refl H).upd nD, upd_same⟩ (fun i H' _ z => (hs.xn z.1.n).at.sqT) (fun i x H' hx z => ?_) (fun H1 z => ?_)
    · obtain ⟨s1, eD⟩ := z
      obtain ⟨v, hv, rfl⟩ : ∃ v, st[i]? = some v ∧ x = oV v := by
        rw [List.getElem?_map] at hx
        cases e : st[i]? with
        | none => rw [e] at hx; cases hx
        | some u => rw [e] at hx; exact ⟨u, rfl, (Option.some.inj hx).symm⟩
      have hi : i < st.length := (List.getElem?_eq_some_iff.mp hv).1
      have hfl : ((st.take i).filterMap id).length ≤ i := Nat.le_trans (List.length_filterMap_le _ _) (by rw [List.length_take]; exact Nat.min_le_left _ _)
      refine ⟨rfl, _, rfl, _, rfl, ite2 (fun c => ?_) (fun c => ?_)⟩
      · cases v with
        | none => cases c
        | some b =>
          refine ⟨_, rfl, _, eD, by rw [List.length_map]; exact small1000 (by omega), s1.upd nD, ?_⟩
          rw [upd_same, fm_take hv]
          simp [iv, oV]
      · cases v with
        | none => exact ⟨s1, by rw [eD, fm_take hv]; simp⟩
        | some b => exact absurd rfl c
    · obtain ⟨s1, eD⟩ := z
      rw [List.length_map, List.take_length] at eD
      have eD : H1 D = some (.lst (iv (bks st))) := eD
      have lb := bks_len st
      refine ⟨D, (bks st).map fun v : Nat => (v : Int), rfl, SqL.of (by rw [← iv_ints]; exact eD), by rw [List.length_map]; omega, fun L0 l2 hL _ nl2 => ?_⟩
      have h0 : ∀ z ∈ L0, 0 ≤ z := fun z hz => by
        obtain ⟨v, _, e⟩ := List.mem_map.mp (hL.mem_iff.mp hz)
        omega
      rw [ints_iv h0]
      have hmem : ∀ v, v ∈ L0.map Int.toNat ↔ v ∈ bks st := fun v => by
        rw [List.mem_map]
        constructor
        · rintro ⟨z, hz, rfl⟩
          obtain ⟨u, hu, e⟩ := List.mem_map.mp (hL.mem_iff.mp hz)
          rw [show z.toNat = u by omega]; exact hu
        · intro hv
          exact ⟨(v : Int), hL.mem_iff.mpr (List.mem_map.mpr ⟨v, hv, rfl⟩), by simp⟩
      have l0 : (L0.map Int.toNat).length ≤ n := by
        have := hL.length_eq
        rw [List.length_map] at this
        rw [List.length_map]; omega
      generalize L0.map Int.toNat = Bs at hmem l0
      have s2 := s1.new (u := .lst (iv Bs)) nl2
      refine ⟨_, rfl, l2, rfl, ⟨_, SqL.of upd_same⟩, fun D2 nD2 => ?_⟩
      refine lc_list (K := K) (a := l2) (xs := iv Bs) (fun i H' => ∃ Ns : List Nat, Sg K (upd H1 l2 (.lst (iv Bs))) H' ∧ H' D2 = some (.lst (iv Ns)) ∧ Ns.length ≤ i ∧ (∀ b ∈ Ns, b ∈ Bs.take i ∧ InRoom Ts st g b false) ∧ ∀ b ∈ Bs.take i, b ∉ Ns → InRoom Ts st g b true)
        ⟨[], ((Sm.refl _).new nD2).g, upd_same, Nat.le_refl _, (fun b hb => by cases hb), (fun b hb => by simp at hb)⟩ (fun i H' _ ⟨_, z, _⟩ => SqL.of (z.n.lst upd_same)) (fun i x H' hx z => ?_) (fun H' z => ?_)
      · obtain ⟨Ns, sg, eD2, hl, h1, h2⟩ := z
        obtain ⟨b, hb, rfl⟩ : ∃ b : Nat, Bs[i]? = some b ∧ x = .int b := by
          rw [List.getElem?_map] at hx
          cases e : Bs[i]? with
          | none => rw [e] at hx; cases hx
          | some u => rw [e] at hx; exact ⟨u, rfl, (Option.some.inj hx).symm⟩
        have hi : i < Bs.length := (List.getElem?_eq_some_iff.mp hb).1
        have hbB : b ∈ bks st := (hmem b).mp (List.mem_of_getElem? hb)
        obtain ⟨p, h, hpl⟩ := std_pl hok hbB
        have sg1 := s2.g.trans sg
        refine ⟨rfl, _, rfl, y, _, 2, .int (g : Int), rfl, rfl, SqT.of (sg1.n.tup ey), atI_nat (j := 2) rfl, ?_⟩
        refine ⟨_, rfl, _, rfl, _, rfl, y, a, b, n, g, p, h, Ts, st, rfl, hy.xn sg1.n, hY, hs.xn sg1.n, hok.len, hpl, hB.sg sg1, hA b p h hpl, fun H3 rl L t sg3 eL ht hLt hR => ?_⟩
        have hLg : (g ∈ L) ↔ GateIn Ts t g := hLt g
        have eD3 := sg3.n.lst eD2
        refine ⟨rl, _, rfl, .inr (SqT.of eL), rfl, iv_flat L, _, rfl, ite2 (fun c => ?_) (fun c => ?_)⟩
        · rw [if_pos rfl, inV_iv] at c
          have c' : g ∉ L := by simpa using c
          refine ⟨_, rfl, _, eD3, by unfold iv; rw [List.length_map]; exact small1000 (by omega), Ns ++ [b], (sg.trans sg3).upd nD2, ?_, ?_, ?_, ?_⟩
          · rw [upd_same]; simp [iv]
          · rw [List.length_append, List.length_singleton]; omega
          · intro x hx
            rw [take_succ' hb]
            rcases List.mem_append.mp hx with z | z
            · exact ⟨List.mem_append_left _ (h1 x z).1, (h1 x z).2⟩
            · have e : x = b := by simpa using z
              rw [e]
              exact ⟨by simp, p, h, t, hpl, ht, hR, ⟨fun z => (by cases z), fun z => absurd (hLg.mpr z) c'⟩⟩
          · intro x hx hn
            rw [take_succ' hb] at hx
            rcases List.mem_append.mp hx with z | z
            · exact h2 x z fun w => hn (List.mem_append_left _ w)
            · exact absurd (List.mem_append_right _ z) hn
        · rw [if_pos rfl, inV_iv] at c
          have c' : g ∈ L := by simpa using c
          refine ⟨Ns, sg.trans sg3, eD3, by omega, ?_, ?_⟩
          · intro x hx
            rw [take_succ' hb]
            exact ⟨List.mem_append_left _ (h1 x hx).1, (h1 x hx).2⟩
          · intro x hx hn
            rw [take_succ' hb] at hx
            rcases List.mem_append.mp hx with z | z
            · exact h2 x z hn
            · have e : x = b := by simpa using z
              rw [e]
              exact ⟨p, h, t, hpl, ht, hR, ⟨fun _ => hLg.mp c', fun _ => rfl⟩⟩
      · obtain ⟨Ns, sg, eD2, hl, h1, h2⟩ := z
        rw [iv, List.length_map] at hl h1 h2
        rw [List.take_length] at h1 h2
        exact q H' D2 Ns (s2.g.trans sg) eD2 (by omega) (fun b hb => ⟨(hmem b).mp (h1 b hb).1, (h1 b hb).2⟩) fun b hb hn => h2 b ((hmem b).mpr hb) hn
end
end HT
/-! text M8 -/
set_option maxHeartbeats 4000000
namespace HT
open PySem PySem.Spec PyProof.Rows L2
open GxR (TabG Tabbed)
/-- one hole -/
def OneHole (s : Std) : Prop := (bks s).length + 1 = s.length
section
variable {P : Program} {w : World} {K : PySem.W.Frag} {mg : Str → Option Value} {base : Heap}
def spOne (K : PySem.W.Frag) : Sp := fun vs H Q _ => ∃ (y a : Addr) (n g : Nat) (T : List (Nat × Nat)) (s : Std), vs = [.ref y, .ref a] ∧ YardAt H y n T g ∧ YardOk n T g ∧ FrS H a s ∧ StdOk n s ∧ OneHole s ∧ TbH K H ∧ ∀ H', Sg K H H' → Q .non H'
theorem sc_one : FnScope ["yard", "standing"] ["yard", "standing"] (defScope s_need_one_hole) := ⟨rfl, rfl, rfl, by decide +kernel, rfl, by decide +kernel, by decide +kernel⟩
theorem ok_need_one_hole (T : Txt K mg) (B : Tbs K mg base) : Ok P w K mg base CX0 4 "need_one_hole" ["yard", "standing"] (spOne K) := by
  refine ok_of (f_need_one_hole T) (g_need_one_hole T) sc_one (fun _ _ _ _ _ _ us hl => match us, hl with | [_, _], _ => rfl) (fun vs H Q E h => ?_) (fun cdv A outer s H vs Q E hcd hr h => ?_)
  · obtain ⟨y, a, n, g, T, s, rfl, _⟩ := h
    rfl
  · obtain ⟨y, a, n, g, Ts, st, rfl, hy, hY, hs, hok, h1, hB, q⟩ := h
    refine ⟨_, pss_cons (ps_expr (pe_cl (ok_need_yard T B) hr (pa_cons (pv 0) pa_nil)))
      (pss_cons (ps_expr (pe_cl (ok_need_standing T B) (hr.mono (by decide)) (pa_cons (pv 0) (pa_cons (pv 1) pa_nil))))
      (pss_one (ps_if (pt_cmpR op_ne (pe_bmF PySem.F.plainAttrs_tuple PySem.F.slot_tuple_count PySem.F.type_tuple_count mt_tcount (pv 1) (pa_cons pe_non pa_nil)) pe_int (nomark _)) pss_never pss_nil))), ?_⟩
    refine ⟨_, rfl, y, n, g, Ts, rfl, hy, hY, hB, fun H1 s1 => ?_⟩
    refine ⟨_, rfl, _, rfl, y, a, n, g, Ts, st, rfl, hy.xn s1.n, hY.n7, (hs.xn s1.n).at, hok, hB.sg s1, fun H2 s2 => ?_⟩
    have s3 := s1.trans s2
    have hs3 := hs.xn s3.n
    refine ⟨.ref a, rfl, ⟨a, _, rfl, hs3⟩, a, _, .non, rfl, rfl, hs3.at.sqT, rfl, flat_oV st, rfl, _, rfl, iteNS ?_ (q H2 s3)⟩
    have hc := count_non st
    unfold OneHole at h1
    rw [show ((st.map oV).countP fun z => eqV z .non) = 1 by omega]
    rfl
def spNever (K : PySem.W.Frag) : Sp := fun vs H Q _ => ∃ (y a : Addr) (n g : Nat) (T : List (Nat × Nat)) (s : Std), vs = [.ref y, .ref a] ∧ YardAt H y n T g ∧ YardOk n T g ∧ FrS H a s ∧ StdOk n s ∧ OneHole s ∧ TbH K H ∧ (∀ b p h, StdPl s b p h → ∃ t ∈ T, RoomT T p h t) ∧
  ∀ H' l (L : List Nat), Sg K H H' → H' l = some (.tup (iv L)) → L.length ≤ n → (∀ b ∈ L, b ∈ bks s ∧ InRoom T s g b false) → (∀ b ∈ bks s, b ∉ L → InRoom T s g b true) → Q (.ref l) H'
theorem sc_never : FnScope ["yard", "standing"] ["yard", "standing"] (defScope s_never) := ⟨rfl, rfl, rfl, by decide +kernel, rfl, by decide +kernel, by decide +kernel⟩
theorem ok_never (T : Txt K mg) (B : Tbs K mg base) : Ok P w K mg base CX0 7 "never" ["yard", "standing"] (spNever K) := by
  refine ok_of (f_never T) (g_never T) sc_never (fun _ _ _ _ _ _ us hl => match us, hl with | [_, _], _ => rfl) (fun vs H Q E h => ?_) (fun cdv A outer s H vs Q E hcd hr h => ?_)
  · obtain ⟨y, a, n, g, T, s, rfl, _⟩ := h
    rfl
  · obtain ⟨y, a, n, g, Ts, st, rfl, hy, hY, hs, hok, h1, hB, hA, q⟩ := h
    refine ⟨_, pss_cons (ps_expr (pe_cl (ok_need_one_hole T B) (hr.mono (by decide)) (pa_cons (pv 0) (pa_cons (pv 1) pa_nil))))
      (pss_one (ps_ret (pe_callTy call_tuple_of (by rfl) (m_tuple T) (by decide +kernel) (pa_cons (pe_cl (ok_never_of T B) hr (pa_cons (pv 0) (pa_cons (pv 1) pa_nil))) pa_nil)))), ?_⟩
    refine ⟨_, rfl, _, rfl, y, a, n, g, Ts, st, rfl, hy, hY, hs, hok, h1, hB, fun H1 s1 => ?_⟩
    refine ⟨_, rfl, _, rfl, y, a, n, g, Ts, st, rfl, hy.xn s1.n, hY, hs.xn s1.n, hok, hB.sg s1, hA, fun H2 l L s2 eL hl h1 h2 => ?_⟩
    exact ⟨l, _, rfl, .inl ⟨SqL.of eL, fun l2 nl2 => q _ l2 L ((s1.trans s2).trans ((Sm.refl H2).new nl2).g) upd_same hl h1 h2⟩⟩
/-! ### need_number, hardest -/
def spNeedNum : Sp := fun vs H Q _ => ∃ (k lo hi : Int), vs = [.int k, .int lo, .int hi] ∧ lo ≤ k ∧ k ≤ hi ∧ Q .non H
theorem sc_need_num : FnScope ["value", "low", "high"] ["value", "low", "high"] (defScope s_need_number) := ⟨rfl, rfl, rfl, by decide +kernel, rfl, by decide +kernel, by decide +kernel⟩
theorem ok_need_number (T : Txt K mg) : Ok P w K mg base CX0 2 "need_number" ["value", "low", "high"] spNeedNum := by
  refine ok_of (f_need_number T) (g_need_number T) sc_need_num (fun _ _ _ _ _ _ us hl => match us, hl with | [_, _, _], _ => rfl) (fun vs H Q E h => ?_) (fun cdv A outer s H vs Q E hcd hr h => ?_)
  · obtain ⟨k, lo, hi, rfl, _⟩ := h
    rfl
  · obtain ⟨k, lo, hi, rfl, h1, h2, q⟩ := h
    refine ⟨_, pss_one (ps_if (pt_not (pt_val (pe_cl (ok_is_number T) hr (pa_cons (pv 0) (pa_cons (pv 1) (pa_cons (pv 2) pa_nil)))))) pss_never pss_nil), ?_⟩
    refine ⟨_, rfl, _, rfl, _, rfl, _, lo, hi, rfl, .inl ⟨_, rfl⟩, ?_⟩
    rw [show isNum lo hi (.int k) = true by rw [isNum_int, decide_eq_true h1, decide_eq_true h2]; rfl]
    exact ⟨_, rfl, iteF q⟩
end
/-- the hardest program -/
def hardI (k : Nat) : List Ins := [("get", some (k : Int)), ("say", none)]
def hardP (b : Nat) : List Ins := ([("ask", none), ("zero", some 0)] : List Ins) ++ (List.range b).flatMap hardI
theorem hardP_succ (b : Nat) : hardP (b + 1) = hardP b ++ hardI b := by
  unfold hardP
  rw [List.range_succ, List.flatMap_append, List.append_assoc]; simp
theorem hardP_len (b : Nat) : (hardP b).length = 2 + 2 * b := by
  induction b with
  | zero => rfl
  | succ b ih => rw [hardP_succ, List.length_append, ih]; show 2 + 2 * b + 2 = _; omega
abbrev IsP (H : Hp) : List Addr → List Ins → Prop := Paired (fun t i => H t = some (.tup (insV i)))
theorem IsP.tn {H H' : Hp} {ts : List Addr} {p : List Ins} (e : Tn H H') (h : IsP H ts p) : IsP H' ts p := Paired.imp' (fun _ _ z => e.t _ _ z) h
section
variable {P : Program} {w : World} {K : PySem.W.Frag} {mg : Str → Option Value} {base : Heap}
def spHardest : Sp := fun vs H Q _ => ∃ (b : Nat), vs = [.int (b : Int)] ∧ 1 ≤ b ∧ b ≤ 6 ∧ ∀ H' l, Sm H H' → PrAt H' l (hardP b) → Q (.ref l) H'
theorem sc_hardest : FnScope ["books", "found", "book"] ["books"] (defScope s_hardest) := ⟨rfl, rfl, rfl, by decide +kernel, rfl, by decide +kernel, by decide +kernel⟩
theorem ok_hardest (T : Txt K mg) : Ok P w K mg base CX0 3 "hardest" ["books"] spHardest := by
  refine ok_of (f_hardest T) (g_hardest T) sc_hardest (fun _ _ _ _ _ _ us hl => match us, hl with | [_], _ => rfl) (fun vs H Q E h => ?_) (fun cdv A outer s H vs Q E hcd hr h => ?_)
  · obtain ⟨b, rfl, _⟩ := h
    rfl
  · obtain ⟨b, rfl, h1, h6, q⟩ := h
    have nd := sc_hardest.nd
    refine ⟨_, pss_cons (ps_expr (pe_cl (ok_need_number T) hr (pa_cons (pv 0) (pa_cons pe_int (pa_cons pe_int pa_nil)))))
      (pss_cons (ps_set (i := 1) nd rfl (.inl rfl) (pe_lst (pa_cons (pe_tup (pa_cons pe_str pa_nil)) (pa_cons (pe_tup (pa_cons pe_str (pa_cons pe_int pa_nil))) pa_nil))))
      (pss_cons (ps_for PassesOwn.never rfl (pi_range1 rfl (m_range T) (pa_cons (pv 0) pa_nil)) (pg_name (i := 2) nd rfl (.inl rfl))
        (pss_one (ps_expr (pe_bm PySem.F.plainAttrs_list PySem.F.slot_list_extend PySem.F.type_list_extend mt_extend (pv 1) (pa_cons
            (pe_lst (pa_cons (pe_tup (pa_cons (pe_ix ix_tup (pe_glob (v := .ref (He.ga K "ASKING")) (by rfl) (g_ASKING T) rfl) pe_int (fun _ _ => rfl)) (pa_cons (pv 2) pa_nil))) (pa_cons (pe_tup (pa_cons pe_str pa_nil)) pa_nil))) pa_nil)))))
      (pss_one (ps_ret (pe_callTy call_tuple_of (by rfl) (m_tuple T) (by decide +kernel) (pa_cons (pv 1) pa_nil)))))), ?_⟩
    have hask : ∀ H' : Hp, SqT K H' (He.ga K "ASKING") [.str "get", .str "plus", .str "minus", .str "set"] := fun H' => asking_at T H'
    refine ⟨_, rfl, _, 1, 6, rfl, by omega, by omega, ?_⟩
    refine ⟨(by show 1 ≤ sizeLine; decide), fun t1 n1 => ?_⟩
    refine ⟨(by show 2 ≤ sizeLine; decide), fun t2 n2' => ?_⟩
    refine ⟨(by show 2 ≤ sizeLine; decide), fun F nF => ?_⟩
    have s1 := (Sm.refl H).new (u := .tup [.str "ask"]) n1
    have s2 := s1.new (u := .tup [.str "zero", .int 0]) n2'
    have s3 := s2.new (u := .lst [.ref t1, .ref t2]) nF
    have nF0 : H F = none := s2.free nF
    have e1 : upd (upd (upd H t1 (.tup [.str "ask"])) t2 (.tup [.str "zero", .int 0])) F (.lst [.ref t1, .ref t2]) t1 = some (.tup [.str "ask"]) := by
      have h12 : t1 ≠ t2 := ne_of_none (H := upd H t1 (.tup [.str "ask"])) upd_same n2'
      have h1F : t1 ≠ F := ne_of_none (H := upd (upd H t1 (.tup [.str "ask"])) t2 (.tup [.str "zero", .int 0])) (by rw [upd_ne h12]; exact upd_same) nF
      rw [upd_ne h1F, upd_ne h12]; exact upd_same
    have e2 : upd (upd (upd H t1 (.tup [.str "ask"])) t2 (.tup [.str "zero", .int 0])) F (.lst [.ref t1, .ref t2]) t2 = some (.tup [.str "zero", .int 0]) := by
      have h2F : t2 ≠ F := ne_of_none (H := upd (upd H t1 (.tup [.str "ask"])) t2 (.tup [.str "zero", .int 0])) upd_same nF
      rw [upd_ne h2F]; exact upd_same
    refine ⟨_, rfl, _, rfl, by omega, by omega, for_range (lo := 0) (n := b) (fun i σ H' => ∃ (ts : List Addr) (y2 : Option V), σ = [some (.int (b : Int)), some (.ref F), y2] ∧ Sm H H' ∧ H' F = some (.lst (ts.map V.ref)) ∧ IsP H' ts (hardP i))
      ⟨[t1, t2], none, rfl, s3, upd_same, .cons e1 (.cons e2 .nil)⟩ (fun i σ H' hi z => ?_) (fun σ H' z => ?_)⟩
    · rw [Int.zero_add]
      obtain ⟨ts, y2, rfl, sm, eF, pT⟩ := z
      have lts := Paired.length pT
      rw [hardP_len] at lts
      refine ⟨.ref F, rfl, .inl ⟨rfl, _, SqL.of eF⟩, He.ga K "ASKING", _, 0, .str "get", rfl, rfl, hask _, atI_nat (j := 0) rfl, _, rfl, (by show 2 ≤ sizeLine; decide), fun u1 m1 => ?_⟩
      refine ⟨(by show 1 ≤ sizeLine; decide), fun u2 m2 => ?_⟩
      refine ⟨(by show 2 ≤ sizeLine; decide), fun D nD => ?_⟩
      have s4 := (Sm.refl H').new (u := .tup [.str "get", .int (i : Int)]) m1
      have s5 := s4.new (u := .tup [.str "say"]) m2
      have s6 := s5.new (u := .lst [.ref u1, .ref u2]) nD
      have f2 : upd (upd (upd H' u1 (.tup [.str "get", .int (i : Int)])) u2 (.tup [.str "say"])) D (.lst [.ref u1, .ref u2]) u2 = some (.tup [.str "say"]) := by
        rw [upd_ne (ne_of_none (H := upd (upd H' u1 (.tup [.str "get", .int (i : Int)])) u2 (.tup [.str "say"])) upd_same nD)]; exact upd_same
      have f1 : upd (upd (upd H' u1 (.tup [.str "get", .int (i : Int)])) u2 (.tup [.str "say"])) D (.lst [.ref u1, .ref u2]) u1 = some (.tup [.str "get", .int (i : Int)]) := by
        have h12 : u1 ≠ u2 := ne_of_none (H := upd H' u1 (.tup [.str "get", .int (i : Int)])) upd_same m2
        rw [upd_ne (ne_of_none (H := upd (upd H' u1 (.tup [.str "get", .int (i : Int)])) u2 (.tup [.str "say"])) (by rw [upd_ne h12]; exact upd_same) nD), upd_ne h12]; exact upd_same
      have eF6 := s6.lst eF
      refine ⟨F, D, ts.map V.ref, _, rfl, rfl, eF6, upd_same, ?_, ts ++ [u1, u2], _, rfl, (sm.trans s6).upd nF0, ?_, ?_⟩
      · rw [List.length_map]; exact Nat.le_of_lt (small1000 (by show _ + 2 ≤ 1000; omega))
      · rw [upd_same, List.map_append]; rfl
      · rw [hardP_succ]
        have h1 : IsP (upd (upd (upd H' u1 (.tup [.str "get", .int (i : Int)])) u2 (.tup [.str "say"])) D (.lst [.ref u1, .ref u2])) (ts ++ [u1, u2]) (hardP i ++ hardI i) := paired_app (Paired.imp' (fun t p z => s6.tup z) pT) (.cons f1 (.cons f2 .nil))
        exact Paired.imp' (fun t p z => by rw [upd_ne (fun zz => by rw [zz, eF6] at z; cases z)]; exact z) h1
    · obtain ⟨ts, y2, rfl, sm, eF, pT⟩ := z
      refine ⟨_, rfl, F, _, rfl, .inl ⟨SqL.of eF, fun l nl => ?_⟩⟩
      have s7 := (Sm.refl H').new (u := .tup (ts.map V.ref)) nl
      exact q _ l (sm.trans s7) ⟨ts, upd_same, Paired.imp' (fun t p z => s7.tup z) pT⟩
end
end HT
/-! text L1 -/
set_option maxHeartbeats 4000000
namespace HT
open PySem PySem.Spec PyProof.Rows L2
/-! ### the law's draws -/
def RowAt (K : PySem.W.Frag) (sc : Addr) (H : Hp) (r : Addr) : Prop := ∃ (cs : List Int) (i : Nat) (z d : Int), H r = some (.lst [.ref sc, .int (i : Int), .int z, .int d]) ∧ sc ≠ r ∧ SqL K H sc (cs.map V.int) ∧ 0 ≤ z ∧ z < 2147483647 ∧ 0 ≤ d
/-- all but r is kept -/
def Sr (r : Addr) (H H' : Hp) : Prop := ∀ b o, b ≠ r → H b = some o → H' b = some o
theorem Sr.refl (r : Addr) (H : Hp) : Sr r H H := fun _ _ _ h => h
theorem Sr.trans {r : Addr} {H H1 H2 : Hp} (a : Sr r H H1) (b : Sr r H1 H2) : Sr r H H2 := fun c o n h => b c o n (a c o n h)
theorem Sr.upd {r : Addr} {H H' : Hp} (a : Sr r H H') (u : HO) : Sr r H (L2.upd H' r u) := fun c o n h => by rw [upd_ne n]; exact a c o n h
theorem Sr.sqL {K : PySem.W.Frag} {r l : Addr} {H H' : Hp} {xs : List V} (a : Sr r H H') (n : l ≠ r) (h : SqL K H l xs) : SqL K H' l xs := by
  rcases h with (h | ⟨o, h⟩) | h
  · exact .inl (.inl (a _ _ n h))
  · exact .inl (.inr ⟨o, a _ _ n h⟩)
  · exact .inr h
section
variable {P : Program} {w : World} {K : PySem.W.Frag} {mg : Str → Option Value} {base : Heap}
def spTaken (K : PySem.W.Frag) : Sp := fun vs H Q _ => ∃ (sc r : Addr) (m : Nat), vs = [.ref r, .int (m : Int)] ∧ 1 ≤ m ∧ m ≤ 500 ∧ RowAt K sc H r ∧ ∀ H' (k : Nat), Sr r H H' → RowAt K sc H' r → k < m → Q (.int (k : Int)) H'
theorem sc_taken : FnScope ["_law_row", "_law_many", "_law_found", "_law_cell"] ["_law_row", "_law_many"] (defScope s_law_taken) := ⟨rfl, rfl, rfl, by decide +kernel, rfl, by decide +kernel, by decide +kernel⟩
theorem emod_nat {x : Int} {m : Nat} (h : 1 ≤ m) : ∃ k : Nat, x % (m : Int) = (k : Int) ∧ k < m := by
  have h1 := Int.emod_nonneg x (b := (m : Int)) (by omega)
  have h2 := Int.emod_lt_of_pos x (b := (m : Int)) (by omega)
  exact ⟨(x % (m : Int)).toNat, by omega, by omega⟩
theorem ok_law_taken (T : Txt K mg) : Ok P w K mg base CX0 1 "_law_taken" ["_law_row", "_law_many"] (spTaken K) := by
  refine ok_of (f_law_taken T) (g_law_taken T) sc_taken (fun _ _ _ _ _ _ us hl => match us, hl with | [_, _], _ => rfl) (fun vs H Q E h => ?_) (fun cdv A outer s H vs Q E hcd hr h => ?_)
  · obtain ⟨sc, r, m, rfl, _⟩ := h
    rfl
  · obtain ⟨sc, r, m, rfl, h1, h5, ⟨cs, i, z, d, eR, nsc, hS, z0, zM, d0⟩, q⟩ := h
    have nd := sc_taken.nd
    refine ⟨_, pss_cons (ps_if (pt_cmpR op_gt (pe_ix ix_list (pv 0) pe_int (fun _ _ => rfl)) pe_int (nomark _))
          (pss_cons (ps_set (i := 2) nd rfl (.inl rfl) (pe_op op_mod (pe_callTy call_int1 (by rfl) (m_int T) (by decide +kernel) (pa_cons (pe_ix ix_list (pv 0) pe_int (fun _ _ => rfl)) pa_nil)) (pv 1)))
          (pss_cons (ps_asg (pe_op op_fdivW (pe_ix ix_list (pv 0) pe_int (fun _ _ => rfl)) (pv 1)) (pg_sub (pv 0) pe_int set_list))
          (pss_one (ps_ret (pv 2))))) pss_nil)
      (pss_cons (ps_asg (pe_op op_add (pe_ix ix_list (pv 0) pe_int (fun _ _ => rfl)) pe_int) (pg_sub (pv 0) pe_int set_list))
      (pss_cons (ps_if (pt_cmpR op_gt (pe_ix ix_list (pv 0) pe_int (fun _ _ => rfl)) (pe_callB call_len_seq (by rfl) (m_len T) PySem.boot_len (pa_cons (pe_ix ix_list (pv 0) pe_int (fun _ _ => rfl)) pa_nil)) (nomark _))
          (pss_cons (ps_asg (pe_op op_mod (pe_callTy call_int1 (by rfl) (m_int T) (by decide +kernel) (pa_cons (pe_op op_add (pe_op op_mulW (pe_ix ix_list (pv 0) pe_int (fun _ _ => rfl)) pe_int) pe_int) pa_nil)) pe_int) (pg_sub (pv 0) pe_int set_list))
          (pss_one (ps_ret (pe_op op_mod (pe_callTy call_int1 (by rfl) (m_int T) (by decide +kernel) (pa_cons (pe_op op_fdivW (pe_ix ix_list (pv 0) pe_int (fun _ _ => rfl)) pe_int) pa_nil)) (pv 1))))) pss_nil)
      (pss_cons (ps_set (i := 3) nd rfl (.inl rfl) (pe_ix ix_list (pe_ix ix_list (pv 0) pe_int (fun _ _ => rfl)) (pe_op op_sub (pe_ix ix_list (pv 0) pe_int (fun _ _ => rfl)) pe_int) (fun _ _ => rfl)))
      (pss_cons (ps_asg (pe_op op_mod (pe_callTy call_int1 (by rfl) (m_int T) (by decide +kernel) (pa_cons (pe_op op_add (pe_op op_add (pe_op op_mulW (pe_ix ix_list (pv 0) pe_int (fun _ _ => rfl)) pe_int) (pv 3)) pe_int) pa_nil)) pe_int) (pg_sub (pv 0) pe_int set_list))
      (pss_cons (ps_if (pt_cmpR op_ge (pv 3) (pe_op op_pow pe_int pe_int) (nomark _)) (pss_one (ps_asg (pe_op op_fdivW (pv 3) (pv 1)) (pg_sub (pv 0) pe_int set_list))) pss_nil)
      (pss_one (ps_ret (pe_op op_mod (pe_callTy call_int1 (by rfl) (m_int T) (by decide +kernel) (pa_cons (pv 3) pa_nil)) (pv 1))))))))), ?_⟩
    have hdv : ∀ x : Int, CDivW x (m : Int) := fun x => wide_div (by omega) (b := 9) (by have : (2 : Nat) ^ 9 = 512 := rfl; omega) (by decide) (by decide)
    have hd7 : ∀ x : Int, CDivW x 7 := fun x => wide_div (by omega) (b := 9) (by have : (2 : Nat) ^ 9 = 512 := rfl; omega) (by decide) (by decide)
    have hml : ∀ x : Int, 0 ≤ x → x < 2147483647 → CMulW x 48271 := fun x a b => wide_mul (a := 31) (b := 16) (by have : (2 : Nat) ^ 31 = 2147483648 := rfl; omega) (by have : (2 : Nat) ^ 16 = 65536 := rfl; omega) (by decide) (by decide) (by decide)
    have hmd : ∀ x : Int, 0 ≤ x % 2147483647 ∧ x % 2147483647 < 2147483647 := fun x => ⟨Int.emod_nonneg x (by decide), Int.emod_lt_of_pos x (by decide)⟩
    have mp : (0 : Int) < (m : Int) := by omega
    have sr0 : Sr r H H := Sr.refl r H
    have row : ∀ (H' : Hp) (i' : Nat) (z' d' : Int), Sr r H H' → H' r = some (.lst [.ref sc, .int (i' : Int), .int z', .int d']) → 0 ≤ z' → z' < 2147483647 → 0 ≤ d' → RowAt K sc H' r := fun H' i' z' d' sr e a b c => ⟨cs, i', z', d', e, nsc, sr.sqL nsc hS, a, b, c⟩
    refine ⟨_, rfl, r, _, 3, .int d, rfl, rfl, SqL.of eR, atI_nat (j := 3) rfl, _, _, rfl, rfl, _, rfl, ite2 (fun c => ?_) (fun c => ?_)⟩
    · have c' : (0 : Int) < d := of_decide_eq_true c
      refine ⟨_, rfl, r, _, 3, .int d, rfl, rfl, SqL.of eR, atI_nat (j := 3) rfl, .inl ⟨d, rfl, _, rfl, d, m, rfl, rfl, mp, ?_⟩⟩
      refine ⟨_, rfl, r, _, 3, .int d, rfl, rfl, SqL.of eR, atI_nat (j := 3) rfl, _, rfl, d, m, rfl, rfl, hdv d, ?_⟩
      refine ⟨_, rfl, r, _, 3, 3, rfl, rfl, eR, ixN_nat (j := 3) (by show 3 < 4; decide), ?_⟩
      obtain ⟨k, ek, hk⟩ := emod_nat (x := d) h1
      refine ⟨_, rfl, ?_⟩
      show Q (.int (d % (m : Int))) _
      rw [ek]
      refine q _ k (sr0.upd _) (row _ i z (d / m) (sr0.upd _) upd_same z0 zM (Int.ediv_nonneg d0 (by omega))) hk
    · refine ⟨_, rfl, r, _, 1, .int i, rfl, rfl, SqL.of eR, atI_nat (j := 1) rfl, _, _, rfl, rfl, ?_⟩
      refine ⟨_, rfl, r, _, 1, 1, rfl, rfl, eR, ixN_nat (j := 1) (by show 1 < 4; decide), ?_⟩
      have sr1 := sr0.upd (.lst [.ref sc, .int ((i : Int) + 1), .int z, .int d])
      have e1 : upd H r (.lst [.ref sc, .int ((i : Int) + 1), .int z, .int d]) r = _ := upd_same
      have hS1 := sr1.sqL nsc hS
      refine ⟨_, rfl, r, _, 1, .int ((i : Int) + 1), rfl, rfl, SqL.of e1, atI_nat (j := 1) rfl, ?_⟩
      refine ⟨_, rfl, r, _, 0, .ref sc, rfl, rfl, SqL.of e1, atI_nat (j := 0) rfl, sc, _, rfl, .inl hS1, _, _, rfl, rfl, _, rfl, ite2 (fun c => ?_) (fun c => ?_)⟩
      · refine ⟨_, rfl, r, _, 2, .int z, rfl, rfl, SqL.of e1, atI_nat (j := 2) rfl, z, 48271, rfl, rfl, hml z z0 zM, _, _, rfl, rfl, .inl ⟨_, rfl, _, _, rfl, rfl, (by show (0 : Int) < 2147483647; decide), ?_⟩⟩
        refine ⟨_, rfl, r, _, 2, 2, rfl, rfl, e1, ixN_nat (j := 2) (by show 2 < 4; decide), ?_⟩
        have sr2 := sr1.upd (.lst [.ref sc, .int ((i : Int) + 1), .int ((z * 48271 + 11) % 2147483647), .int d])
        have e2 : upd (upd H r (.lst [.ref sc, .int ((i : Int) + 1), .int z, .int d])) r (.lst [.ref sc, .int ((i : Int) + 1), .int ((z * 48271 + 11) % 2147483647), .int d]) r = _ := upd_same
        refine ⟨_, rfl, r, _, 2, .int ((z * 48271 + 11) % 2147483647), rfl, rfl, SqL.of e2, atI_nat (j := 2) rfl, _, 7, rfl, rfl, hd7 _, .inl ⟨_, rfl, _, rfl, _, m, rfl, rfl, mp, ?_⟩⟩
        obtain ⟨k, ek, hk⟩ := emod_nat (x := (z * 48271 + 11) % 2147483647 / 7) h1
        show Q (.int ((z * 48271 + 11) % 2147483647 / 7 % (m : Int))) _
        rw [ek]
        exact q _ k sr2 (row _ (i + 1) _ d sr2 upd_same (hmd _).1 (hmd _).2 d0) hk
      · have hi : i < cs.length := by
          refine Decidable.byContradiction fun z => c (decide_eq_true ?_)
          rw [List.length_map]; omega
        refine ⟨_, rfl, r, _, 0, .ref sc, rfl, rfl, SqL.of e1, atI_nat (j := 0) rfl, ?_⟩
        refine ⟨_, rfl, r, _, 1, .int ((i : Int) + 1), rfl, rfl, SqL.of e1, atI_nat (j := 1) rfl, _, _, rfl, rfl, ?_⟩
        refine ⟨sc, _, _, .int cs[i], rfl, rfl, hS1, ?_, ?_⟩
        · rw [show ((i : Int) + 1 - 1) = (i : Int) by omega]
          exact atI_nat (j := i) (by rw [List.getElem?_map, List.getElem?_eq_getElem hi]; rfl)
        generalize cs[i] = c0
        refine ⟨_, rfl, r, _, 2, .int z, rfl, rfl, SqL.of e1, atI_nat (j := 2) rfl, z, 48271, rfl, rfl, hml z z0 zM, _, rfl, _, _, rfl, rfl, _, _, rfl, rfl, .inl ⟨_, rfl, _, _, rfl, rfl, (by show (0 : Int) < 2147483647; decide), ?_⟩⟩
        refine ⟨_, rfl, r, _, 2, 2, rfl, rfl, e1, ixN_nat (j := 2) (by show 2 < 4; decide), ?_⟩
        have sr2 := sr1.upd (.lst [.ref sc, .int ((i : Int) + 1), .int ((z * 48271 + c0 + 11) % 2147483647), .int d])
        have e2 : upd (upd H r (.lst [.ref sc, .int ((i : Int) + 1), .int z, .int d])) r (.lst [.ref sc, .int ((i : Int) + 1), .int ((z * 48271 + c0 + 11) % 2147483647), .int d]) r = _ := upd_same
        have fin : ∀ H' (d' : Int), Sr r H H' → H' r = some (.lst [.ref sc, .int ((i : Int) + 1), .int ((z * 48271 + c0 + 11) % 2147483647), .int d']) → 0 ≤ d' → Q (.int (c0 % (m : Int))) H' := fun H' d' sr e hd => by
          obtain ⟨k, ek, hk⟩ := emod_nat (x := c0) h1
          rw [ek]
          exact q _ k sr (row _ (i + 1) _ d' sr e (hmd _).1 (hmd _).2 hd) hk
        refine ⟨_, rfl, _, _, rfl, rfl, ⟨by decide, by decide, by decide⟩, _, _, rfl, rfl, _, rfl, ite2 (fun c => ?_) (fun c => ?_)⟩
        · have c' := of_decide_eq_true c
          have hc0 : 0 ≤ c0 := by
            have : (0 : Int) ≤ 10 ^ (18 : Int).toNat := by decide
            omega
          refine ⟨_, rfl, _, rfl, c0, m, rfl, rfl, hdv c0, ?_⟩
          refine ⟨_, rfl, r, _, 3, 3, rfl, rfl, e2, ixN_nat (j := 3) (by show 3 < 4; decide), ?_⟩
          exact ⟨_, rfl, .inl ⟨_, rfl, _, rfl, _, _, rfl, rfl, mp, fin _ (c0 / m) (sr2.upd _) upd_same (Int.ediv_nonneg hc0 (by omega))⟩⟩
        · exact ⟨_, rfl, .inl ⟨_, rfl, _, rfl, _, _, rfl, rfl, mp, fin _ d sr2 e2 d0⟩⟩
end
end HT
/-! text L2a -/
set_option maxHeartbeats 4000000
namespace HT
open PySem PySem.Spec PyProof.Rows L2
section
variable {P : Program} {w : World} {K : PySem.W.Frag} {mg : Str → Option Value} {base : Heap}
def spPick (K : PySem.W.Frag) : Sp := fun vs H Q _ => ∃ (sc r l : Addr) (xs : List V), vs = [.ref r, .ref l] ∧ l ≠ r ∧ SqL K H l xs ∧ 1 ≤ xs.length ∧ xs.length ≤ 500 ∧ RowAt K sc H r ∧ ∀ H' x, Sr r H H' → RowAt K sc H' r → x ∈ xs → Q x H'
theorem sc_pick : FnScope ["_law_row", "_law_things"] ["_law_row", "_law_things"] (defScope s_law_pick) := ⟨rfl, rfl, rfl, by decide +kernel, rfl, by decide +kernel, by decide +kernel⟩
theorem ok_law_pick (T : Txt K mg) : Ok P w K mg base CX0 2 "_law_pick" ["_law_row", "_law_things"] (spPick K) := by
  refine ok_of (f_law_pick T) (g_law_pick T) sc_pick (fun _ _ _ _ _ _ us hl => match us, hl with | [_, _], _ => rfl) (fun vs H Q E h => ?_) (fun cdv A outer s H vs Q E hcd hr h => ?_)
  · obtain ⟨sc, r, l, xs, rfl, _⟩ := h
    rfl
  · obtain ⟨sc, r, l, xs, rfl, hn, hs, h1, h5, hR, q⟩ := h
    refine ⟨_, pss_one (ps_ret (pe_ix ix_list (pv 1) (pe_cl (ok_law_taken T) hr (pa_cons (pv 0) (pa_cons (pe_callB call_len_seq (by rfl) (m_len T) PySem.boot_len (pa_cons (pv 1) pa_nil)) pa_nil))) (fun _ _ => rfl))), ?_⟩
    refine ⟨_, rfl, _, rfl, _, rfl, l, _, rfl, .inl hs, sc, r, xs.length, rfl, h1, h5, hR, fun H1 k sr hR1 hk => ?_⟩
    exact ⟨l, xs, (k : Int), xs[k], rfl, rfl, sr.sqL hn hs, atI_nat (j := k) (List.getElem?_eq_getElem hk), q H1 _ sr hR1 (List.getElem_mem hk)⟩
theorem sc_law_near : FnScope ["_law_ties", "_law_place", "_law_one", "_law_other"] ["_law_ties", "_law_place"] (defScope s_law_near) := ⟨rfl, rfl, rfl, by decide +kernel, rfl, by decide +kernel, by decide +kernel⟩
theorem ok_law_near (T : Txt K mg) : Ok P w K mg base CX0 1 "_law_near" ["_law_ties", "_law_place"] spNear := by
  refine ok_of (f_law_near T) (g_law_near T) sc_law_near (fun _ _ _ _ _ _ us hl => match us, hl with | [_, _], _ => rfl) (fun vs H Q E h => ?_) (fun cdv A outer s H vs Q E hcd hr h => ?_)
  · obtain ⟨a, T, p, rfl, _⟩ := h
    rfl
  · obtain ⟨a, Ts, p, rfl, hT, hlen, q⟩ := h
    have nd := sc_law_near.nd
    refine ⟨_, pss_one (ps_ret (pe_callB cr_sorted (by rfl) (m_sorted T) (by decide +kernel) (pa_cons (pe_op op_cat
        (pe_lc (own := [("_law_one", 2), ("_law_other", 3)]) (g := gTup K 2 (gCons (gName 2) (gCons (gName 3) gNil))) rfl nd (pi_tup (pv 0)) (blkOk_by (N := ["_law_ties", "_law_place", "_law_one", "_law_other"]) (sc := defScope s_law_near) (by decide +kernel)) (fun _ _ _ _ _ => by exact pg_tup rfl (pgs_cons (pg_name (i := 2) nd rfl (.inl rfl)) (pgs_cons (pg_name (i := 3) nd rfl (.inl rfl)) pgs_nil)))
          (fun _ _ _ _ _ => pts_one (pt_cmpR op_eq (pv 3) (pv 1) (nomark _))) (fun _ _ _ _ _ => pv 2))
        (pe_lc (own := [("_law_one", 2), ("_law_other", 3)]) (g := gTup K 2 (gCons (gName 2) (gCons (gName 3) gNil))) rfl nd (pi_tup (pv 0)) (blkOk_by (N := ["_law_ties", "_law_place", "_law_one", "_law_other"]) (sc := defScope s_law_near) (by decide +kernel)) (fun _ _ _ _ _ => by exact pg_tup rfl (pgs_cons (pg_name (i := 2) nd rfl (.inl rfl)) (pgs_cons (pg_name (i := 3) nd rfl (.inl rfl)) pgs_nil)))
          (fun _ _ _ _ _ => pts_one (pt_cmpR op_eq (pv 2) (pv 1) (nomark _))) (fun _ _ _ _ _ => pv 3))) pa_nil))), ?_⟩
    obtain ⟨ts, ha, hp⟩ := hT
    have lT : ts.length = Ts.length := Paired.length hp
    refine ⟨_, rfl, a, rfl, ⟨_, SqT.of ha⟩, fun D1 n1 => ?_⟩
    refine lc_tup (K := K) (a := a) (xs := ts.map V.ref) (fun i H' => Sm H H' ∧ H' D1 = some (.lst (((Ts.take i).filter fun t => t.2 = p).map fun t => V.int (t.1 : Int)))) ⟨(Sm.refl H).upd n1, upd_same⟩ (fun i H' _ z => SqT.of (z.1.tup ha)) (fun i x H' hx z => ?_) (fun H1 z => ?_)
    · obtain ⟨sm, eD⟩ := z
      obtain ⟨t, u, rfl, e1, e2, e3⟩ := TiesAt.get hp hx
      refine ⟨t, _, rfl, SqT.of (sm.tup e3), rfl, _, _, rfl, _, _, rfl, rfl, rfl, ?_⟩
      refine ⟨_, rfl, _, rfl, rfl, _, rfl, ?_⟩
      refine ite2 (fun c => ?_) (fun c => ?_)
      · have c' : u.2 = p := by have z := V.int.inj (of_decide_eq_true c); omega
        refine ⟨_, rfl, _, eD, ?_, sm.upd n1, ?_⟩
        · rw [List.length_map]
          refine small1000 (Nat.le_trans (List.length_filter_le _ _) ?_)
          rw [List.length_take]; omega
        · rw [upd_same, take_succ' e2, List.filter_append, List.map_append]
          simp [c']
      · have c' : u.2 ≠ p := fun z => c (decide_eq_true (by rw [z]))
        refine ⟨sm, ?_⟩
        rw [eD, take_succ' e2, List.filter_append, List.map_append]
        simp [c']
    · obtain ⟨sm, eD⟩ := z
      rw [List.length_map, lT, List.take_length] at eD
      refine ⟨_, rfl, a, rfl, ⟨_, SqT.of (sm.tup ha)⟩, fun D2 n2 => ?_⟩
      have n12 : D1 ≠ D2 := ne_of_none eD n2
      refine lc_tup (K := K) (a := a) (xs := ts.map V.ref) (fun i H' => Sm H1 H' ∧ H' D2 = some (.lst (((Ts.take i).filter fun t => t.1 = p).map fun t => V.int (t.2 : Int)))) ⟨(Sm.refl H1).upd n2, upd_same⟩ (fun i H' _ z => SqT.of (z.1.tup (sm.tup ha))) (fun i x H' hx z => ?_) (fun H2 z => ?_)
      · obtain ⟨sm2, eD2⟩ := z
        obtain ⟨t, u, rfl, e1, e2, e3⟩ := TiesAt.get hp hx
        refine ⟨t, _, rfl, SqT.of (sm2.tup (sm.tup e3)), rfl, _, _, rfl, _, _, rfl, rfl, rfl, ?_⟩
        refine ⟨_, rfl, _, rfl, rfl, _, rfl, ?_⟩
        refine ite2 (fun c => ?_) (fun c => ?_)
        · have c' : u.1 = p := by have z := V.int.inj (of_decide_eq_true c); omega
          refine ⟨_, rfl, _, eD2, ?_, sm2.upd n2, ?_⟩
          · rw [List.length_map]
            refine small1000 (Nat.le_trans (List.length_filter_le _ _) ?_)
            rw [List.length_take]; omega
          · rw [upd_same, take_succ' e2, List.filter_append, List.map_append]
            simp [c']
        · have c' : u.1 ≠ p := fun z => c (decide_eq_true (by rw [z]))
          refine ⟨sm2, ?_⟩
          rw [eD2, take_succ' e2, List.filter_append, List.map_append]
          simp [c']
      · obtain ⟨sm2, eD2⟩ := z
        rw [List.length_map, lT, List.take_length] at eD2
        have l1 := List.length_filter_le (fun t : Nat × Nat => decide (t.2 = p)) Ts
        have l2 := List.length_filter_le (fun t : Nat × Nat => decide (t.1 = p)) Ts
        refine ⟨D1, D2, _, _, rfl, rfl, sm2.lst eD, eD2, ?_, fun l nl => ?_⟩
        · rw [List.length_map, List.length_map]
          exact Nat.le_of_lt (small1000 (by omega))
        · have eL : (((Ts.filter fun t => t.2 = p).map fun t => V.int (t.1 : Int)) ++ ((Ts.filter fun t => t.1 = p).map fun t => V.int (t.2 : Int))) = (nearL Ts p).map V.int := by
            unfold nearL
            rw [List.map_append, List.map_map, List.map_map]
            rfl
          rw [eL]
          have s3 : Sm H (upd H2 l (.lst ((nearL Ts p).map V.int))) := (sm.trans sm2).new nl
          refine ⟨l, nearL Ts p, rfl, SqL.of upd_same, ?_, fun L l2 hL _ nl2 => q _ l2 L (s3.new nl2) (s3.free nl2) upd_same hL⟩
          unfold nearL
          rw [List.length_append, List.length_map, List.length_map]
          omega
end
end HT
/-! text L3 -/
set_option maxHeartbeats 4000000
namespace HT
open PySem PySem.Spec PyProof.Rows L2
/-- reached from s within the lot -/
inductive RL (T : List (Nat × Nat)) (L : List Nat) (s : Nat) : Nat → Prop
  | base : RL T L s s
  | step {u v : Nat} : RL T L s u → adj T u v → v ∈ L → RL T L s v
theorem rl_edge {T : List (Nat × Nat)} {L F : List Nat} {s v : Nat} (h : RL T L s v) (hs : s ∈ F) (hv : v ∉ F) : ∃ a ∈ F, ∃ b, b ∉ F ∧ adj T a b ∧ b ∈ L := by
  induction h with
  | base => exact absurd hs hv
  | step r a m ih =>
    rename_i u v
    by_cases hu : u ∈ F
    · exact ⟨u, hu, v, hv, a, m⟩
    · exact ih hu
structure HlI (T : List (Nat × Nat)) (L : List Nat) (s i : Nat) (F : List Nat) : Prop where
  nd : F.Nodup
  re : ∀ v ∈ F, v ∈ L ∧ RL T L s v
  st : s ∈ F
  le : (∀ v ∈ L, RL T L s v) → min L.length (i + 1) ≤ F.length
structure HlJ (T : List (Nat × Nat)) (L : List Nat) (s : Nat) (F0 F D : List Nat) : Prop where
  nd : F.Nodup
  re : ∀ v ∈ F, v ∈ L ∧ RL T L s v
  sub : F0 ⊆ F
  cl : ∀ a ∈ D, ∀ b, adj T a b → b ∈ L → b ∈ F
theorem HlI.turn {T : List (Nat × Nat)} {L F F0 : List Nat} {s i : Nat} (ndL : L.Nodup) (h : HlI T L s i F0) (j : HlJ T L s F0 F F0) : HlI T L s (i + 1) F := by
  refine ⟨j.nd, j.re, j.sub h.st, fun c => ?_⟩
  have h0 := h.le c
  have h1 := List.Nodup.length_le_of_subset h.nd j.sub
  by_cases e : L.length ≤ F0.length
  · omega
  · have : ∃ v ∈ L, v ∉ F0 := Classical.byContradiction fun z => e (by
      have hL : ∀ v ∈ L, v ∈ F0 := fun v hv => Classical.byContradiction fun w => z ⟨v, hv, w⟩
      exact List.Nodup.length_le_of_subset ndL hL)
    obtain ⟨v, hv, hn⟩ := this
    obtain ⟨a, ha, b, hb, hab, hbL⟩ := rl_edge (c v hv) h.st hn
    have hbF := j.cl a ha b hab hbL
    have h2 := List.Nodup.length_le_of_subset (l₁ := b :: F0) (l₂ := F) (List.nodup_cons.mpr ⟨hb, h.nd⟩) fun x hx => by
      rcases List.mem_cons.mp hx with z | z
      · rw [z]; exact hbF
      · exact j.sub z
    rw [List.length_cons] at h2
    omega
theorem hl_start {T : List (Nat × Nat)} {L : List Nat} {s : Nat} : HlI T (s :: L) s 0 [s] := by
  refine ⟨by simp, fun v hv => ?_, by simp, fun _ => Nat.min_le_right _ _⟩
  have e : v = s := by simpa using hv
  rw [e]; exact ⟨List.mem_cons_self .., .base⟩
theorem nodup_flt {α β : Type} {f : α → β} {p : α → Bool} {l : List α} (h : l.Nodup) (hf : ∀ x ∈ l, ∀ y ∈ l, p x = true → p y = true → f x = f y → x = y) : ((l.filter p).map f).Nodup := by
  induction l with
  | nil => simp
  | cons x l ih =>
    have h' := List.nodup_cons.mp h
    have ih' := ih h'.2 fun a ha b hb => hf a (List.mem_cons_of_mem _ ha) b (List.mem_cons_of_mem _ hb)
    rw [List.filter_cons]
    split
    · rename_i px
      rw [List.map_cons, List.nodup_cons]
      refine ⟨fun z => ?_, ih'⟩
      obtain ⟨y, hy, e⟩ := List.mem_map.mp z
      rw [List.mem_filter] at hy
      have := hf y (List.mem_cons_of_mem _ hy.1) x (List.mem_cons_self ..) hy.2 px e
      rw [this] at hy
      exact h'.1 hy.1
    · exact ih'
theorem nearL_nodup {T : List (Nat × Nat)} (h : T.Nodup) (o : ∀ t ∈ T, t.1 < t.2) (p : Nat) : (nearL T p).Nodup := by
  unfold nearL
  rw [List.nodup_append]
  refine ⟨nodup_flt h fun x _ y _ h1 h2 e => ?_, nodup_flt h fun x _ y _ h1 h2 e => ?_, fun a ha b hb e => ?_⟩
  · have h1 := of_decide_eq_true h1
    have h2 := of_decide_eq_true h2
    exact Prod.ext (by omega) (by omega)
  · have h1 := of_decide_eq_true h1
    have h2 := of_decide_eq_true h2
    exact Prod.ext (by omega) (by omega)
  · obtain ⟨x, hx, rfl⟩ := List.mem_map.mp ha
    obtain ⟨y, hy, rfl⟩ := List.mem_map.mp hb
    rw [List.mem_filter] at hx hy
    have h1 := of_decide_eq_true hx.2
    have h2 := of_decide_eq_true hy.2
    have h3 := o x hx.1
    have h4 := o y hy.1
    omega
theorem near_nats {T : List (Nat × Nat)} {p : Nat} {N : List Int} (h : N.Perm (nearL T p)) : ∃ M : List Nat, N = M.map (fun v : Nat => (v : Int)) ∧ (∀ v, v ∈ M ↔ adj T p v) ∧ M.length ≤ 2 * T.length ∧ ((nearL T p).Nodup → M.Nodup) := by
  have h0 : ∀ z ∈ N, 0 ≤ z := fun z hz => by
    obtain ⟨v, e, _⟩ := mem_nearL.mp (h.mem_iff.mp hz)
    omega
  have e0 : N = (N.map Int.toNat).map (fun v : Nat => (v : Int)) := by
    rw [List.map_map]
    conv => lhs; rw [← List.map_id N]
    refine List.map_congr_left fun z hz => ?_
    have := h0 z hz
    show z = ((z.toNat : Nat) : Int)
    omega
  refine ⟨N.map Int.toNat, e0, fun v => ?_, ?_, fun hn => ?_⟩
  · rw [List.mem_map]
    constructor
    · rintro ⟨z, hz, rfl⟩
      obtain ⟨v, e, a⟩ := mem_nearL.mp (h.mem_iff.mp hz)
      rw [show z.toNat = v by omega]; exact a
    · intro a
      exact ⟨(v : Int), h.mem_iff.mpr (mem_nearL.mpr ⟨v, rfl, a⟩), by simp⟩
  · rw [List.length_map, h.length_eq]
    unfold nearL
    rw [List.length_append, List.length_map, List.length_map]
    have l1 := List.length_filter_le (fun t : Nat × Nat => decide (t.2 = p)) T
    have l2 := List.length_filter_le (fun t : Nat × Nat => decide (t.1 = p)) T
    omega
  · have hN : N.Nodup := h.nodup_iff.mpr hn
    rw [List.nodup_iff_pairwise_ne, List.pairwise_map]
    exact List.Pairwise.imp_of_mem (fun {a b} ha hb hne e => hne (by have := h0 a ha; have := h0 b hb; omega)) (List.nodup_iff_pairwise_ne.mp hN)
section
variable {P : Program} {w : World} {K : PySem.W.Frag} {mg : Str → Option Value} {base : Heap}
theorem rslA_first {H : Hp} {lo : Addr} {st : Nat} {L : List Nat} {Q : VK} (hL : SqT K H lo (iv (st :: L))) (h : ∀ ad Hx, Sm H Hx → SqT K Hx ad [.int (st : Int)] → Q (.ref ad) Hx) : rSlA K (.ref lo) none (some 1) H Q := by
  have e1 : _root_.HT.sIx (iv (st :: L)).length 0 none = 0 := _root_.HT.sIx_none _ _
  have e2 : _root_.HT.sIx (iv (st :: L)).length (iv (st :: L)).length (some 1) = 1 := by
    rw [show _root_.HT.sIx (iv (st :: L)).length (iv (st :: L)).length (some 1) = min 1 (iv (st :: L)).length from _root_.HT.sIx_nat _ _ 1]
    unfold iv
    rw [List.length_map, List.length_cons]; omega
  refine ⟨lo, iv (st :: L), rfl, hL, fun z => ?_, fun _ p np => ?_⟩
  · have z2 := z.2
    rw [e2] at z2
    have hl : L = [] := by
      unfold iv at z2
      rw [List.length_map, List.length_cons] at z2
      exact List.length_eq_zero_iff.mp (by omega)
    subst hl
    exact h lo H (Sm.refl H) hL
  · have e3 : cutV (iv (st :: L)) none (some 1) = [.int (st : Int)] := by
      unfold cutV
      rw [e1, e2]; rfl
    rw [e3]
    exact h p _ ((Sm.refl H).new np) (SqT.of upd_same)
def spLawHang (K : PySem.W.Frag) : Sp := fun vs H Q _ => ∃ (a lo : Addr) (T : List (Nat × Nat)) (s : Nat) (L : List Nat), vs = [.ref a, .ref lo] ∧ TiesAt H a T ∧ T.length < 32 ∧ T.Nodup ∧ (∀ t ∈ T, t.1 < t.2) ∧ SqT K H lo (iv (s :: L)) ∧ (s :: L).Nodup ∧ (s :: L).length ≤ 7 ∧
  ∀ H' b, Sm H H' → (b = true ↔ ∀ v ∈ s :: L, RL T (s :: L) s v) → Q (.bl b) H'
theorem sc_law_hang : FnScope ["_law_ties", "_law_lot", "_law_found", "_law_turn", "_law_place", "_law_other"] ["_law_ties", "_law_lot"] (defScope s_law_hanging) := ⟨rfl, rfl, rfl, by decide +kernel, rfl, by decide +kernel, by decide +kernel⟩
theorem ok_law_hanging (T : Txt K mg) : Ok P w K mg base CX0 2 "_law_hanging" ["_law_ties", "_law_lot"] (spLawHang K) := by
  refine ok_of (f_law_hanging T) (g_law_hanging T) sc_law_hang (fun _ _ _ _ _ _ us hl => match us, hl with | [_, _], _ => rfl) (fun vs H Q E h => ?_) (fun cdv A outer s H vs Q E hcd hr h => ?_)
  · obtain ⟨a, lo, T, s, L, rfl, _⟩ := h
    rfl
  · obtain ⟨a, lo, Ts, st, L, rfl, hT, hlen, hTn, hTo, hL, hLn, h7, q⟩ := h
    have nd := sc_law_hang.nd
    refine ⟨_, pss_cons (ps_set (i := 2) nd rfl (.inr rfl) (pe_callTy call_list_of (by rfl) (m_list T) (by decide +kernel) (pa_cons (pe_slice sl_tupA (pv 1) po_none (po_some pe_int)) pa_nil)))
      (pss_cons (ps_for PassesOwn.never rfl (pi_range1 rfl (m_range T) (pa_cons (pe_callB call_len_seq (by rfl) (m_len T) PySem.boot_len (pa_cons (pv 1) pa_nil)) pa_nil)) (pg_name (i := 3) nd rfl (.inl rfl))
        (pss_one (ps_for PassesOwn.never rfl (pi_list (pe_callTy call_list_of (by rfl) (m_list T) (by decide +kernel) (pa_cons (pv 2) pa_nil))) (pg_name (i := 4) nd rfl (.inl rfl))
          (pss_one (ps_set (i := 2) nd rfl (.inr rfl) (pe_op op_cat (pv 2)
            (pe_lc (own := [("_law_other", 5)]) (g := gName 5) (tt := tAnd (tTest (tOp (rIn K false) (tVar 5) (tVar 1))) (tTest (tOp (rIn K true) (tVar 5) (tVar 2)))) (te := tVar 5) rfl nd (pi_list (pe_cl (ok_law_near T) hr (pa_cons (pv 0) (pa_cons (pv 4) pa_nil)))) (blkOk_by (N := ["_law_ties", "_law_lot", "_law_found", "_law_turn", "_law_place", "_law_other"]) (sc := defScope s_law_hanging) (by decide +kernel))
              (fun _ _ _ _ _ => pg_name (i := 5) nd rfl (.inl rfl)) (fun _ _ _ _ _ => pts_one (PW.pt (pw_and (pt_cmpR op_in_seq (pv 5) (pv 1) (by rfl)) (pw_and1 (pt_cmpR op_notIn_seq (pv 5) (pv 2) (by rfl)))))) (fun _ _ _ _ _ => pv 5))))))))
      (pss_one (ps_ret (pe_cmpR op_eq (pe_callB call_len_seq (by rfl) (m_len T) PySem.boot_len (pa_cons (pv 2) pa_nil)) (pe_callB call_len_seq (by rfl) (m_len T) PySem.boot_len (pa_cons (pv 1) pa_nil)) (nomark _))))), ?_⟩
    have hlen0 : (iv (st :: L)).length = (st :: L).length := List.length_map ..
    have hFl : ∀ {F : List Nat}, F.Nodup → (∀ v ∈ F, v ∈ st :: L ∧ RL Ts (st :: L) st v) → F.length ≤ 7 := fun {F} n h => Nat.le_trans (List.Nodup.length_le_of_subset n fun v hv => (h v hv).1) h7
    refine ⟨_, rfl, 1, rfl, rslA_first hL fun ad Hx s1 hA => ?_⟩
    refine ⟨ad, _, rfl, .inr hA, fun F0 nF0 => ?_⟩
    have s2 := s1.new (u := .lst [.int (st : Int)]) nF0
    refine ⟨_, rfl, lo, _, rfl, .inr (s2.sqT hL), _, rfl, by omega, by rw [hlen0]; omega, for_range (lo := 0) (n := (iv (st :: L)).length) (fun i σ H' => ∃ (F : List Nat) (Fa : Addr) (y3 y4 : Option V), σ = [some (.ref a), some (.ref lo), some (.ref Fa), y3, y4, none] ∧ Sm H H' ∧ H' Fa = some (.lst (iv F)) ∧ HlI Ts (st :: L) st i F)
      ⟨[st], F0, none, none, rfl, s2, upd_same, hl_start⟩ (fun i σ H' hi z => ?_) (fun σ H' z => ?_)⟩
    · rw [Int.zero_add]
      obtain ⟨F0, Fa, y3, y4, rfl, sm, eF, hI⟩ := z
      refine ⟨_, rfl, Fa, _, rfl, .inl (SqL.of eF), fun G nG => ?_⟩
      have nFG : Fa ≠ G := ne_of_none eF nG
      refine ⟨G, rfl, ⟨_, SqL.of upd_same⟩, for_list (K := K) (a := G) (xs := iv F0) (fun j σ H' => ∃ (F : List Nat) (Fa : Addr) (y4 : Option V), σ = [some (.ref a), some (.ref lo), some (.ref Fa), some (.int i), y4, none] ∧ Sm H H' ∧ H' Fa = some (.lst (iv F)) ∧ H' G = some (.lst (iv F0)) ∧ HlJ Ts (st :: L) st F0 F (F0.take j))
        ⟨F0, Fa, y4, rfl, sm.new nG, by rw [upd_ne nFG]; exact eF, upd_same, ⟨hI.nd, hI.re, fun _ h => h, fun a ha => by simp at ha⟩⟩ (fun j σ H' _ ⟨_, _, _, _, _, _, z, _⟩ => SqL.of z) (fun j x σ H' hx z => ?_) (fun σ H' z => ?_)⟩
      · obtain ⟨F, Fa, y4, rfl, sm, eF, eG, hJ⟩ := z
        obtain ⟨u, hu, rfl⟩ : ∃ u : Nat, F0[j]? = some u ∧ x = .int u := by
          rw [List.getElem?_map] at hx
          cases e : F0[j]? with
          | none => rw [e] at hx; cases hx
          | some u => rw [e] at hx; exact ⟨u, rfl, (Option.some.inj hx).symm⟩
        refine ⟨_, rfl, _, rfl, _, rfl, a, Ts, u, rfl, hT.sm sm, hlen, fun H3 nl N s3 nnl eN pN => ⟨nl, rfl, ⟨_, SqL.of eN⟩, fun D nD => ?_⟩⟩
        obtain ⟨M, rfl, hM, lM, nM⟩ := near_nats pN
        have hMn := nM (nearL_nodup hTn hTo u)
        have eN : H3 nl = some (.lst (iv M)) := by rw [iv_ints]; exact eN
        have s4 := sm.trans s3
        have eF3 := s3.lst eF
        have eG3 := s3.lst eG
        refine lc_list (K := K) (a := nl) (xs := (M.map fun v : Nat => (v : Int)).map V.int) (fun k H' => Sm H3 H' ∧ H' D = some (.lst (iv ((M.take k).filter fun v => decide (v ∈ st :: L) && !decide (v ∈ F))))) ⟨(Sm.refl H3).new nD, upd_same⟩ (fun k H' _ z => by rw [← iv_ints]; exact SqL.of (z.1.lst eN)) (fun k x H' hx z => ?_) (fun H' z => ?_)
        · obtain ⟨s5, eD⟩ := z
          obtain ⟨v, hv, rfl⟩ : ∃ v : Nat, M[k]? = some v ∧ x = .int v := by
            rw [← iv_ints] at hx
            unfold iv at hx
            rw [List.getElem?_map] at hx
            cases e : M[k]? with
            | none => rw [e] at hx; cases hx
            | some u => rw [e] at hx; exact ⟨u, rfl, (Option.some.inj hx).symm⟩
          have skip : (decide (v ∈ st :: L) && !decide (v ∈ F)) = false → Sm H3 H' ∧ H' D = some (.lst (iv ((M.take (k + 1)).filter fun v => decide (v ∈ st :: L) && !decide (v ∈ F)))) := fun z => by
            refine ⟨s5, ?_⟩
            rw [eD, take_succ' hv, List.filter_append, List.filter_cons, z]; simp
          refine ⟨rfl, _, rfl, _, rfl, lo, _, rfl, .inr ((s4.trans s5).sqT hL), rfl, iv_flat _, _, rfl, ite2 (fun c => ?_) (fun c => ?_)⟩
          · rw [if_neg (by decide), inV_iv, decide_eq_true_iff] at c
            refine ⟨_, rfl, _, rfl, Fa, _, rfl, .inl (SqL.of (s5.lst eF3)), rfl, iv_flat _, _, rfl, ite2 (fun c2 => ?_) (fun c2 => ?_)⟩
            · rw [if_pos rfl, inV_iv] at c2
              have hv2 : (decide (v ∈ st :: L) && !decide (v ∈ F)) = true := by rw [decide_eq_true c]; simpa using c2
              refine ⟨_, rfl, _, eD, ?_, s5.upd nD, ?_⟩
              · unfold iv
                rw [List.length_map]
                refine small1000 (Nat.le_trans (List.length_filter_le _ _) ?_)
                rw [List.length_take]; omega
              · rw [upd_same, take_succ' hv, List.filter_append, List.filter_cons, hv2]; simp [iv]
            · rw [if_pos rfl, inV_iv] at c2
              exact skip (by rw [show (!decide (v ∈ F)) = false by simpa using c2, Bool.and_false])
          · rw [if_neg (by decide), inV_iv, decide_eq_true_iff] at c
            exact skip (by rw [decide_eq_false c, Bool.false_and])
        · obtain ⟨s5, eD⟩ := z
          rw [List.length_map, List.length_map, List.take_length] at eD
          have hl7 := hFl hJ.nd hJ.re
          have hnew : (M.filter fun v => decide (v ∈ st :: L) && !decide (v ∈ F)).length ≤ 64 := Nat.le_trans (List.length_filter_le _ _) (by omega)
          have mnew : ∀ v, v ∈ (M.filter fun v => decide (v ∈ st :: L) && !decide (v ∈ F)) ↔ adj Ts u v ∧ v ∈ st :: L ∧ v ∉ F := fun v => by
            rw [List.mem_filter, hM]; simp
          refine ⟨Fa, D, _, _, rfl, rfl, s5.lst eF3, eD, ?_, fun l nl2 => ?_⟩
          · unfold iv
            rw [List.length_map, List.length_map]
            exact Nat.le_of_lt (small1000 (by omega))
          · refine ⟨F ++ M.filter fun v => decide (v ∈ st :: L) && !decide (v ∈ F), l, _, rfl, (s4.trans s5).new nl2, ?_, ?_, ?_⟩
            · rw [upd_same]; simp [iv]
            · rw [upd_ne (ne_of_none (s5.lst eG3) nl2)]; exact s5.lst eG3
            · have huF : u ∈ F0 := List.mem_of_getElem? hu
              refine ⟨?_, fun v hv => ?_, fun v hv => List.mem_append_left _ (hJ.sub hv), fun x hx b hb hbL => ?_⟩
              · rw [List.nodup_append]
                exact ⟨hJ.nd, hMn.filter _, fun x hx y hy e => ((mnew y).mp hy).2.2 (e ▸ hx)⟩
              · rcases List.mem_append.mp hv with z | z
                · exact hJ.re v z
                · obtain ⟨h1, h2, _⟩ := (mnew v).mp z
                  exact ⟨h2, .step (hI.re u huF).2 h1 h2⟩
              · rw [take_succ' hu] at hx
                rcases List.mem_append.mp hx with z | z
                · exact List.mem_append_left _ (hJ.cl x z b hb hbL)
                · have e : x = u := by simpa using z
                  rw [e] at hb
                  by_cases hbF : b ∈ F
                  · exact List.mem_append_left _ hbF
                  · exact List.mem_append_right _ ((mnew b).mpr ⟨hb, hbL, hbF⟩)
      · obtain ⟨F, Fa, y4, rfl, sm, eF, eG, hJ⟩ := z
        rw [iv, List.length_map, List.take_length] at hJ
        exact ⟨F, Fa, _, _, rfl, sm, eF, hI.turn hLn hJ⟩
    · obtain ⟨F, Fa, y3, y4, rfl, sm, eF, hI⟩ := z
      rw [hlen0] at hI
      refine ⟨_, rfl, Fa, _, rfl, .inl (SqL.of eF), _, rfl, lo, _, rfl, .inr (sm.sqT hL), rfl, q H' _ sm ?_⟩
      have hFl' : (iv F).length = F.length := List.length_map ..
      rw [decide_eq_true_iff, hlen0, hFl']
      constructor
      · intro e v hv
        have e' : F.length = (st :: L).length := by have := V.int.inj e; omega
        refine Classical.byContradiction fun c => ?_
        have hnF : v ∉ F := fun z => c (hI.re v z).2
        have := List.Nodup.length_le_of_subset (l₁ := v :: F) (l₂ := st :: L) (List.nodup_cons.mpr ⟨hnF, hI.nd⟩) fun x hx => by
          rcases List.mem_cons.mp hx with z | z
          · rw [z]; exact hv
          · exact (hI.re x z).1
        rw [List.length_cons] at this
        omega
      · intro c
        have h1 := hI.le c
        have h2 := List.Nodup.length_le_of_subset hI.nd fun v hv => (hI.re v hv).1
        rw [show F.length = (st :: L).length by omega]
end
end HT
/-! text L4 -/
set_option maxHeartbeats 4000000
namespace HT
open PySem PySem.Spec PyProof.Rows L2
section
variable {X : Cx}
/-- tuple(xs), the new object known -/
theorem cr_tupleF : CallR X (.type "tuple") (fun xs H Q => ∃ p ys, xs = [.ref p] ∧ SqL X.K H p ys ∧ ∀ l o, H l = none → o.cls = .type "tuple" → o.dict = none → Q (.ref l) (upd H l (.frz o (.tup ys)))) := by
  intro pins s σ H xs us Q I r h
  obtain ⟨p, ys, rfl, hq, q⟩ := h
  obtain ⟨u, rfl, rx⟩ := vals1 r
  cases rx
  obtain ⟨its, r', pl, hz⟩ := I.list hq
  have hlen := r'.length
  refine call_tuple_list pl.isList (fun h' kp => ?_) (by simp only [List.size_toArray] <;> omega)
  have I1 : Inv X pins σ H { s with heap := h' } := I.kept (t' := s.toks) kp
  have I2 : Inv X pins σ (upd H h'.objs.size (.frz { cls := .type "tuple", data := .seq its.toArray } (.tup ys))) { s with heap := h'.push { cls := .type "tuple", data := .seq its.toArray } } :=
    I1.laid (t' := s.toks) (fun b o e => Heap.get?_push_of_some _ e) (Nat.le_refl _) (show ObjOk X.prog X.w _ _ _ (.frz _ (.tup ys)) from ⟨Heap.get?_push_size h' rfl, hz, its, r', IsTup.new _ _⟩)
  exact ⟨.ref h'.objs.size, _, I2, rfl, q _ _ (I1.hok.fresh (Nat.le_refl _)) rfl rfl⟩
end
theorem Sr.free {K : PySem.W.Frag} {sc r a : Addr} {H H' : Hp} (s : Sr r H H') (hR : RowAt K sc H' r) (h : H' a = none) : H a = none := by
  by_cases e : a = r
  · obtain ⟨cs, i, z, d, eR, _⟩ := hR
    rw [← e, h] at eR; cases eR
  · cases q : H a with
    | none => rfl
    | some o => rw [s a o e q] at h; cases h
theorem Sr.updN {r a : Addr} {H H' : Hp} {u : HO} (s : Sr r H H') (h : H a = none) : Sr r H (L2.upd H' a u) := fun b o n e => by
  rw [upd_ne (ne_of_none e h)]; exact s b o n e
theorem RowAt.sm {K : PySem.W.Frag} {sc r : Addr} {H H' : Hp} (s : Sm H H') (h : RowAt K sc H r) : RowAt K sc H' r := by
  obtain ⟨cs, i, z, d, eR, n, hS, h1, h2, h3⟩ := h
  exact ⟨cs, i, z, d, s.lst eR, n, s.sqL hS, h1, h2, h3⟩
theorem RowAt.updN {K : PySem.W.Frag} {sc r a : Addr} {H : Hp} {u : HO} (h : RowAt K sc H r) (n : H a = none) : RowAt K sc (L2.upd H a u) r := h.sm ((Sm.refl H).upd n)
/-- the row as at H1, the script as at H -/
theorem RowAt.same {K : PySem.W.Frag} {sc r : Addr} {H H1 H2 : Hp} (h : RowAt K sc H r) (h1 : RowAt K sc H1 r) (s : Sr r H H2) (e : H2 r = H1 r) : RowAt K sc H2 r := by
  obtain ⟨cs, _, _, _, _, n, hS, _⟩ := h
  obtain ⟨_, i, z, d, eR, _, _, z0, z1, d0⟩ := h1
  exact ⟨cs, i, z, d, e.trans eR, n, s.sqL n hS, z0, z1, d0⟩
def baseS (n : Nat) : Std := (List.range (n - 1)).map some ++ [none]
theorem bks_base (n : Nat) : bks (baseS n) = List.range (n - 1) := by
  unfold bks baseS
  rw [List.filterMap_append, List.filterMap_map]
  show (List.range (n - 1)).filterMap some ++ [] = _
  rw [List.filterMap_some, List.append_nil]
theorem std_of_perm {n : Nat} {s : Std} (h2 : 2 ≤ n) (h : s.Perm (baseS n)) : StdOk n s ∧ OneHole s := by
  have hl : s.length = n := by
    rw [h.length_eq]
    unfold baseS
    rw [List.length_append, List.length_map, List.length_range]
    show n - 1 + 1 = n
    omega
  have hb : (bks s).Perm (List.range (n - 1)) := by
    rw [← bks_base]
    exact h.filterMap id
  have hbl : (bks s).length = n - 1 := by rw [hb.length_eq, List.length_range]
  refine ⟨⟨hl, h.mem_iff.mpr (by unfold baseS; simp), hb.nodup_iff.mpr List.nodup_range, fun b hb' => ?_, fun e => ?_⟩, by unfold OneHole; omega⟩
  · rw [hbl]; exact List.mem_range.mp (hb.mem_iff.mp hb')
  · rw [e] at hbl
    have : (0 : Nat) = n - 1 := hbl
    omega
theorem eraseIdx_map {α β : Type} {f : α → β} : ∀ {l : List α} {k : Nat}, (l.map f).eraseIdx k = (l.eraseIdx k).map f
  | [], _ => rfl
  | _ :: _, 0 => rfl
  | x :: l, k + 1 => by
    rw [List.map_cons, List.eraseIdx_cons_succ, List.eraseIdx_cons_succ, List.map_cons, eraseIdx_map]
theorem perm_take_out {α : Type} : ∀ {l F : List α} {k : Nat} (h : k < l.length), (l.eraseIdx k ++ (F ++ [l[k]])).Perm (l ++ F)
  | [], _, _, h => absurd h (Nat.not_lt_zero _)
  | x :: l, F, 0, _ => by
    show (l ++ (F ++ [x])).Perm (x :: (l ++ F))
    rw [← List.append_assoc]
    exact List.perm_append_comm
  | x :: l, F, k + 1, h => by
    rw [List.eraseIdx_cons_succ]
    exact (perm_take_out (l := l) (F := F) (k := k) (by simpa using h)).cons x
section
variable {P : Program} {w : World} {K : PySem.W.Frag} {mg : Str → Option Value} {base : Heap}
def spLawStd (K : PySem.W.Frag) : Sp := fun vs H Q _ => ∃ (sc r : Addr) (n : Nat), vs = [.ref r, .int (n : Int), .int 1] ∧ 2 ≤ n ∧ n ≤ 7 ∧ RowAt K sc H r ∧
  ∀ H' l (s : Std), Sr r H H' → RowAt K sc H' r → FrS H' l s → StdOk n s → OneHole s → Q (.ref l) H'
theorem sc_law_std : FnScope ["_law_row", "_law_places", "_law_holes", "_law_left", "_law_found", "_law_place"] ["_law_row", "_law_places", "_law_holes"] (defScope s_law_standing) := ⟨rfl, rfl, rfl, by decide +kernel, rfl, by decide +kernel, by decide +kernel⟩
theorem ok_law_standing (T : Txt K mg) : Ok P w K mg base CX0 2 "_law_standing" ["_law_row", "_law_places", "_law_holes"] (spLawStd K) := by
  refine ok_of (f_law_standing T) (g_law_standing T) sc_law_std (fun _ _ _ _ _ _ us hl => match us, hl with | [_, _, _], _ => rfl) (fun vs H Q E h => ?_) (fun cdv A outer s H vs Q E hcd hr h => ?_)
  · obtain ⟨sc, r, n, rfl, _⟩ := h
    rfl
  · obtain ⟨sc, r, n, rfl, h2, h7, hR, q⟩ := h
    have nd := sc_law_std.nd
    refine ⟨_, pss_cons (ps_par (i := 3) (j := 4) (by rfl) nd rfl rfl (by decide) rfl rfl (pa_cons (pe_op op_cat (pe_listRg rfl (by rfl) (m_list T) (prg_1 (by rfl) (m_range T) (pe_op op_sub (pv 1) (pv 2)))) (pe_op op_rep (pe_lst (pa_cons pe_non pa_nil)) (pv 2))) (pa_cons (pe_lst pa_nil) pa_nil)) (by rfl))
      (pss_cons (ps_for PassesOwn.never rfl (pi_range1 rfl (m_range T) (pa_cons (pv 1) pa_nil)) (pg_name (i := 5) nd rfl (.inl rfl))
        (pss_one (ps_expr (pe_bm PySem.F.plainAttrs_list PySem.F.slot_list_append PySem.F.type_list_append mt_append (pv 4) (pa_cons
          (pe_bm PySem.F.plainAttrs_list PySem.F.slot_list_pop PySem.F.type_list_pop mt_popAt (pv 3) (pa_cons (pe_cl (ok_law_taken T) hr (pa_cons (pv 0) (pa_cons (pe_callB call_len_seq (by rfl) (m_len T) PySem.boot_len (pa_cons (pv 3) pa_nil)) pa_nil))) pa_nil)) pa_nil)))))
      (pss_one (ps_ret (pe_callTy cr_tupleF (by rfl) (m_tuple T) (by decide +kernel) (pa_cons (pv 4) pa_nil))))), ?_⟩
    have hrg : rgV 0 ((n : Int) - 1) = ((List.range (n - 1)).map some).map oV := by
      unfold rgV
      rw [show ((n : Int) - 1 - 0).toNat = n - 1 by omega, List.map_map]
      refine List.map_congr_left fun i _ => ?_
      show V.int (0 + (i : Nat)) = V.int (i : Int)
      rw [Int.zero_add]
    refine ⟨_, rfl, _, rfl, n, 1, rfl, rfl, _, rfl, RgOk.of_le (by omega) (by omega) (by omega) (by omega), fun A1 nA1 => ?_⟩
    rw [hrg]
    refine ⟨(by show 1 ≤ sizeLine; decide), fun A2 nA2 => ?_⟩
    have hA12 : A1 ≠ A2 := ne_of_none upd_same nA2
    refine ⟨_, rfl, A2, 1, [.non], rfl, rfl, upd_same, by decide, by decide, (by show 1 ≤ sizeLine; decide), fun A3 nA3 => ?_⟩
    have hA13 : A1 ≠ A3 := ne_of_none (H := upd (upd H A1 (.lst (((List.range (n - 1)).map some).map oV))) A2 (.lst [.non])) (by rw [upd_ne hA12]; exact upd_same) nA3
    refine ⟨A1, A3, ((List.range (n - 1)).map some).map oV, [.non], rfl, rfl, by rw [upd_ne hA13, upd_ne hA12]; exact upd_same, upd_same, ?_, fun Lf nLf => ?_⟩
    · rw [List.length_map, List.length_map, List.length_range]
      exact Nat.le_of_lt (small1000 (by show n - 1 + 1 ≤ 1000; omega))
    refine ⟨Nat.zero_le _, fun Fd nFd => ⟨_, _, rfl, ?_⟩⟩
    have nLf0 : H Lf = none := Sm.free ((((Sm.refl H).new nA1).new nA2).new nA3) nLf
    have nFd0 : H Fd = none := Sm.free (((((Sm.refl H).new nA1).new nA2).new nA3).new nLf) nFd
    have hLF : Lf ≠ Fd := ne_of_none upd_same nFd
    have hbase : ((List.range (n - 1)).map some).map oV ++ [.non] = (baseS n).map oV := by
      unfold baseS
      rw [List.map_append]; rfl
    refine ⟨_, rfl, _, rfl, by omega, by omega, for_range (lo := 0) (n := n) (fun i σ H' => ∃ (Ls Fs : Std) (y5 : Option V), σ = [some (.ref r), some (.int n), some (.int 1), some (.ref Lf), some (.ref Fd), y5] ∧ Sr r H H' ∧ RowAt K sc H' r ∧ H' Lf = some (.lst (Ls.map oV)) ∧ H' Fd = some (.lst (Fs.map oV)) ∧ (Ls ++ Fs).Perm (baseS n) ∧ Ls.length = n - i ∧ Fs.length = i)
      ⟨baseS n, [], none, rfl, fun b o _ e => (Sm.new (Sm.new (Sm.new (Sm.new (Sm.new (Sm.refl H) nA1) nA2) nA3) nLf) nFd).o b o e, hR.sm (Sm.new (Sm.new (Sm.new (Sm.new (Sm.new (Sm.refl H) nA1) nA2) nA3) nLf) nFd), ?_, upd_same, by rw [List.append_nil], ?_, rfl⟩ (fun i σ H' hi z => ?_) (fun σ H' z => ?_)⟩
    · rw [upd_ne hLF, upd_same, ← hbase]
    · unfold baseS
      rw [List.length_append, List.length_map, List.length_range]
      show n - 1 + 1 = n - 0
      omega
    · rw [Int.zero_add]
      obtain ⟨Ls, Fs, y5, rfl, sr, hR', eL, eF, hp, hl, hf⟩ := z
      have hlm : (Ls.map oV).length = Ls.length := List.length_map ..
      refine ⟨.ref Fd, rfl, .inl ⟨rfl, _, SqL.of eF⟩, .ref Lf, rfl, .inl ⟨rfl, _, SqL.of eL⟩, _, rfl, _, rfl, Lf, _, rfl, .inl (SqL.of eL), sc, r, Ls.length, by rw [hlm]; rfl, by omega, by omega, hR', fun H1 k sr1 hR1 hk => ?_⟩
      have hrL : Lf ≠ r := fun e => by
        obtain ⟨cs, i', z, d, eR, _⟩ := hR
        rw [← e, nLf0] at eR; cases eR
      have hrF : Fd ≠ r := fun e => by
        obtain ⟨cs, i', z, d, eR, _⟩ := hR
        rw [← e, nFd0] at eR; cases eR
      have eL1 := sr1 _ _ hrL eL
      have eF1 := sr1 _ _ hrF eF
      have hk' : seqIndex? (k : Int) (Ls.map oV).length = some k := (ixN_seq (ixN_nat (n := (Ls.map oV).length) (j := k) (by rw [hlm]; exact hk))).1
      refine ⟨Lf, _, (k : Int), k, oV Ls[k], rfl, rfl, eL1, by omega, by omega, hk', by rw [List.getElem?_map, List.getElem?_eq_getElem hk]; rfl, ?_⟩
      refine ⟨Fd, Fs.map oV, oV Ls[k], rfl, rfl, by rw [upd_ne hLF.symm]; exact eF1, ?_, Ls.eraseIdx k, Fs ++ [Ls[k]], _, rfl, ((sr.trans sr1).updN nLf0).updN nFd0, ?_, ?_, ?_, ?_, ?_, ?_⟩
      · rw [List.length_map]; exact small1000 (by omega)
      · exact hR.same hR1 (((sr.trans sr1).updN nLf0).updN nFd0) (by rw [upd_ne hrF.symm, upd_ne hrL.symm])
      · rw [upd_ne hLF, upd_same, eraseIdx_map]
      · rw [upd_same]; simp
      · exact (perm_take_out hk).trans hp
      · rw [List.length_eraseIdx_of_lt hk]; omega
      · rw [List.length_append, List.length_singleton]; omega
    · obtain ⟨Ls, Fs, y5, rfl, sr, hR', eL, eF, hp, hl, hf⟩ := z
      have hl0 : Ls = [] := List.length_eq_zero_iff.mp (by omega)
      subst hl0
      rw [List.nil_append] at hp
      obtain ⟨h1, h2'⟩ := std_of_perm h2 hp
      refine ⟨_, rfl, Fd, _, rfl, SqL.of eF, fun l o nl hc hd => ?_⟩
      have nl0 := sr.free hR' nl
      exact q _ l Fs (sr.updN nl0) (hR'.updN nl) ⟨o, upd_same, hc, hd⟩ h1 h2'
end
end HT
/-! text L5 -/
set_option maxHeartbeats 4000000
namespace HT
open PySem PySem.Spec PyProof.Rows L2
theorem RowAt.ne {K : PySem.W.Frag} {sc r t : Addr} {H : Hp} {xs : List V} (h : RowAt K sc H r) (e : H t = some (.tup xs)) : t ≠ r := fun z => by
  obtain ⟨_, _, _, _, eR, _⟩ := h
  rw [← z, e] at eR; cases eR
theorem RowAt.nn {K : PySem.W.Frag} {sc r t : Addr} {H : Hp} (h : RowAt K sc H r) (e : H t = none) : t ≠ r := fun z => by
  obtain ⟨_, _, _, _, eR, _⟩ := h
  rw [← z, e] at eR; cases eR
theorem Sr.tup {K : PySem.W.Frag} {sc r t : Addr} {H H' : Hp} {xs : List V} (s : Sr r H H') (h : RowAt K sc H r) (e : H t = some (.tup xs)) : H' t = some (.tup xs) := s _ _ (h.ne e) e
theorem IsP.sr {K : PySem.W.Frag} {sc r : Addr} {H H' : Hp} {ts : List Addr} {p : List Ins} (s : Sr r H H') (h : RowAt K sc H r) (x : IsP H ts p) : IsP H' ts p := Paired.imp' (fun _ _ z => s.tup h z) x
theorem rI_add {i j m : Int} {H : Hp} {Q : VK} (hm : i + j = m) (h : Q (.int m) H) : (rI0 fun i j => V.int (i + j)) (.int i) (.int j) H Q := ⟨i, j, rfl, rfl, by show Q (.int (i + j)) H; rw [hm]; exact h⟩
theorem rI_sub {i j m : Int} {H : Hp} {Q : VK} (hm : i - j = m) (h : Q (.int m) H) : (rI0 fun i j => V.int (i - j)) (.int i) (.int j) H Q := ⟨i, j, rfl, rfl, by show Q (.int (i - j)) H; rw [hm]; exact h⟩
theorem tc_sub {i j m : Int} {σ : L2.St} {H : Hp} {Q : VK} (hm : i - j = m) (h : Q (.int m) H) : tC (.int j) σ H fun y H2 => (rI0 fun i j => V.int (i - j)) (.int i) y H2 Q := rI_sub hm h
theorem tc_add {i j m : Int} {σ : L2.St} {H : Hp} {Q : VK} (hm : i + j = m) (h : Q (.int m) H) : tC (.int j) σ H fun y H2 => (rI0 fun i j => V.int (i + j)) (.int i) y H2 Q := rI_add hm h
theorem Sm.sr {r : Addr} {H H' : Hp} (s : Sm H H') : Sr r H H' := fun b o _ e => s.o b o e
section
variable {P : Program} {w : World} {K : PySem.W.Frag} {mg : Str → Option Value} {base : Heap}
def spLawProg (K : PySem.W.Frag) : Sp := fun vs H Q _ => ∃ (sc r : Addr) (b : Nat), vs = [.ref r, .int (b : Int), .int 6] ∧ 1 ≤ b ∧ b ≤ 6 ∧ RowAt K sc H r ∧
  ∀ H' l (p : List Ins), Sr r H H' → RowAt K sc H' r → PrAt H' l p → PrOk b p → Q (.ref l) H'
theorem sc_law_prog : FnScope ["_law_row", "_law_books", "_law_most", "_law_size", "_law_found", "_law_turn", "_law_way"] ["_law_row", "_law_books", "_law_most"] (defScope s_law_program) := ⟨rfl, rfl, rfl, by decide +kernel, rfl, by decide +kernel, by decide +kernel⟩
theorem ok_law_program (T : Txt K mg) : Ok P w K mg base CX0 3 "_law_program" ["_law_row", "_law_books", "_law_most"] (spLawProg K) := by
  refine ok_of (f_law_program T) (g_law_program T) sc_law_prog (fun _ _ _ _ _ _ us hl => match us, hl with | [_, _, _], _ => rfl) (fun vs H Q E h => ?_) (fun cdv A outer s H vs Q E hcd hr h => ?_)
  · obtain ⟨sc, r, b, rfl, _⟩ := h
    rfl
  · obtain ⟨sc, r, b, rfl, h1, h6, hR, q⟩ := h
    have nd := sc_law_prog.nd
    have hr1 : Room 1 _ := hr.mono (by decide)
    refine ⟨_, pss_cons (ps_par (i := 3) (j := 4) (by rfl) nd rfl rfl (by decide) rfl rfl (pa_cons (pe_op op_add pe_int (pe_cl (ok_law_taken T) hr1 (pa_cons (pv 0) (pa_cons (pv 2) pa_nil)))) (pa_cons (pe_lst pa_nil) pa_nil)) (by rfl))
      (pss_cons (ps_for PassesOwn.never rfl (pi_range1 rfl (m_range T) (pa_cons (pv 3) pa_nil)) (pg_name (i := 5) nd rfl (.inl rfl))
        (pss_cons (ps_set (i := 6) nd rfl (.inl rfl) (pe_cl (ok_law_taken T) hr1 (pa_cons (pv 0) (pa_cons pe_int pa_nil))))
        (pss_one (ps_if (pt_cmpR op_lt (pv 6) pe_int (nomark _))
          (pss_one (ps_expr (pe_bm PySem.F.plainAttrs_list PySem.F.slot_list_append PySem.F.type_list_append mt_append (pv 4) (pa_cons
            (pe_tup (pa_cons (pe_ix ix_list (pe_lst (pa_cons pe_str (pa_cons pe_str (pa_cons pe_str (pa_cons pe_str (pa_cons pe_str pa_nil)))))) (pv 6) (fun _ _ => rfl)) (pa_cons (pe_cl (ok_law_taken T) hr1 (pa_cons (pv 0) (pa_cons (pv 1) pa_nil))) pa_nil))) pa_nil))))
          (pss_one (ps_if (pt_cmpR op_lt (pv 6) pe_int (nomark _))
            (pss_one (ps_expr (pe_bm PySem.F.plainAttrs_list PySem.F.slot_list_append PySem.F.type_list_append mt_append (pv 4) (pa_cons
              (pe_tup (pa_cons (pe_ix ix_list (pe_lst (pa_cons pe_str (pa_cons pe_str (pa_cons pe_str pa_nil)))) (pe_op op_sub (pv 6) pe_int) (fun _ _ => rfl)) (pa_cons (pe_cl (ok_law_taken T) hr1 (pa_cons (pv 0) (pa_cons (pe_op op_add (pv 3) pe_int) pa_nil))) pa_nil))) pa_nil))))
            (pss_one (ps_expr (pe_bm PySem.F.plainAttrs_list PySem.F.slot_list_append PySem.F.type_list_append mt_append (pv 4) (pa_cons
              (pe_cl (ok_law_pick T) hr (pa_cons (pv 0) (pa_cons (pe_lst (pa_cons (pe_tup (pa_cons pe_str pa_nil)) (pa_cons (pe_tup (pa_cons pe_str pa_nil)) (pa_cons (pe_tup (pa_cons pe_str (pa_cons (pe_op op_sub (pe_cl (ok_law_taken T) hr1 (pa_cons (pv 0) (pa_cons pe_int pa_nil))) pe_int) pa_nil))) (pa_cons (pe_tup (pa_cons pe_str pa_nil)) pa_nil))))) pa_nil))) pa_nil))))))))))
      (pss_one (ps_ret (pe_callTy call_tuple_of (by rfl) (m_tuple T) (by decide +kernel) (pa_cons (pv 4) pa_nil))))), ?_⟩
    refine ⟨_, rfl, _, rfl, sc, r, 6, rfl, by decide, by decide, hR, fun H1 k sr1 hR1 hk => ?_⟩
    obtain ⟨m, hm, hm1, hm6⟩ : ∃ m : Nat, (1 + (k : Int)) = (m : Int) ∧ 1 ≤ m ∧ m ≤ 6 := ⟨1 + k, by omega, by omega, by omega⟩
    refine rI_add hm ?_
    refine ⟨Nat.zero_le _, fun Fd nFd => ⟨_, _, rfl, ?_⟩⟩
    have nFd0 : H Fd = none := sr1.free hR1 nFd
    have hFr : Fd ≠ r := hR1.nn nFd
    refine ⟨_, rfl, _, rfl, by omega, by omega, for_range (lo := 0) (n := m) (fun i σ H' => ∃ (ts : List Addr) (p : List Ins) (y5 y6 : Option V), σ = [some (.ref r), some (.int b), some (.int 6), some (.int m), some (.ref Fd), y5, y6] ∧ Sr r H H' ∧ RowAt K sc H' r ∧ H' Fd = some (.lst (ts.map V.ref)) ∧ IsP H' ts p ∧ p.length = i ∧ ∀ x ∈ p, InsOk b m x)
      ⟨[], [], none, none, rfl, sr1.updN nFd0, hR1.updN nFd, upd_same, .nil, rfl, fun x hx => (by cases hx)⟩ (fun i σ H' hi z => ?_) (fun σ H' z => ?_)⟩
    · rw [Int.zero_add]
      obtain ⟨ts, p, y5, y6, rfl, sr, hR', eF, pT, hl, hok⟩ := z
      have lts := Paired.length pT
      have hsz : (ts.map V.ref).length < sizeLine := by rw [List.length_map]; exact small1000 (by omega)
      have fin : ∀ H3 t x (y6 : Option V), Sr r H' H3 → RowAt K sc H3 r → H3 t = some (.tup (insV x)) → InsOk b m x → ∃ (ts' : List Addr) (p' : List Ins) (y5' y6' : Option V), ([some (.ref r), some (.int b), some (.int 6), some (.int m), some (.ref Fd), some (.int i), y6] : L2.St) = [some (.ref r), some (.int b), some (.int 6), some (.int m), some (.ref Fd), y5', y6'] ∧ Sr r H (upd H3 Fd (.lst (ts.map V.ref ++ [.ref t]))) ∧ RowAt K sc (upd H3 Fd (.lst (ts.map V.ref ++ [.ref t]))) r ∧ (upd H3 Fd (.lst (ts.map V.ref ++ [.ref t]))) Fd = some (.lst (ts'.map V.ref)) ∧ IsP (upd H3 Fd (.lst (ts.map V.ref ++ [.ref t]))) ts' p' ∧ p'.length = i + 1 ∧ ∀ x ∈ p', InsOk b m x := fun H3 t x y6 s3 hR3 et hx => by
        have eF3 := s3 _ _ hFr eF
        refine ⟨ts ++ [t], p ++ [x], _, _, rfl, (sr.trans s3).updN nFd0, hR.same hR3 ((sr.trans s3).updN nFd0) (upd_ne hFr.symm), by rw [upd_same, List.map_append]; rfl, ?_, by rw [List.length_append, List.length_singleton]; omega, fun u hu => ?_⟩
        · have h1 : IsP H3 (ts ++ [t]) (p ++ [x]) := paired_app (pT.sr s3 hR') (.cons et .nil)
          exact Paired.imp' (fun t p z => by rw [upd_ne (fun zz => by rw [zz, eF3] at z; cases z)]; exact z) h1
        · rcases List.mem_append.mp hu with z | z
          · exact hok u z
          · have : u = x := by simpa using z
            rw [this]; exact hx
      refine ⟨_, rfl, sc, r, 11, rfl, by decide, by decide, hR', fun H2 way s2 hR2 hway => ?_⟩
      have eF2 := s2 _ _ hFr eF
      refine ⟨_, rfl, _, _, rfl, rfl, _, rfl, ite2 (fun c => ?_) (fun c => ?_)⟩
      · have c' : way < 5 := by have := of_decide_eq_true c; omega
        obtain ⟨nm, enm, hnm⟩ : ∃ nm, [V.str "get", .str "plus", .str "minus", .str "set", .str "get"][way]? = some (.str nm) ∧ asking nm := by
          match way, c' with
          | 0, _ => exact ⟨_, rfl, .inl rfl⟩
          | 1, _ => exact ⟨_, rfl, .inr (.inl rfl)⟩
          | 2, _ => exact ⟨_, rfl, .inr (.inr (.inl rfl))⟩
          | 3, _ => exact ⟨_, rfl, .inr (.inr (.inr rfl))⟩
          | 4, _ => exact ⟨_, rfl, .inl rfl⟩
        refine ⟨.ref Fd, rfl, .inl ⟨rfl, _, SqL.of eF2⟩, (by show 5 ≤ sizeLine; decide), fun l1 nl1 => ?_⟩
        refine ⟨_, rfl, l1, _, (way : Int), .str nm, rfl, rfl, SqL.of upd_same, atI_nat (j := way) enm, ?_⟩
        refine ⟨_, rfl, _, rfl, sc, r, b, rfl, h1, by omega, hR2.updN nl1, fun H3 j s3 hR3 hj => ?_⟩
        refine ⟨(by show 2 ≤ sizeLine; decide), fun t nt => ?_⟩
        have s4 : Sr r H' H3 := (s2.trans (((Sm.refl H2).new nl1).sr)).trans s3
        have s5 := s4.trans ((Sm.refl H3).new (u := .tup [.str nm, .int (j : Int)]) nt).sr
        refine ⟨Fd, _, .ref t, rfl, rfl, s5 _ _ hFr eF, hsz, fin _ t (nm, some (j : Int)) _ s5 (hR3.updN nt) upd_same (.inr (.inl ⟨j, rfl, .inl ⟨hnm, hj⟩⟩))⟩
      · refine ⟨_, rfl, _, _, rfl, rfl, _, rfl, ite2 (fun c2 => ?_) (fun c2 => ?_)⟩
        · have c' : way - 5 < 3 := by have := of_decide_eq_true c2; omega
          have c5 : 5 ≤ way := by
            refine Decidable.byContradiction fun z => c (decide_eq_true ?_)
            omega
          obtain ⟨nm, enm, hnm⟩ : ∃ nm, [V.str "zero", .str "go", .str "zero"][way - 5]? = some (.str nm) ∧ jump nm := by
            generalize way - 5 = w' at c'
            match w', c' with
            | 0, _ => exact ⟨_, rfl, .inl rfl⟩
            | 1, _ => exact ⟨_, rfl, .inr rfl⟩
            | 2, _ => exact ⟨_, rfl, .inl rfl⟩
          refine ⟨.ref Fd, rfl, .inl ⟨rfl, _, SqL.of eF2⟩, (by show 3 ≤ sizeLine; decide), fun l1 nl1 => ?_⟩
          refine ⟨_, rfl, ?_⟩
          refine tc_sub (i := (way : Int)) (j := 5) (m := ((way - 5 : Nat) : Int)) (by omega) ?_
          refine ⟨l1, _, _, .str nm, rfl, rfl, SqL.of upd_same, atI_nat (j := way - 5) enm, ?_⟩
          refine ⟨_, rfl, _, rfl, ?_⟩
          refine tc_add (i := (m : Int)) (j := 1) (m := ((m + 1 : Nat) : Int)) (by omega) ?_
          refine ⟨sc, r, m + 1, rfl, by omega, by omega, hR2.updN nl1, fun H3 j s3 hR3 hj => ?_⟩
          refine ⟨(by show 2 ≤ sizeLine; decide), fun t nt => ?_⟩
          have s4 : Sr r H' H3 := (s2.trans (((Sm.refl H2).new nl1).sr)).trans s3
          have s5 := s4.trans ((Sm.refl H3).new (u := .tup [.str nm, .int (j : Int)]) nt).sr
          refine ⟨Fd, _, .ref t, rfl, rfl, s5 _ _ hFr eF, hsz, fin _ t (nm, some (j : Int)) _ s5 (hR3.updN nt) upd_same (.inr (.inl ⟨j, rfl, .inr ⟨hnm, by omega⟩⟩))⟩
        · refine ⟨.ref Fd, rfl, .inl ⟨rfl, _, SqL.of eF2⟩, _, rfl, (by show 1 ≤ sizeLine; decide), fun t1 n1 => ?_⟩
          refine ⟨(by show 1 ≤ sizeLine; decide), fun t2 n2 => ?_⟩
          refine ⟨_, rfl, sc, r, 5, rfl, by decide, by decide, (hR2.updN n1).updN n2, fun H3 j s3 hR3 hj => ?_⟩
          refine tc_sub (i := (j : Int)) (j := 2) rfl ?_
          refine ⟨(by show 2 ≤ sizeLine; decide), fun t3 n3 => ?_⟩
          refine ⟨(by show 1 ≤ sizeLine; decide), fun t4 n4 => ?_⟩
          refine ⟨(by show 4 ≤ sizeLine; decide), fun l1 nl1 => ?_⟩
          have hRa := (hR2.updN (u := .tup [.str "say"]) n1).updN (u := .tup [.str "ask"]) n2
          have e2 : upd (upd H2 t1 (.tup [.str "say"])) t2 (.tup [.str "ask"]) t2 = some (.tup [.str "ask"]) := upd_same
          have e1 : upd (upd H2 t1 (.tup [.str "say"])) t2 (.tup [.str "ask"]) t1 = some (.tup [.str "say"]) := by
            rw [upd_ne (ne_of_none (H := upd H2 t1 (.tup [.str "say"])) upd_same n2)]; exact upd_same
          have sm3 := (((Sm.refl H3).new (u := .tup [.str "put", .int ((j : Int) - 2)]) n3).new (u := .tup [.str "stop"]) n4).new (u := .lst [.ref t1, .ref t2, .ref t3, .ref t4]) nl1
          have f1 := sm3.tup (s3.tup hRa e1)
          have f2 := sm3.tup (s3.tup hRa e2)
          have f4 : upd (upd (upd H3 t3 (.tup [.str "put", .int ((j : Int) - 2)])) t4 (.tup [.str "stop"])) l1 (.lst [.ref t1, .ref t2, .ref t3, .ref t4]) t4 = some (.tup [.str "stop"]) := by
            rw [upd_ne (ne_of_none (H := upd (upd H3 t3 (.tup [.str "put", .int ((j : Int) - 2)])) t4 (.tup [.str "stop"])) upd_same nl1)]; exact upd_same
          have f3 : upd (upd (upd H3 t3 (.tup [.str "put", .int ((j : Int) - 2)])) t4 (.tup [.str "stop"])) l1 (.lst [.ref t1, .ref t2, .ref t3, .ref t4]) t3 = some (.tup [.str "put", .int ((j : Int) - 2)]) := by
            have h34 : t3 ≠ t4 := ne_of_none (H := upd H3 t3 (.tup [.str "put", .int ((j : Int) - 2)])) upd_same n4
            rw [upd_ne (ne_of_none (H := upd (upd H3 t3 (.tup [.str "put", .int ((j : Int) - 2)])) t4 (.tup [.str "stop"])) (by rw [upd_ne h34]; exact upd_same) nl1), upd_ne h34]; exact upd_same
          have hRc := hR3.sm sm3
          have s6 : Sr r H' _ := ((s2.trans (((Sm.refl H2).new (u := .tup [.str "say"]) n1).new (u := .tup [.str "ask"]) n2).sr).trans s3).trans sm3.sr
          have hlr : l1 ≠ r := fun z => by
            have z2 := Sm.free (((Sm.refl H3).new (u := .tup [.str "put", .int ((j : Int) - 2)]) n3).new (u := .tup [.str "stop"]) n4) nl1
            exact hR3.nn z2 z
          refine ⟨sc, r, l1, _, rfl, hlr, SqL.of upd_same, (by show 1 ≤ 4; decide), (by show 4 ≤ 500; decide), hRc, fun H4 x s4 hR4 hx => ?_⟩
          have hx' : x = .ref t1 ∨ x = .ref t2 ∨ x = .ref t3 ∨ x = .ref t4 := by simpa using hx
          have s7 := s6.trans s4
          rcases hx' with rfl | rfl | rfl | rfl
          · exact ⟨Fd, _, .ref t1, rfl, rfl, s7 _ _ hFr eF, hsz, fin _ t1 ("say", none) _ s7 hR4 (s4.tup hRc f1) (.inl ⟨rfl, .inl rfl⟩)⟩
          · exact ⟨Fd, _, .ref t2, rfl, rfl, s7 _ _ hFr eF, hsz, fin _ t2 ("ask", none) _ s7 hR4 (s4.tup hRc f2) (.inl ⟨rfl, .inr (.inl rfl)⟩)⟩
          · exact ⟨Fd, _, .ref t3, rfl, rfl, s7 _ _ hFr eF, hsz, fin _ t3 ("put", some ((j : Int) - 2)) _ s7 hR4 (s4.tup hRc f3) (.inr (.inr ⟨_, rfl, rfl, by show -1000000 ≤ (j : Int) - 2; omega, by show (j : Int) - 2 ≤ 1000000; omega⟩))⟩
          · exact ⟨Fd, _, .ref t4, rfl, rfl, s7 _ _ hFr eF, hsz, fin _ t4 ("stop", none) _ s7 hR4 (s4.tup hRc f4) (.inl ⟨rfl, .inr (.inr rfl)⟩)⟩
    · obtain ⟨ts, p, y5, y6, rfl, sr, hR', eF, pT, hl, hok⟩ := z
      refine ⟨_, rfl, Fd, _, rfl, .inl ⟨SqL.of eF, fun l nl => ?_⟩⟩
      have nl0 := sr.free hR' nl
      refine q _ l p (sr.updN nl0) (hR'.updN nl) ⟨ts, upd_same, Paired.imp' (fun t x z => ?_) pT⟩ ⟨by omega, by omega, fun x hx => ?_⟩
      · rw [upd_ne (ne_of_none z nl)]; exact z
      · have := hok x hx
        rw [← hl] at this
        exact this
end
end HT
/-! text L6 -/
set_option maxHeartbeats 4000000
namespace HT
open PySem PySem.Spec PyProof.Rows L2
section
variable {P : Program} {w : World} {K : PySem.W.Frag} {mg : Str → Option Value} {base : Heap}
def spLawIs : Sp := fun vs H Q _ => ∃ (x y : Bool), vs = [.bl x, .bl y] ∧ Q (.bl (decide (x = y))) H
theorem sc_law_is : FnScope ["_law_found", "_law_due"] ["_law_found", "_law_due"] (defScope s_law_is) := ⟨rfl, rfl, rfl, by decide +kernel, rfl, by decide +kernel, by decide +kernel⟩
theorem ok_law_is (T : Txt K mg) : Ok P w K mg base CX0 1 "_law_is" ["_law_found", "_law_due"] spLawIs := by
  refine ok_of (f_law_is T) (g_law_is T) sc_law_is (fun _ _ _ _ _ _ us hl => match us, hl with | [_, _], _ => rfl) (fun vs H Q E h => ?_) (fun cdv A outer s H vs Q E hcd hr h => ?_)
  · obtain ⟨x, y, rfl, _⟩ := h
    rfl
  · obtain ⟨x, y, rfl, q⟩ := h
    refine ⟨_, pss_one (ps_ret (pe_and (pe_callB call_isi (by rfl) (m_isinstance T) (by decide +kernel) (pa_cons (pv 0) (pa_cons (pe_bltn (v := .ty "bool") (by rfl) (m_bool T) (by decide +kernel) rfl) pa_nil))) (pe_one (pe_cmpR op_eq (pv 0) (pv 1) (by rfl))))), ?_⟩
    refine ⟨_, rfl, _, _, _, _, true, rfl, .ty "bool", .base (.bl x), kit_ty (by decide +kernel), _, rfl, iteT ?_⟩
    refine ⟨_, rfl, _, rfl, rfl, ?_⟩
    rw [show decide (V.bl x = V.bl y) = decide (x = y) by cases x <;> cases y <;> rfl]
    exact q
theorem kit_no2 {K : PySem.W.Frag} {t : String} (h1 : kitB t "tuple" = some false) (h2 : kitB t "list" = some false) : PySem.W.kitAny K (.type t) [.type "tuple", .type "list"] = some false :=
  kitAny_cons (b := false) (kit_ty h1) (fun _ => kitAny_cons (b := false) (kit_ty h2) (fun _ => rfl) (by intro z; cases z)) (by intro z; cases z)
theorem kit_yes2 {K : PySem.W.Frag} : PySem.W.kitAny K (.type "tuple") [.type "tuple", .type "list"] = some true :=
  kitAny_cons (b := true) (kit_ty (by decide +kernel)) (by intro z; cases z) (fun _ => rfl)
def AlS (R : Hp → V → V → Prop) : Sp := fun vs H Q _ => ∃ x y, vs = [x, y] ∧ R H x y ∧ ∀ H', Sm H H' → Q (.bl true) H'
def LeafR : Hp → V → V → Prop := fun _ x y => x = y ∧ ((∃ s, x = .str s) ∨ ∃ i, x = .int i)
def TupR (R : Hp → V → V → Prop) : Hp → V → V → Prop := fun H x y => ∃ a b xs ys, x = .ref a ∧ y = .ref b ∧ H a = some (.tup xs) ∧ H b = some (.tup ys) ∧ xs.length ≤ 40 ∧ Paired (R H) xs ys
theorem sc_law_alike : FnScope ["_law_found", "_law_due", "_law_k"] ["_law_found", "_law_due"] (defScope s_law_alike) := ⟨rfl, rfl, rfl, by decide +kernel, rfl, by decide +kernel, by decide +kernel⟩
theorem ok_alike0 (T : Txt K mg) : Ok P w K mg base CX0 1 "_law_alike" ["_law_found", "_law_due"] (AlS LeafR) := by
  refine ok_of (f_law_alike T) (g_law_alike T) sc_law_alike (fun _ _ _ _ _ _ us hl => match us, hl with | [_, _], _ => rfl) (fun vs H Q E h => ?_) (fun cdv A outer s H vs Q E hcd hr h => ?_)
  · obtain ⟨x, y, rfl, _⟩ := h
    rfl
  · obtain ⟨x, y, rfl, hx, q⟩ := h
    refine ⟨_, pss_cons (ps_if (pt_val (pe_callB call_isiT (by rfl) (m_isinstance T) (by decide +kernel) (pa_cons (pv 1) (pa_cons (pe_tup (pa_cons (pe_bltn (v := .ty "tuple") (by rfl) (m_tuple T) (by decide +kernel) rfl) (pa_cons (pe_bltn (v := .ty "list") (by rfl) (m_list T) (by decide +kernel) rfl) pa_nil))) pa_nil)))) pss_never pss_nil)
      (pss_cons (ps_if (PW.pt (pw_or (pt_cmp (pc_isN (pv 1))) (pw_or1 (pt_val (pe_callB call_isi (by rfl) (m_isinstance T) (by decide +kernel) (pa_cons (pv 1) (pa_cons (pe_bltn (v := .ty "str") (by rfl) (m_str T) (by decide +kernel) rfl) pa_nil)))))))
          (pss_one (ps_ret (pe_and (pe_cmpR op_eq (pv 0) (pv 1) (by rfl)) (pe_one (pe_cmpR op_eq (pe_callB call_isi (by rfl) (m_isinstance T) (by decide +kernel) (pa_cons (pv 0) (pa_cons (pe_bltn (v := .ty "str") (by rfl) (m_str T) (by decide +kernel) rfl) pa_nil))) (pe_callB call_isi (by rfl) (m_isinstance T) (by decide +kernel) (pa_cons (pv 1) (pa_cons (pe_bltn (v := .ty "str") (by rfl) (m_str T) (by decide +kernel) rfl) pa_nil))) (by rfl)))))) pss_nil)
      (pss_one (ps_ret (pe_and (pe_callB call_isi (by rfl) (m_isinstance T) (by decide +kernel) (pa_cons (pv 0) (pa_cons (pe_bltn (v := .ty "int") (by rfl) (m_int T) (by decide +kernel) rfl) pa_nil)))
        (pe_and (pe_cmpR op_eq (pe_callB call_isi (by rfl) (m_isinstance T) (by decide +kernel) (pa_cons (pv 0) (pa_cons (pe_bltn (v := .ty "bool") (by rfl) (m_bool T) (by decide +kernel) rfl) pa_nil))) (pe_callB call_isi (by rfl) (m_isinstance T) (by decide +kernel) (pa_cons (pv 1) (pa_cons (pe_bltn (v := .ty "bool") (by rfl) (m_bool T) (by decide +kernel) rfl) pa_nil))) (by rfl))
          (pe_one (pe_cmpR op_eq (pv 0) (pv 1) (by rfl)))))))), ?_⟩
    obtain ⟨rfl, hx⟩ := hx
    rcases hx with ⟨z, rfl⟩ | ⟨z, rfl⟩
    · refine ⟨_, rfl, (by show 2 ≤ sizeLine; decide), fun tp ntp => ?_⟩
      refine ⟨_, tp, _, .type "str", _, false, rfl, upd_same, .cons (.ty "tuple") (.cons (.ty "list") .nil), .base (.str z), kit_no2 (by decide +kernel) (by decide +kernel), _, rfl, iteF ?_⟩
      refine ⟨_, rfl, _, rfl, iteF ?_⟩
      refine ⟨_, rfl, _, _, _, _, true, rfl, .ty "str", .base (.str z), kit_ty (by decide +kernel), _, rfl, iteT ?_⟩
      refine ⟨_, rfl, _, rfl, rfl, _, rfl, ?_⟩
      rw [show decide (V.str z = V.str z) = true from decide_eq_true rfl]
      refine iteT ?_
      refine ⟨_, rfl, _, _, _, _, true, rfl, .ty "str", .base (.str z), kit_ty (by decide +kernel), ?_⟩
      refine ⟨_, rfl, _, _, _, _, true, rfl, .ty "str", .base (.str z), kit_ty (by decide +kernel), rfl, ?_⟩
      exact q _ ((Sm.refl H).new ntp)
    · refine ⟨_, rfl, (by show 2 ≤ sizeLine; decide), fun tp ntp => ?_⟩
      refine ⟨_, tp, _, .type "int", _, false, rfl, upd_same, .cons (.ty "tuple") (.cons (.ty "list") .nil), .base (.int z), kit_no2 (by decide +kernel) (by decide +kernel), _, rfl, iteF ?_⟩
      refine ⟨_, rfl, _, rfl, iteF ?_⟩
      refine ⟨_, rfl, _, _, _, _, false, rfl, .ty "str", .base (.int z), kit_ty (by decide +kernel), _, rfl, iteF ?_⟩
      refine ⟨_, rfl, _, _, _, _, true, rfl, .ty "int", .base (.int z), kit_ty (by decide +kernel), _, rfl, iteT ?_⟩
      refine ⟨_, rfl, _, _, _, _, false, rfl, .ty "bool", .base (.int z), kit_ty (by decide +kernel), ?_⟩
      refine ⟨_, rfl, _, _, _, _, false, rfl, .ty "bool", .base (.int z), kit_ty (by decide +kernel), rfl, _, rfl, iteT ?_⟩
      refine ⟨_, rfl, _, rfl, rfl, ?_⟩
      rw [show decide (V.int z = V.int z) = true from decide_eq_true rfl]
      exact q _ ((Sm.refl H).new ntp)
theorem ok_alikeS (T : Txt K mg) {R : Hp → V → V → Prop} {k : Nat} (hk : Ok P w K mg base CX0 (k + 1) "_law_alike" ["_law_found", "_law_due"] (AlS R)) (mono : ∀ {H H' x y}, Sm H H' → R H x y → R H' x y) : Ok P w K mg base CX0 (k + 2) "_law_alike" ["_law_found", "_law_due"] (AlS (TupR R)) := by
  refine ok_of (f_law_alike T) (g_law_alike T) sc_law_alike (fun _ _ _ _ _ _ us hl => match us, hl with | [_, _], _ => rfl) (fun vs H Q E h => ?_) (fun cdv A outer s H vs Q E hcd hr h => ?_)
  · obtain ⟨x, y, rfl, _⟩ := h
    rfl
  · obtain ⟨x, y, rfl, ⟨a, b, xs, ys, rfl, rfl, ea, eb, hl, hp⟩, q⟩ := h
    have nd := sc_law_alike.nd
    refine ⟨_, pss_cons (ps_if (pt_val (pe_callB call_isiT (by rfl) (m_isinstance T) (by decide +kernel) (pa_cons (pv 1) (pa_cons (pe_tup (pa_cons (pe_bltn (v := .ty "tuple") (by rfl) (m_tuple T) (by decide +kernel) rfl) (pa_cons (pe_bltn (v := .ty "list") (by rfl) (m_list T) (by decide +kernel) rfl) pa_nil))) pa_nil))))
        (pss_cons (ps_if (PW.pt (pw_or (pt_not (pt_val (pe_callB call_isiT (by rfl) (m_isinstance T) (by decide +kernel) (pa_cons (pv 0) (pa_cons (pe_tup (pa_cons (pe_bltn (v := .ty "tuple") (by rfl) (m_tuple T) (by decide +kernel) rfl) (pa_cons (pe_bltn (v := .ty "list") (by rfl) (m_list T) (by decide +kernel) rfl) pa_nil))) pa_nil)))))
              (pw_or1 (pt_cmpR op_ne (pe_callB call_isi (by rfl) (m_isinstance T) (by decide +kernel) (pa_cons (pv 0) (pa_cons (pe_bltn (v := .ty "list") (by rfl) (m_list T) (by decide +kernel) rfl) pa_nil))) (pe_callB call_isi (by rfl) (m_isinstance T) (by decide +kernel) (pa_cons (pv 1) (pa_cons (pe_bltn (v := .ty "list") (by rfl) (m_list T) (by decide +kernel) rfl) pa_nil))) (by rfl))))) pss_never pss_nil)
        (pss_cons (ps_if (pt_cmpR op_ne (pe_callB call_len_seq (by rfl) (m_len T) PySem.boot_len (pa_cons (pv 0) pa_nil)) (pe_callB call_len_seq (by rfl) (m_len T) PySem.boot_len (pa_cons (pv 1) pa_nil)) (by rfl)) pss_never pss_nil)
        (pss_one (ps_ret (pe_cmpR (op_eqD hr.units) (pe_lc (own := [("_law_k", 2)]) (g := gName 2) (tt := tNot (tB (tCall (AlS R) [] E0 (tCons (tOp (rIxT K) (tVar 0) (tVar 2)) (tCons (tOp (rIxT K) (tVar 1) (tVar 2)) tNil))))) (te := tVar 2) rfl nd (pi_range1 rfl (m_range T) (pa_cons (pe_callB call_len_seq (by rfl) (m_len T) PySem.boot_len (pa_cons (pv 1) pa_nil)) pa_nil)) (blkOk_by (N := ["_law_found", "_law_due", "_law_k"]) (sc := defScope s_law_alike) (by decide +kernel))
            (fun _ _ _ _ _ => pg_name (i := 2) nd rfl (.inl rfl)) (fun _ _ _ _ _ => pts_one (pt_not (pt_val (pe_cl hk hr (pa_cons (pe_ix ix_tup (pv 0) (pv 2) (fun _ _ => rfl)) (pa_cons (pe_ix ix_tup (pv 1) (pv 2) (fun _ _ => rfl)) pa_nil)))))) (fun _ _ _ _ _ => pv 2)) (pe_lst pa_nil) (nomark _)))))) pss_nil) pss_never, ?_⟩
    have lxy : xs.length = ys.length := Paired.length hp
    refine ⟨_, rfl, (by show 2 ≤ sizeLine; decide), fun t1 n1 => ?_⟩
    have s1 := (Sm.refl H).new (u := .tup [.ty "tuple", .ty "list"]) n1
    refine ⟨_, t1, _, .type "tuple", _, true, rfl, upd_same, .cons (.ty "tuple") (.cons (.ty "list") .nil), .base (.tup (s1.tup eb)), kit_yes2, _, rfl, iteT ?_⟩
    refine ⟨_, rfl, (by show 2 ≤ sizeLine; decide), fun t2 n2 => ?_⟩
    have s2 := s1.new (u := .tup [.ty "tuple", .ty "list"]) n2
    refine ⟨_, t2, _, .type "tuple", _, true, rfl, upd_same, .cons (.ty "tuple") (.cons (.ty "list") .nil), .base (.tup (s2.tup ea)), kit_yes2, _, rfl, iteF ?_⟩
    refine ⟨_, rfl, _, _, _, _, false, rfl, .ty "list", .base (.tup (s2.tup ea)), kit_ty (by decide +kernel), ?_⟩
    refine ⟨_, rfl, _, _, _, _, false, rfl, .ty "list", .base (.tup (s2.tup eb)), kit_ty (by decide +kernel), rfl, _, rfl, iteNS rfl ?_⟩
    refine ⟨_, rfl, a, _, rfl, .inr (SqT.of (s2.tup ea)), _, rfl, b, _, rfl, .inr (SqT.of (s2.tup eb)), rfl, _, rfl, iteNS (by rw [lxy]) ?_⟩
    refine ⟨_, rfl, b, _, rfl, .inr (SqT.of (s2.tup eb)), _, rfl, by omega, by omega, fun D nD => ?_⟩
    have s3 := s2.new (u := .lst []) nD
    refine lc_range (lo := 0) (n := ys.length) (fun i H' => Sm H H' ∧ H' D = some (.lst [])) ⟨s3, upd_same⟩ (fun i H' hi z => ?_) (fun H' z => ?_)
    · rw [Int.zero_add]
      obtain ⟨sm, eD⟩ := z
      have hx : xs[i]? = some xs[i] := List.getElem?_eq_getElem (by omega)
      obtain ⟨y, hy, hr⟩ := Paired.get' hp hx
      refine ⟨rfl, _, rfl, _, rfl, a, xs, (i : Int), xs[i], rfl, rfl, SqT.of (sm.tup ea), atI_nat (j := i) hx, ?_⟩
      refine ⟨_, rfl, _, rfl, b, ys, (i : Int), y, rfl, rfl, SqT.of (sm.tup eb), atI_nat (j := i) hy, ?_⟩
      refine ⟨xs[i], y, rfl, mono sm hr, fun H4 s4 => ⟨_, rfl, iteF ⟨sm.trans s4, s4.lst eD⟩⟩⟩
    · obtain ⟨sm, eD⟩ := z
      refine ⟨Nat.zero_le _, fun E' nE => ?_⟩
      have hDE : D ≠ E' := ne_of_none eD nE
      refine ⟨_, _, .lst (SqL.of (by rw [upd_ne hDE]; exact eD)) .nil, .lst (SqL.of upd_same) .nil, by decide +kernel, by decide +kernel, ?_⟩
      exact q _ (sm.new nE)
end
end HT
/-! text C1 -/
set_option maxHeartbeats 4000000
namespace HT
open PySem PySem.Spec PyProof.Rows L2
/-! ### cuts: what holds behind a statement or an expression is told once for all its ways -/
def tCut (t : TS) : TS := fun D σ H => ∃ J : L2.St → Hp → Prop, t { D with nx := J } σ H ∧ ∀ σ' H', J σ' H' → D.nx σ' H'
def tCutE (t : TE) : TE := fun σ H Q => ∃ J : V → Hp → Prop, t σ H J ∧ ∀ x H', J x H' → Q x H'
section
variable {X : Cx}
theorem ps_cut {st : Stmt} {t : TS} (h : PS X st t) : PS X st (tCut t) := by
  refine ⟨fun pins s σ H D I q => ?_⟩
  obtain ⟨J, q, m⟩ := q
  refine thn (h.run pins s σ H { D with nx := J } I q) fun fl s' z => ?_
  cases fl with
  | next =>
    obtain ⟨σ', H', I', z⟩ := z
    exact ⟨σ', H', I', m σ' H' z⟩
  | brk => exact z
  | cont => exact z
  | ret u => exact z
theorem pe_cut {e : Expr} {t : TE} (h : PE X e t) : PE X e (tCutE t) := by
  refine ⟨fun pins s σ H Q I q => ?_⟩
  obtain ⟨J, q, m⟩ := q
  refine thn (h.run pins s σ H J I q) fun u s' z => ?_
  obtain ⟨v, H', I', r, z⟩ := z
  exact ⟨v, H', I', r, m v H' z⟩
end
end HT
/-! text L7 -/
set_option maxHeartbeats 4000000
namespace HT
open PySem PySem.Spec PyProof.Rows L2
def rTupOf (K : PySem.W.Frag) : List V → Hp → VK → Prop := fun xs H Q => ∃ p ys, xs = [.ref p] ∧ ((SqL K H p ys ∧ ∀ l, H l = none → Q (.ref l) (upd H l (.tup ys))) ∨ (SqT K H p ys ∧ Q (.ref p) H))
theorem cr_tupOf {X : Cx} : CallR X (.type "tuple") (rTupOf X.K) := call_tuple_of
/-- ties that may be -/
def TlOk (n : Nat) (T : List (Nat × Nat)) : Prop := ∀ t ∈ T, t.1 < t.2 ∧ t.2 < n
abbrev TieP (H : Hp) : List Addr → List (Nat × Nat) → Prop := Paired (fun t p => H t = some (.tup (tieV p)))
theorem TieP.sr {K : PySem.W.Frag} {sc r : Addr} {H H' : Hp} {ts : List Addr} {T : List (Nat × Nat)} (s : Sr r H H') (h : RowAt K sc H r) (x : TieP H ts T) : TieP H' ts T := Paired.imp' (fun _ _ z => s.tup h z) x
theorem TieP.sm {H H' : Hp} {ts : List Addr} {T : List (Nat × Nat)} (s : Sm H H') (x : TieP H ts T) : TieP H' ts T := Paired.imp' (fun _ _ z => s.tup z) x
/-- each place but 0 hangs on a smaller one -/
def Tree (n : Nat) (T : List (Nat × Nat)) : Prop := ∀ p, 1 ≤ p → p < n → ∃ k, k < p ∧ (k, p) ∈ T
theorem tree_con {n : Nat} {T : List (Nat × Nat)} (h : Tree n T) : ∀ v, v < n → Reach T [] 0 v := by
  intro v
  induction v using Nat.strongRecOn with
  | ind v ih =>
    intro hv
    by_cases e : v = 0
    · rw [e]; exact .base
    · obtain ⟨k, hk, hm⟩ := h v (by omega) hv
      exact .step (ih k hk (by omega)) (.inl hm) (by simp)
theorem lift_map {α β : Type} {f : α → β} {Z : List α} : ∀ {L : List β}, (∀ q ∈ L, ∃ e ∈ Z, q = f e) → ∃ E : List α, L = E.map f ∧ ∀ e ∈ E, e ∈ Z
  | [], _ => ⟨[], rfl, fun _ h => by cases h⟩
  | q :: L, h => by
    obtain ⟨e, he, hq⟩ := h q (List.mem_cons_self ..)
    obtain ⟨E, h1, h2⟩ := lift_map (L := L) fun x hx => h x (List.mem_cons_of_mem _ hx)
    exact ⟨e :: E, by rw [List.map_cons, hq, h1], fun x hx => (List.mem_cons.mp hx).elim (fun z => z ▸ he) (h2 x)⟩
def tyI (e : Addr × (Nat × Nat)) : Addr × List Int := (e.1, [(e.2.1 : Int), (e.2.2 : Int)])
theorem sort2 {L : List Int} {p k : Int} (h : L.Perm [p, k]) (hs : L.Pairwise (· ≤ ·)) (hk : k < p) : L = [k, p] := by
  have hl := h.length_eq
  match L, hl with
  | [a, b], _ =>
    have ha : a = p ∨ a = k := by simpa using h.mem_iff.mp (List.mem_cons_self ..)
    have hb : b = p ∨ b = k := by simpa using h.mem_iff.mp (List.mem_cons_of_mem _ (List.mem_cons_self ..))
    have hp : p = a ∨ p = b := by simpa using h.mem_iff.mpr (List.mem_cons_self ..)
    have hk' : k = a ∨ k = b := by simpa using h.mem_iff.mpr (List.mem_cons_of_mem _ (List.mem_cons_self ..))
    have hab : a ≤ b := by simpa using hs
    have e1 : a = k := by omega
    have e2 : b = p := by omega
    rw [e1, e2]
section
variable {P : Program} {w : World} {K : PySem.W.Frag} {mg : Str → Option Value} {base : Heap}
def spLawYard (K : PySem.W.Frag) : Sp := fun vs H Q _ => ∃ (sc r : Addr), vs = [.ref r, .int 5] ∧ RowAt K sc H r ∧
  ∀ H' y n g (T : List (Nat × Nat)), Sr r H H' → RowAt K sc H' r → YardAt H' y n T g → YardOk n T g → n ≤ 5 → Q (.ref y) H'
theorem sc_law_yard : FnScope ["_law_row", "_law_most", "_law_places", "_law_ties", "_law_pairs", "_law_one", "_law_way", "_law_turn", "_law_place", "_law_other"] ["_law_row", "_law_most"] (defScope s_law_yard) := ⟨rfl, rfl, rfl, by decide +kernel, rfl, by decide +kernel, by decide +kernel⟩
theorem ok_law_yard (T : Txt K mg) : Ok P w K mg base CX0 3 "_law_yard" ["_law_row", "_law_most"] (spLawYard K) := by
  refine ok_of (f_law_yard T) (g_law_yard T) sc_law_yard (fun _ _ _ _ _ _ us hl => match us, hl with | [_, _], _ => rfl) (fun vs H Q E h => ?_) (fun cdv A outer s H vs Q E hcd hr h => ?_)
  · obtain ⟨sc, r, rfl, _⟩ := h
    rfl
  · obtain ⟨sc, r, rfl, hR, q⟩ := h
    have nd := sc_law_yard.nd
    have hr1 : Room 1 _ := hr.mono (by decide)
    have hu64 : (A.deeper (envOfC "_law_yard" (defScope s_law_yard) s.heap.objs.size (He.ga K "_law_yard") cdv)).units + 64 < cLine := Nat.lt_of_le_of_lt (by omega) hr.un
    refine ⟨_, pss_cons (ps_set (i := 2) nd rfl (.inl rfl) (pe_op op_add pe_int (pe_cl (ok_law_taken T) hr1 (pa_cons (pv 0) (pa_cons (pe_op op_sub (pv 1) pe_int) pa_nil)))))
      (pss_cons (ps_setLc (i := 3) (own := [("_law_place", 8)]) (g := gName 8) (tt := tYes) (te := tCB (rTupOf K) (tCons (tCB (rSorted K) (tCons (tLst (tCons (tVar 8) (tCons (tCall (spTaken K) [] E0 (tCons (tVar 0) (tCons (tVar 8) tNil))) tNil))) tNil)) tNil)) rfl nd rfl rfl (sw_true rfl rfl rfl (by decide +kernel)) (pi_range2 rfl (m_range T) (pa_cons pe_int (pa_cons (pv 2) pa_nil))) (blkOk_by (N := ["_law_row", "_law_most", "_law_places", "_law_ties", "_law_pairs", "_law_one", "_law_way", "_law_turn", "_law_place", "_law_other"]) (sc := defScope s_law_yard) (by decide +kernel))
          (fun _ _ _ _ _ => pg_name (i := 8) nd rfl (.inl rfl)) (fun _ _ _ _ _ => pts_nil)
          (fun _ _ _ _ _ => pe_callTy cr_tupOf (by rfl) (m_tuple T) (by decide +kernel) (pa_cons (pe_callB cr_sorted (by rfl) (m_sorted T) (by decide +kernel) (pa_cons (pe_lst (pa_cons (pv 8) (pa_cons (pe_cl (ok_law_taken T) hr1 (pa_cons (pv 0) (pa_cons (pv 8) pa_nil))) pa_nil))) pa_nil)) pa_nil)))
      (pss_cons (ps_set (i := 4) nd rfl (.inl rfl) (pe_lst pa_nil))
      (pss_cons (ps_for PassesOwn.never rfl (pi_range1 rfl (m_range T) (pa_cons (pv 2) pa_nil)) (pg_name (i := 5) nd rfl (.inr rfl))
        (pss_one (ps_set (i := 4) nd rfl (.inl rfl) (pe_op op_cat (pv 4)
          (pe_lc (own := [("_law_other", 9)]) (g := gName 9) (tt := tYes) (te := tTup (tCons (tVar 5) (tCons (tVar 9) tNil))) rfl nd (pi_range2 rfl (m_range T) (pa_cons (pe_op op_add (pv 5) pe_int) (pa_cons (pv 2) pa_nil))) (blkOk_by (N := ["_law_row", "_law_most", "_law_places", "_law_ties", "_law_pairs", "_law_one", "_law_way", "_law_turn", "_law_place", "_law_other"]) (sc := defScope s_law_yard) (by decide +kernel))
            (fun _ _ _ _ _ => pg_name (i := 9) nd rfl (.inl rfl)) (fun _ _ _ _ _ => pts_nil) (fun _ _ _ _ _ => pe_tup (pa_cons (pv 5) (pa_cons (pv 9) pa_nil))))))))
      (pss_cons (ps_set (i := 6) nd rfl (.inl rfl) (pe_cl (ok_law_taken T) hr1 (pa_cons (pv 0) (pa_cons pe_int pa_nil))))
      (pss_cons (ps_cut (ps_if (pt_cmpR op_eq (pv 6) pe_int (nomark _))
          (pss_one (ps_set (i := 3) nd rfl (.inl rfl) (pe_op op_cat
            (pe_lc (own := [("_law_place", 8)]) (g := gName 8) (tt := tYes) (te := tTup (tCons (tVar 8) (tCons (tOp (rI0 fun i j => .int (i + j)) (tVar 8) (tC (.int 1))) tNil))) rfl nd (pi_range1 rfl (m_range T) (pa_cons (pe_op op_sub (pv 2) pe_int) pa_nil)) (blkOk_by (N := ["_law_row", "_law_most", "_law_places", "_law_ties", "_law_pairs", "_law_one", "_law_way", "_law_turn", "_law_place", "_law_other"]) (sc := defScope s_law_yard) (by decide +kernel))
              (fun _ _ _ _ _ => pg_name (i := 8) nd rfl (.inl rfl)) (fun _ _ _ _ _ => pts_nil) (fun _ _ _ _ _ => pe_tup (pa_cons (pv 8) (pa_cons (pe_op op_add (pv 8) pe_int) pa_nil))))
            (pe_lst (pa_cons (pe_tup (pa_cons pe_int (pa_cons (pe_op op_sub (pv 2) pe_int) pa_nil))) pa_nil))))) pss_nil))
      (pss_cons (ps_for PassesOwn.never rfl (pi_range1 rfl (m_range T) (pa_cons (pe_cut (pe_ifExp (pt_cmpR op_lt (pv 6) pe_int (nomark _)) (pe_cl (ok_law_taken T) hr1 (pa_cons (pv 0) (pa_cons pe_int pa_nil))) pe_int)) pa_nil)) (pg_name (i := 7) nd rfl (.inl rfl))
        (pss_one (ps_expr (pe_bm PySem.F.plainAttrs_list PySem.F.slot_list_append PySem.F.type_list_append mt_append (pv 3) (pa_cons (pe_cl (ok_law_pick T) hr (pa_cons (pv 0) (pa_cons (pv 4) pa_nil))) pa_nil)))))
      (pss_one (ps_ret (pe_tup (pa_cons (pv 2) (pa_cons (pe_callTy call_tuple_of (by rfl) (m_tuple T) (by decide +kernel) (pa_cons (pe_callB (cr_sortedT rfl) (by rfl) (m_sorted T) (by decide +kernel) (pa_cons (pe_callTy (cr_setOfT rfl hu64) (by rfl) (m_set T) (by decide +kernel) (pa_cons (pv 3) pa_nil)) pa_nil)) pa_nil))
          (pa_cons (pe_cl (ok_law_taken T) hr1 (pa_cons (pv 0) (pa_cons (pv 2) pa_nil))) pa_nil)))))))))))), ?_⟩
    refine ⟨_, rfl, _, rfl, 5, 1, rfl, rfl, sc, r, 4, rfl, by decide, by decide, hR, fun H1 k0 sr1 hR1 hk0 => ?_⟩
    obtain ⟨n, hn, n2, n5⟩ : ∃ n : Nat, (2 + (k0 : Int)) = (n : Int) ∧ 2 ≤ n ∧ n ≤ 5 := ⟨2 + k0, by omega, by omega, by omega⟩
    refine rI_add hn ?_
    refine ⟨_, rfl, 1, (n : Int), rfl, ⟨by omega, by omega, by omega, by omega⟩, fun D nD => ?_⟩
    refine lc_range (lo := 1) (n := ((n : Int) - 1).toNat) (fun i H' => ∃ (ks : List Addr) (T : List (Nat × Nat)), Sr r H H' ∧ RowAt K sc H' r ∧ H' D = some (.lst (ks.map V.ref)) ∧ TieP H' ks T ∧ TlOk n T ∧ T.length = i ∧ ∀ p, 1 ≤ p → p < 1 + i → ∃ k, k < p ∧ (k, p) ∈ T)
      ⟨[], [], sr1.updN (sr1.free hR1 nD), hR1.updN nD, upd_same, .nil, (fun t ht => by cases ht), rfl, fun p h1 h2 => by omega⟩ (fun i H' hi z => ?_) (fun H' z => ?_)
    · rw [show (1 + (i : Int)) = ((i + 1 : Nat) : Int) by omega]
      obtain ⟨ks, Ts, sr, hR', eD, pT, hT, hl, htr⟩ := z
      have lks := Paired.length pT
      have hDr : D ≠ r := fun z => by
        obtain ⟨_, _, _, _, eR, _⟩ := hR1
        rw [← z, nD] at eR; cases eR
      refine ⟨rfl, yes_if ?_⟩
      refine ⟨_, rfl, _, rfl, _, rfl, sc, r, i + 1, rfl, by omega, by omega, hR', fun H2 k s2 hR2 hk => ?_⟩
      refine ⟨(by show 2 ≤ sizeLine; decide), fun l nl => ?_⟩
      refine ⟨l, [((i + 1 : Nat) : Int), (k : Int)], rfl, SqL.of upd_same, (by show 2 < 64; decide), fun L l2 hL hs nl2 => ?_⟩
      obtain rfl := sort2 hL hs (by omega)
      refine ⟨l2, _, rfl, .inl ⟨SqL.of upd_same, fun tp ntp => ?_⟩⟩
      have sm3 := (((Sm.refl H2).new (u := .lst [.int ((i + 1 : Nat) : Int), .int (k : Int)]) nl).new (u := .lst [.int (k : Int), .int ((i + 1 : Nat) : Int)]) nl2).new (u := .tup [.int (k : Int), .int ((i + 1 : Nat) : Int)]) ntp
      have s5 := (sr.trans s2).trans sm3.sr
      have hR5 := hR2.sm sm3
      have eD5 := sm3.lst (s2 _ _ hDr eD)
      have nD0 : H D = none := sr1.free hR1 nD
      refine ⟨_, eD5, ?_, ks ++ [tp], Ts ++ [(k, i + 1)], s5.updN nD0, hR.same hR5 (s5.updN nD0) (upd_ne hDr.symm), by rw [upd_same, List.map_append]; rfl, ?_, ?_, by rw [List.length_append, List.length_singleton, hl], fun p h1 h2 => ?_⟩
      · rw [List.length_map]; exact small1000 (by omega)
      · have h1 : TieP _ (ks ++ [tp]) (Ts ++ [(k, i + 1)]) := paired_app (TieP.sm sm3 (TieP.sr s2 hR' pT)) (.cons upd_same .nil)
        exact Paired.imp' (fun t p z => by rw [upd_ne (fun zz => by rw [zz, eD5] at z; cases z)]; exact z) h1
      · intro t ht
        rcases List.mem_append.mp ht with z | z
        · exact hT t z
        · have : t = (k, i + 1) := by simpa using z
          rw [this]
          exact ⟨hk, by show i + 1 < n; omega⟩
      · by_cases e : p = i + 1
        · exact ⟨k, by omega, List.mem_append_right _ (by rw [e]; simp)⟩
        · obtain ⟨k', h3, h4⟩ := htr p h1 (by omega)
          exact ⟨k', h3, List.mem_append_left _ h4⟩
    · obtain ⟨ks, Ts, sr, hR', eD, pT, hT, hl, htr⟩ := z
      have hTree : Tree n Ts := fun p h1 h2 => htr p h1 (by omega)
      have hDr : D ≠ r := fun z => by
        obtain ⟨_, _, _, _, eR, _⟩ := hR1
        rw [← z, nD] at eR; cases eR
      have nD0 : H D = none := sr1.free hR1 nD
      refine ⟨Nat.zero_le _, fun Q0 nQ0 => ?_⟩
      refine ⟨_, rfl, _, rfl, by omega, by omega, for_range (lo := 0) (n := n) (fun i σ H2 => ∃ (Pa : Addr) (us : List Addr) (U : List (Nat × Nat)) (y5 : Option V), σ = [some (.ref r), some (.int 5), some (.int n), some (.ref D), some (.ref Pa), y5, none, none, none, none] ∧ Sm H' H2 ∧ H2 Pa = some (.lst (us.map V.ref)) ∧ H' Pa = none ∧ TieP H2 us U ∧ TlOk n U ∧ U.length ≤ 7 * i ∧ (1 ≤ i → 1 ≤ U.length))
        ⟨Q0, [], [], none, rfl, (Sm.refl H').new nQ0, upd_same, nQ0, .nil, (fun t ht => by cases ht), Nat.le_refl _, fun h => absurd h (by decide)⟩ (fun i σ H2 hi z => ?_) (fun σ H2 z => ?_)⟩
      · rw [Int.zero_add]
        obtain ⟨Pa, us, U, y5, rfl, sm, eP, nP, pU, hU, lU, hne⟩ := z
        have lus := Paired.length pU
        refine ⟨_, rfl, _, rfl, ?_⟩
        refine tc_add (i := (i : Int)) (j := 1) (m := ((i + 1 : Nat) : Int)) (by omega) ?_
        refine ⟨_, rfl, ((i + 1 : Nat) : Int), (n : Int), rfl, ⟨by omega, by omega, by omega, by omega⟩, fun D2 nD2 => ?_⟩
        refine lc_range (lo := ((i + 1 : Nat) : Int)) (n := ((n : Int) - ((i + 1 : Nat) : Int)).toNat) (fun j H3 => ∃ (vs : List Addr) (V0 : List (Nat × Nat)), Sm H2 H3 ∧ H3 D2 = some (.lst (vs.map V.ref)) ∧ TieP H3 vs V0 ∧ TlOk n V0 ∧ V0.length = j)
          ⟨[], [], (Sm.refl H2).new nD2, upd_same, .nil, (fun t ht => by cases ht), rfl⟩ (fun j H3 hj z => ?_) (fun H3 z => ?_)
        · rw [show (((i + 1 : Nat) : Int) + (j : Int)) = ((i + 1 + j : Nat) : Int) by omega]
          obtain ⟨vs, V0, s3, eD2, pV, hV, hlV⟩ := z
          have lvs := Paired.length pV
          refine ⟨rfl, yes_if ?_⟩
          refine ⟨_, rfl, _, rfl, (by show 2 ≤ sizeLine; decide), fun tp ntp => ?_⟩
          have s4 := (Sm.refl H3).new (u := .tup [.int (i : Int), .int ((i + 1 + j : Nat) : Int)]) ntp
          refine ⟨_, s4.lst eD2, ?_, vs ++ [tp], V0 ++ [(i, i + 1 + j)], (s3.trans s4).upd nD2, by rw [upd_same, List.map_append]; rfl, ?_, ?_, by rw [List.length_append, List.length_singleton, hlV]⟩
          · rw [List.length_map]; exact small1000 (by omega)
          · have h1 : TieP _ (vs ++ [tp]) (V0 ++ [(i, i + 1 + j)]) := paired_app (TieP.sm s4 pV) (.cons upd_same .nil)
            exact Paired.imp' (fun t p z => by rw [upd_ne (fun zz => by rw [zz, s4.lst eD2] at z; cases z)]; exact z) h1
          · intro t ht
            rcases List.mem_append.mp ht with z | z
            · exact hV t z
            · have : t = (i, i + 1 + j) := by simpa using z
              rw [this]
              exact ⟨by show i < i + 1 + j; omega, by show i + 1 + j < n; omega⟩
        · obtain ⟨vs, V0, s3, eD2, pV, hV, hlV⟩ := z
          have lvs := Paired.length pV
          refine ⟨Pa, D2, _, _, rfl, rfl, s3.lst eP, eD2, ?_, fun l nl => ?_⟩
          · rw [List.length_map, List.length_map]
            exact Nat.le_of_lt (small1000 (by omega))
          · have s5 := (sm.trans s3).new (u := .lst (us.map V.ref ++ vs.map V.ref)) nl
            refine ⟨l, us ++ vs, U ++ V0, _, rfl, s5, by rw [upd_same, List.map_append], (sm.trans s3).free nl, ?_, ?_, ?_, ?_⟩
            · have s6 := (Sm.refl H3).new (u := .lst (us.map V.ref ++ vs.map V.ref)) nl
              exact paired_app (TieP.sm (s3.trans s6) pU) (TieP.sm s6 pV)
            · intro t ht
              rcases List.mem_append.mp ht with z | z
              · exact hU t z
              · exact hV t z
            · rw [List.length_append]; omega
            · intro _
              rw [List.length_append]
              by_cases e : 1 ≤ i
              · have := hne e; omega
              · omega
      · obtain ⟨Pa, us, U, y5, rfl, sm, eP, nP, pU, hU, lU, hne⟩ := z
        have hU1 := hne (by omega)
        have lus := Paired.length pU
        have hPr : Pa ≠ r := hR'.nn nP
        have hR2 := hR'.sm sm
        have sr2 := sr.trans sm.sr
        have nP0 : H Pa = none := sr.free hR' nP
        refine ⟨_, rfl, sc, r, 4, rfl, by decide, by decide, hR2, fun H3 way s3 hR3 hway => ?_⟩
        have eP3 := s3 _ _ hPr eP
        have pU3 := TieP.sr s3 hR2 pU
        have eD3 := s3 _ _ hDr (sm.lst eD)
        have pT3 := TieP.sr s3 hR2 (TieP.sm sm pT)
        have sr3 := sr2.trans s3
        refine ⟨fun σ Hx => ∃ (Da : Addr) (ks : List Addr) (Ts : List (Nat × Nat)) (y5 : Option V), σ = [some (.ref r), some (.int 5), some (.int n), some (.ref Da), some (.ref Pa), y5, some (.int way), none, none, none] ∧ Sr r H Hx ∧ RowAt K sc Hx r ∧ Hx Da = some (.lst (ks.map V.ref)) ∧ H Da = none ∧ TieP Hx ks Ts ∧ TlOk n Ts ∧ Tree n Ts ∧ Ts.length ≤ 5 ∧ Hx Pa = some (.lst (us.map V.ref)) ∧ TieP Hx us U ∧ Da ≠ Pa, ?_, fun σ Hx z => ?_⟩
        · refine ⟨_, rfl, rfl, _, rfl, ite2 (fun c => ?_) (fun c => ?_)⟩
          · refine ⟨_, rfl, ?_⟩
            refine tc_sub (i := (n : Int)) (j := 1) (m := ((n - 1 : Nat) : Int)) (by omega) ?_
            refine ⟨_, rfl, by omega, by omega, fun D4 nD4 => ?_⟩
            refine lc_range (lo := 0) (n := n - 1) (fun j H4 => ∃ (vs : List Addr) (V0 : List (Nat × Nat)), Sm H3 H4 ∧ H4 D4 = some (.lst (vs.map V.ref)) ∧ TieP H4 vs V0 ∧ TlOk n V0 ∧ V0.length = j ∧ ∀ p, 1 ≤ p → p < 1 + j → ∃ k, k < p ∧ (k, p) ∈ V0)
              ⟨[], [], (Sm.refl H3).new nD4, upd_same, .nil, (fun t ht => by cases ht), rfl, fun p h1 h2 => by omega⟩ (fun j H4 hj z => ?_) (fun H4 z => ?_)
            · rw [Int.zero_add]
              obtain ⟨vs, V0, s4, eD4, pV, hV, hlV, htr4⟩ := z
              have lvs := Paired.length pV
              refine ⟨rfl, yes_if ?_⟩
              refine ⟨_, rfl, _, rfl, ?_⟩
              refine tc_add (i := (j : Int)) (j := 1) (m := ((j + 1 : Nat) : Int)) (by omega) ?_
              refine ⟨(by show 2 ≤ sizeLine; decide), fun tp ntp => ?_⟩
              have s5 := (Sm.refl H4).new (u := .tup [.int (j : Int), .int ((j + 1 : Nat) : Int)]) ntp
              refine ⟨_, s5.lst eD4, ?_, vs ++ [tp], V0 ++ [(j, j + 1)], (s4.trans s5).upd nD4, by rw [upd_same, List.map_append]; rfl, ?_, ?_, by rw [List.length_append, List.length_singleton, hlV], fun p h1 h2 => ?_⟩
              · rw [List.length_map]; exact small1000 (by omega)
              · have h1 : TieP _ (vs ++ [tp]) (V0 ++ [(j, j + 1)]) := paired_app (TieP.sm s5 pV) (.cons upd_same .nil)
                exact Paired.imp' (fun t p z => by rw [upd_ne (fun zz => by rw [zz, s5.lst eD4] at z; cases z)]; exact z) h1
              · intro t ht
                rcases List.mem_append.mp ht with z | z
                · exact hV t z
                · have : t = (j, j + 1) := by simpa using z
                  rw [this]
                  exact ⟨by show j < j + 1; omega, by show j + 1 < n; omega⟩
              · by_cases e : p = j + 1
                · exact ⟨j, by omega, List.mem_append_right _ (by rw [e]; simp)⟩
                · obtain ⟨k', h3, h4⟩ := htr4 p h1 (by omega)
                  exact ⟨k', h3, List.mem_append_left _ h4⟩
            · obtain ⟨vs, V0, s4, eD4, pV, hV, hlV, htr4⟩ := z
              have lvs := Paired.length pV
              refine ⟨_, rfl, ?_⟩
              refine tc_sub (i := (n : Int)) (j := 1) (m := ((n - 1 : Nat) : Int)) (by omega) ?_
              refine ⟨(by show 2 ≤ sizeLine; decide), fun t5 n5' => ?_⟩
              refine ⟨(by show 1 ≤ sizeLine; decide), fun l5 nl5 => ?_⟩
              have s5 := (Sm.refl H4).new (u := .tup [.int 0, .int ((n - 1 : Nat) : Int)]) n5'
              have s6 := s5.new (u := .lst [.ref t5]) nl5
              have e5 : upd (upd H4 t5 (.tup [.int 0, .int ((n - 1 : Nat) : Int)])) l5 (.lst [.ref t5]) t5 = some (.tup [.int 0, .int ((n - 1 : Nat) : Int)]) := by
                rw [upd_ne (ne_of_none (H := upd H4 t5 (.tup [.int 0, .int ((n - 1 : Nat) : Int)])) upd_same nl5)]; exact upd_same
              refine ⟨D4, l5, _, _, rfl, rfl, s6.lst eD4, upd_same, ?_, fun Da nDa => ?_⟩
              · rw [List.length_map]; exact Nat.le_of_lt (small1000 (by show _ + 1 ≤ 1000; omega))
              · have s7 := s6.new (u := .lst (vs.map V.ref ++ [.ref t5])) nDa
                have s8 : Sm H3 _ := s4.trans s7
                have eP8 := s8.lst eP3
                refine ⟨Da, vs ++ [t5], V0 ++ [(0, n - 1)], _, rfl, sr3.trans s8.sr, hR3.sm s8, by rw [upd_same, List.map_append]; rfl, sr3.free hR3 ((s4.trans s6).free nDa), ?_, ?_, ?_, ?_, eP8, TieP.sm s8 pU3, ?_⟩
                · exact paired_app (TieP.sm s7 pV) (.cons (Sm.tup ((Sm.refl _).new nDa) e5) .nil)
                · intro t ht
                  rcases List.mem_append.mp ht with z | z
                  · exact hV t z
                  · have : t = (0, n - 1) := by simpa using z
                    rw [this]
                    exact ⟨by show 0 < n - 1; omega, by show n - 1 < n; omega⟩
                · intro p h1 h2
                  obtain ⟨k', h3, h4⟩ := htr4 p h1 (by omega)
                  exact ⟨k', h3, List.mem_append_left _ h4⟩
                · rw [List.length_append, List.length_singleton]; omega
                · intro e
                  rw [e] at nDa
                  rw [(s4.trans s6).lst eP3] at nDa
                  cases nDa
          · exact ⟨D, ks, Ts, _, rfl, sr3, hR3, eD3, nD0, pT3, hT, hTree, by omega, eP3, pU3, fun e => by rw [← e] at nP; rw [eD] at nP; cases nP⟩
        · obtain ⟨Da, ks, Ts, y5, rfl, sr4, hR4, eDa, nDa0, pT4, hT4, hTr4, l5, ePa, pU4, hDP⟩ := z
          have hDar : Da ≠ r := hR.nn nDa0
          refine ⟨fun x Hy => ∃ m : Nat, x = .int (m : Int) ∧ m ≤ 3 ∧ Sr r Hx Hy ∧ RowAt K sc Hy r, ?_, fun x Hy z => ?_⟩
          · refine ⟨_, rfl, _, _, rfl, rfl, _, rfl, ite2 (fun c => ?_) (fun c => ?_)⟩
            · exact ⟨_, rfl, sc, r, 4, rfl, by decide, by decide, hR4, fun H5 k s5 hR5 hk => ⟨k, rfl, by omega, s5, hR5⟩⟩
            · exact ⟨0, rfl, by decide, Sr.refl r Hx, hR4⟩
          · obtain ⟨m, rfl, hm, s5, hR5⟩ := z
            refine ⟨_, rfl, by omega, by omega, for_range (lo := 0) (n := m) (fun i σ Hz => ∃ (ks : List Addr) (Ts : List (Nat × Nat)) (y7 : Option V), σ = [some (.ref r), some (.int 5), some (.int n), some (.ref Da), some (.ref Pa), y5, some (.int way), y7, none, none] ∧ Sr r H Hz ∧ RowAt K sc Hz r ∧ Hz Da = some (.lst (ks.map V.ref)) ∧ TieP Hz ks Ts ∧ TlOk n Ts ∧ Tree n Ts ∧ Ts.length ≤ 5 + i ∧ Hz Pa = some (.lst (us.map V.ref)) ∧ TieP Hz us U)
              ⟨ks, Ts, none, rfl, sr4.trans s5, hR5, s5 _ _ hDar eDa, TieP.sr s5 hR4 pT4, hT4, hTr4, l5, s5 _ _ hPr ePa, TieP.sr s5 hR4 pU4⟩ (fun i σ Hz hi z => ?_) (fun σ Hz z => ?_)⟩
            · rw [Int.zero_add]
              obtain ⟨ks, Ts, y7, rfl, sz, hRz, eDz, pTz, hTz, hTrz, lz, ePz, pUz⟩ := z
              have lkz := Paired.length pTz
              refine ⟨.ref Da, rfl, .inl ⟨rfl, _, SqL.of eDz⟩, _, rfl, _, rfl, sc, r, Pa, us.map V.ref, rfl, hPr, SqL.of ePz, by rw [List.length_map]; omega, by rw [List.length_map]; omega, hRz, fun H5 x s6 hR6 hx => ?_⟩
              obtain ⟨t, ht, rfl⟩ := List.mem_map.mp hx
              obtain ⟨u, hu, eu⟩ := paired_mem pUz ht
              have eu6 := s6.tup hRz eu
              have eD6 := s6 _ _ hDar eDz
              have pT6 := TieP.sr s6 hRz pTz
              have pU6 := TieP.sr s6 hRz pUz
              have s7 := (sz.trans s6).updN (u := .lst (ks.map V.ref ++ [.ref t])) nDa0
              refine ⟨Da, ks.map V.ref, .ref t, rfl, rfl, eD6, ?_, ks ++ [t], Ts ++ [u], _, rfl, s7, hR.same hR6 s7 (upd_ne hDar.symm), by rw [upd_same, List.map_append]; rfl, ?_, ?_, ?_, by rw [List.length_append, List.length_singleton]; omega, by rw [upd_ne hDP.symm]; exact s6 _ _ hPr ePz, ?_⟩
              · rw [List.length_map]; exact small1000 (by omega)
              · have h1 : TieP _ (ks ++ [t]) (Ts ++ [u]) := paired_app pT6 (.cons eu6 .nil)
                exact Paired.imp' (fun t p z => by rw [upd_ne (fun zz => by rw [zz, eD6] at z; cases z)]; exact z) h1
              · intro a ha
                rcases List.mem_append.mp ha with z | z
                · exact hTz a z
                · have : a = u := by simpa using z
                  rw [this]; exact hU u hu
              · intro p h1 h2
                obtain ⟨k', h3, h4⟩ := hTrz p h1 h2
                exact ⟨k', h3, List.mem_append_left _ h4⟩
              · exact Paired.imp' (fun t p z => by rw [upd_ne (fun zz => by rw [zz, eD6] at z; cases z)]; exact z) pU6
            · obtain ⟨ks, Ts, y7, rfl, sz, hRz, eDz, pTz, hTz, hTrz, lz, ePz, pUz⟩ := z
              have lkz := Paired.length pTz
              have hzm : ∀ e ∈ ks.zip Ts, Hz e.1 = some (.tup (tieV e.2)) := mem_zip_paired pTz
              have hz1 : (ks.zip Ts).map (·.1) = ks := List.map_fst_zip (by omega)
              have hz2 : (ks.zip Ts).map (·.2) = Ts := List.map_snd_zip (by omega)
              refine ⟨_, rfl, _, rfl, Da, (ks.zip Ts).map tyI, rfl, ?_, ?_, ?_, fun St L nSt hL1 hL2 => ?_⟩
              · refine SqL.of ?_
                rw [eDz, List.map_map]
                conv => lhs; rw [← hz1]
                rw [List.map_map]; rfl
              · intro p hp
                obtain ⟨e, he, rfl⟩ := List.mem_map.mp hp
                exact SqT.of (hzm e he)
              · rw [List.length_map, List.length_zip]; omega
              · have hLz : ∀ p ∈ L, ∃ e ∈ ks.zip Ts, p = tyI e := fun p hp => by
                  obtain ⟨e, he, h⟩ := List.mem_map.mp (hL1 p hp)
                  exact ⟨e, he, h.symm⟩
                have hzo : ∀ e ∈ ks.zip Ts, e.2.1 < e.2.2 ∧ e.2.2 < n := fun e he => hTz e.2 (by rw [← hz2]; exact List.mem_map.mpr ⟨e, he, rfl⟩)
                have sm1 := (Sm.refl Hz).new (u := SetTO P w St L) nSt
                refine ⟨St, L, 2, 7, rfl, upd_same, fun p hp => ?_, by decide, fun p hp => ?_, fun L' pl hperm hnd h64 hpw npl => ?_⟩
                · obtain ⟨e, he, rfl⟩ := hLz p hp
                  exact SqT.of (sm1.tup (hzm e he))
                · obtain ⟨e, he, rfl⟩ := hLz p hp
                  have := hzo e he
                  refine ⟨rfl, fun m hm => ?_⟩
                  have hm' : m = (e.2.1 : Int) ∨ m = (e.2.2 : Int) := by simpa [tyI] using hm
                  omega
                · obtain ⟨E', rfl, hE'⟩ := lift_map (f := tyI) (Z := ks.zip Ts) (L := L') fun q hq => hLz q (hperm.mem_iff.mp hq)
                  have sm2 := sm1.new (u := .lst ((E'.map tyI).map fun q => V.ref q.1)) npl
                  refine ⟨pl, _, rfl, .inl ⟨SqL.of upd_same, fun tt ntt => ?_⟩⟩
                  have sm3 := sm2.new (u := .tup ((E'.map tyI).map fun q => V.ref q.1)) ntt
                  have hR7 := hRz.sm sm3
                  refine ⟨_, rfl, _, rfl, sc, r, n, rfl, by omega, by omega, hR7, fun H8 gt s8 hR8 hgt => ?_⟩
                  refine ⟨(by show 3 ≤ sizeLine; decide), fun yy nyy => ?_⟩
                  have s9 := (sz.trans sm3.sr).trans s8
                  have ett : H8 tt = some (.tup ((E'.map (·.1)).map V.ref)) := by
                    have := s8.tup hR7 (t := tt) upd_same
                    rw [this, List.map_map, List.map_map]; rfl
                  have smy := (Sm.refl H8).new (u := .tup [.int (n : Int), .ref tt, .int (gt : Int)]) nyy
                  refine q _ yy n gt (E'.map (·.2)) (s9.updN (s9.free hR8 nyy)) (hR8.updN nyy) ⟨tt, upd_same, E'.map (·.1), smy.tup ett, ?_⟩ ?_ n5
                  · have h1 : ∀ E' : List (Addr × (Nat × Nat)), (∀ e ∈ E', e ∈ ks.zip Ts) → TieP (upd H8 yy (.tup [.int (n : Int), .ref tt, .int (gt : Int)])) (E'.map (·.1)) (E'.map (·.2)) := fun E' h => by
                      induction E' with
                      | nil => exact .nil
                      | cons e E' ih => exact .cons (smy.tup (s8.tup hR7 (sm3.tup (hzm e (h e (List.mem_cons_self ..)))))) (ih fun x hx => h x (List.mem_cons_of_mem _ hx))
                    exact h1 E' hE'
                  · have hmem : ∀ u, u ∈ Ts → u ∈ E'.map (·.2) := fun u hu => by
                      rw [← hz2] at hu
                      obtain ⟨e, he, rfl⟩ := List.mem_map.mp hu
                      have h1 := hL2 (tyI e) (List.mem_map.mpr ⟨e, he, rfl⟩)
                      obtain ⟨p, hp, e2⟩ := List.mem_map.mp h1
                      obtain ⟨e', he', rfl⟩ := List.mem_map.mp (hperm.mem_iff.mpr hp)
                      refine List.mem_map.mpr ⟨e', he', ?_⟩
                      have e3 : [(e'.2.1 : Int), (e'.2.2 : Int)] = [(e.2.1 : Int), (e.2.2 : Int)] := e2
                      injection e3 with h1 h2
                      injection h2 with h2
                      exact Prod.ext (by omega) (by omega)
                    have hord : ∀ t ∈ E'.map (·.2), t.1 < t.2 ∧ t.2 < n := fun t ht => by
                      obtain ⟨e, he, rfl⟩ := List.mem_map.mp ht
                      exact hzo e (hE' e he)
                    have hTree' : Tree n (E'.map (·.2)) := fun p h1 h2 => by
                      obtain ⟨k, h3, h4⟩ := hTrz p h1 h2
                      exact ⟨k, h3, hmem _ h4⟩
                    have hbd : ∀ e ∈ E', TS.Bd 7 [(e.2.1 : Int), (e.2.2 : Int)] := fun e he => fun m hm => by
                      have := hzo e (hE' e he)
                      have hm' : m = (e.2.1 : Int) ∨ m = (e.2.2 : Int) := by simpa using hm
                      omega
                    have hasc : (E'.map (·.2)).Pairwise lexP := by
                      rw [List.pairwise_map] at hpw ⊢
                      rw [List.map_map, List.nodup_iff_pairwise_ne, List.pairwise_map] at hnd
                      refine List.Pairwise.imp_of_mem ?_ (hpw.and hnd)
                      intro a b ha hb h
                      obtain ⟨h1, h2⟩ := h
                      have h2' : ¬ ([(a.2.1 : Int), (a.2.2 : Int)] = [(b.2.1 : Int), (b.2.2 : Int)]) := h2
                      unfold lexP
                      rcases code_lex (hbd a ha) (hbd b hb) h1 with z | ⟨z1, z2⟩
                      · exact .inl (by omega)
                      · refine .inr ⟨by omega, ?_⟩
                        refine Decidable.byContradiction fun c => h2' ?_
                        rw [show (a.2.1 : Int) = b.2.1 by omega, show (a.2.2 : Int) = b.2.2 by omega]
                    have hlen' : (E'.map (·.2)).length ≤ Ts.length := List.Nodup.length_le_of_subset (asc_nodup hasc) fun u hu => by
                      obtain ⟨e, he, rfl⟩ := List.mem_map.mp hu
                      rw [← hz2]; exact List.mem_map.mpr ⟨e, hE' e he, rfl⟩
                    exact { n2 := n2, n7 := by omega, ord := hord, asc := hasc, ne := fun z => (by obtain ⟨k, _, h4⟩ := hTree' 1 (by decide) (by omega); rw [z] at h4; cases h4), len := by omega, con := tree_con hTree', gate := hgt }
end
end HT
/-! text N1 -/
set_option maxHeartbeats 4000000
namespace HT
open PySem PySem.Spec PyProof.Rows L2
/-! ### the mathematics: webs, slides, rooms -/
theorem adj_symm {T : List (Nat × Nat)} {u v : Nat} (h : adj T u v) : adj T v u := Or.symm h
theorem Reach.trans {T : List (Nat × Nat)} {W : List Nat} {a b c : Nat} (h1 : Reach T W a b) (h2 : Reach T W b c) : Reach T W a c := by
  induction h2 with
  | base => exact h1
  | step _ e n ih => exact .step ih e n
theorem Reach.nin {T : List (Nat × Nat)} {W : List Nat} {a b : Nat} (h : Reach T W a b) (ha : a ∉ W) : b ∉ W := by
  induction h with
  | base => exact ha
  | step _ _ n _ => exact n
theorem Reach.symm {T : List (Nat × Nat)} {W : List Nat} {a b : Nat} (h : Reach T W a b) (ha : a ∉ W) : Reach T W b a := by
  induction h with
  | base => exact .base
  | step h1 e n ih => exact Reach.trans (.step .base (adj_symm e) (h1.nin ha)) ih
theorem adj_ne {n : Nat} {T : List (Nat × Nat)} (hT : TiesOk n T) {u v : Nat} (h : adj T u v) : u ≠ v := by
  rcases h with h | h
  · have : u < v := (hT.ord _ h).1
    omega
  · have : v < u := (hT.ord _ h).1
    omega
theorem con_any {n : Nat} {T : List (Nat × Nat)} (hT : TiesOk n T) {u v : Nat} (hu : u < n) (hv : v < n) : Reach T [] u v :=
  Reach.trans (Reach.symm (hT.con u hu) (by simp)) (hT.con v hv)
theorem not_cut {n : Nat} {T : List (Nat × Nat)} {p : Nat} (h : ¬ Cut n T p) {u v : Nat} (hu : u < n) (hup : u ≠ p) (hv : v < n) (hvp : v ≠ p) : Reach T [p] u v := by
  have h1 : ∀ u, u < n → u ≠ p → Reach T [p] (fstO p) u := fun u hu hn => Classical.byContradiction fun z => h ⟨u, hu, hn, z⟩
  have hf : fstO p ∉ [p] := by
    intro z
    have z : fstO p = p := by simpa using z
    unfold fstO at z
    split at z <;> omega
  exact Reach.trans (Reach.symm (h1 u hu hup) hf) (h1 v hv hvp)
/-! #### full standings -/
structure Full (n : Nat) (s : Std) (h : Nat) : Prop where
  len : s.length = n
  lt : h < n
  ho : s[h]? = some none
  bk : ∀ q, q < n → q ≠ h → ∃ b, s[q]? = some (some b)
theorem WR.trans {T : List (Nat × Nat)} {s s' s'' : Std} (h1 : WR T s s') (h2 : WR T s' s'') : WR T s s'' := by
  induction h2 with
  | base => exact h1
  | step _ e ih => exact .step ih e
theorem slid_at {s : Std} {q h x : Nat} (hq : q < s.length) (hh : h < s.length) (hne : q ≠ h) : (slidS s q h)[x]? = if x = h then s[q]? else if x = q then some none else s[x]? := by
  unfold slidS
  by_cases e : x = h
  · subst e
    rw [if_pos rfl, List.getElem?_set_self (by rw [List.length_set]; exact hh), List.getElem?_eq_getElem hq]
    rfl
  · rw [if_neg e, List.getElem?_set_ne (Ne.symm e)]
    by_cases e2 : x = q
    · subst e2
      rw [if_pos rfl, List.getElem?_set_self hq]
    · rw [if_neg e2, List.getElem?_set_ne (Ne.symm e2)]
theorem Full.slide {n : Nat} {s : Std} {q h : Nat} (f : Full n s h) (hq : q < n) (hne : q ≠ h) : Full n (slidS s q h) q := by
  have lq : q < s.length := by rw [f.len]; exact hq
  have lh : h < s.length := by rw [f.len]; exact f.lt
  refine ⟨?_, hq, ?_, fun x hx hxq => ?_⟩
  · unfold slidS; rw [List.length_set, List.length_set]; exact f.len
  · rw [slid_at lq lh hne, if_neg hne, if_pos rfl]
  · rw [slid_at lq lh hne]
    by_cases e : x = h
    · rw [if_pos e]; exact f.bk q hq hne
    · rw [if_neg e, if_neg hxq]; exact f.bk x hx e
theorem hole_moves {n : Nat} {T : List (Nat × Nat)} (hT : TiesOk n T) {s : Std} {p h b v : Nat} (f : Full n s h) (hp : s[p]? = some (some b)) (r : Reach T [p] h v) :
    ∃ s', WR T s s' ∧ Full n s' v ∧ s'[p]? = some (some b) := by
  induction r with
  | base => exact ⟨s, .base, f, hp⟩
  | @step u v _ e nv ih =>
    obtain ⟨s', w, f', hp'⟩ := ih
    have hv : v < n := (hT.bnd.adj e).2
    have hu : u < n := (hT.bnd.adj e).1
    have hvu : v ≠ u := (adj_ne hT e).symm
    have hpv : p ≠ v := fun z => nv (by simp [z])
    have hpu : p ≠ u := fun z => by
      rw [z, f'.ho] at hp'; cases hp'
    refine ⟨slidS s' v u, .step w ⟨f'.bk v hv hvu, adj_symm e, f'.ho⟩, f'.slide hv hvu, ?_⟩
    rw [slid_at (by rw [f'.len]; exact hv) (by rw [f'.len]; exact hu) hvu, if_neg hpu, if_neg hpv]
    exact hp'
theorem free_gate {n : Nat} {T : List (Nat × Nat)} {g : Nat} (hT : TiesOk n T) (hF : Free n T g) {v : Nat} (r : Reach T [] g v) :
    ∀ {s : Std} {h b : Nat}, Full n s h → s[v]? = some (some b) → Gate T s g b := by
  induction r with
  | base => exact fun f hv => ⟨_, .base, hv⟩
  | @step u v _ e _ ih =>
    intro s h b f hv
    by_cases eg : v = g
    · subst eg; exact ⟨_, .base, hv⟩
    · have lv : v < n := (hT.bnd.adj e).2
      have lu : u < n := (hT.bnd.adj e).1
      have hvh : h ≠ v := fun z => by rw [← z, f.ho] at hv; cases hv
      have huv := adj_ne hT e
      obtain ⟨s', w, f', hv'⟩ := hole_moves hT f hv (not_cut (hF v lv eg) f.lt hvh lu huv)
      have f2 := f'.slide lv huv.symm
      obtain ⟨s2, w2, h2⟩ := ih f2 (b := b) (by
        rw [slid_at (by rw [f'.len]; exact lv) (by rw [f'.len]; exact lu) huv.symm, if_pos rfl]; exact hv')
      exact ⟨s2, (WR.step w ⟨⟨b, hv'⟩, adj_symm e, f'.ho⟩).trans w2, h2⟩
/-! #### behind a place that parts -/
def Beh (T : List (Nat × Nat)) (g c v : Nat) : Prop := v ≠ c ∧ ¬ Reach T [c] g v
theorem Beh.adj {T : List (Nat × Nat)} {g c u v : Nat} (h : Beh T g c u) (e : adj T u v) (hv : v ≠ c) : Beh T g c v :=
  ⟨hv, fun r => h.2 (.step r (adj_symm e) (by simpa using h.1))⟩
theorem Beh.reach {T : List (Nat × Nat)} {g c u v : Nat} (h : Beh T g c u) (r : Reach T [c] u v) : Beh T g c v := by
  induction r with
  | base => exact h
  | step _ e n ih => exact ih.adj e (by simpa using n)
theorem beh_ex {n : Nat} {T : List (Nat × Nat)} {g c : Nat} (h2 : 2 ≤ n) (hc : Cut n T c) (hg : g ≠ c) : ∃ x, x < n ∧ Beh T g c x := by
  obtain ⟨u, hu, huc, hr⟩ := hc
  have hf : fstO c ≠ c ∧ fstO c < n := by unfold fstO; split <;> omega
  by_cases h : Reach T [c] g (fstO c)
  · refine ⟨u, hu, huc, fun r => hr ?_⟩
    exact Reach.trans (Reach.symm h (by simpa using hg)) r
  · exact ⟨fstO c, hf.2, hf.1, h⟩
def BadP (T : List (Nat × Nat)) (g c p h : Nat) : Prop := Beh T g c p ∨ (p = c ∧ Beh T g c h)
theorem bad_not {T : List (Nat × Nat)} {g c h : Nat} (hg : g ≠ c) : ¬ BadP T g c g h := by
  rintro (z | z)
  · exact z.2 .base
  · exact hg z.1
theorem bad_keeps {n : Nat} {T : List (Nat × Nat)} (hT : TiesOk n T) {g c b h : Nat} {s s' : Std} (f : Full n s h) (h0 : ∀ q, s[q]? = some (some b) → BadP T g c q h) (w : WR T s s') :
    ∃ h', Full n s' h' ∧ ∀ q, s'[q]? = some (some b) → BadP T g c q h' := by
  induction w with
  | base => exact ⟨h, f, h0⟩
  | @step s' p h2 _ sl ih =>
    obtain ⟨h', f', k⟩ := ih
    obtain ⟨⟨b0, hb0⟩, e, hh⟩ := sl
    have lp : p < n := (hT.bnd.adj e).1
    have lh : h2 < n := (hT.bnd.adj e).2
    have e2 : h2 = h' := Decidable.byContradiction fun z => by
      obtain ⟨b', hb'⟩ := f'.bk h2 lh z
      rw [hb'] at hh; cases hh
    subst e2
    have hne := adj_ne hT e
    refine ⟨p, f'.slide lp hne, fun q hq => ?_⟩
    rw [slid_at (by rw [f'.len]; exact lp) (by rw [f'.len]; exact lh) hne] at hq
    by_cases eq : q = h2
    · rw [if_pos eq] at hq
      rw [eq]
      rcases k p hq with z | ⟨z1, z2⟩
      · by_cases ec : h2 = c
        · exact .inr ⟨ec, z⟩
        · exact .inl (z.adj e ec)
      · exact .inl z2
    · rw [if_neg eq] at hq
      by_cases ep : q = p
      · rw [if_pos ep] at hq; cases hq
      · rw [if_neg ep] at hq
        rcases k q hq with z | ⟨z1, z2⟩
        · exact .inl z
        · exact .inr ⟨z1, z2.adj (adj_symm e) fun z => ep (z1.trans z.symm)⟩
theorem bks_unique : ∀ {s : Std}, (bks s).Nodup → ∀ {p q b : Nat}, s[p]? = some (some b) → s[q]? = some (some b) → p = q
  | [], _, _, _, _, h, _ => by simp at h
  | x :: r, nd, p, q, b, hp, hq => by
    have ndr : (bks r).Nodup := by
      cases x with
      | none => exact nd
      | some y => exact (List.nodup_cons.mp (show (y :: bks r).Nodup from nd)).2
    have hout : ∀ {m : Nat}, x = some b → r[m]? = some (some b) → False := fun hx hm => by
      subst hx
      exact (List.nodup_cons.mp (show (b :: bks r).Nodup from nd)).1 (mem_bks.mpr (List.mem_of_getElem? hm))
    cases p with
    | zero =>
      cases q with
      | zero => rfl
      | succ q =>
        exact (hout (by simpa using hp) (by simpa using hq)).elim
    | succ p =>
      cases q with
      | zero => exact (hout (by simpa using hq) (by simpa using hp)).elim
      | succ q => rw [bks_unique ndr (p := p) (q := q) (by simpa using hp) (by simpa using hq)]
theorem no_hole : ∀ {s : Std}, (bks s).length = s.length → none ∉ s
  | [], _ => by simp
  | none :: r, h => by
    have := bks_len r
    have e : (bks (none :: r)).length = (bks r).length := rfl
    rw [e, List.length_cons] at h
    omega
  | some b :: r, h => by
    have e : (bks (some b :: r)).length = (bks r).length + 1 := rfl
    rw [e, List.length_cons] at h
    have := no_hole (s := r) (by omega)
    simp [this]
theorem one_full : ∀ {s : Std}, OneHole s → ∃ h, h < s.length ∧ s[h]? = some none ∧ ∀ q, q < s.length → q ≠ h → ∃ b, s[q]? = some (some b)
  | [], h => by
    unfold OneHole at h
    exact absurd h (by simp [bks])
  | none :: r, h => by
    have e : (bks (none :: r)).length = (bks r).length := rfl
    unfold OneHole at h
    rw [e, List.length_cons] at h
    refine ⟨0, by simp, rfl, fun q hq hn => ?_⟩
    cases q with
    | zero => exact absurd rfl hn
    | succ q =>
      have lq : q < r.length := by simpa using hq
      rw [List.getElem?_cons_succ, List.getElem?_eq_getElem lq]
      cases e : r[q] with
      | none => exact absurd (e ▸ List.getElem_mem lq) (no_hole (by omega))
      | some b => exact ⟨b, rfl⟩
  | some b :: r, h => by
    have e : (bks (some b :: r)).length = (bks r).length + 1 := rfl
    unfold OneHole at h
    rw [e, List.length_cons] at h
    obtain ⟨k, h1, h2, h3⟩ := one_full (s := r) (by unfold OneHole; omega)
    refine ⟨k + 1, by simpa using h1, by simpa using h2, fun q hq hn => ?_⟩
    cases q with
    | zero => exact ⟨b, rfl⟩
    | succ q => simpa using h3 q (by simpa using hq) (fun z => hn (by rw [z]))
theorem std_full {n : Nat} {s : Std} (h : StdOk n s) (h1 : OneHole s) : ∃ k, Full n s k := by
  obtain ⟨k, a, b, c⟩ := one_full h1
  rw [h.len] at a c
  exact ⟨k, h.len, a, b, c⟩
theorem all_gate {n : Nat} {T : List (Nat × Nat)} {g : Nat} {s : Std} (hY : YardOk n T g) (hF : Free n T g) (hs : StdOk n s) (h1 : OneHole s) {b : Nat} (hb : b ∈ bks s) : Gate T s g b := by
  obtain ⟨k, f⟩ := std_full hs h1
  obtain ⟨v, lv, hv⟩ := List.getElem_of_mem (mem_bks.mp hb)
  have hv' : s[v]? = some (some b) := by rw [List.getElem?_eq_getElem lv, hv]
  exact free_gate hY.toTiesOk hF (con_any hY.toTiesOk hY.gate (by rw [← hs.len]; exact lv)) f hv'
/-- the book that never comes, and where -/
theorem bad_book {n : Nat} {T : List (Nat × Nat)} {g c h : Nat} {s : Std} (h2 : 2 ≤ n) (hc : Cut n T c) (lc : c < n) (hg : g ≠ c) (f : Full n s h) : ∃ p b, p < n ∧ p ≠ h ∧ s[p]? = some (some b) ∧ BadP T g c p h := by
  by_cases hB : Beh T g c h
  · obtain ⟨b, hb⟩ := f.bk c lc (Ne.symm hB.1)
    exact ⟨c, b, lc, Ne.symm hB.1, hb, .inr ⟨rfl, hB⟩⟩
  · obtain ⟨x, lx, hx⟩ := beh_ex h2 hc hg
    have hxh : x ≠ h := fun z => hB (z ▸ hx)
    obtain ⟨b, hb⟩ := f.bk x lx hxh
    exact ⟨x, b, lx, hxh, hb, .inl hx⟩
theorem not_free {n : Nat} {T : List (Nat × Nat)} {g : Nat} (h : ¬ Free n T g) : ∃ c, c < n ∧ c ≠ g ∧ Cut n T c :=
  Classical.byContradiction fun z => h fun v hv hn hc => z ⟨v, hv, hn, hc⟩
theorem some_not {n : Nat} {T : List (Nat × Nat)} {g : Nat} {s : Std} (hY : YardOk n T g) (hF : ¬ Free n T g) (hs : StdOk n s) (h1 : OneHole s) : ∃ b, b ∈ bks s ∧ ¬ Gate T s g b := by
  obtain ⟨k, f⟩ := std_full hs h1
  obtain ⟨c, lc, hcg, hc⟩ := not_free hF
  obtain ⟨p, b, lp, hpk, hb, hbad⟩ := bad_book hY.n2 hc lc hcg.symm f
  refine ⟨b, mem_bks.mpr (List.mem_of_getElem? hb), fun ⟨s', w, hs'⟩ => ?_⟩
  obtain ⟨h', f', k'⟩ := bad_keeps hY.toTiesOk f (b := b) (g := g) (c := c) (fun q hq => by rw [← bks_unique hs.nd hb hq]; exact hbad) w
  exact bad_not hcg.symm (k' g hs')
/-! #### rooms -/
theorem inc_oe {t : Nat × Nat} {p : Nat} (h : inc t p) : inc t (oe t p) := by
  unfold inc oe at *
  split <;> simp
theorem inc_cases {t : Nat × Nat} {p v : Nat} (h : inc t p) (hv : inc t v) : v = p ∨ v = oe t p := by
  unfold inc oe at *
  split
  · rcases hv with z | z <;> omega
  · rcases hv with z | z <;> omega
theorem adj_oe {T : List (Nat × Nat)} {t : Nat × Nat} {p : Nat} (ht : t ∈ T) (h : inc t p) : adj T p (oe t p) := by
  obtain ⟨a, b⟩ := t
  unfold inc at h
  unfold oe adj
  by_cases e : a = p
  · subst e
    rw [if_pos rfl]; exact .inl ht
  · have h : b = p := h.resolve_left e
    subst h
    rw [if_neg e]; exact .inr ht
theorem tie_of_adj {T : List (Nat × Nat)} {u v : Nat} (h : adj T u v) : ∃ t ∈ T, inc t u ∧ inc t v ∧ (u ≠ v → oe t u = v) := by
  rcases h with h | h
  · exact ⟨_, h, .inl rfl, .inr rfl, fun _ => by unfold oe; simp⟩
  · exact ⟨_, h, .inr rfl, .inl rfl, fun n => by unfold oe; rw [if_neg (Ne.symm n)]⟩
/-- what the ties of a block have in common -/
theorem blk_iff {T : List (Nat × Nat)} {I : Nat × Nat → Prop} (hs : ∀ {t u p}, t ∈ T → u ∈ T → inc t p → inc u p → Reach T [p] (oe t p) (oe u p) → I t → I u)
    (ho : ∀ t ∈ T, ∀ p, inc t p → oe t p ≠ p) {t u : Nat × Nat} (b : Blk T t u) : I t ↔ I u := by
  induction b with
  | refl _ => exact Iff.rfl
  | step ht hu it iu r => exact ⟨hs ht hu it iu r, hs hu ht iu it (r.symm (by simpa using ho _ ht _ it))⟩
  | symm _ ih => exact ih.symm
  | trans _ _ i1 i2 => exact i1.trans i2
theorem oe_ne {n : Nat} {T : List (Nat × Nat)} (hT : TiesOk n T) : ∀ t ∈ T, ∀ p, inc t p → oe t p ≠ p := fun t ht p h => (adj_ne hT (adj_oe ht h)).symm
/-- the last place ahead of p on a way to p -/
theorem before {T : List (Nat × Nat)} {h p v : Nat} (r : Reach T [] h v) (hh : h ≠ p) : (v ≠ p ∧ Reach T [p] h v) ∨ ∃ w, w ≠ p ∧ Reach T [p] h w ∧ adj T w p := by
  induction r with
  | base => exact .inl ⟨hh, .base⟩
  | @step u v _ e _ ih =>
    rcases ih with ⟨h1, h2⟩ | h
    · by_cases ev : v = p
      · exact .inr ⟨u, h1, h2, ev ▸ e⟩
      · exact .inl ⟨ev, .step h2 e (by simpa using ev)⟩
    · exact .inr h
def Side (T : List (Nat × Nat)) (p h : Nat) (t : Nat × Nat) : Prop := ∀ v, inc t v → v = p ∨ Reach T [p] h v
theorem side_step {n : Nat} {T : List (Nat × Nat)} (hT : TiesOk n T) {p h : Nat} {t u : Nat × Nat} {q : Nat} (ht : t ∈ T) (hu : u ∈ T) (it : inc t q) (iu : inc u q) (r : Reach T [q] (oe t q) (oe u q)) (hS : Side T p h t) : Side T p h u := by
  intro v hv
  rcases inc_cases iu hv with e | e
  · rw [e]; exact hS q it
  · rw [e]
    by_cases eq : q = p
    · subst eq
      have h1 := (hS _ (inc_oe it)).resolve_left (oe_ne hT t ht q it)
      exact .inr (Reach.trans h1 r)
    · have h1 := (hS q it).resolve_left eq
      by_cases ev : oe u q = p
      · exact .inl ev
      · exact .inr (.step h1 (adj_oe hu iu) (by simpa using ev))
theorem room_ex {n : Nat} {T : List (Nat × Nat)} (hT : TiesOk n T) {p h : Nat} (lp : p < n) (lh : h < n) (hne : h ≠ p) : ∃ t ∈ T, RoomT T p h t := by
  rcases before (con_any hT lh lp) hne with z | ⟨w, hw, rw', ew⟩
  · exact absurd rfl z.1
  · obtain ⟨t, ht, i1, i2, _⟩ := tie_of_adj ew
    have h0 : Side T p h t := fun v hv => by
      rcases inc_cases i2 hv with e | e
      · exact .inl e
      · have : w = oe t p := (inc_cases i2 i1).resolve_left hw
        rw [e, ← this]; exact .inr rw'
    exact ⟨t, ht, ⟨t, ht, .refl t, i2⟩, fun u hu b v hv => (blk_iff (I := Side T p h) (fun ht hu it iu r => side_step hT ht hu it iu r) (oe_ne hT) b).mp h0 v hv⟩
theorem blk_mem {T : List (Nat × Nat)} {t u : Nat × Nat} (b : Blk T t u) : t ∈ T ↔ u ∈ T := by
  induction b with
  | refl _ => exact Iff.rfl
  | step ht hu _ _ _ => exact ⟨fun _ => hu, fun _ => ht⟩
  | symm _ ih => exact ih.symm
  | trans _ _ i1 i2 => exact i1.trans i2
theorem free_room {n : Nat} {T : List (Nat × Nat)} {g : Nat} (hY : YardOk n T g) (hF : Free n T g) {p h : Nat} {t : Nat × Nat} (lp : p < n) (hR : RoomT T p h t) : GateIn T t g := by
  have hT := hY.toTiesOk
  have key : ∀ {v}, Reach T [] p v → GateIn T t g ∨ ∃ u ∈ T, Blk T t u ∧ inc u v := fun r => by
    induction r with
    | base => exact .inr hR.1
    | @step a v _ e _ ih =>
      rcases ih with ih | ⟨u, hu, bu, iu⟩
      · exact .inl ih
      · by_cases ea : a = g
        · exact .inl ⟨u, hu, bu, ea ▸ iu⟩
        · obtain ⟨t', ht', i1, i2, ho⟩ := tie_of_adj e
          have hne := adj_ne hT e
          have la := (hT.bnd.adj e).1
          have lv := (hT.bnd.adj e).2
          have lo : oe u a < n := (hT.bnd.adj (adj_oe hu iu)).2
          refine .inr ⟨t', ht', .trans bu (.step hu ht' iu i1 ?_), i2⟩
          rw [ho hne]
          exact not_cut (hF a la ea) lo (oe_ne hT u hu a iu) lv hne.symm
  rcases key (con_any hT lp hY.gate) with z | z
  · exact z
  · exact z
/-- a tie behind c -/
def TBeh (T : List (Nat × Nat)) (g c : Nat) (t : Nat × Nat) : Prop := ∃ v, inc t v ∧ Beh T g c v
theorem tbeh_step {n : Nat} {T : List (Nat × Nat)} (hT : TiesOk n T) {g c : Nat} {t u : Nat × Nat} {q : Nat} (ht : t ∈ T) (hu : u ∈ T) (it : inc t q) (iu : inc u q) (r : Reach T [q] (oe t q) (oe u q)) (h : TBeh T g c t) : TBeh T g c u := by
  obtain ⟨v, iv, bv⟩ := h
  by_cases eq : q = c
  · subst eq
    have ev : v = oe t q := (inc_cases it iv).resolve_left bv.1
    exact ⟨oe u q, inc_oe iu, (ev ▸ bv).reach r⟩
  · refine ⟨q, iu, ?_⟩
    rcases inc_cases it iv with e | e
    · exact e ▸ bv
    · exact (e ▸ bv : Beh T g c (oe t q)).adj (adj_symm (adj_oe ht it)) eq
theorem bad_room {n : Nat} {T : List (Nat × Nat)} {g : Nat} (hY : YardOk n T g) {c p h : Nat} (hg : g ≠ c) (hne : p ≠ h) (hbad : BadP T g c p h) {t : Nat × Nat} (hR : RoomT T p h t) : ¬ GateIn T t g := by
  have hT := hY.toTiesOk
  obtain ⟨⟨u, hu, bu, iu⟩, hS⟩ := hR
  have h1 : TBeh T g c u := by
    rcases hbad with z | ⟨z1, z2⟩
    · exact ⟨p, iu, z⟩
    · subst z1
      refine ⟨oe u p, inc_oe iu, ?_⟩
      have := (hS u hu bu _ (inc_oe iu)).resolve_left (oe_ne hT u hu p iu)
      exact z2.reach this
  rintro ⟨x, hx, bx, ix⟩
  have h2 : TBeh T g c x := (blk_iff (I := TBeh T g c) (fun ht hu it iu r => tbeh_step hT ht hu it iu r) (oe_ne hT) (Blk.trans (Blk.symm bu) bx)).mp h1
  obtain ⟨v, iv, bv⟩ := h2
  rcases inc_cases ix iv with e | e
  · exact bv.2 (e ▸ .base)
  · exact bv.2 (e ▸ Reach.step .base (adj_oe hx ix) (by rw [← e]; simpa using bv.1))
theorem pl_full {n : Nat} {s : Std} {b p h k : Nat} (f : Full n s k) (hp : StdPl s b p h) : h = k ∧ p < n ∧ p ≠ h := by
  have lh : h < n := by rw [← f.len]; exact (List.getElem?_eq_some_iff.mp hp.2.2.1).1
  have lp : p < n := by rw [← f.len]; exact (List.getElem?_eq_some_iff.mp hp.1).1
  refine ⟨Decidable.byContradiction fun z => ?_, lp, fun z => ?_⟩
  · obtain ⟨b', hb'⟩ := f.bk h lh z
    have h1 := hp.2.2.1
    rw [hb'] at h1; cases h1
  · have h1 := hp.2.2.1
    rw [← z, hp.1] at h1; cases h1
theorem rooms_ok {n : Nat} {T : List (Nat × Nat)} {g : Nat} {s : Std} (hY : YardOk n T g) (hs : StdOk n s) (h1 : OneHole s) : ∀ b p h, StdPl s b p h → ∃ t ∈ T, RoomT T p h t := fun b p h hp => by
  obtain ⟨k, f⟩ := std_full hs h1
  obtain ⟨e, lp, hne⟩ := pl_full f hp
  exact room_ex hY.toTiesOk lp (by rw [e]; exact f.lt) hne.symm
/-- never's answer -/
theorem never_nil {n : Nat} {T : List (Nat × Nat)} {g : Nat} {s : Std} {L : List Nat} (hY : YardOk n T g) (hs : StdOk n s) (h1 : OneHole s) (ha : ∀ b ∈ L, b ∈ bks s ∧ InRoom T s g b false) (hb : ∀ b ∈ bks s, b ∉ L → InRoom T s g b true) : L = [] ↔ Free n T g := by
  obtain ⟨k, f⟩ := std_full hs h1
  constructor
  · intro hL
    refine Classical.byContradiction fun hF => ?_
    obtain ⟨c, lc, hcg, hc⟩ := not_free hF
    obtain ⟨p, b, lp, hpk, hp, hbad⟩ := bad_book hY.n2 hc lc hcg.symm f
    obtain ⟨p', h', t, hpl, ht, hR, hG⟩ := hb b (mem_bks.mpr (List.mem_of_getElem? hp)) (by rw [hL]; simp)
    obtain ⟨e, _, _⟩ := pl_full f hpl
    subst e
    have e2 : p' = p := bks_unique hs.nd hpl.1 hp
    subst e2
    exact bad_room hY hcg.symm hpk hbad hR (hG.mp rfl)
  · intro hF
    cases L with
    | nil => rfl
    | cons b L =>
      exfalso
      obtain ⟨_, p, h, t, hpl, ht, hR, hG⟩ := ha b (List.mem_cons_self ..)
      obtain ⟨_, lp, _⟩ := pl_full f hpl
      have := hG.mpr (free_room hY hF lp hR)
      cases this
/-! #### the hardest program -/
theorem std_bks {n : Nat} {s : Std} (hs : StdOk n s) (h1 : OneHole s) {b : Nat} : b ∈ bks s ↔ b < n - 1 := by
  have hl : (bks s).length = n - 1 := by
    unfold OneHole at h1
    have := hs.len
    omega
  constructor
  · intro h
    rw [← hl]; exact hs.lt b h
  · intro h
    refine Classical.byContradiction fun z => ?_
    have h2 := List.Nodup.length_le_of_subset hs.nd (l₂ := (List.range (n - 1)).erase b) fun x hx => by
      refine (List.Nodup.mem_erase_iff List.nodup_range).mpr ⟨fun e => z (e ▸ hx), ?_⟩
      have := hs.lt x hx
      rw [hl] at this
      exact List.mem_range.mpr this
    rw [List.length_erase_of_mem (List.mem_range.mpr h), List.length_range, hl] at h2
    omega
theorem hard_at {k : Nat} : ∀ {b : Nat}, b < k → (hardP k)[2 + 2 * b]? = some ((("get" : Str), some (b : Int)) : Ins) := by
  induction k with
  | zero => intro b h; omega
  | succ k ih =>
    intro b h
    rw [hardP_succ]
    by_cases e : b < k
    · rw [List.getElem?_append_left (by rw [hardP_len]; omega)]; exact ih e
    · have e : b = k := by omega
      subst e
      rw [List.getElem?_append_right (by rw [hardP_len]; omega), hardP_len, Nat.sub_self]; rfl
theorem hard_mem {k : Nat} {x : Ins} (h : x ∈ hardP k) : x.1 ≠ "go" ∧ x.1 ≠ "stop" ∧ (asking x.1 → ∃ b : Nat, b < k ∧ x.2 = some (b : Int)) := by
  unfold hardP at h
  rcases List.mem_append.mp h with z | z
  · rcases (show x = ((("ask" : Str), none) : Ins) ∨ x = ((("zero" : Str), some 0) : Ins) by simpa using z) with e | e <;> subst e
    · exact ⟨by decide, by decide, fun a => by rcases a with a | a | a | a <;> exact absurd a (by decide)⟩
    · exact ⟨by decide, by decide, fun a => by rcases a with a | a | a | a <;> exact absurd a (by decide)⟩
  · obtain ⟨b, hb, hx⟩ := List.mem_flatMap.mp z
    rcases (show x = ((("get" : Str), some (b : Int)) : Ins) ∨ x = ((("say" : Str), none) : Ins) by simpa [hardI] using hx) with e | e <;> subst e
    · exact ⟨show ("get" : Str) ≠ "go" by decide, show ("get" : Str) ≠ "stop" by decide, fun _ => ⟨b, List.mem_range.mp hb, rfl⟩⟩
    · exact ⟨by decide, by decide, fun a => by rcases a with a | a | a | a <;> exact absurd a (by decide)⟩
theorem hard_plain {k i : Nat} (h : i < 2 + 2 * k) : plain (hardP k) i := by
  have hl : i < (hardP k).length := by rw [hardP_len]; exact h
  have hm := hard_mem (List.getElem_mem hl)
  exact ⟨_, List.getElem?_eq_getElem hl, hm.1, hm.2.1⟩
theorem hard_passes {k : Nat} {G : Nat → Prop} (h : Passes (hardP k) G) {b : Nat} (hb : b < k) : G b := by
  obtain ⟨F, h0, h1, h2⟩ := h
  have hF : ∀ i, i < 2 + 2 * k → i ∈ F := by
    intro i
    induction i with
    | zero => intro hi; exact h0 (hard_plain hi)
    | succ i ih => intro hi; exact h1 i (ih (by omega)) (hard_plain hi)
  exact h2 _ (hF (2 + 2 * b) (by omega)) b ⟨_, hard_at hb, .inl rfl, rfl⟩
theorem hard_asks {k i b : Nat} (h : asksB (hardP k) i b) : b < k := by
  obtain ⟨x, hx, ha, hb⟩ := h
  obtain ⟨b', h1, h2⟩ := (hard_mem (List.mem_of_getElem? hx)).2.2 ha
  rw [h2] at hb
  have := Option.some.inj hb
  omega
theorem hard_ok {n : Nat} (h2 : 2 ≤ n) (h5 : n ≤ 7) : PrOk (n - 1) (hardP (n - 1)) := by
  refine ⟨by rw [hardP_len]; omega, by rw [hardP_len]; omega, fun x hx => ?_⟩
  unfold hardP at hx
  rcases List.mem_append.mp hx with z | z
  · rcases (show x = ((("ask" : Str), none) : Ins) ∨ x = ((("zero" : Str), some 0) : Ins) by simpa using z) with e | e <;> subst e
    · exact .inl ⟨rfl, .inr (.inl rfl)⟩
    · exact .inr (.inl ⟨0, rfl, .inr ⟨.inl rfl, Nat.zero_le _⟩⟩)
  · obtain ⟨b, hb, hx⟩ := List.mem_flatMap.mp z
    rcases (show x = ((("get" : Str), some (b : Int)) : Ins) ∨ x = ((("say" : Str), none) : Ins) by simpa [hardI] using hx) with e | e <;> subst e
    · exact .inr (.inl ⟨b, rfl, .inl ⟨.inl rfl, List.mem_range.mp hb⟩⟩)
    · exact .inl ⟨rfl, .inl rfl⟩
/-- can_be_kept's answer to the hardest -/
theorem can_hard {n : Nat} {T : List (Nat × Nat)} {g : Nat} {s : Std} {c : Bool} (hY : YardOk n T g) (hs : StdOk n s) (h1 : OneHole s) (ha : c = true → Passes (hardP (n - 1)) (Gate T s g)) (hb : c = false → ∃ i b, asksB (hardP (n - 1)) i b ∧ ¬ Gate T s g b) : c = true ↔ Free n T g := by
  constructor
  · intro hc
    refine Classical.byContradiction fun hF => ?_
    obtain ⟨b, hb, hn⟩ := some_not hY hF hs h1
    exact hn (hard_passes (ha hc) ((std_bks hs h1).mp hb))
  · intro hF
    cases c with
    | true => rfl
    | false =>
      obtain ⟨i, b, h2, h3⟩ := hb rfl
      exact absurd (all_gate hY hF hs h1 ((std_bks hs h1).mpr (hard_asks h2))) h3
/-- can_be_kept's answer to any program, the web free -/
theorem can_free {n : Nat} {T : List (Nat × Nat)} {g : Nat} {s : Std} {p : List Ins} {c : Bool} (hY : YardOk n T g) (hF : Free n T g) (hs : StdOk n s) (h1 : OneHole s) (hp : PrOk (n - 1) p) (hb : c = false → ∃ i b, asksB p i b ∧ ¬ Gate T s g b) : c = true := by
  cases c with
  | true => rfl
  | false =>
    obtain ⟨i, b, ⟨x, hx, ha, h2⟩, h3⟩ := hb rfl
    obtain ⟨k, h4, h5⟩ := ask_arg hp hx ha
    rw [h2] at h4
    have e : b = k := by have := Option.some.inj h4; omega
    exact absurd (all_gate hY hF hs h1 ((std_bks hs h1).mpr (e ▸ h5))) h3
/-! #### the law's own web -/
theorem rl_reach {n : Nat} {T : List (Nat × Nat)} {p s v : Nat} (hT : TiesOk n T) : RL T (othL n p) s v ↔ Reach T [p] s v := by
  constructor
  · intro h
    induction h with
    | base => exact .base
    | step _ e hm ih => exact .step ih e (by simpa using (mem_othL.mp hm).2)
  · intro h
    induction h with
    | base => exact .base
    | step _ e hm ih => exact .step ih e (mem_othL.mpr ⟨(hT.bnd.adj e).2, by simpa using hm⟩)
theorem othL_cons {n p : Nat} (h : 2 ≤ n) : ∃ L, othL n p = fstO p :: L := by
  have h0 := othL_0 (p := p) h
  cases e : othL n p with
  | nil => rw [e] at h0; simp at h0
  | cons a L => rw [e] at h0; exact ⟨L, by rw [show a = fstO p by simpa using h0]⟩
theorem hang_cut {n : Nat} {T : List (Nat × Nat)} {p : Nat} {b : Bool} (hT : TiesOk n T) (h : b = true ↔ ∀ v ∈ othL n p, RL T (othL n p) (fstO p) v) : b = true ↔ ¬ Cut n T p := by
  rw [h]
  constructor
  · rintro k ⟨u, hu, hn, hr⟩
    exact hr ((rl_reach hT).mp (k u (mem_othL.mpr ⟨hu, hn⟩)))
  · intro k v hv
    have hv := mem_othL.mp hv
    exact (rl_reach hT).mpr (Classical.byContradiction fun z => k ⟨v, hv.1, hv.2, z⟩)
end HT
/-! text X1 -/
set_option maxHeartbeats 4000000
namespace HT
open PySem PySem.Spec PyProof.Rows L2
/-! ### what raises: need_number, hardest of no number, need_yard(None), keeps_all(None) -/
/-- the rule for a def of the text that may raise -/
theorem ok_ofX {P : Program} {w : World} {K : PySem.W.Frag} {mg : Str → Option Value} {base : Heap} {x : Str} {st : Stmt} {N ps : List Str} {k : Nat} {sp : Sp} (F : FnP K x st) (gl : mg x = some (.ref (He.ga K x))) (S : FnScope N ps (defScope st))
    (hb : ∀ (kV doc pm : Value) (an : Option Addr) (cdv ct : Value) (us : List Value), us.length = ps.length → bindArgs (PySem.W.fnOf x x (defArgs st) (defBody st) (defScope st) .none kV doc pm an cdv ct) ⟨us, []⟩ = pure (ps.zip us))
    (len : ∀ vs H Q E, sp vs H Q E → vs.length = ps.length)
    (hbody : ∀ (cdv : Value) (A : Around) (outer : List Env) (s : Shared) (H : Hp) (vs : List V) (Q : VK) (E : XK), Room k (A.deeper (envOfC x (defScope st) s.heap.objs.size (He.ga K x) cdv)) → sp vs H Q E →
      ∃ t, PSs (cxOf (L2.CX P w) P w K mg base N x (defScope st) (He.ga K x) cdv A outer s H E) (defBody st) t ∧ t { nx := fun _ H' => Q .non H', rt := Q } (start N vs) H) : Ok P w K mg base (L2.CX P w) (k + 1) x ps sp := by
  obtain ⟨fd, F⟩ := F
  exact ⟨⟨fd, F.ok S len hbody, F.bindsN hb⟩, F.kp, gl⟩
section
variable {X : Cx} {C : Addr} {bmB : List Value} {B newId initId : String}
/-- X() -/
theorem pmk_own0 {x : Str} {p pos : Pos} (F : ExcBaseFacts B newId initId bmB) (q : PySem.W.excIn X.K C bmB newId = true) (gC : X.mg x = some (.ref C)) (kC : PySem.W.keepIn X.K (.ref C) = true) (r : Raises X (.ref C)) (hg : Gl X x)
    (hdb : (x == ("__debug__" : Str)) = false := by decide) : PMk X (.Call (.Name x p) [] [] pos) (fun _ H Q => Q (.ref C) none H) := by
  intro pins s σ H Q I h
  refine wpAny_Call_Name_kw (ld_glob I hg gC ?_ hdb)
  refine PySem.W.callWith_K0 I.kIn kC ?_
  show wpAny _ _ (call (.ref C) []) _ _ _
  obtain ⟨bm, N, nm, qn, bs, hdct, sn, sub, ab, col, dd, k0, k1, k2, k3, k5, mN, hC, hN, hni, T⟩ := exc_obj I.kIn q
  refine wpAny_call_exc_subT F T hC hN hni (fun h' e hm => ?_) (Nat.zero_le _)
  exact mk_of I hm r h (I.hok.gone hm.new)
end
section
variable {P : Program} {w : World} {K : PySem.W.Frag} {mg : Str → Option Value} {base : Heap}
structure ExF (K : PySem.W.Frag) : Prop where
  xN : PySem.W.excIn K (He.ga K "BadNumber") He.veBase "ValueError.__new__" = true
  bN : PySem.W.subIn K (.ref (He.ga K "BadNumber")) (.type "BaseException") = some true
  tN : PySem.W.typeIn K (.ref (He.ga K "BadNumber")) = some (.type "type")
  kN : PySem.W.keepIn K (.ref (He.ga K "BadNumber")) = true
  nn : PySem.W.exmOne K (.ref (He.ga K "BadNumber")) (.ref (He.ga K "BadNumber")) = some true
  yn : PySem.W.exmOne K (.ref (He.ga K "BadYard")) (.ref (He.ga K "BadNumber")) = some false
  yy : PySem.W.exmOne K (.ref (He.ga K "BadYard")) (.ref (He.ga K "BadYard")) = some true
  oY : OexC K (He.ga K "BadYard")
  noP : PySem.W.findIn K (.ref (He.ga K "BadYard")) "part" = some none
  iY : PySem.W.findIn K (.ref (He.ga K "BadYard")) "__init__" = some (some (.ref (He.ma K (He.ga K "BadYard") "__init__")))
  tI : PySem.W.typeIn K (.ref (He.ma K (He.ga K "BadYard") "__init__")) = some (.type "function")
theorem oexB_ok {K : PySem.W.Frag} {C : Addr} (q : oexB K C = true) : ∃ nm q N bs bm sn sub ab col dd k0 k1 k2 k3 k5, K.lookup C = some (excClassObj nm q C N bs bm true sn sub ab col dd k0 k1 k2 k3 k5 "ValueError.__new__") ∧ PySem.HandSPX.refsVE bm = true := by
  unfold oexB at q
  split at q
  · rename_i dd cd sl ho
    split at q
    · rename_i C' bm k0 k1 k2 k3 n k5 hm hs
      simp only [Bool.and_eq_true, beq_iff_eq, Bool.not_eq_true'] at q
      obtain ⟨⟨⟨⟨rfl, rfl⟩, hdel⟩, hdict⟩, hr⟩ := q
      obtain ⟨nm, bs, mro, ns, qn, hd, sn, sub, ab, col, del⟩ := cd
      dsimp only at hm hdel hdict
      subst hm hdel hdict
      have hsl : sl = #[k0, k1, k2, k3, some (.builtin "ValueError.__new__"), k5] := by
        obtain ⟨l⟩ := sl
        simp only at hs
        rw [hs]
      subst hsl
      exact ⟨nm, qn, ns, bs, bm, sn, sub, ab, col, dd, k0, k1, k2, k3, k5, ho, hr⟩
    · cases q
  · cases q
theorem exF (T : Txt K mg) : ExF K := by
  obtain ⟨_, _, X, G, c⟩ := T.ex
  have h := c.more
  unfold ex at h
  simp only [Bool.and_eq_true, decide_eq_true_eq] at h
  obtain ⟨⟨_, hx⟩, h1, h2, h3, h4, ⟨h5, h6⟩, _⟩ := h
  have hm := He.meth_ok (c.t.d.fact 71 (f := .meth "BadYard" "__init__") rfl)
  refine ⟨hx, h1, h2, He.keep_ok (c.t.d.fact 68 (f := .keep "BadNumber") rfl), He.exm_ok (c.t.d.fact 65 (f := .exm "BadNumber" "BadNumber" true) rfl), He.exm_ok (c.t.d.fact 66 (f := .exm "BadYard" "BadNumber" false) rfl), He.exm_ok (c.t.d.fact 67 (f := .exm "BadYard" "BadYard" true) rfl),
    ⟨oexB_ok h5, He.eqO_ok h6, h3, h4, He.keep_ok (c.t.d.fact 69 (f := .keep "BadYard") rfl)⟩, He.eqO_ok (c.t.d.fact 70 (f := .noat "BadYard" "part") rfl), hm.1, ?_⟩
  have := hm.fn
  unfold PySem.W.isFn at this
  simpa using this
/-! ### BadYard's __init__ -/
def spYI (K : PySem.W.Frag) : Sp := fun vs H Q _ => ∃ (a : Addr) (y : V), vs = [.ref a, y] ∧ H a = some (exo a (He.ga K "BadYard") none) ∧
  ∀ dx, H dx = none → dx ≠ a → Q .non (upd (upd H dx (exd dx [("part", y)])) a (exo a (He.ga K "BadYard") (some dx)))
theorem sc_YI : FnScope ["self", "part"] ["self", "part"] (defScope s_yardInit) := ⟨rfl, rfl, rfl, by decide +kernel, rfl, by decide +kernel, by decide +kernel⟩
theorem ok_YI (T : Txt K mg) : ∃ fd, FnOk P w K mg base CX0 1 (He.ma K (He.ga K "BadYard") "__init__") fd ["self", "part"] (spYI K) ∧ Binds K fd ["self", "part"] [] := by
  obtain ⟨_, _, X, G, c⟩ := T.ex
  obtain ⟨fd, F⟩ := c.t.d.def_ 0 (d := dY) rfl
  have F : FunD K "__init__" "BadYard.__init__" (defArgs s_yardInit) (defBody s_yardInit) (defScope s_yardInit) [] [] (He.ma K (He.ga K "BadYard") "__init__") fd := F
  have XF := exF T
  refine ⟨fd, F.ok (CX := CX0) sc_YI (fun vs H Q E h => ?_) (fun cdv A outer s H vs Q E hr h => ?_), F.bindsN fun _ _ _ _ _ _ us hl => match us, hl with | [_, _], _ => rfl⟩
  · obtain ⟨a, y, rfl, _⟩ := h
    rfl
  · obtain ⟨a, y, rfl, e, q⟩ := h
    refine ⟨_, pss_one (ps_ost (pv 0) (pv 1)), ?_⟩
    exact ⟨_, rfl, _, rfl, a, _, rfl, XF.oY, XF.noP, .inl ⟨e, fun dx n ne => q dx n ne⟩⟩
/-! ### need_number, hardest -/
def spNumX (K : PySem.W.Frag) : Sp := fun vs H _ E => ∃ (x : V) (lo hi : Int), vs = [x, .int lo, .int hi] ∧ ((∃ n, x = .int n) ∨ x = .non ∨ ∃ b, x = .bl b) ∧ isNum lo hi x = false ∧ E (.ref (He.ga K "BadNumber")) none H
theorem ok_numX (T : Txt K mg) : Ok P w K mg base (L2.CX P w) 2 "need_number" ["value", "low", "high"] (spNumX K) := by
  refine ok_ofX (f_need_number T) (g_need_number T) sc_need_num (fun _ _ _ _ _ _ us hl => match us, hl with | [_, _, _], _ => rfl) (fun vs H Q E h => ?_) (fun cdv A outer s H vs Q E hr h => ?_)
  · obtain ⟨x, lo, hi, rfl, _⟩ := h
    rfl
  · obtain ⟨x, lo, hi, rfl, hx, hn, q⟩ := h
    have XF := exF T
    refine ⟨_, pss_one (ps_if (pt_not (pt_val (pe_cl (ok_is_number T) hr (pa_cons (pv 0) (pa_cons (pv 1) (pa_cons (pv 2) pa_nil))))))
      (pss_one (ps_raise rfl (takes_of rfl rfl rfl rfl) (pmk_own0 PySem.F.excBase_ValueError XF.xN (g_BadNumber T) XF.kN (raises_own XF.bN XF.tN) (by rfl)))) pss_nil), ?_⟩
    refine ⟨_, rfl, _, rfl, _, rfl, _, lo, hi, rfl, hx, ?_⟩
    rw [hn]
    exact ⟨_, rfl, iteT q⟩
def spHardX (K : PySem.W.Frag) : Sp := fun vs H _ E => ∃ (x : V), vs = [x] ∧ ((∃ n, x = .int n) ∨ x = .non ∨ ∃ b, x = .bl b) ∧ isNum 1 6 x = false ∧ E (.ref (He.ga K "BadNumber")) none H
/-- a call that raises, at the end of the def's own wish -/
theorem pe_clX {X : Cx} {k : Nat} {x : Str} {ps : List Str} {sp : Sp} {W : WX} {p pos : Pos} {e : Expr} {es : List Expr} {t : TA} (O : Ok X.prog X.w X.K X.mg X.base (L2.CX X.prog X.w) k x ps sp) (hr : Room k X.A) (tk : Takes X W) (ha : PA X (e :: es) t) (hg : Gl X x := by rfl)
    (hdb : (x == ("__debug__" : Str)) = false := by decide) (he : starEach (e :: es) X.env = (false, eval e X.env) :: starEach es X.env := by rfl) (hpl : (backTo pos (starEach es X.env)).any (·.1) = false := by rfl) :
    PE X (.Call (.Name x p) (e :: es) [] pos) (tCallS sp (WE W) t) := by
  obtain ⟨fd, F, b⟩ := O.ex
  exact pe_callS F hr hg O.gl O.kp b (fun σ => passAt tk σ) ha hdb he hpl
theorem ok_hardX (T : Txt K mg) : Ok P w K mg base (L2.CX P w) 3 "hardest" ["books"] (spHardX K) := by
  refine ok_ofX (f_hardest T) (g_hardest T) sc_hardest (fun _ _ _ _ _ _ us hl => match us, hl with | [_], _ => rfl) (fun vs H Q E h => ?_) (fun cdv A outer s H vs Q E hr h => ?_)
  · obtain ⟨x, rfl, _⟩ := h
    rfl
  · obtain ⟨x, rfl, hx, hn, q⟩ := h
    refine ⟨_, pss_cons (ps_expr (pe_clX (ok_numX T) hr (takes_of rfl rfl rfl rfl) (pa_cons (pv 0) (pa_cons pe_int (pa_cons pe_int pa_nil))))) pss_never, ?_⟩
    exact ⟨_, rfl, _, 1, 6, rfl, hx, hn, q⟩
/-! ### need_yard(None), keeps_all(None) -/
def spYardX (K : PySem.W.Frag) : Sp := fun vs H _ E => vs = [.non] ∧ ∀ H' d, Sm H H' → E (.ref (He.ga K "BadYard")) (some d) H'
theorem sm_exd {H H2 : Hp} {a d : Addr} {u v : HO} (e : H2 = upd (upd (upd H a v) d u) a v) : True := trivial
theorem ok_yardX (T : Txt K mg) : Ok P w K mg base (L2.CX P w) 3 "need_yard" ["value"] (spYardX K) := by
  refine ok_ofX (f_need_yard T) (g_need_yard T) sc_need_yard (fun _ _ _ _ _ _ us hl => match us, hl with | [_], _ => rfl) (fun vs H Q E h => ?_) (fun cdv A outer s H vs Q E hr h => ?_)
  · obtain ⟨rfl, _⟩ := h
    rfl
  · obtain ⟨rfl, q⟩ := h
    have XF := exF T
    obtain ⟨fd, F1, b1⟩ := ok_YI (P := P) (w := w) (base := base) T
    refine ⟨_, pss_cons (ps_if (PW.pt (pw_or (pt_not (pt_val (pe_callB call_isi (by rfl) (m_isinstance T) (by decide +kernel) (pa_cons (pv 0) (pa_cons (pe_bltn (v := .ty "tuple") (by rfl) (m_tuple T) (by decide +kernel) rfl) pa_nil)))))
          (pw_or1 (pt_cmpR op_ne (pe_callB call_len_seq (by rfl) (m_len T) PySem.boot_len (pa_cons (pv 0) pa_nil)) pe_int (nomark _)))))
        (pss_one (ps_raise rfl (takes_of rfl rfl rfl rfl) (pmk_oex XF.oY XF.iY XF.tI F1 (hr.mono (by decide)) b1 .nil pass0 (by rfl) (g_BadYard T) (pa_cons pe_str pa_nil)))) pss_nil) pss_never, ?_⟩
    refine ⟨_, rfl, _, _, _, _, false, rfl, .ty "tuple", .base .non, kit_ty (by decide +kernel), _, rfl, iteT ?_⟩
    refine ⟨by decide, fun a na => ⟨a, _, rfl, upd_same, fun dx ndx ne => ⟨rfl, dx, [("part", .str "yard")], upd_same, ?_, ?_, ?_⟩⟩⟩
    · rw [upd_ne ne, upd_same]
    · rw [upd_ne ne] at ndx
      exact ndx
    · refine q _ dx ⟨fun b o hb => ?_⟩
      have nb : b ≠ a := ne_of_none hb na
      have nd : b ≠ dx := by
        rw [upd_ne ne] at ndx
        exact ne_of_none hb ndx
      rw [upd_ne nd, del_ne nb, upd_ne nb, upd_ne nd, upd_ne nb]
      exact hb
theorem ok_keepsX (T : Txt K mg) : Ok P w K mg base (L2.CX P w) 5 "keeps_all" ["yard"] (spYardX K) := by
  refine ok_ofX (f_keeps_all T) (g_keeps_all T) sc_keeps_all (fun _ _ _ _ _ _ us hl => match us, hl with | [_], _ => rfl) (fun vs H Q E h => ?_) (fun cdv A outer s H vs Q E hr h => ?_)
  · obtain ⟨rfl, _⟩ := h
    rfl
  · obtain ⟨rfl, q⟩ := h
    refine ⟨_, pss_cons (ps_expr (pe_clX (ok_yardX T) (hr.mono (by decide)) (takes_of rfl rfl rfl rfl) (pa_cons (pv 0) pa_nil))) pss_never, ?_⟩
    exact ⟨_, rfl, rfl, q⟩
end
end HT
/-! text Q1 -/
set_option maxHeartbeats 4000000
namespace HT
open PySem PySem.Spec PyProof.Rows L2
/-! ### lambdas that are kept: made, held in a list, called later by the def that made them -/
/-- the object at f is the lambda -/
def LamO (f : Addr) (q : Str) (params : Arguments) (body : Expr) (scope : Scope) (cl : List (Str × Addr)) (dV : Value) (c' : Addr) : HO :=
  .ext fun h => ∃ doc pm ctv : Value, h.get? f = some (PySem.W.kdv_obj "<lambda>" q params (.expr body) scope cl dV doc pm c' ctv)
theorem lamO_ne {f : Addr} {q : Str} {params : Arguments} {body : Expr} {scope : Scope} {cl : List (Str × Addr)} {dV : Value} {c' : Addr} (ps : Array Value) : LamO f q params body scope cl dV c' ≠ .tbl ps := fun z => by
  unfold LamO at z
  cases z
/-- its names: globals, captured ones, parameters that its maker has no name of -/
structure LSd (X : Cx) (scope : Scope) : Prop where
  kind : scope.kind = .function
  co : scope.isCoroutine = false
  gen : scope.isGenerator = false
  cell : ∀ z ∈ scope.names, z.2 ≠ .cell
  own : ∀ z ∈ scope.names, z.2 = .local → z.1 ∉ X.N
  free : ∀ z ∈ scope.names, z.2 = .free → X.env.scope.names.lookup z.1 = some .cell ∨ X.env.scope.names.lookup z.1 = some .free
def lsdB (N : List Str) (sc scope : Scope) : Bool :=
  (match scope.kind with | .function => true | _ => false) && !scope.isCoroutine && !scope.isGenerator && (scope.names.all fun y => match y.2 with | .cell => false | .local => !decide (y.1 ∈ N) | .free => decide (sc.names.lookup y.1 = some .cell) || decide (sc.names.lookup y.1 = some .free) | _ => true)
theorem lsd_by {X : Cx} {N : List Str} {sc scope : Scope} (h : lsdB N sc scope = true) (hN : X.N = N) (he : X.env.scope = sc) : LSd X scope := by
  unfold lsdB at h
  simp only [Bool.and_eq_true, List.all_eq_true, Bool.not_eq_true'] at h
  obtain ⟨⟨⟨h1, h2⟩, h3⟩, h4⟩ := h
  refine ⟨?_, h2, h3, fun y hy e => ?_, fun y hy e => ?_, fun y hy e => ?_⟩
  · split at h1
    · assumption
    · cases h1
  · have := h4 y hy
    rw [e] at this
    cases this
  · have := h4 y hy
    rw [e] at this
    rw [hN]
    simpa using this
  · have := h4 y hy
    rw [e] at this
    rw [he]
    simpa using this
section
variable {X : Cx} {pins : List (Addr × Obj)} {σ : L2.St} {H : Hp} {s : Shared}
theorem LSd.has {scope : Scope} (S : LSd X scope) (ok : X.Ok) : ∀ y ∈ scope.names, y.2 = .free → ∃ c, X.env.cells.lookup y.1 = some c := fun y hy e => by
  rcases S.free y hy e with k | k
  · exact ok.has _ (.inl k)
  · exact ok.has _ (.inr k)
/-- a lambda just made is known from now on -/
theorem inv_lam {q : Str} {params : Arguments} {body : Expr} {scope : Scope} {cl : List (Str × Addr)} {dV : Value} {c' : Addr} {o : Obj} {t' : Nat} {doc pm ctv : Value} (I : Inv X pins σ H s) (ho : o = PySem.W.kdv_obj "<lambda>" q params (.expr body) scope cl dV doc pm c' ctv) :
    Inv X pins σ (upd H s.heap.objs.size (LamO s.heap.objs.size q params body scope cl dV c')) { s with heap := s.heap.push o, toks := t' } := by
  subst ho
  refine I.laid (a := s.heap.objs.size) (fun b u e => Heap.get?_push_of_some _ e) (Nat.le_refl _) ?_
  have e : (s.heap.push (PySem.W.kdv_obj "<lambda>" q params (.expr body) scope cl dV doc pm c' ctv)).get? s.heap.objs.size = some (PySem.W.kdv_obj "<lambda>" q params (.expr body) scope cl dV doc pm c' ctv) := Heap.get?_push_size _ rfl
  exact ⟨⟨doc, pm, ctv, e⟩, ⟨_, e⟩, fun h1 h2 ⟨d, p, t, z⟩ st => ⟨d, p, t, st _ z⟩⟩
theorem lam_mk {c P : Addr} {params : Arguments} {body : Expr} {scope : Scope} {pos : Pos} {dV : Value} {E : Value → Shared → Prop} {Q : Value → Shared → Prop} (I : Inv X pins σ H s) (TB : LamX.TabB X.base X.mg c P) (hcode : X.env.code = .ref c)
    (hT : LamX.TabS H P (X.env.qual ++ "<lambda>")) (hfree : ∀ y ∈ scope.names, y.2 = .free → ∃ c, X.env.cells.lookup y.1 = some c)
    (h : ∀ (f c' : Addr) (H1 : Hp) (s' : Shared), Inv X pins σ H1 s' → Xn H H1 → (∀ b ps, b ≠ P → H b = some (.tbl ps) → H1 b = some (.tbl ps)) → LamX.TabS H1 P (X.env.qual ++ "<lambda>") → H f = none →
      H1 f = some (LamO f (X.env.qual ++ "<lambda>") params body scope (cloFrom X.env.cells scope.names []) dV c') → H1 c' = some (LamX.CodeO c' (X.env.qual ++ "<lambda>")) → Q (.ref f) s') :
    wpAny (model X.prog X.w) X.A (makeTail "<lambda>" (X.env.qual ++ "<lambda>") params (.expr body) scope X.env dV .none none pos pos.line) Q E s := by
  obtain ⟨ps, hP, ht, ha⟩ := id hT
  have bP : s.heap.BuiltinsAt X.mg P := TB.bm.keeps I.bk
  have hP' : s.heap.get? P = some { cls := .none, data := .fields ps } := I.hok P _ hP
  cases hc : codeAmong pos ps.toList with
  | none =>
    refine PySem.W.kdv_makeTail (mg := X.mg) (c := c) (P := P) (ps := ps) (closure_ok hfree) I.ok.glob (I.mod.glob.keeps I.bk) hcode (TB.code.keeps I.bk) hP' ht hc TB.gP bP fun c' ctv doc h' tk hx hge hlt hrec htb => ?_
    obtain ⟨c2, oc, vs, t, e2, hoc, hd, hv⟩ := hrec
    cases e2
    have nC : H c' = none := I.hok.fresh hge
    have I1 := LamX.inv_table (t' := tk) (more := #[rawInt pos.line, rawInt pos.col, .ref c']) (h' := h') I hP (fun b o hb e => hx b o hb e) htb hge ⟨oc, vs, t, hoc, hd, hv⟩
    have nF := I1.hok.fresh (Nat.le_refl _)
    have I2 := inv_lam (q := X.env.qual ++ "<lambda>") (params := params) (body := body) (scope := scope) (cl := cloFrom X.env.cells scope.names []) (dV := dV) (c' := c') (t' := tk) (doc := doc) (pm := (X.mg "__name__").getD .none) (ctv := ctv) I1 rfl
    have hT1 := LamX_tabs1 (H := H) (c := c') hT nC hP (more := #[rawInt pos.line, rawInt pos.col, .ref c']) rfl
    refine h h'.objs.size c' _ _ I2 (fun b o e n => ?_) (fun b rs hb e => ?_) (hT1.ext fun b o e => ?_) (I.hok.fresh (Nat.le_trans hge (Nat.le_of_lt hlt))) upd_same ?_
    · have e1 : upd (upd H P (.tbl (ps ++ #[rawInt pos.line, rawInt pos.col, .ref c']))) c' (LamX.CodeO c' (X.env.qual ++ "<lambda>")) b = some o := by
        rw [upd_ne (ne_of_none e nC), upd_ne (fun z => n ps (Option.some.inj (e.symm.trans (by rw [z]; exact hP))))]
        exact e
      exact (upd_ne (ne_of_none e1 nF)).trans e1
    · have e1 : upd (upd H P (.tbl (ps ++ #[rawInt pos.line, rawInt pos.col, .ref c']))) c' (LamX.CodeO c' (X.env.qual ++ "<lambda>")) b = some (.tbl rs) := by
        rw [upd_ne (ne_of_none e nC), upd_ne hb]
        exact e
      exact (upd_ne (ne_of_none e1 nF)).trans e1
    · exact (upd_ne (ne_of_none e nF)).trans e
    · exact (upd_ne (Nat.ne_of_lt hlt)).trans upd_same
  | some cv =>
    obtain ⟨c', e, hco⟩ := ha pos cv hc
    subst e
    refine PySem.W.kdv_makeTailHit (mg := X.mg) (c := c) (P := P) (ps := ps) (closure_ok hfree) I.ok.glob (I.mod.glob.keeps I.bk) hcode (TB.code.keeps I.bk) hP' ht hc bP fun ctv doc h' tk hx hsz => ?_
    have I1 : Inv X pins σ H { s with heap := h', toks := tk } := I.kept hx
    have nF : H h'.objs.size = none := I1.hok.fresh (Nat.le_refl _)
    have I2 := inv_lam (q := X.env.qual ++ "<lambda>") (params := params) (body := body) (scope := scope) (cl := cloFrom X.env.cells scope.names []) (dV := dV) (c' := c') (t' := tk) (doc := doc) (pm := (X.mg "__name__").getD .none) (ctv := ctv) I1 rfl
    refine h h'.objs.size c' _ _ I2 (fun b o e n => ?_) (fun b rs hb e => ?_) (hT.ext fun b o e => ?_) nF upd_same ?_
    · exact (upd_ne (ne_of_none e nF)).trans e
    · exact (upd_ne (ne_of_none e nF)).trans e
    · exact (upd_ne (ne_of_none e nF)).trans e
    · exact (upd_ne (ne_of_none hco nF)).trans hco
end
/-- what the making of a lambda leaves -/
def LamR (P : Addr) (mk : Value → Addr → Addr → HO) (q : Str) (dV : Value) (H : Hp) (Q : VK) : Prop :=
  LamX.TabS H P q ∧ ∀ (f c' : Addr) (H1 : Hp), Xn H H1 → (∀ b ps, b ≠ P → H b = some (.tbl ps) → H1 b = some (.tbl ps)) → LamX.TabS H1 P q → H f = none → H1 f = some (mk dV f c') → H1 c' = some (LamX.CodeO c' q) → Q (.ref f) H1
def tLamO (P : Addr) (mk : Value → Addr → Addr → HO) (q : Str) : TE := fun _ H Q => LamR P mk q .none H Q
/-- .. with one default, an int -/
def tLamD (P : Addr) (mk : Value → Addr → Addr → HO) (q : Str) (i : Int) : TE := fun _ H Q => ∀ t, H t = none → LamR P mk q (.ref t) (upd H t (.tup [.int i])) Q
section
variable {X : Cx} {c P : Addr} {params : Arguments} {body : Expr} {scope : Scope} {pos : Pos}
abbrev mkLam (ev : Env) (params : Arguments) (body : Expr) (scope : Scope) : Value → Addr → Addr → HO := fun dV f c' => LamO f (ev.qual ++ "<lambda>") params body scope (cloFrom ev.cells scope.names []) dV c'
theorem pe_lamO (TB : LamX.TabB X.base X.mg c P) (hcode : X.env.code = .ref c) (S : LSd X scope) (hdef : defaultsOf params X.env = ([], [])) :
    PE X (.Lambda params body scope pos) (tLamO P (mkLam X.env params body scope) (X.env.qual ++ "<lambda>")) := by
  refine ⟨fun pins s σ H Q I h => ?_⟩
  obtain ⟨hT, h⟩ := h
  refine PySem.W.kla_eval hdef ?_
  rw [makeFunction_eq]
  simp only [List.zip_nil_right, List.filterMap_nil, List.isEmpty_nil, if_true, pure_bind]
  exact lam_mk I TB hcode hT (S.has I.ok) fun f c' H1 s' I1 xn tn hT1 nf ef ec => ⟨.ref f, H1, I1, rfl, h f c' H1 xn tn hT1 nf ef ec⟩
theorem pe_lamD {i : Int} {k0 : Nat} {p0 : Pos} (TB : LamX.TabB X.base X.mg c P) (hcode : X.env.code = .ref c) (S : LSd X scope) (hd : params.defaults = [.Constant (.int i) k0 p0]) (hk : params.kw_defaults = []) :
    PE X (.Lambda params body scope pos) (tLamD P (mkLam X.env params body scope) (X.env.qual ++ "<lambda>") i) := by
  refine ⟨fun pins s σ H Q I h => ?_⟩
  refine PySem.W.kdv_lam (by rw [hd]; rfl) hk ?_
  rw [hd]
  refine PySem.W.kdv_all1 (thn ((pe_int (i := i) (pos := p0)).run pins s σ H (fun v H1 => v = .int i ∧ H1 = H) I ⟨rfl, rfl⟩) fun u s1 ⟨v, H1, I1, r1, e1, e2⟩ => PySem.W.kdv_all0 ?_)
  subst e1
  subst e2
  rw [makeFunction_eq]
  simp only [List.zip_nil_right, List.filterMap_nil, List.isEmpty_nil, List.isEmpty_cons, Bool.false_eq_true, if_false, if_true, pure_bind]
  refine wpAny_bind (wpAny_newTextTuple ?_)
  have hf : H1 s1.heap.objs.size = none := I1.hok.fresh (Nat.le_refl _)
  have I2 : Inv X pins σ (upd H1 s1.heap.objs.size (.tup [.int i])) { s1 with heap := s1.heap.push { cls := .type "tuple", data := .seq [u].toArray }, toks := s1.toks } :=
    I1.laid (fun b u e => Heap.get?_push_of_some _ e) (Nat.le_refl _) ⟨by show 1 ≤ sizeLine; decide, [u], .cons r1 .nil, ⟨_, Heap.get?_push_size _ rfl, rfl, _, rfl⟩⟩
  obtain ⟨hT, h⟩ := h _ hf
  exact lam_mk I2 TB hcode hT (S.has I.ok) fun f c' H2 s' I3 xn tn hT1 nf ef ec => ⟨.ref f, H2, I3, rfl, h f c' H2 xn tn hT1 nf ef ec⟩
end
/-! ### the call -/
section
variable {X : Cx} {pins : List (Addr × Obj)} {σ : L2.St} {H : Hp} {s : Shared}
theorem lam_start3 {E : XK} {scope : Scope} {f c' : Addr} {h₁ : Heap} {tk : Nat} {binds : List (Str × Value)} (I : Inv X pins σ H s) (L : LSd X scope) (hd : X.A.handled = none)
    (hns : h₁.Ns s.heap.objs.size fun y => binds.reverse.lookup y) (kp : ∀ b o, s.heap.get? b = some o → h₁.get? b = some o) :
    Inv (LamX.lamCx X X.A X.stack s H E scope f c') [] σ H { s with heap := h₁, toks := tk } := by
  have hfree := L.has I.ok
  have e0 := I.env0
  have cm : ∀ {y c}, (cloFrom X.env.cells scope.names []).lookup y = some c → X.env.cells.lookup y = some c := fun {y c} e => by
    rcases cloFrom_mem (PySem.mem_of_lookup e) with hm | ⟨h1, h2⟩
    · cases hm
    · obtain ⟨c1, hc⟩ := hfree _ h1 rfl
      have hc : X.env.cells.lookup y = some c1 := hc
      have e2 : c = c1 := by
        rw [h2, hc] <;> rfl
      rw [e2]
      exact hc
  have look : ∀ {y}, scope.names.lookup y = some .free → ∃ c, (cloFrom X.env.cells scope.names []).lookup y = some c := fun {y} hl => by
    have hy : (y, NameKind.free) ∈ scope.names := PySem.mem_of_lookup hl
    exact mem_lookup (cloFrom_has (cells := X.env.cells) (acc := []) hy)
  have cellK : ∀ {c : Addr} {v : Option Value}, s.heap.IsCell c v → h₁.IsCell c v := fun {c v} ⟨o, ho, hd⟩ => ⟨o, kp _ _ ho, hd⟩
  have noA : ∀ b : Addr, b ∉ (LamX.lamCx X X.A X.stack s H E scope f c').ex := fun b z => absurd (show b ∈ ([] : List Addr) from z) (by simp)
  refine ⟨⟨e0.mod, L.kind, rfl, rfl, Nat.le_refl _, fun y z c e1 e2 => I.ok.inj y z c (cm e1) (cm e2), fun y hy => ?_, fun y c z _ => ?_, fun _ => hd, Around.frames_deeper e0.frames, .inr ⟨rfl, rfl⟩, fun b z => absurd z (noA b), e0.bs, e0.bsz, fun b _ _ => noA b,
      fun b z => absurd z (noA b), e0.funs, e0.frf⟩,
    rfl, e0.bare, Un.kept kp, ⟨_, hns, fun i y v e1 e2 e3 => ?_⟩, fun y c e => ?_, e0.hok.fresh (Nat.le_refl _), fun y c e => ?_, fun q hq => absurd (show q ∈ ([] : List (Addr × Obj)) ++ [] from hq) (by simp), e0.hok.kept kp, I.len⟩
  · have hy : scope.names.lookup y = some .cell ∨ scope.names.lookup y = some .free := hy
    rcases hy with hy | hy
    · exact absurd rfl (L.cell _ (PySem.mem_of_lookup hy))
    · exact look hy
  · have z : false = true := z
    cases z
  · have e3 : Vis scope y := e3
    rcases e3 with k | k | k
    · exact absurd (List.mem_of_getElem? e1) (L.own _ (PySem.mem_of_lookup k) rfl)
    · exact absurd rfl (L.cell _ (PySem.mem_of_lookup k))
    · obtain ⟨m, hn, hl⟩ := I.loc
      have hvis : Vis X.env.scope y := (L.free _ (PySem.mem_of_lookup k) rfl).elim (fun k => .inr (.inl k)) (fun k => .inr (.inr k))
      obtain ⟨w', r, q⟩ := hl i y v e1 e2 hvis
      obtain ⟨c2, h2⟩ := look k
      refine ⟨w', r, .inr ⟨.inr k, c2, h2, ?_⟩⟩
      have c1 := cm h2
      rcases q with ⟨k', _⟩ | ⟨_, c3, e', z⟩
      · have k' : X.env.scope.names.lookup y = some .local := k'
        rcases L.free _ (PySem.mem_of_lookup k) rfl with k2 | k2 <;> rw [show X.env.scope.names.lookup y = _ from k2] at k' <;> cases k'
      · rw [c1] at e'
        cases e'
        exact cellK z
  · obtain ⟨w', z⟩ := I.cell y c (cm e)
    exact ⟨w', cellK z⟩
  · exact I.freeC y c (cm e)
/-- what stands for the lambda's default: none, or a tuple of one int -/
def DfO (H : Hp) (i : Int) : Value → Prop
  | .none => True
  | .ref t => H t = some (.tup [.int i])
  | _ => False
/-- a(), a a name of the maker that holds the lambda -/
theorem lam_run {q : Str} {params : Arguments} {body : Expr} {scope : Scope} {f c' : Addr} {dV : Value} {E : XK} {tb : TE} {k : Nat} {Q : VK} (I : Inv X pins σ H s) (L : LSd X scope) (hr : Room (k + 1) X.A) (hq : q = X.env.qual ++ "<lambda>")
    (hf : H f = some (LamO f q params body scope (cloFrom X.env.cells scope.names []) dV c')) (hc : H c' = some (LamX.CodeO c' q))
    (hbind : ∀ doc pm ctv, ∃ binds, BindsTo s (PySem.W.kdv_fn "<lambda>" q params (.expr body) scope (cloFrom X.env.cells scope.names []) dV doc pm (.ref c') ctv) ⟨[], []⟩ binds ∧ ∀ y ∈ binds, scope.names.lookup y.1 = some .local)
    (hx : PassesAt (L2.CX X.prog X.w) X σ E)
    (hbody : ∀ (s : Shared) (H : Hp), Room k (X.A.deeper (LamX.lamEnv X scope s.heap.objs.size f c')) → PE (LamX.lamCx X X.A X.stack s H E scope f c') body tb) (ht : tb σ H Q) :
    wpAny (model X.prog X.w) X.A (call (.ref f) []) (EP X pins σ Q) X.xe s := by
  subst hq
  obtain ⟨⟨doc, pm, ctv, of1⟩, _, _⟩ := I.hok f _ hf
  obtain ⟨⟨oc, vs, t, hoc, hdc, hvc⟩, _, _⟩ := I.hok c' _ hc
  obtain ⟨binds, hb, hloc⟩ := hbind doc pm ctv
  have rc : codeAny (model X.prog X.w) X.A (.call (.ref f) ⟨[], []⟩) (CR (L2.CX X.prog X.w) X.stack X.prog X.w H s Q E) s := by
    refine PySem.W.kla_callFunE hr.depth of1 rfl L.co L.gen rfl ⟨c', oc, vs, t, rfl, hoc, hdc, hvc⟩ (hb _ _ _ _ ?_)
    refine wpAny_newFunctionEnv (fun y hy => L.cell y hy) (fun y hy => hloc y hy) (fun h₁ hns hsb => ⟨I.nolimit.fresh _ hsb, ?_⟩) L.kind
    show codeAny _ _ (.expr body (LamX.lamEnv X scope s.heap.objs.size f c')) _ _
    have kp : ∀ b o, s.heap.get? b = some o → h₁.get? b = some o := fun b o e => hsb.extBut b o (Nat.ne_of_lt (Heap.lt_size e)) (Heap.get?_push_of_some _ e)
    have J := lam_start3 (E := E) (scope := scope) (f := f) (c' := c') (tk := s.toks + binds.length) I L hr.hd hns kp
    refine PySem.W.kla_codeExpr (wpAny_mono ((hbody s H (hr.deeper _)).run [] _ _ H Q J ht) (fun v s' hq => ?_) fun e s' hq => hq)
    obtain ⟨w', H', J', rv, q⟩ := hq
    exact ⟨w', H', J'.os, J'.bare, J'.base, J'.hok, rv, q⟩
  refine wpAny_call (codeAny_mono rc fun r s' hq => ?_)
  cases r with
  | error e => exact hx pins H s e s' I hq
  | ok fl =>
    cases fl with
    | ret u => exact I.after hq
    | next => exact False.elim hq
    | brk => exact False.elim hq
    | cont => exact False.elim hq
theorem lam_fnAt {q : Str} {params : Arguments} {body : Expr} {scope : Scope} {cl : List (Str × Addr)} {f c' : Addr} {dV : Value} (I : Inv X pins σ H s) (e : H f = some (LamO f q params body scope cl dV c')) : PySem.W.FnAt f s.heap := by
  obtain ⟨⟨doc, pm, ctv, ho⟩, _, _⟩ := I.hok f _ e
  exact ⟨_, _, _, _, ho⟩
end
/-- the slot i holds the lambda -/
def tActL (i : Nat) (mk : Value → Addr → Addr → HO) (q : Str) (dd : Hp → Value → Prop) (tb : TE) : TE := fun σ H Q => ∃ (f c' : Addr) (dV : Value), σ[i]? = some (some (.ref f)) ∧ H f = some (mk dV f c') ∧ H c' = some (LamX.CodeO c' q) ∧ dd H dV ∧ tb σ H Q
section
variable {X : Cx} {i : Nat} {a : Str} {p1 p2 : Pos} {W : WX} {k : Nat}
/-- one of two lambdas, called; what it lets out is wished at the slots as they stand -/
theorem pe_act2 {ev : Env} {pr1 pr2 : Arguments} {b1 b2 : Expr} {sc1 sc2 : Scope} {dd1 dd2 : Hp → Value → Prop} {t1 t2 : XK → TE} (hev : X.env = ev) (hN : X.N[i]? = some a) (hv : Vis X.env.scope a) (hS1 : LSd X sc1) (hS2 : LSd X sc2) (hr : Room (k + 1) X.A) (tk : Takes X W)
    (hb1 : ∀ (pins : List (Addr × Obj)) (σ : L2.St) (H : Hp) (s : Shared), Inv X pins σ H s → ∀ dV, dd1 H dV → ∀ c' doc pm ctv, ∃ binds, BindsTo s (PySem.W.kdv_fn "<lambda>" (X.env.qual ++ "<lambda>") pr1 (.expr b1) sc1 (cloFrom X.env.cells sc1.names []) dV doc pm (.ref c') ctv) ⟨[], []⟩ binds ∧ ∀ y ∈ binds, sc1.names.lookup y.1 = some .local)
    (hb2 : ∀ (pins : List (Addr × Obj)) (σ : L2.St) (H : Hp) (s : Shared), Inv X pins σ H s → ∀ dV, dd2 H dV → ∀ c' doc pm ctv, ∃ binds, BindsTo s (PySem.W.kdv_fn "<lambda>" (X.env.qual ++ "<lambda>") pr2 (.expr b2) sc2 (cloFrom X.env.cells sc2.names []) dV doc pm (.ref c') ctv) ⟨[], []⟩ binds ∧ ∀ y ∈ binds, sc2.names.lookup y.1 = some .local)
    (hy1 : ∀ (E : XK) (s : Shared) (H : Hp) (f c' : Addr), Room k (X.A.deeper (LamX.lamEnv X sc1 s.heap.objs.size f c')) → PE (LamX.lamCx X X.A X.stack s H E sc1 f c') b1 (t1 E))
    (hy2 : ∀ (E : XK) (s : Shared) (H : Hp) (f c' : Addr), Room k (X.A.deeper (LamX.lamEnv X sc2 s.heap.objs.size f c')) → PE (LamX.lamCx X X.A X.stack s H E sc2 f c') b2 (t2 E))
    (hd : (a == ("__debug__" : Str)) = false := by decide) (hcd : (a == ("__classdict__" : Str)) = false := by decide) :
    PE X (.Call (.Name a p1) [] [] p2) (fun σ H Q => tActL i (mkLam ev pr1 b1 sc1) (ev.qual ++ "<lambda>") dd1 (t1 (WE W σ)) σ H Q ∨ tActL i (mkLam ev pr2 b2 sc2) (ev.qual ++ "<lambda>") dd2 (t2 (WE W σ)) σ H Q) := by
  subst hev
  refine ⟨fun pins s σ H Q I h => ?_⟩
  have go : ∀ (f : Addr), σ[i]? = some (some (.ref f)) → (∀ s1, Inv X pins σ H s1 → PySem.W.FnAt f s1.heap ∧ wpAny (model X.prog X.w) X.A (call (.ref f) []) (EP X pins σ Q) X.xe s1) →
      wpAny (model X.prog X.w) X.A (eval (.Call (.Name a p1) [] [] p2) X.env) (EP X pins σ Q) X.xe s := fun f hs hc => by
    refine wpAny_Call_Name_kw (thn ((pe_var (pos := p1) (i := i) hN hv hd hcd).run pins s σ H (fun v H1 => v = .ref f ∧ H1 = H) I ⟨.ref f, hs, rfl, rfl⟩) fun u s1 ⟨v, H1, I1, r1, ev, eH⟩ => ?_)
    subst ev
    rw [eH] at I1
    obtain rfl : u = Value.ref f := r1
    exact PySem.W.callWith_F0 (first := []) (hc s1 I1).1 (hc s1 I1).2
  rcases h with ⟨f, c', dV, hs, hf, hc, hdd, ht⟩ | ⟨f, c', dV, hs, hf, hc, hdd, ht⟩
  · exact go f hs fun s1 I1 => ⟨lam_fnAt I1 hf, lam_run I1 hS1 hr rfl hf hc (fun doc pm ctv => hb1 pins σ H s1 I1 dV hdd c' doc pm ctv) (passAt tk σ) (fun s H => hy1 _ s H f c') ht⟩
  · exact go f hs fun s1 I1 => ⟨lam_fnAt I1 hf, lam_run I1 hS2 hr rfl hf hc (fun doc pm ctv => hb2 pins σ H s1 I1 dV hdd c' doc pm ctv) (passAt tk σ) (fun s H => hy2 _ s H f c') ht⟩
end
end HT
/-! text T1 -/
set_option maxHeartbeats 4000000
namespace HT
open PySem PySem.Spec PyProof.Rows L2
/-! ### several except clauses, each with a name -/
abbrev ClA : Type := Value × Nat × (Addr → Value → Option Addr → TS)
def wManyAs (K : PySem.W.Frag) (Wout : WX) (D : Ends) : List ClA → WX
  | [] => Wout
  | (c, i, ts) :: r => fun cls d σ H => ∃ b, PySem.W.exmOne K cls c = some b ∧ (b = true → ∀ a, H a = none → ts a cls d { nx := fun σ' H' => D.nx (σ'.set i none) H', rt := D.rt, bk := fun σ' H' => D.bk (σ'.set i none) H', ct := fun σ' H' => D.ct (σ'.set i none) H' } (σ.set i (some (.ref a))) H) ∧
      (b = false → wManyAs K Wout D r cls d σ H)
def tTryAs (K : PySem.W.Frag) (Wout : WX) (tb : WX → TS) (l : List ClA) : TS := fun D σ H => tb (wManyAs K Wout D l) D σ H
inductive HdsAs (X : Cx) : List ExceptHandler → List ClA → Prop
  | nil : HdsAs X [] []
  | cons {x n : Str} {c : Value} {i : Nat} {ts : Addr → Value → Option Addr → TS} {b₀ : Stmt} {suite : List Stmt} {np pos' : Pos} {hds : List ExceptHandler} {l : List ClA} (hi : X.N[i]? = some n) (hln : X.env.kindOf n = some .local) (hc : Names X x c)
      (hsu : ∀ (a : Addr) (oe : Obj) (cls : Value) (d : Option Addr) (pn : List (Addr × Obj)), Zc cls d oe → (∃ vs, oe.data = .fields vs) → PSs (X.suite a ((a, oe) :: pn)) (b₀ :: suite) (ts a cls d)) (r : HdsAs X hds l) :
      HdsAs X (.ExceptHandler (some (.Name x np)) (some n) (b₀ :: suite) pos' :: hds) ((c, i, ts) :: l)
section
variable {X : Cx} {body : List Stmt} {h₀ : ExceptHandler} {hds : List ExceptHandler} {l : List ClA} {pos : Pos} {tb : WX → TS} {Wout : WX}
theorem ps_try_manyAs (hs : X.stack = X.env :: X.outer) (hf : X.env.frame = some X.env.locals) (hN : X.N.Nodup) (tk : Takes X Wout)
    (hb : ∀ (W : WX) (pn : List (Addr × Obj)) (xe : Value → Shared → Prop), Takes (X.tr pn xe) W → PassesOwn (model X.prog X.w) X.A X.env xe → PSs (X.tr pn xe) body (tb W))
    (hh : HdsAs X (h₀ :: hds) l) : PS X (.Try body (h₀ :: hds) [] [] pos) (tTryAs X.K Wout tb l) := by
  refine ⟨fun pins s σ H D I h => ?_⟩
  have h : tb (wManyAs X.K Wout D l) D σ H := h
  have ok := I.ok
  have hfr : X.A.frames = some (X.env :: X.outer) := by rw [ok.frames, hs]
  refine wpAny_Try_except ?_
  refine wpAny_mono ((hb (wManyAs X.K Wout D l) (X.pn ++ pins) (fun e s₁ => wpAny (model X.prog X.w) X.A (noteFrame e X.env) (fun _ s₂ => wpAny (model X.prog X.w) X.A (setFlight e none) (fun _ s₃ =>
    wpAny (model X.prog X.w) X.A (handleBy e X.env (h₀ :: hds)) (SP X pins D) X.xe s₃) X.xe s₂) X.xe s₁) (fun u s' xx => ?_) PassesOwn.looking).run [] s σ H D (I.toTry _) h) (fun f s1 hsp => ?_) (fun e s1 he => he)
  · -- the catch
    obtain ⟨a, B, sI, pins', σ', H', cls, d, rfl, J', nb, up, sky, na, os, ag, w⟩ := xx
    have J : Inv X pins σ' H' sI := J'.ofTry ok
    have sky' : Sky B (X.env :: X.outer) a (Zc cls d) X.env.locals s'.heap := by rw [← hs]; exact sky
    show wpAny (model X.prog X.w) X.A (noteFrame (.ref a) X.env) _ _ _
    refine Sky.land Zc.steady hfr hf sky' fun h3 fl3 up3 => ?_
    have J3 : Inv X pins σ' H' { s' with heap := h3 } := J.landed nb fl3.1 (up.trans up3) os ag
    obtain ⟨oe3, vs3, he3, hz3, hd3⟩ := fl3.there
    have notFr : ∀ {h : Heap} {o : Obj} {vs : Array Value}, h.FunFrames B (X.env :: X.outer) → h.get? a = some o → o.data = .fields vs → a ∉ frs (X.env :: X.outer) := fun {h o vs} ff e dd hm => by
      obtain ⟨_, o', e', hnf⟩ := ff.mem hm
      rw [e] at e'; cases e'
      exact hnf _ dd
    have nfr := notFr fl3.2.2.1 he3 hd3
    have nL : a ≠ X.env.locals := fun z => nfr (List.mem_filterMap.mpr ⟨X.env, List.mem_cons_self, by rw [hf, z]⟩)
    have nF : a ∉ X.fs := fun hm => by
      obtain ⟨e, he, q⟩ := List.mem_filterMap.mp hm
      exact nfr (List.mem_filterMap.mpr ⟨e, List.mem_cons_of_mem _ he, q⟩)
    have S3 := J3.suite he3 hd3 na nL nF
    have go : ∀ {hds' : List ExceptHandler} {l' : List ClA}, HdsAs X hds' l' → wManyAs X.K Wout D l' cls d σ' H' →
        wpAny (model X.prog X.w) X.A (handleBy (.ref a) X.env hds') (SP X pins D) X.xe { s' with heap := h3 } := by
      intro hds' l' hk
      induction hk with
      | nil =>
        intro w
        refine wpAny_handleBy_nil ?_
        obtain ⟨k1, k2, k3, oe, vs, T, oT, ts', he, hz, hd, h1, hr⟩ := id fl3
        unfold PySem.passOn
        refine wpAny_bind (wpAny_field he hd h1 ?_)
        rw [if_neg (show ¬ ((Value.ref T == Value.none) = true) from by simp)]
        have fin : wpAny (model X.prog X.w) X.A (setFlight (.ref a) X.env.frame) (fun _ s4 => wpAny (model X.prog X.w) X.A (throw (.ref a) : Sem Flow) (SP X pins D) X.xe s4) X.xe { s' with heap := h3 } := by
          rw [hf]
          refine HandSPX.setFlight_upZ fl3 fun h4 hh4 up4 => wpAny_throw (tk _ _ ?_)
          exact ⟨a, B, sI, pins, σ', H', cls, d, rfl, J, nb, (up.trans up3).trans up4, .inr (.inr (by rw [hs]; exact hh4)), na, os, ag, w⟩
        first
          | exact wpAny_bind (wpAny_pure (wpAny_bind fin))
          | exact wpAny_bind fin
      | @cons x n c i ts b₀ suite np pos' hds2 l2 hi hln hc hsu r ih =>
        intro w
        have hloc : Loc X.env.scope n := .inl hln
        obtain ⟨b, hb1, hyes, hno⟩ := w
        refine wpAny_handleBy_cons (codeAny_handlers_test ?_) (by intro q; cases q)
        have LT : PySem.W.Looks (model X.prog X.w) h3 (typeOf (.ref a)) cls := fun A Q E s k q => wpAny_typeOf_ref (k _ _ he3) (by rw [hz3.1]; exact q)
        have LM := PySem.W.exm_one (M := model X.prog X.w) (J3.kIn) LT hb1
        have test : ∀ {Q : Value → Shared → Prop} {E : Value → Shared → Prop}, Q c { s' with heap := h3 } → wpAny (model X.prog X.w) (X.A.mark (some (.ref a))) (eval (.Name x np) X.env) Q E { s' with heap := h3 } := fun {Q E} q => by
          obtain ⟨hg, hdbg, hm | ⟨hm, hv, hnn⟩⟩ := hc
          · exact ld_glob (X := X.suite a ((a, oe3) :: (X.pn ++ pins))) S3 hg hm q hdbg
          · exact ld_blt (X := X.suite a ((a, oe3) :: (X.pn ++ pins))) S3 hg hm hv q hnn hdbg
        refine test (LM.here ?_)
        cases b with
        | true =>
          refine codeAny_handlers_suite_as ?_
          refine HandSPX.lands_againZ fl3 fun h4 fl4 up4 => ?_
          have J4 : Inv X pins σ' H' { s' with heap := h4 } := J.landed nb fl4.1 ((up.trans up3).trans up4) os ag
          obtain ⟨oe4, vs4, he4, hz4, hd4⟩ := fl4.there
          have S4 := J4.suite he4 hd4 na nL nF
          refine store_ok (X := X.suite a ((a, oe4) :: (X.pn ++ pins))) (v := .ref a) S4 hN hi hloc rfl (fun s5 S5 => ?_) (.inr hln)
          refine wpAny_mono ((hsu a oe4 cls d (X.pn ++ pins) hz4 ⟨_, hd4⟩).run [] s5 _ H' _ S5 (hyes rfl a na)) (fun f s6 hsp => ?_) (fun _ _ z => False.elim z)
          have end_ : ∀ {σ6 : L2.St} {H6 : Hp} {Q : Shared → Prop}, Inv (X.suite a ((a, oe4) :: (X.pn ++ pins))) [] σ6 H6 s6 → (∀ s7, Inv X pins (σ6.set i none) H6 s7 → Q s7) →
              wpAny (model X.prog X.w) X.A (do bindName X.env n .none; unbindBehindTheSuite X.env n pos') (fun _ s7 => Q s7) X.xe s6 := fun {σ6 H6 Q} S6 hq => gone_ok (S6.unsuite ok) hN hi hln hq
          cases f with
          | next =>
            obtain ⟨σ6, H6, S6, q6⟩ := hsp
            exact end_ S6 fun s7 J7 => ⟨_, _, J7, q6⟩
          | brk =>
            obtain ⟨σ6, H6, S6, q6⟩ := hsp
            exact end_ S6 fun s7 J7 => ⟨_, _, J7, q6⟩
          | cont =>
            obtain ⟨σ6, H6, S6, q6⟩ := hsp
            exact end_ S6 fun s7 J7 => ⟨_, _, J7, q6⟩
          | ret u =>
            obtain ⟨v6, σ6, H6, S6, r6, q6⟩ := hsp
            exact end_ S6 fun s7 J7 => ⟨_, _, _, J7, r6, q6⟩
        | false =>
          show wpAny _ X.A (handleBy (.ref a) X.env hds2) _ _ _
          exact ih (hno rfl)
    exact go hh w
  · cases f with
    | next =>
      obtain ⟨σ', H', J', q⟩ := hsp
      exact wpAny_execs_nil ⟨σ', H', J'.ofTry ok, q⟩
    | brk =>
      obtain ⟨σ', H', J', q⟩ := hsp
      exact ⟨σ', H', J'.ofTry ok, q⟩
    | cont =>
      obtain ⟨σ', H', J', q⟩ := hsp
      exact ⟨σ', H', J'.ofTry ok, q⟩
    | ret u =>
      obtain ⟨v, σ', H', J', r, q⟩ := hsp
      exact ⟨v, σ', H', J'.ofTry ok, r, q⟩
theorem takes_no {X : Cx} : Takes X (fun _ _ _ _ => False) := fun _ _ ⟨_, _, _, _, _, _, _, _, _, _, _, _, _, _, _, _, w⟩ => w.elim
end
end HT
/-! text V1 -/
set_option maxHeartbeats 4000000
namespace HT
open PySem PySem.Spec PyProof.Rows L2
open GxR (TabG Tabbed)
/-! ### the law: its names, its statements, what stands between them -/
def NL : List Str := ["_law_script", "_law_yard_here", "_law_places", "_law_ties", "_law_gate", "_law_others", "_law_cuts", "_law_one", "_law_other", "_law_rest", "_law_program_here", "_law_book", "_law_standing_here", "_law_barred", "_law_turn", "_law_told", "_law_hole", "_law_at", "_law_books", "_law_words", "_law_work", "e", "_law_row", "_law_place"]
theorem sc_law : FnScope NL ["_law_script"] (defScope s_law) := ⟨rfl, rfl, rfl, by decide +kernel, rfl, by decide +kernel, by decide +kernel⟩
def lawSt (i : Nat) : Stmt := (defBody s_law).getD i (.Pass ⟨0, 0, 0, 0⟩)
theorem law_body : defBody s_law = [lawSt 0, lawSt 1, lawSt 2, lawSt 3, lawSt 4, lawSt 5, lawSt 6, lawSt 7, lawSt 8, lawSt 9, lawSt 10, lawSt 11, lawSt 12, lawSt 13, lawSt 14, lawSt 15] := rfl
abbrev LX (P : Program) (w : World) (K : PySem.W.Frag) (mg : Str → Option Value) (base : Heap) (cdv : Value) (A : Around) (outer : List Env) (s : Shared) (H : Hp) (E : XK) : Cx := (cxOf CX0 P w K mg base NL "law" (defScope s_law) (He.ga K "law") cdv A outer s H E).nox
/-- from J to J' by a statement -/
def Tri (X : Cx) (st : Stmt) (J J' : L2.St → Hp → Prop) : Prop := ∃ t : TS, PS X st t ∧ ∀ (D : Ends) (σ : L2.St) (H : Hp), J σ H → (∀ σ' H', J' σ' H' → D.nx σ' H') → t D σ H
abbrev ls (sc r y ta : Addr) (n g : Nat) (v5 v6 v7 v8 v9 v10 v11 v12 v13 v14 v15 v16 v17 v18 v19 v20 v21 : Option V) : L2.St :=
  [some (.ref sc), some (.ref y), some (.int (n : Int)), some (.ref ta), some (.int (g : Int)), v5, v6, v7, v8, v9, v10, v11, v12, v13, v14, v15, v16, v17, v18, v19, v20, v21, some (.ref r), none]
/-! #### what lasts -/
theorem RowAt.xn {K : PySem.W.Frag} {sc r : Addr} {H H' : Hp} (s : Xn H H') (h : RowAt K sc H r) : RowAt K sc H' r := by
  obtain ⟨cs, i, z, d, eR, n, hS, h1, h2, h3⟩ := h
  exact ⟨cs, i, z, d, s.lst eR, n, s.sqL hS, h1, h2, h3⟩
theorem RowAt.nl {K : PySem.W.Frag} {sc r a : Addr} {H : Hp} {o : HO} (h : RowAt K sc H r) (e : H a = some o) (n : ∀ xs, o ≠ .lst (.ref sc :: xs)) : a ≠ r := fun z => by
  obtain ⟨_, _, _, _, eR, _⟩ := h
  rw [← z, e] at eR
  exact n _ (Option.some.inj eR)
theorem iv_not (C : List Nat) (sc : Addr) (xs : List V) : (HO.lst (iv C)) ≠ .lst (.ref sc :: xs) := fun z => by
  injection z with z
  cases C with
  | nil => cases z
  | cons a C => injection z with z _; cases z
theorem TabG.sr {K : PySem.W.Frag} {sc r a : Addr} {H H' : Hp} (h : RowAt K sc H r) (s : Sr r H H') (t : TabG H a) : TabG H' a := by
  obtain ⟨ps, e, q⟩ := t
  exact ⟨ps, s _ _ (h.nl e fun _ z => by cases z) e, q⟩
theorem WT.sr {K : PySem.W.Frag} {sc r : Addr} {H H' : Hp} (h : RowAt K sc H r) (s : Sr r H H') (t : WT K H) : WT K H' := by
  obtain ⟨ps, h1, h2, h3⟩ := t
  refine ⟨ps, s _ _ (h.nl h1 fun _ z => by cases z) h1, h2, fun pos cv hc => ?_⟩
  obtain ⟨c, a, b⟩ := h3 pos cv hc
  exact ⟨c, a, s _ _ (h.nl b fun _ z => by unfold LamX.CodeO at z; cases z) b⟩
/-- the row, the yard, the tables -/
structure LEv (K : PySem.W.Frag) (sc r y ta : Addr) (n g : Nat) (T : List (Nat × Nat)) (H : Hp) : Prop where
  row : RowAt K sc H r
  yd : H y = some (.tup [.int (n : Int), .ref ta, .int (g : Int)])
  ti : TiesAt H ta T
  tb : TbH K H
  wt : WT K H
  lt : H (tabP K "law") = some (.tbl #[])
section
variable {K : PySem.W.Frag} {sc r y ta : Addr} {n g : Nat} {T : List (Nat × Nat)} {H H' : Hp}
theorem LEv.yard (h : LEv K sc r y ta n g T H) : YardAt H y n T g := ⟨ta, h.yd, h.ti⟩
theorem LEv.sw (e : Sw K H H') (hw : WT K H') (h : LEv K sc r y ta n g T H) : LEv K sc r y ta n g T H' :=
  ⟨h.row.xn e.n, e.n.tup h.yd, h.ti.xn e.n, h.tb.sw e, hw, by obtain ⟨qs, e1, _, e2⟩ := e.t _ _ h.lt; rw [e1, e2 rfl]⟩
theorem LEv.sg (e : Sg K H H') (h : LEv K sc r y ta n g T H) : LEv K sc r y ta n g T H' := h.sw e.sw (h.wt.sg e)
theorem LEv.sm (e : Sm H H') (h : LEv K sc r y ta n g T H) : LEv K sc r y ta n g T H' := h.sg e.g
theorem TiesAt.sr (hR : RowAt K sc H r) (s : Sr r H H') (h : TiesAt H ta T) : TiesAt H' ta T := by
  obtain ⟨ts, e, p⟩ := h
  exact ⟨ts, s.tup hR e, TieP.sr s hR p⟩
theorem LEv.sr (s : Sr r H H') (hR : RowAt K sc H' r) (h : LEv K sc r y ta n g T H) : LEv K sc r y ta n g T H' :=
  ⟨hR, s.tup h.row h.yd, TiesAt.sr h.row s h.ti, fun p hp => TabG.sr h.row s (h.tb p hp), h.wt.sr h.row s, s _ _ (h.row.nl h.lt fun _ z => by cases z) h.lt⟩
end
/-! #### a new list, not of the written part -/
def tLstN (K : PySem.W.Frag) (t : TA) : TE := fun σ H Q => t σ H fun xs H1 => xs.length ≤ sizeLine ∧ ∀ p, H1 p = none → K.lookup p = none → Q (.ref p) (upd H1 p (.lst xs))
theorem pe_lstN {X : Cx} {es : List Expr} {t : TA} {pos : Pos} (h : PA X es t) : PE X (.List es pos) (tLstN X.K t) := by
  refine ⟨fun pins s σ H Q I hq => ?_⟩
  refine wpAny_List_spliced (thn (h.run pos pins s σ H _ I hq) fun us s1 ⟨xs, H1, I1, r, z, q⟩ => ⟨by rw [← r.length]; exact z, ?_⟩)
  have hf : H1 s1.heap.objs.size = none := I1.hok.fresh (Nat.le_refl _)
  have hk : X.K.lookup s1.heap.objs.size = none := by
    cases e : X.K.lookup s1.heap.objs.size with
    | none => rfl
    | some o => exact absurd (Heap.lt_size (I1.kIn _ _ e)) (Nat.lt_irrefl _)
  refine ⟨.ref s1.heap.objs.size, upd H1 s1.heap.objs.size (.lst xs), I1.laid (t' := s1.toks) (fun b u e => Heap.get?_push_of_some _ e) (Nat.le_refl _) ?_, rfl, q _ hf hk⟩
  exact ⟨z, us, 0, r, Heap.get?_push_size _ rfl⟩
theorem sqL_ne {K : PySem.W.Frag} {H : Hp} {a p : Addr} {xs : List V} (h : SqL K H a xs) (n : H p = none) (nk : K.lookup p = none) : a ≠ p := fun z => by
  subst z
  rcases h with (h | ⟨o, h⟩) | ⟨o, _, _, h, _⟩
  · rw [n] at h; cases h
  · rw [n] at h; cases h
  · rw [nk] at h; cases h
section
variable {P : Program} {w : World} {K : PySem.W.Frag} {mg : Str → Option Value} {base : Heap} {cdv : Value} {A : Around} {outer : List Env} {s : Shared} {H0 : Hp} {E : XK}
/-! #### the beginning -/
def J0 (K : PySem.W.Frag) : L2.St → Hp → Prop := fun σ H => ∃ (sc : Addr) (ns : List Int), σ = start NL [.ref sc] ∧ SqL K H sc (ns.map V.int) ∧ ∀ p ∈ tf, H (He.cT K p).2 = some (.tbl #[])
/-- row made -/
def J1 (K : PySem.W.Frag) : L2.St → Hp → Prop := fun σ H => ∃ (sc r : Addr), σ = (start NL [.ref sc]).set 22 (some (.ref r)) ∧ RowAt K sc H r ∧ TbH K H ∧ WT K H ∧ H (tabP K "law") = some (.tbl #[])
theorem st0 (T : Txt K mg) : Tri (LX P w K mg base cdv A outer s H0 E) (lawSt 0) (J0 K) (J1 K) := by
  have nd := sc_law.nd
  refine ⟨_, ps_set (i := 22) nd rfl (.inr rfl) (pe_lstN (pa_cons (pv 0) (pa_cons pe_int (pa_cons pe_int (pa_cons pe_int pa_nil))))), fun D σ H h q => ?_⟩
  obtain ⟨sc, ns, rfl, hs, ht⟩ := h
  refine ⟨_, rfl, (by show 4 ≤ sizeLine; decide), fun r nr nk => q _ _ ?_⟩
  have sm := (Sm.refl H).new (u := .lst [.ref sc, .int 0, .int 7813, .int 0]) nr
  refine ⟨sc, r, rfl, ⟨ns, 0, 7813, 0, upd_same, sqL_ne hs nr nk, sm.sqL hs, by decide, by decide, by decide⟩, fun p hp => ⟨#[], sm.o _ _ (ht p hp), True.intro⟩, LamX.TabS.nil (sm.o _ _ (ht _ mem_tf4)), sm.o _ _ (ht ("law", none) ?_)⟩
  exact List.mem_cons_of_mem _ (List.mem_cons_of_mem _ (List.mem_cons_of_mem _ (List.mem_cons_of_mem _ (List.mem_cons_of_mem _ (List.mem_cons_self ..)))))
def J2 (K : PySem.W.Frag) : L2.St → Hp → Prop := fun σ H => ∃ (sc r y ta : Addr) (n g : Nat) (T : List (Nat × Nat)), σ = ((start NL [.ref sc]).set 22 (some (.ref r))).set 1 (some (.ref y)) ∧ LEv K sc r y ta n g T H ∧ YardOk n T g ∧ n ≤ 5
theorem st1 (T : Txt K mg) (hr : Room 7 (A.deeper (envOfC "law" (defScope s_law) s.heap.objs.size (He.ga K "law") cdv))) : Tri (LX P w K mg base cdv A outer s H0 E) (lawSt 1) (J1 K) (J2 K) := by
  have nd := sc_law.nd
  refine ⟨_, ps_set (i := 1) nd rfl (.inl rfl) (pe_cl (ok_law_yard T) (hr.mono (by decide)) (pa_cons (pv 22) (pa_cons pe_int pa_nil))), fun D σ H h q => ?_⟩
  obtain ⟨sc, r, rfl, hR, hB, hW, hL⟩ := h
  refine ⟨_, rfl, sc, r, rfl, hR, fun H' y n g Ts sr hR' hy hY h5 => q _ _ ?_⟩
  obtain ⟨ta, e1, e2⟩ := hy
  exact ⟨sc, r, y, ta, n, g, Ts, rfl, ⟨hR', e1, e2, fun p hp => TabG.sr hR sr (hB p hp), hW.sr hR sr, sr _ _ (hR.nl hL fun _ z => by cases z) hL⟩, hY, h5⟩
def J3 (K : PySem.W.Frag) : L2.St → Hp → Prop := fun σ H => ∃ (sc r y ta : Addr) (n g : Nat) (T : List (Nat × Nat)), σ = ls sc r y ta n g none none none none none none none none none none none none none none none none none ∧ LEv K sc r y ta n g T H ∧ YardOk n T g ∧ n ≤ 5
theorem st2 (T : Txt K mg) : Tri (LX P w K mg base cdv A outer s H0 E) (lawSt 2) (J2 K) (J3 K) := by
  have nd := sc_law.nd
  refine ⟨_, ps_asg (pv 1) (pg_tup rfl (pgs_cons (pg_name (i := 2) nd rfl (.inl rfl)) (pgs_cons (pg_name (i := 3) nd rfl (.inl rfl)) (pgs_cons (pg_name (i := 4) nd rfl (.inr rfl)) pgs_nil)))), fun D σ H h q => ?_⟩
  obtain ⟨sc, r, y, ta, n, g, Ts, rfl, hE, hY, h5⟩ := h
  refine ⟨_, rfl, y, _, rfl, SqT.of hE.yd, rfl, _, _, rfl, _, _, rfl, _, _, rfl, rfl, q _ _ ?_⟩
  exact ⟨sc, r, y, ta, n, g, Ts, rfl, hE, hY, h5⟩
/-! #### the other places, the cuts -/
def othersL (n g : Nat) : List Nat := (List.range n).filter fun v => v ≠ g
def J4 (K : PySem.W.Frag) : L2.St → Hp → Prop := fun σ H => ∃ (sc r y ta o : Addr) (n g : Nat) (T : List (Nat × Nat)), σ = ls sc r y ta n g (some (.ref o)) none none none none none none none none none none none none none none none none ∧ LEv K sc r y ta n g T H ∧ YardOk n T g ∧ n ≤ 5 ∧ H o = some (.lst (iv (othL n g)))
theorem st3 (T : Txt K mg) : Tri (LX P w K mg base cdv A outer s H0 E) (lawSt 3) (J3 K) (J4 K) := by
  have nd := sc_law.nd
  refine ⟨_, ps_setLc (i := 5) (own := [("_law_place", 23)]) (g := gName 23) rfl nd rfl rfl (sw_true rfl rfl rfl (by decide +kernel)) (pi_range1 rfl (m_range T) (pa_cons (pv 2) pa_nil)) (blkOk_by (N := NL) (sc := defScope s_law) (by decide +kernel))
            (fun _ _ _ _ _ => pg_name (i := 23) nd rfl (.inl rfl)) (fun _ _ _ _ _ => pts_one (pt_cmpR op_ne (pv 23) (pv 4) (nomark _))) (fun _ _ _ _ _ => pv 23), fun D σ H h q => ?_⟩
  obtain ⟨sc, r, y, ta, n, g, Ts, rfl, hE, hY, h5⟩ := h
  refine ⟨_, rfl, _, rfl, by omega, by omega, fun F nF => ?_⟩
  refine lc_range (lo := 0) (n := n) (fun j H2 => Sm H H2 ∧ H2 F = some (.lst (iv ((List.range j).filter fun v => v ≠ g)))) ⟨(Sm.refl H).new nF, upd_same⟩ (fun j H2 hj z => ?_) (fun H2 z => ?_)
  · rw [Int.zero_add]
    obtain ⟨s2, eD⟩ := z
    refine ⟨rfl, _, rfl, _, rfl, rfl, _, rfl, ite2 (fun c => ?_) (fun c => ?_)⟩
    · have hne : j ≠ g := fun e => by
        rw [e] at c
        simp at c
      refine ⟨_, rfl, _, eD, ?_, s2.upd nF, ?_⟩
      · rw [List.length_map]
        have := List.length_filter_le (fun v : Nat => decide (v ≠ g)) (List.range j)
        rw [List.length_range] at this
        exact small1000 (by omega)
      · rw [upd_same, range_succ_filter n g j, if_neg hne]; simp [iv]
    · have he : j = g := by
        refine Decidable.byContradiction fun e => c ?_
        rw [decide_eq_false (fun z => e (by have := V.int.inj z; omega))]; rfl
      refine ⟨s2, ?_⟩
      rw [eD, range_succ_filter n g j, if_pos he, List.append_nil]
  · obtain ⟨s2, eD⟩ := z
    exact q _ _ ⟨sc, r, y, ta, F, n, g, Ts, rfl, hE.sm s2, hY, h5, eD⟩
def J5 (K : PySem.W.Frag) : L2.St → Hp → Prop := fun σ H => ∃ (sc r y ta o c : Addr) (n g : Nat) (T : List (Nat × Nat)), σ = ls sc r y ta n g (some (.ref o)) (some (.ref c)) none none none none none none none none none none none none none none none ∧ LEv K sc r y ta n g T H ∧ YardOk n T g ∧ n ≤ 5 ∧ H o = some (.lst (iv (othL n g))) ∧ H c = some (.lst [])
theorem st4 (T : Txt K mg) : Tri (LX P w K mg base cdv A outer s H0 E) (lawSt 4) (J4 K) (J5 K) := by
  have nd := sc_law.nd
  refine ⟨_, ps_set (i := 6) nd rfl (.inl rfl) (pe_lst pa_nil), fun D σ H h q => ?_⟩
  obtain ⟨sc, r, y, ta, o, n, g, Ts, rfl, hE, hY, h5, eo⟩ := h
  refine ⟨Nat.zero_le _, fun c nc => q _ _ ?_⟩
  have sm := (Sm.refl H).new (u := .lst []) nc
  exact ⟨sc, r, y, ta, o, c, n, g, Ts, rfl, hE.sm sm, hY, h5, sm.lst eo, upd_same⟩
/-- the cuts are told -/
def J6 (K : PySem.W.Frag) : L2.St → Hp → Prop := fun σ H => ∃ (sc r y ta c : Addr) (n g : Nat) (T : List (Nat × Nat)) (C : List Nat) (v5 v7 v9 : Option V), σ = ls sc r y ta n g v5 (some (.ref c)) v7 none v9 none none none none none none none none none none none none ∧ LEv K sc r y ta n g T H ∧ YardOk n T g ∧ n ≤ 5 ∧
  H c = some (.lst (iv C)) ∧ C.length ≤ n ∧ (C = [] ↔ Free n T g)
theorem st5 (T : Txt K mg) (hr : Room 7 (A.deeper (envOfC "law" (defScope s_law) s.heap.objs.size (He.ga K "law") cdv))) : Tri (LX P w K mg base cdv A outer s H0 E) (lawSt 5) (J5 K) (J6 K) := by
  have nd := sc_law.nd
  refine ⟨_, ps_for PassesOwn.never rfl (pi_list (pv 5)) (pg_name (i := 7) nd rfl (.inr rfl))
    (pss_cons (ps_set (i := 9) nd rfl (.inl rfl) (pe_callTy cr_tupOf (by rfl) (m_tuple T) (by decide +kernel) (pa_cons (pe_lc (own := [("_law_other", 8)]) (g := gName 8) rfl nd (pi_range1 rfl (m_range T) (pa_cons (pv 2) pa_nil)) (blkOk_by (N := NL) (sc := defScope s_law) (by decide +kernel))
            (fun _ _ _ _ _ => pg_name (i := 8) nd rfl (.inl rfl)) (fun _ _ _ _ _ => pts_one (pt_cmpR op_ne (pv 8) (pv 7) (nomark _))) (fun _ _ _ _ _ => pv 8)) pa_nil)))
    (pss_one (ps_set (i := 6) nd rfl (.inl rfl) (pe_op op_cat (pv 6) (pe_ifExp (pt_not (pt_val (pe_cl (ok_law_hanging T) (hr.mono (by decide)) (pa_cons (pv 3) (pa_cons (pv 9) pa_nil))))) (pe_lst (pa_cons (pv 7) pa_nil)) (pe_lst pa_nil)))))), fun D σ H h q => ?_⟩
  obtain ⟨sc, r, y, ta, o, c, n, g, Ts, rfl, hE, hY, h5, eo, ec⟩ := h
  have h2 := hY.n2
  refine ⟨_, rfl, o, rfl, ⟨_, SqL.of eo⟩, for_list (K := K) (a := o) (xs := iv (othL n g)) (fun i σ H' => ∃ (c : Addr) (C : List Nat) (v7 v9 : Option V), σ = ls sc r y ta n g (some (.ref o)) (some (.ref c)) v7 none v9 none none none none none none none none none none none none ∧ Sm H H' ∧
      H' c = some (.lst (iv C)) ∧ C.length ≤ i ∧ ∀ v, v ∈ C ↔ v ∈ (othL n g).take i ∧ Cut n Ts v)
    ⟨c, [], none, none, rfl, Sm.refl H, ec, Nat.le_refl _, fun v => by simp⟩ (fun i σ H' _ ⟨_, _, _, _, _, z, _⟩ => SqL.of (z.lst eo)) (fun i x σ H' hx z => ?_) (fun σ H' z => ?_)⟩
  · obtain ⟨c, C, v7, v9, rfl, sm, ec, lC, hC⟩ := z
    obtain ⟨p, hp, rfl⟩ : ∃ p : Nat, (othL n g)[i]? = some p ∧ x = .int p := by
      rw [List.getElem?_map] at hx
      cases e : (othL n g)[i]? with
      | none => rw [e] at hx; cases hx
      | some u => rw [e] at hx; exact ⟨u, rfl, (Option.some.inj hx).symm⟩
    have hi : i < n := by
      have h1 := (List.getElem?_eq_some_iff.mp hp).1
      have h2 := List.length_filter_le (fun v : Nat => decide (v ≠ g)) (List.range n)
      rw [List.length_range] at h2
      exact Nat.lt_of_lt_of_le h1 h2
    refine ⟨_, rfl, _, rfl, by omega, by omega, fun F nF => ?_⟩
    refine lc_range (lo := 0) (n := n) (fun j H2 => Sm H' H2 ∧ H2 F = some (.lst (iv ((List.range j).filter fun v => v ≠ p)))) ⟨(Sm.refl H').new nF, upd_same⟩ (fun j H2 hj z => ?_) (fun H2 z => ?_)
    · rw [Int.zero_add]
      obtain ⟨s2, eD⟩ := z
      refine ⟨rfl, _, rfl, _, rfl, rfl, _, rfl, ite2 (fun c => ?_) (fun c => ?_)⟩
      · have hne : j ≠ p := fun e => by
          rw [e] at c
          simp at c
        refine ⟨_, rfl, _, eD, ?_, s2.upd nF, ?_⟩
        · rw [List.length_map]
          have := List.length_filter_le (fun v : Nat => decide (v ≠ p)) (List.range j)
          rw [List.length_range] at this
          exact small1000 (by omega)
        · rw [upd_same, range_succ_filter n p j, if_neg hne]; simp [iv]
      · have he : j = p := by
          refine Decidable.byContradiction fun e => c ?_
          rw [decide_eq_false (fun z => e (by have := V.int.inj z; omega))]; rfl
        refine ⟨s2, ?_⟩
        rw [eD, range_succ_filter n p j, if_pos he, List.append_nil]
    · obtain ⟨s2, eD⟩ := z
      have eD : H2 F = some (.lst (iv (othL n p))) := eD
      refine ⟨F, _, rfl, .inl ⟨SqL.of eD, fun tp ntp => ?_⟩⟩
      have s3 := s2.new (u := .tup (iv (othL n p))) ntp
      obtain ⟨L, hL⟩ := othL_cons (p := p) h2
      have ndL : (othL n p).Nodup := List.Pairwise.filter _ List.nodup_range
      have lenL : (othL n p).length ≤ 7 := by
        have := List.length_filter_le (fun v : Nat => decide (v ≠ p)) (List.range n)
        rw [List.length_range] at this
        exact Nat.le_trans this (by omega)
      refine ⟨_, rfl, _, rfl, _, rfl, ta, tp, Ts, fstO p, L, rfl, (hE.ti.sm sm).sm s3, hY.len, asc_nodup hY.asc, fun t ht => (hY.ord t ht).1, SqT.of (by rw [upd_same, hL]), by rw [← hL]; exact ndL, by rw [← hL]; exact lenL, fun H4 b s4 hb => ?_⟩
      rw [← hL] at hb
      have hcut := hang_cut hY.toTiesOk hb
      have s5 := s3.trans s4
      have ec4 := s5.lst ec
      cases b with
      | true =>
        refine ⟨_, rfl, iteF ⟨Nat.zero_le _, fun l nl => ?_⟩⟩
        have s6 := s5.new (u := .lst []) nl
        refine ⟨c, l, _, _, rfl, rfl, (Sm.refl H4).new nl |>.lst ec4, upd_same, ?_, fun c2 nc2 => ?_⟩
        · rw [List.length_map]; exact Nat.le_of_lt (small1000 (by show _ + 0 ≤ 1000; omega))
        · have s7 := s6.new (u := .lst (iv C ++ [])) nc2
          refine ⟨c2, C, _, _, rfl, sm.trans s7, by rw [upd_same, List.append_nil], by omega, fun v => ?_⟩
          rw [hC, take_succ' hp, List.mem_append]
          constructor
          · rintro ⟨h1, h2⟩; exact ⟨.inl h1, h2⟩
          · rintro ⟨h1 | h1, h2⟩
            · exact ⟨h1, h2⟩
            · exact absurd (by rw [show v = p by simpa using h1] at h2; exact h2) (hcut.mp rfl)
      | false =>
        have hcp : Cut n Ts p := Classical.byContradiction fun z => by have := hcut.mpr z; cases this
        refine ⟨_, rfl, iteT ⟨_, rfl, (by show 1 ≤ sizeLine; decide), fun l nl => ?_⟩⟩
        have s6 := s5.new (u := .lst [.int (p : Int)]) nl
        refine ⟨c, l, _, _, rfl, rfl, (Sm.refl H4).new nl |>.lst ec4, upd_same, ?_, fun c2 nc2 => ?_⟩
        · rw [List.length_map]; exact Nat.le_of_lt (small1000 (by show _ + 1 ≤ 1000; omega))
        · have s7 := s6.new (u := .lst (iv C ++ [.int (p : Int)])) nc2
          refine ⟨c2, C ++ [p], _, _, rfl, sm.trans s7, by rw [upd_same]; simp [iv], by rw [List.length_append, List.length_singleton]; omega, fun v => ?_⟩
          rw [List.mem_append, hC, take_succ' hp, List.mem_append]
          constructor
          · rintro (⟨h1, h2⟩ | h1)
            · exact ⟨.inl h1, h2⟩
            · exact ⟨.inr h1, by rw [show v = p by simpa using h1]; exact hcp⟩
          · rintro ⟨h1 | h1, h2⟩
            · exact .inl ⟨h1, h2⟩
            · exact .inr h1
  · obtain ⟨c, C, v7, v9, rfl, sm, ec, lC, hC⟩ := z
    rw [List.length_map] at lC
    rw [List.length_map, List.take_length] at hC
    have lO := List.length_filter_le (fun v : Nat => decide (v ≠ g)) (List.range n)
    rw [List.length_range] at lO
    refine q _ _ ⟨sc, r, y, ta, c, n, g, Ts, C, _, _, _, rfl, hE.sm sm, hY, h5, ec, Nat.le_trans lC lO, ?_⟩
    constructor
    · intro h v hv hg hc
      have := (hC v).mpr ⟨mem_othL.mpr ⟨hv, hg⟩, hc⟩
      rw [h] at this; cases this
    · intro h
      cases C with
      | nil => rfl
      | cons v C =>
        obtain ⟨h1, h2⟩ := (hC v).mp (List.mem_cons_self ..)
        have := mem_othL.mp h1
        exact absurd h2 (h v this.1 this.2)
end
end HT
/-! text V2 -/
set_option maxHeartbeats 4000000
namespace HT
open PySem PySem.Spec PyProof.Rows L2
open GxR (TabG Tabbed)
/-! ### the law: the hardest program, the first standing -/
theorem PrAt.sr {K : PySem.W.Frag} {sc r a : Addr} {H H' : Hp} {p : List Ins} (hR : RowAt K sc H r) (s : Sr r H H') (h : PrAt H a p) : PrAt H' a p := by
  obtain ⟨ts, e, q⟩ := h
  exact ⟨ts, s.tup hR e, IsP.sr s hR q⟩
theorem FrS.sr {K : PySem.W.Frag} {sc r a : Addr} {H H' : Hp} {st : Std} (hR : RowAt K sc H r) (s : Sr r H H') (h : FrS H a st) : FrS H' a st := by
  obtain ⟨o, e, q⟩ := h
  exact ⟨o, s _ _ (hR.nl e fun _ z => by cases z) e, q⟩
structure LE2 (K : PySem.W.Frag) (sc r y ta : Addr) (n g : Nat) (T : List (Nat × Nat)) (c : Addr) (C : List Nat) (pr : Addr) (H : Hp) : Prop extends LEv K sc r y ta n g T H where
  hY : YardOk n T g
  h5 : n ≤ 5
  ec : H c = some (.lst (iv C))
  hC : C = [] ↔ Free n T g
  lC : C.length ≤ n
  ep : PrAt H pr (hardP (n - 1))
section
variable {K : PySem.W.Frag} {sc r y ta c pr : Addr} {n g : Nat} {T : List (Nat × Nat)} {C : List Nat} {H H' : Hp}
theorem LE2.sw (e : Sw K H H') (hw : WT K H') (h : LE2 K sc r y ta n g T c C pr H) : LE2 K sc r y ta n g T c C pr H' :=
  { toLEv := h.toLEv.sw e hw, hY := h.hY, h5 := h.h5, ec := e.n.lst h.ec, hC := h.hC, lC := h.lC, ep := h.ep.xn e.n }
theorem LE2.sg (e : Sg K H H') (h : LE2 K sc r y ta n g T c C pr H) : LE2 K sc r y ta n g T c C pr H' := h.sw e.sw (h.wt.sg e)
theorem LE2.sm (e : Sm H H') (h : LE2 K sc r y ta n g T c C pr H) : LE2 K sc r y ta n g T c C pr H' := h.sg e.g
theorem LE2.sr (s : Sr r H H') (hR : RowAt K sc H' r) (h : LE2 K sc r y ta n g T c C pr H) : LE2 K sc r y ta n g T c C pr H' :=
  { toLEv := h.toLEv.sr s hR, hY := h.hY, h5 := h.h5, ec := s _ _ (h.row.nl h.ec fun _ => iv_not C sc _) h.ec, hC := h.hC, lC := h.lC, ep := PrAt.sr h.row s h.ep }
end
theorem TupR.mono {R : Hp → V → V → Prop} (m : ∀ {H H' x y}, Sm H H' → R H x y → R H' x y) {H H' : Hp} {x y : V} (s : Sm H H') (h : TupR R H x y) : TupR R H' x y := by
  obtain ⟨a, b, xs, ys, e1, e2, e3, e4, hl, hp⟩ := h
  exact ⟨a, b, xs, ys, e1, e2, s.tup e3, s.tup e4, hl, Paired.imp' (fun _ _ z => m s z) hp⟩
theorem leaf_ins {H : Hp} (i : Ins) : Paired (LeafR H) (insV i) (insV i) := by
  obtain ⟨a, b⟩ := i
  cases b with
  | none => exact .cons ⟨rfl, .inl ⟨_, rfl⟩⟩ .nil
  | some k => exact .cons ⟨rfl, .inl ⟨_, rfl⟩⟩ (.cons ⟨rfl, .inr ⟨_, rfl⟩⟩ .nil)
theorem ins_len (i : Ins) : (insV i).length ≤ 40 := by
  obtain ⟨a, b⟩ := i
  cases b with
  | none => exact (by decide : 1 ≤ 40)
  | some k => exact (by decide : 2 ≤ 40)
theorem alike_prog {H : Hp} : ∀ {ts us : List Addr} {p : List Ins}, IsP H ts p → IsP H us p → Paired (TupR LeafR H) (ts.map V.ref) (us.map V.ref)
  | _, _, _, .nil, .nil => .nil
  | _, _, _, .cons a r, .cons b s => .cons ⟨_, _, _, _, rfl, rfl, a, b, ins_len _, leaf_ins _⟩ (alike_prog r s)
section
variable {P : Program} {w : World} {K : PySem.W.Frag} {mg : Str → Option Value} {base : Heap} {cdv : Value} {A : Around} {outer : List Env} {s : Shared} {H0 : Hp} {E : XK}
theorem ok_alike2 (T : Txt K mg) : Ok P w K mg base CX0 3 "_law_alike" ["_law_found", "_law_due"] (AlS (TupR (TupR LeafR))) :=
  ok_alikeS T (k := 1) (ok_alikeS T (k := 0) (ok_alike0 T) fun _ h => h) fun s h => TupR.mono (fun _ h => h) s h
def J7 (K : PySem.W.Frag) : L2.St → Hp → Prop := fun σ H => ∃ (sc r y ta c pr : Addr) (n g : Nat) (T : List (Nat × Nat)) (C : List Nat) (v5 v7 v9 : Option V), σ = ls sc r y ta n g v5 (some (.ref c)) v7 none v9 (some (.ref pr)) none none none none none none none none none none none ∧ LEv K sc r y ta n g T H ∧ YardOk n T g ∧ n ≤ 5 ∧
  H c = some (.lst (iv C)) ∧ C.length ≤ n ∧ (C = [] ↔ Free n T g) ∧ PrAt H pr (hardP 0)
theorem st6 (T : Txt K mg) : Tri (LX P w K mg base cdv A outer s H0 E) (lawSt 6) (J6 K) (J7 K) := by
  have nd := sc_law.nd
  refine ⟨_, ps_set (i := 10) nd rfl (.inl rfl) (pe_tup (pa_cons (pe_tup (pa_cons pe_str pa_nil)) (pa_cons (pe_tup (pa_cons pe_str (pa_cons pe_int pa_nil))) pa_nil))), fun D σ H h q => ?_⟩
  obtain ⟨sc, r, y, ta, c, n, g, Ts, C, v5, v7, v9, rfl, hE, hY, h5, ec, lC, hC⟩ := h
  refine ⟨(by show 1 ≤ sizeLine; decide), fun t1 n1 => ⟨(by show 2 ≤ sizeLine; decide), fun t2 n2 => ⟨(by show 2 ≤ sizeLine; decide), fun t3 n3 => q _ _ ?_⟩⟩⟩
  have s1 := (Sm.refl H).new (u := .tup [.str "ask"]) n1
  have s2 := s1.new (u := .tup [.str "zero", .int 0]) n2
  have s3 := s2.new (u := .tup [.ref t1, .ref t2]) n3
  have e1 := (Sm.refl _).new (u := .tup [.ref t1, .ref t2]) n3 |>.tup ((Sm.refl _).new (u := .tup [.str "zero", .int 0]) n2 |>.tup (upd_same (H := H) (a := t1) (o := .tup [.str "ask"])))
  have e2 := (Sm.refl _).new (u := .tup [.ref t1, .ref t2]) n3 |>.tup (upd_same (a := t2) (o := .tup [.str "zero", .int 0]))
  exact ⟨sc, r, y, ta, c, t3, n, g, Ts, C, v5, v7, v9, rfl, hE.sm s3, hY, h5, s3.lst ec, lC, hC, [t1, t2], upd_same, .cons e1 (.cons e2 .nil)⟩
def J8 (K : PySem.W.Frag) : L2.St → Hp → Prop := fun σ H => ∃ (sc r y ta c pr : Addr) (n g : Nat) (T : List (Nat × Nat)) (C : List Nat) (v5 v7 v9 v11 : Option V), σ = ls sc r y ta n g v5 (some (.ref c)) v7 none v9 (some (.ref pr)) v11 none none none none none none none none none none ∧ LE2 K sc r y ta n g T c C pr H
theorem st7 (T : Txt K mg) : Tri (LX P w K mg base cdv A outer s H0 E) (lawSt 7) (J7 K) (J8 K) := by
  have nd := sc_law.nd
  refine ⟨_, ps_for PassesOwn.never rfl (pi_range1 rfl (m_range T) (pa_cons (pe_op op_sub (pv 2) pe_int) pa_nil)) (pg_name (i := 11) nd rfl (.inl rfl))
    (pss_one (ps_set (i := 10) nd rfl (.inl rfl) (pe_op op_catN (pv 10) (pe_tup (pa_cons (pe_tup (pa_cons pe_str (pa_cons (pv 11) pa_nil))) (pa_cons (pe_tup (pa_cons pe_str pa_nil)) pa_nil)))))), fun D σ H h q => ?_⟩
  obtain ⟨sc, r, y, ta, c, pr, n, g, Ts, C, v5, v7, v9, rfl, hE, hY, h5, ec, lC, hC, hp⟩ := h
  have h2 := hY.n2
  refine ⟨_, rfl, ?_⟩
  refine tc_sub (i := (n : Int)) (j := 1) (m := ((n - 1 : Nat) : Int)) (by omega) ?_
  refine ⟨_, rfl, by omega, by omega, for_range (lo := 0) (n := n - 1) (fun i σ H' => ∃ (pr : Addr) (v11 : Option V), σ = ls sc r y ta n g v5 (some (.ref c)) v7 none v9 (some (.ref pr)) v11 none none none none none none none none none none ∧ Sm H H' ∧ PrAt H' pr (hardP i))
    ⟨pr, none, rfl, Sm.refl H, hp⟩ (fun i σ H' hi z => ?_) (fun σ H' z => ?_)⟩
  · rw [Int.zero_add]
    obtain ⟨pr, v11, rfl, sm, ts, ep, pp⟩ := z
    have lts : ts.length = 2 + 2 * i := (Paired.length pp).trans (hardP_len i)
    refine ⟨_, rfl, _, rfl, (by show 2 ≤ sizeLine; decide), fun t1 n1 => ⟨(by show 1 ≤ sizeLine; decide), fun t2 n2 => ⟨(by show 2 ≤ sizeLine; decide), fun t3 n3 => ?_⟩⟩⟩
    have s1 := (Sm.refl H').new (u := .tup [.str "get", .int (i : Int)]) n1
    have s2 := s1.new (u := .tup [.str "say"]) n2
    have s3 := s2.new (u := .tup [.ref t1, .ref t2]) n3
    have e1 := (Sm.refl _).new (u := .tup [.ref t1, .ref t2]) n3 |>.tup ((Sm.refl _).new (u := .tup [.str "say"]) n2 |>.tup (upd_same (H := H') (a := t1) (o := .tup [.str "get", .int (i : Int)])))
    have e2 := (Sm.refl _).new (u := .tup [.ref t1, .ref t2]) n3 |>.tup (upd_same (a := t2) (o := .tup [.str "say"]))
    refine ⟨pr, t3, ts.map V.ref, [.ref t1, .ref t2], rfl, rfl, SqT.of (s3.tup ep), upd_same, by simp, ?_, fun p H4 s4 e4 => ?_⟩
    · rw [List.length_map, lts]
      exact Nat.le_of_lt (small1000 (by show 2 + 2 * i + 2 ≤ 1000; omega))
    · refine ⟨p, _, rfl, (sm.trans s3).trans s4, ts ++ [t1, t2], by rw [e4, List.map_append]; rfl, ?_⟩
      rw [hardP_succ]
      exact paired_app (Paired.imp' (fun _ _ z => s4.tup (s3.tup z)) pp) (.cons (s4.tup e1) (.cons (s4.tup e2) .nil))
  · obtain ⟨pr, v11, rfl, sm, hp⟩ := z
    exact q _ _ ⟨sc, r, y, ta, c, pr, n, g, Ts, C, v5, v7, v9, v11, rfl, { toLEv := hE.sm sm, hY := hY, h5 := h5, ec := sm.lst ec, hC := hC, lC := lC, ep := hp }⟩
theorem cuts_nil {K : PySem.W.Frag} {H : Hp} {c l : Addr} {C : List Nat} {Q : VK} (ec : H c = some (.lst (iv C))) (el : H l = some (.lst [])) (q : ∀ b, (b = true ↔ C = []) → Q (.bl b) H) : rEqD K (.ref c) (.ref l) H Q := by
  refine ⟨_, _, .lst (SqL.of ec) (dp_iv _), .lst (SqL.of el) .nil, PySem.W.shaped_ints _, by decide +kernel, q _ ?_⟩
  rw [eqv_nil, List.isEmpty_iff, List.map_eq_nil_iff, List.map_eq_nil_iff]
theorem st8 (T : Txt K mg) (B : Tbs K mg base) (hr : Room 7 (A.deeper (envOfC "law" (defScope s_law) s.heap.objs.size (He.ga K "law") cdv))) : Tri (LX P w K mg base cdv A outer s H0 E) (lawSt 8) (J8 K) (J8 K) := by
  have nd := sc_law.nd
  refine ⟨_, ps_if (PW.pt (pw_or (pt_not (pt_val (pe_cl (ok_alike2 T) (hr.mono (by decide)) (pa_cons (pe_cl (ok_hardest T) (hr.mono (by decide)) (pa_cons (pe_op op_sub (pv 2) pe_int) pa_nil)) (pa_cons (pv 10) pa_nil)))))
    (pw_or1 (pt_not (pt_val (pe_cl (ok_law_is T) (hr.mono (by decide)) (pa_cons (pe_cl (ok_keeps_all T B) (hr.mono (by decide)) (pa_cons (pv 1) pa_nil)) (pa_cons (pe_cmpR (op_eqD hr.units) (pv 6) (pe_lst pa_nil) (nomark _)) pa_nil)))))))) pss_never pss_nil, fun D σ H h q => ?_⟩
  obtain ⟨sc, r, y, ta, c, pr, n, g, Ts, C, v5, v7, v9, v11, rfl, hE⟩ := h
  have h2 := hE.hY.n2
  have h5 := hE.h5
  refine ⟨_, rfl, ?_⟩
  refine tc_sub (i := (n : Int)) (j := 1) (m := ((n - 1 : Nat) : Int)) (by omega) ?_
  refine ⟨n - 1, rfl, by omega, by omega, fun H1 l s1 hl => ?_⟩
  obtain ⟨ts, el, pl⟩ := hl
  obtain ⟨us, eu, pu⟩ := hE.ep.xn s1.n
  have lts : ts.length = 2 + 2 * (n - 1) := (Paired.length pl).trans (hardP_len _)
  refine ⟨_, rfl, _, _, rfl, ⟨l, pr, _, _, rfl, rfl, el, eu, by rw [List.length_map]; omega, alike_prog pl pu⟩, fun H2 s2 => ?_⟩
  have hE2 := hE.sm (s1.trans s2)
  refine ⟨_, rfl, iteF ?_⟩
  refine ⟨_, rfl, y, n, g, Ts, rfl, hE2.yard, hE.hY, hE2.tb, fun H3 b s3 hb => ?_⟩
  have hE3 := hE2.sg s3
  refine ⟨_, rfl, Nat.zero_le _, fun l2 nl2 => ?_⟩
  have s4 := (Sm.refl H3).new (u := .lst []) nl2
  have hE4 := hE3.sm s4
  refine cuts_nil hE4.ec upd_same fun b2 hb2 => ?_
  have e : b = b2 := by
    rw [Bool.eq_iff_iff, hb, hb2, hE.hC]
  refine ⟨b, b2, rfl, ?_⟩
  rw [decide_eq_true e]
  exact ⟨_, rfl, iteF (q _ _ ⟨sc, r, y, ta, c, pr, n, g, Ts, C, v5, v7, v9, v11, rfl, hE4⟩)⟩
/-! #### the first standing -/
def J10 (K : PySem.W.Frag) : L2.St → Hp → Prop := fun σ H => ∃ (sc r y ta c pr st : Addr) (n g : Nat) (T : List (Nat × Nat)) (C : List Nat) (x : Std) (v5 v7 v9 v11 : Option V), σ = ls sc r y ta n g v5 (some (.ref c)) v7 none v9 (some (.ref pr)) v11 (some (.ref st)) (some (.int 0)) none none none none none none none none ∧ LE2 K sc r y ta n g T c C pr H ∧ FrS H st x ∧ StdOk n x ∧ OneHole x
theorem st9 (T : Txt K mg) : Tri (LX P w K mg base cdv A outer s H0 E) (lawSt 9) (J8 K) (J10 K) := by
  have nd := sc_law.nd
  refine ⟨_, ps_par (i := 12) (j := 13) (by rfl) nd rfl rfl (by decide) rfl rfl (pa_cons (pe_callTy cr_tupleF (by rfl) (m_tuple T) (by decide +kernel) (pa_cons (pe_op op_cat (pe_listRg rfl (by rfl) (m_list T) (prg_1 (by rfl) (m_range T) (pe_op op_sub (pv 2) pe_int))) (pe_lst (pa_cons pe_non pa_nil))) pa_nil)) (pa_cons pe_int pa_nil)) (by rfl), fun D σ H h q => ?_⟩
  obtain ⟨sc, r, y, ta, c, pr, n, g, Ts, C, v5, v7, v9, v11, rfl, hE⟩ := h
  have h2 := hE.hY.n2
  have h5 := hE.h5
  have hrg : rgV 0 (((n - 1 : Nat)) : Int) = ((List.range (n - 1)).map some).map oV := by
    unfold rgV
    rw [show (((n - 1 : Nat) : Int) - 0).toNat = n - 1 by omega, List.map_map]
    refine List.map_congr_left fun i _ => ?_
    show V.int (0 + (i : Nat)) = V.int (i : Int)
    rw [Int.zero_add]
  refine ⟨_, rfl, ?_⟩
  refine tc_sub (i := (n : Int)) (j := 1) (m := ((n - 1 : Nat) : Int)) (by omega) ?_
  refine ⟨_, rfl, RgOk.of_le (by omega) (by omega) (by omega) (by omega), fun A1 nA1 => ?_⟩
  rw [hrg]
  refine ⟨(by show 1 ≤ sizeLine; decide), fun A2 nA2 => ?_⟩
  have s1 := (Sm.refl H).new (u := .lst (((List.range (n - 1)).map some).map oV)) nA1
  have s2 := s1.new (u := .lst [.non]) nA2
  refine ⟨A1, A2, ((List.range (n - 1)).map some).map oV, [.non], rfl, rfl, (Sm.refl _).new nA2 |>.lst upd_same, upd_same, ?_, fun L nL => ?_⟩
  · rw [List.length_map, List.length_map, List.length_range]
    exact Nat.le_of_lt (small1000 (by show n - 1 + 1 ≤ 1000; omega))
  have s3 := s2.new (u := .lst (((List.range (n - 1)).map some).map oV ++ [.non])) nL
  refine ⟨L, _, rfl, SqL.of upd_same, fun st o nst o1 o2 => ⟨_, _, rfl, q _ _ ?_⟩⟩
  have s4 := s3.new (u := .frz o (.tup (((List.range (n - 1)).map some).map oV ++ [.non]))) nst
  have hbase : ((List.range (n - 1)).map some).map oV ++ [.non] = (baseS n).map oV := by
    unfold baseS
    rw [List.map_append]; rfl
  have hst := std_of_perm h2 (List.Perm.refl (baseS n))
  exact ⟨sc, r, y, ta, c, pr, st, n, g, Ts, C, baseS n, v5, v7, v9, v11, rfl, hE.sm s4, ⟨o, by rw [upd_same, hbase], o1, o2⟩, hst.1, hst.2⟩
end
end HT
/-! text V3 -/
set_option maxHeartbeats 4000000
namespace HT
open PySem PySem.Spec PyProof.Rows L2
open GxR (TabG Tabbed)
/-! ### the law: twelve standings, all books at all places -/
theorem eqv_nilT (l : List PyData) : PyData.eqv (.tuple l) (.tuple []) = l.isEmpty := by
  cases l with
  | nil => decide +kernel
  | cons a r => rfl
theorem tup_nil {K : PySem.W.Frag} {H : Hp} {c l : Addr} {C : List Nat} {Q : VK} (ec : H c = some (.tup (iv C))) (el : H l = some (.tup [])) (q : ∀ b, (b = true ↔ C = []) → Q (.bl b) H) : rEqD K (.ref c) (.ref l) H Q := by
  refine ⟨_, _, .tup (SqT.of ec) (dp_iv _), .tup (SqT.of el) .nil, PySem.W.shaped_ints _, by decide +kernel, q _ ?_⟩
  rw [eqv_nilT, List.isEmpty_iff, List.map_eq_nil_iff, List.map_eq_nil_iff]
theorem one_len {n : Nat} {x : Std} (h : StdOk n x) (h1 : OneHole x) : (bks x).length = n - 1 := by
  unfold OneHole at h1
  have := h.len
  omega
theorem rNe_eq {a b : Bool} {H : Hp} {Q : VK} (e : a = b) (q : Q (.bl false) H) : rNe (.bl a) (.bl b) H Q := by
  subst e
  refine ⟨rfl, ?_⟩
  rw [decide_eq_true rfl]
  exact q
def J11 (K : PySem.W.Frag) : L2.St → Hp → Prop := fun σ H => ∃ (sc r y ta c pr : Addr) (n g : Nat) (T : List (Nat × Nat)) (C : List Nat) (v5 v7 v8 v9 v11 v12 v14 v15 : Option V), σ = ls sc r y ta n g v5 (some (.ref c)) v7 v8 v9 (some (.ref pr)) v11 v12 (some (.int 0)) v14 v15 none none none none none none ∧ LE2 K sc r y ta n g T c C pr H
section
variable {P : Program} {w : World} {K : PySem.W.Frag} {mg : Str → Option Value} {base : Heap} {cdv : Value} {A : Around} {outer : List Env} {s : Shared} {H0 : Hp} {E : XK}
theorem st10 (T : Txt K mg) (B : Tbs K mg base) (hr : Room 7 (A.deeper (envOfC "law" (defScope s_law) s.heap.objs.size (He.ga K "law") cdv))) : Tri (LX P w K mg base cdv A outer s H0 E) (lawSt 10) (J10 K) (J11 K) := by
  have nd := sc_law.nd
  refine ⟨_, ps_for PassesOwn.never rfl (pi_range1 rfl (m_range T) (pa_cons pe_int pa_nil)) (pg_name (i := 14) nd rfl (.inl rfl))
    (pss_cons (ps_set (i := 15) nd rfl (.inl rfl) (pe_cl (ok_can_be_kept T B) hr (pa_cons (pv 1) (pa_cons (pv 12) (pa_cons (pv 10) pa_nil)))))
    (pss_cons (ps_if (PW.pt (pw_or (pt_cmpR op_ne (pv 15) (pe_cmpR (op_eqD hr.units) (pv 6) (pe_lst pa_nil) (nomark _)) (nomark _))
      (pw_or1 (pt_cmpR op_ne (pv 15) (pe_cmpR (op_eqD hr.units) (pe_cl (ok_never T B) hr (pa_cons (pv 1) (pa_cons (pv 12) pa_nil))) (pe_tup pa_nil) (nomark _)) (nomark _))))) pss_never pss_nil)
    (pss_cons (ps_set (i := 8) nd rfl (.inl rfl) (pe_cl (ok_law_program T) (hr.mono (by decide)) (pa_cons (pv 22) (pa_cons (pe_op op_sub (pv 2) pe_int) (pa_cons pe_int pa_nil)))))
    (pss_cons (ps_if (PW.pt (pw_and (pt_val (pv 15)) (pw_and1 (pt_cmpR op_notBl (pe_cl (ok_can_be_kept T B) hr (pa_cons (pv 1) (pa_cons (pv 12) (pa_cons (pv 8) pa_nil)))) pe_bl (nomark _))))) pss_never pss_nil)
    (pss_one (ps_set (i := 12) nd rfl (.inl rfl) (pe_cl (ok_law_standing T) (hr.mono (by decide)) (pa_cons (pv 22) (pa_cons (pv 2) (pa_cons pe_int pa_nil)))))))))), fun D σ H h q => ?_⟩
  obtain ⟨sc, r, y, ta, c, pr, st, n, g, Ts, C, x, v5, v7, v9, v11, rfl, hE, hst, hok, h1⟩ := h
  have h2 := hE.hY.n2
  have h5 := hE.h5
  refine ⟨_, rfl, by decide, by decide, for_range (lo := 0) (n := 12) (fun i σ H' => ∃ (st : Addr) (x : Std) (v8 v14 v15 : Option V), σ = ls sc r y ta n g v5 (some (.ref c)) v7 v8 v9 (some (.ref pr)) v11 (some (.ref st)) (some (.int 0)) v14 v15 none none none none none none ∧ LE2 K sc r y ta n g Ts c C pr H' ∧ FrS H' st x ∧ StdOk n x ∧ OneHole x)
    ⟨st, x, none, none, none, rfl, hE, hst, hok, h1⟩ (fun i σ H' hi z => ?_) (fun σ H' z => ?_)⟩
  · obtain ⟨st, x, v8, v14, v15, rfl, hE, hst, hok, h1⟩ := z
    have hl := one_len hok h1
    have hpo : PrOk (bks x).length (hardP (n - 1)) := by rw [hl]; exact hard_ok h2 (by omega)
    refine ⟨_, rfl, _, rfl, _, rfl, y, st, pr, n, g, Ts, x, _, rfl, hE.yard, hE.hY, hst, hok, hE.ep, hpo, hE.tb, hE.wt, fun H1 b s1 hw1 hb1 hb2 => ?_⟩
    have hb := can_hard hE.hY hok h1 hb1 hb2
    have hE1 := hE.sw s1 hw1
    have hst1 := hst.xn s1.n
    -- told != (cuts == [])
    refine ⟨_, rfl, _, rfl, Nat.zero_le _, fun l nl => ?_⟩
    have sm2 := (Sm.refl H1).new (u := .lst []) nl
    have hE2 := hE1.sm sm2
    refine cuts_nil hE2.ec upd_same fun b2 hb2 => rNe_eq (by rw [Bool.eq_iff_iff, hb, hb2, hE.hC]) ⟨_, rfl, iteF ?_⟩
    -- told != (never(..) == ())
    have hst2 := hst1.xn sm2.n
    refine ⟨_, rfl, _, rfl, _, rfl, y, st, n, g, Ts, x, rfl, hE2.yard, hE.hY, hst2, hok, h1, hE2.tb, rooms_ok hE.hY hok h1, fun H3 nv L s3 eL lL ha hb3 => ?_⟩
    have hE3 := hE2.sg s3
    refine ⟨Nat.zero_le _, fun tp ntp => ?_⟩
    have sm4 := (Sm.refl H3).new (u := .tup []) ntp
    have hE4 := hE3.sm sm4
    have hst4 := (hst2.xn s3.n).xn sm4.n
    refine tup_nil (sm4.tup eL) upd_same fun b4 hb4 => rNe_eq (by rw [Bool.eq_iff_iff, hb, hb4, never_nil hE.hY hok h1 ha hb3]) ⟨_, rfl, iteF ?_⟩
    -- another program
    refine ⟨_, rfl, _, rfl, ?_⟩
    refine tc_sub (i := (n : Int)) (j := 1) (m := ((n - 1 : Nat) : Int)) (by omega) ?_
    refine ⟨sc, r, n - 1, rfl, by omega, by omega, hE4.row, fun H5 pl p sr5 hR5 hp hpo5 => ?_⟩
    have hE5 := hE4.sr sr5 hR5
    have hst5 := FrS.sr hE4.row sr5 hst4
    have last : ∀ (H6 : Hp) (v8 : Option V), LE2 K sc r y ta n g Ts c C pr H6 → tCall (spLawStd K) [] E0 (tCons (tVar 22) (tCons (tVar 2) (tCons (tC (.int 1)) tNil))) (ls sc r y ta n g v5 (some (.ref c)) v7 v8 v9 (some (.ref pr)) v11 (some (.ref st)) (some (.int 0)) (some (.int (0 + (i : Int)))) (some (.bl b)) none none none none none none) H6
        (fun x1 H1 => gName 12 x1 (ls sc r y ta n g v5 (some (.ref c)) v7 v8 v9 (some (.ref pr)) v11 (some (.ref st)) (some (.int 0)) (some (.int (0 + (i : Int)))) (some (.bl b)) none none none none none none) H1 fun σ H' => ∃ (st : Addr) (x : Std) (v8 v14 v15 : Option V), σ = ls sc r y ta n g v5 (some (.ref c)) v7 v8 v9 (some (.ref pr)) v11 (some (.ref st)) (some (.int 0)) v14 v15 none none none none none none ∧ LE2 K sc r y ta n g Ts c C pr H' ∧ FrS H' st x ∧ StdOk n x ∧ OneHole x) := fun H6 v8 hE6 =>
      ⟨_, rfl, _, rfl, sc, r, n, rfl, h2, by omega, hE6.row, fun H7 l7 x7 sr7 hR7 hf7 ho7 h17 => ⟨l7, x7, _, _, _, rfl, hE6.sr sr7 hR7, hf7, ho7, h17⟩⟩
    refine ⟨_, rfl, b, rfl, ite2 (fun cb => ?_) (fun cb => ?_)⟩
    · subst cb
      have hF : Free n Ts g := hb.mp rfl
      have hpo6 : PrOk (bks x).length p := by rw [hl]; exact hpo5
      refine ⟨_, rfl, _, rfl, _, rfl, y, st, pl, n, g, Ts, x, p, rfl, hE5.yard, hE.hY, hst5, hok, hp, hpo6, hE5.tb, hE5.wt, fun H6 b6 s6 hw6 hb7 hb8 => ?_⟩
      have e6 := can_free hE.hY hF hok h1 hpo5 hb8
      subst e6
      refine ⟨true, true, rfl, rfl, _, rfl, iteF ?_⟩
      exact last H6 _ (hE5.sw s6 hw6)
    · exact last H5 _ hE5
  · obtain ⟨st, x, v8, v14, v15, rfl, hE, hst, hok, h1⟩ := z
    exact q _ _ ⟨sc, r, y, ta, c, pr, n, g, Ts, C, v5, v7, v8, v9, v11, _, v14, v15, rfl, hE⟩
end
end HT
/-! text V4 -/
set_option maxHeartbeats 4000000
namespace HT
open PySem PySem.Spec PyProof.Rows L2
open GxR (TabG Tabbed)
/-! ### the law: each book at each place -/
theorem cut_take (xs : List V) (k : Nat) (h : k ≤ xs.length) : cutV xs none (some (k : Int)) = xs.take k := by
  unfold cutV
  rw [_root_.HT.sIx_none, _root_.HT.sIx_nat, Nat.min_eq_left h]; rfl
theorem cut_drop (xs : List V) (k : Nat) (h : k ≤ xs.length) : cutV xs (some (k : Int)) none = xs.drop k := by
  unfold cutV
  rw [_root_.HT.sIx_none, _root_.HT.sIx_nat, Nat.min_eq_left h]
  exact List.take_of_length_le (by rw [List.length_drop]; exact Nat.le_refl _)
def bookL (m a : Nat) : List Nat := a :: (List.range m).filter fun v => v ≠ a
theorem bookL_perm {m a : Nat} (h : a < m) : (bookL m a).Perm (List.range m) := by
  refine (List.perm_ext_iff_of_nodup ?_ List.nodup_range).mpr fun v => ?_
  · refine List.nodup_cons.mpr ⟨?_, List.Pairwise.filter _ List.nodup_range⟩
    rw [List.mem_filter]
    simp
  · unfold bookL
    rw [List.mem_cons, List.mem_filter, List.mem_range]
    constructor
    · rintro (e | ⟨e, _⟩)
      · rw [e]; exact h
      · exact e
    · intro e
      by_cases z : v = a
      · exact .inl z
      · exact .inr ⟨e, by simpa using z⟩
def atS (m a h : Nat) : Std := ((bookL m a).take h).map some ++ [none] ++ ((bookL m a).drop h).map some
theorem atS_ok {n a h : Nat} (h2 : 2 ≤ n) (ha : a < n - 1) : StdOk n (atS (n - 1) a h) ∧ OneHole (atS (n - 1) a h) := by
  refine std_of_perm h2 ?_
  unfold atS baseS
  have e : (((bookL (n - 1) a).take h).map some ++ [none] ++ ((bookL (n - 1) a).drop h).map some).Perm ((((bookL (n - 1) a).take h).map some ++ ((bookL (n - 1) a).drop h).map some) ++ [none]) := by
    rw [List.append_assoc, List.append_assoc]
    exact List.Perm.append_left _ List.perm_append_comm
  refine e.trans (List.Perm.append_right _ ?_)
  rw [← List.map_append, List.take_append_drop]
  exact (bookL_perm ha).map some
def cntC (C : List Nat) (k : Nat) : Int := if C = [] then 0 else (k : Int)
def J12 (K : PySem.W.Frag) : L2.St → Hp → Prop := fun σ H => ∃ (sc r y ta c pr : Addr) (n g : Nat) (T : List (Nat × Nat)) (C : List Nat) (v5 v7 v8 v9 v11 v12 v14 v15 v16 v17 v18 : Option V), σ = ls sc r y ta n g v5 (some (.ref c)) v7 v8 v9 (some (.ref pr)) v11 v12 (some (.int (cntC C (n * (n - 1))))) v14 v15 v16 v17 v18 none none none ∧ LE2 K sc r y ta n g T c C pr H
section
variable {P : Program} {w : World} {K : PySem.W.Frag} {mg : Str → Option Value} {base : Heap} {cdv : Value} {A : Around} {outer : List Env} {s : Shared} {H0 : Hp} {E : XK}
theorem st11 (T : Txt K mg) (B : Tbs K mg base) (hr : Room 7 (A.deeper (envOfC "law" (defScope s_law) s.heap.objs.size (He.ga K "law") cdv))) : Tri (LX P w K mg base cdv A outer s H0 E) (lawSt 11) (J11 K) (J12 K) := by
  have nd := sc_law.nd
  refine ⟨_, ps_for PassesOwn.never rfl (pi_range1 rfl (m_range T) (pa_cons (pv 2) pa_nil)) (pg_name (i := 16) nd rfl (.inl rfl))
    (pss_one (ps_for PassesOwn.never rfl (pi_range1 rfl (m_range T) (pa_cons (pe_op op_sub (pv 2) pe_int) pa_nil)) (pg_name (i := 17) nd rfl (.inr rfl))
    (pss_cons (ps_set (i := 18) nd rfl (.inl rfl) (pe_op op_cat (pe_lst (pa_cons (pv 17) pa_nil)) (pe_lc (own := [("_law_book", 11)]) (g := gName 11) rfl nd (pi_range1 rfl (m_range T) (pa_cons (pe_op op_sub (pv 2) pe_int) pa_nil)) (blkOk_by (N := NL) (sc := defScope s_law) (by decide +kernel))
            (fun _ _ _ _ _ => pg_name (i := 11) nd rfl (.inl rfl)) (fun _ _ _ _ _ => pts_one (pt_cmpR op_ne (pv 11) (pv 17) (nomark _))) (fun _ _ _ _ _ => pv 11))))
    (pss_cons (ps_set (i := 7) nd rfl (.inr rfl) (pe_callTy cr_tupleF (by rfl) (m_tuple T) (by decide +kernel) (pa_cons (pe_op op_cat (pe_op op_cat (pe_slice sl_list (pv 18) po_none (po_some (pv 16))) (pe_lst (pa_cons pe_non pa_nil))) (pe_slice sl_list (pv 18) (po_some (pv 16)) po_none)) pa_nil)))
    (pss_one (ps_set (i := 13) nd rfl (.inl rfl) (pe_op op_add (pv 13) (pe_ifExp (pt_not (pt_val (pe_cl (ok_can_be_kept T B) hr (pa_cons (pv 1) (pa_cons (pv 7) (pa_cons (pv 10) pa_nil)))))) pe_int pe_int)))))))), fun D σ H h q => ?_⟩
  obtain ⟨sc, r, y, ta, c, pr, n, g, Ts, C, v5, v7, v8, v9, v11, v12, v14, v15, rfl, hE⟩ := h
  have h2 := hE.hY.n2
  have h5 := hE.h5
  refine ⟨_, rfl, _, rfl, by omega, by omega, for_range (lo := 0) (n := n) (fun i σ H' => ∃ (v7 v16 v17 v18 : Option V), σ = ls sc r y ta n g v5 (some (.ref c)) v7 v8 v9 (some (.ref pr)) v11 v12 (some (.int (cntC C (i * (n - 1))))) v14 v15 v16 v17 v18 none none none ∧ LE2 K sc r y ta n g Ts c C pr H')
    ⟨v7, none, none, none, by unfold cntC; simp, hE⟩ (fun i σ H' hi z => ?_) (fun σ H' z => ?_)⟩
  · rw [Int.zero_add]
    obtain ⟨v7, v16, v17, v18, rfl, hE⟩ := z
    refine ⟨_, rfl, ?_⟩
    refine tc_sub (i := (n : Int)) (j := 1) (m := ((n - 1 : Nat) : Int)) (by omega) ?_
    refine ⟨_, rfl, by omega, by omega, for_range (lo := 0) (n := n - 1) (fun j σ H' => ∃ (v7 v17 v18 : Option V), σ = ls sc r y ta n g v5 (some (.ref c)) v7 v8 v9 (some (.ref pr)) v11 v12 (some (.int (cntC C (i * (n - 1) + j)))) v14 v15 (some (.int (i : Int))) v17 v18 none none none ∧ LE2 K sc r y ta n g Ts c C pr H')
      ⟨v7, v17, v18, rfl, hE⟩ (fun j σ H' hj z => ?_) (fun σ H' z => ?_)⟩
    · rw [Int.zero_add]
      obtain ⟨v7, v17, v18, rfl, hE⟩ := z
      refine ⟨_, rfl, (by show 1 ≤ sizeLine; decide), fun l1 nl1 => ?_⟩
      have s1 := (Sm.refl H').new (u := .lst [.int (j : Int)]) nl1
      refine ⟨_, rfl, ?_⟩
      refine tc_sub (i := (n : Int)) (j := 1) (m := ((n - 1 : Nat) : Int)) (by omega) ?_
      refine ⟨_, rfl, by omega, by omega, fun F nF => ?_⟩
      have hF1 : l1 ≠ F := ne_of_none upd_same nF
      refine lc_range (lo := 0) (n := n - 1) (fun m H2 => Sm H' H2 ∧ H2 l1 = some (.lst [.int (j : Int)]) ∧ H2 F = some (.lst (iv ((List.range m).filter fun v => v ≠ j)))) ⟨s1.new nF, by rw [upd_ne hF1]; exact upd_same, upd_same⟩ (fun m H2 hm z => ?_) (fun H2 z => ?_)
      · rw [Int.zero_add]
        obtain ⟨s2, el, eD⟩ := z
        refine ⟨rfl, _, rfl, _, rfl, rfl, _, rfl, ite2 (fun c => ?_) (fun c => ?_)⟩
        · have hne : m ≠ j := fun e => by
            rw [e] at c
            simp at c
          refine ⟨_, rfl, _, eD, ?_, s2.upd (s1.free nF), by rw [upd_ne hF1]; exact el, ?_⟩
          · rw [List.length_map]
            have := List.length_filter_le (fun v : Nat => decide (v ≠ j)) (List.range m)
            rw [List.length_range] at this
            exact small1000 (by omega)
          · rw [upd_same, range_succ_filter (n - 1) j m, if_neg hne]; simp [iv]
        · have he : m = j := by
            refine Decidable.byContradiction fun e => c ?_
            rw [decide_eq_false (fun z => e (by have := V.int.inj z; omega))]; rfl
          refine ⟨s2, el, ?_⟩
          rw [eD, range_succ_filter (n - 1) j m, if_pos he, List.append_nil]
      · obtain ⟨s2, el, eD⟩ := z
        have lF := List.length_filter_le (fun v : Nat => decide (v ≠ j)) (List.range (n - 1))
        rw [List.length_range] at lF
        have lB : (bookL (n - 1) j).length = n - 1 := by rw [(bookL_perm hj).length_eq, List.length_range]
        refine ⟨l1, F, _, _, rfl, rfl, el, eD, ?_, fun bl nbl => ?_⟩
        · rw [List.length_map]; exact Nat.le_of_lt (small1000 (by show 1 + _ ≤ 1000; omega))
        have e3 : upd H2 bl (.lst ([.int (j : Int)] ++ iv ((List.range (n - 1)).filter fun v => v ≠ j))) bl = some (.lst (iv (bookL (n - 1) j))) := by
          rw [upd_same]; rfl
        have s3 := s2.new (u := .lst ([.int (j : Int)] ++ iv ((List.range (n - 1)).filter fun v => v ≠ j))) nbl
        refine ⟨_, rfl, _, rfl, (i : Int), rfl, bl, _, rfl, SqL.of e3, fun p1 np1 => ?_⟩
        have li : i ≤ (iv (bookL (n - 1) j)).length := by rw [List.length_map, lB]; omega
        rw [cut_take _ _ li]
        refine ⟨(by show 1 ≤ sizeLine; decide), fun p2 np2 => ?_⟩
        have s4 := s3.new (u := .lst ((iv (bookL (n - 1) j)).take i)) np1
        have s5 := s4.new (u := .lst [.non]) np2
        have lt1 : ((iv (bookL (n - 1) j)).take i).length ≤ n - 1 := by rw [List.length_take, List.length_map, lB]; omega
        refine ⟨p1, p2, _, _, rfl, rfl, (Sm.refl _).new np2 |>.lst upd_same, upd_same, Nat.le_of_lt (small1000 (by show _ + 1 ≤ 1000; omega)), fun p3 np3 => ?_⟩
        have s6 := s5.new (u := .lst ((iv (bookL (n - 1) j)).take i ++ [.non])) np3
        refine ⟨_, rfl, _, rfl, (i : Int), rfl, bl, _, rfl, SqL.of ((((Sm.refl _).new np1).trans (((Sm.refl _).new np2).trans ((Sm.refl _).new np3))).lst e3), fun p4 np4 => ?_⟩
        rw [cut_drop _ _ li]
        have s7 := s6.new (u := .lst ((iv (bookL (n - 1) j)).drop i)) np4
        have lt2 : ((iv (bookL (n - 1) j)).drop i).length ≤ n - 1 := by rw [List.length_drop, List.length_map, lB]; omega
        refine ⟨p3, p4, _, _, rfl, rfl, (Sm.refl _).new np4 |>.lst upd_same, upd_same, ?_, fun p5 np5 => ?_⟩
        · rw [List.length_append]; exact Nat.le_of_lt (small1000 (by show _ + 1 + _ ≤ 1000; omega))
        have s8 := s7.new (u := .lst ((iv (bookL (n - 1) j)).take i ++ [.non] ++ (iv (bookL (n - 1) j)).drop i)) np5
        refine ⟨p5, _, rfl, SqL.of upd_same, fun st o nst o1 o2 => ?_⟩
        have s9 := s8.new (u := .frz o (.tup ((iv (bookL (n - 1) j)).take i ++ [.non] ++ (iv (bookL (n - 1) j)).drop i))) nst
        have hx := atS_ok (h := i) h2 hj
        have ex : (iv (bookL (n - 1) j)).take i ++ [.non] ++ (iv (bookL (n - 1) j)).drop i = (atS (n - 1) j i).map oV := by
          unfold atS
          rw [List.map_append, List.map_append, List.map_map, List.map_map, ← List.map_take, ← List.map_drop]
          first | done | rfl
        have hst : ∀ Hx : Hp, FrS (upd Hx st (.frz o (.tup ((iv (bookL (n - 1) j)).take i ++ [.non] ++ (iv (bookL (n - 1) j)).drop i)))) st (atS (n - 1) j i) := fun Hx => ⟨o, by rw [← ex]; exact upd_same, o1, o2⟩
        have hE9 := hE.sm s9
        have hpo : PrOk (bks (atS (n - 1) j i)).length (hardP (n - 1)) := by rw [one_len hx.1 hx.2]; exact hard_ok h2 (by omega)
        refine ⟨_, rfl, _, rfl, _, rfl, _, rfl, y, st, pr, n, g, Ts, atS (n - 1) j i, _, rfl, hE9.yard, hE.hY, hst _, hx.1, hE9.ep, hpo, hE9.tb, hE9.wt, fun H6 b s6 hw6 hb1 hb2 => ?_⟩
        have hb := can_hard hE.hY hx.1 hx.2 hb1 hb2
        rw [← hE.hC] at hb
        have hE6 := hE9.sw s6 hw6
        cases b with
        | true =>
          have hC : C = [] := hb.mp rfl
          refine ⟨_, rfl, iteF (tc_add (m := cntC C (i * (n - 1) + (j + 1))) ?_ ⟨_, _, _, rfl, hE6⟩)⟩
          unfold cntC
          rw [if_pos hC, if_pos hC]; rfl
        | false =>
          have hC : C ≠ [] := fun z => by have := hb.mpr z; cases this
          refine ⟨_, rfl, iteT (tc_add (m := cntC C (i * (n - 1) + (j + 1))) ?_ ⟨_, _, _, rfl, hE6⟩)⟩
          unfold cntC
          rw [if_neg hC, if_neg hC]
          omega
    · obtain ⟨v7, v17, v18, rfl, hE⟩ := z
      refine ⟨v7, some (.int (i : Int)), v17, v18, ?_, hE⟩
      rw [show (i + 1) * (n - 1) = i * (n - 1) + (n - 1) from Nat.succ_mul i (n - 1)]
  · obtain ⟨v7, v16, v17, v18, rfl, hE⟩ := z
    exact q _ _ ⟨sc, r, y, ta, c, pr, n, g, Ts, C, v5, v7, v8, v9, v11, v12, v14, v15, v16, v17, v18, rfl, hE⟩
/-! #### the count -/
theorem cuts_ne {K : PySem.W.Frag} {H : Hp} {c l : Addr} {C : List Nat} {Q : VK} (ec : H c = some (.lst (iv C))) (el : H l = some (.lst [])) (q : ∀ b, (b = true ↔ C ≠ []) → Q (.bl b) H) : rNeD K (.ref c) (.ref l) H Q := by
  refine ⟨_, _, .lst (SqL.of ec) (dp_iv _), .lst (SqL.of el) .nil, PySem.W.shaped_ints _, by decide +kernel, q _ ?_⟩
  rw [eqv_nil, Bool.not_eq_true', Bool.eq_false_iff, Ne, List.isEmpty_iff, List.map_eq_nil_iff, List.map_eq_nil_iff]
theorem rNe_int {a b : Int} {H : Hp} {Q : VK} (e : a = b) (q : Q (.bl false) H) : rNe (.int a) (.int b) H Q := by
  subst e
  refine ⟨rfl, ?_⟩
  rw [decide_eq_true rfl]
  exact q
theorem tc_ne {a b : Int} {σ : L2.St} {H : Hp} {Q : VK} (e : a = b) (q : Q (.bl false) H) : tC (.int b) σ H fun y H2 => rNe (.int a) y H2 Q := rNe_int e q
theorem st12 (T : Txt K mg) (hr : Room 7 (A.deeper (envOfC "law" (defScope s_law) s.heap.objs.size (He.ga K "law") cdv))) : Tri (LX P w K mg base cdv A outer s H0 E) (lawSt 12) (J12 K) (J12 K) := by
  have nd := sc_law.nd
  refine ⟨_, ps_if (pt_cmpR op_ne (pv 13) (pe_ifExp (pt_cmpR (op_neD hr.units) (pv 6) (pe_lst pa_nil) (nomark _)) (pe_op op_mul (pv 2) (pe_op op_sub (pv 2) pe_int)) pe_int) (nomark _)) pss_never pss_nil, fun D σ H h q => ?_⟩
  obtain ⟨sc, r, y, ta, c, pr, n, g, Ts, C, v5, v7, v8, v9, v11, v12, v14, v15, v16, v17, v18, rfl, hE⟩ := h
  have h2 := hE.hY.n2
  have h5 := hE.h5
  refine ⟨_, rfl, _, rfl, Nat.zero_le _, fun l nl => ?_⟩
  have sm := (Sm.refl H).new (u := .lst []) nl
  have hE2 := hE.sm sm
  refine cuts_ne hE2.ec upd_same fun b hb => ⟨b, rfl, ite2 (fun cb => ?_) (fun cb => ?_)⟩
  · have hC := hb.mp cb
    refine ⟨_, rfl, _, rfl, ?_⟩
    refine tc_sub (i := (n : Int)) (j := 1) (m := ((n - 1 : Nat) : Int)) (by omega) ?_
    refine ⟨(n : Int), ((n - 1 : Nat) : Int), rfl, rfl, .inl ⟨by omega, by omega⟩, ?_⟩
    refine rNe_int ?_ ⟨_, rfl, iteF (q _ _ ⟨sc, r, y, ta, c, pr, n, g, Ts, C, v5, v7, v8, v9, v11, v12, v14, v15, v16, v17, v18, rfl, hE2⟩)⟩
    unfold cntC
    rw [if_neg hC, Int.natCast_mul]
  · have hC : C = [] := Decidable.byContradiction fun z => cb (hb.mpr z)
    refine tc_ne ?_ ⟨_, rfl, iteF (q _ _ ⟨sc, r, y, ta, c, pr, n, g, Ts, C, v5, v7, v8, v9, v11, v12, v14, v15, v16, v17, v18, rfl, hE2⟩)⟩
    unfold cntC
    rw [if_pos hC]
end
end HT
/-! text V5 -/
set_option maxHeartbeats 4000000
namespace HT
open PySem PySem.Spec PyProof.Rows L2
open GxR (TabG Tabbed)
/-! ### the law: the two errors, the end -/
def a00 : Arguments := { posonlyargs := [], args := [], vararg := none, kwonlyargs := [], kw_defaults := [], kwarg := none, defaults := [] }
def s00 : Scope := { kind := .function, names := [], isGenerator := false, isCoroutine := false, more := [] }
def lamIn : Expr → Arguments × Expr × Scope
  | .Lambda p b sc _ => (p, b, sc)
  | e => (a00, e, s00)
def lamOf : Stmt → Nat → Arguments × Expr × Scope
  | .For _ (.List es _) _ _ _, i => lamIn (es.getD i (.Constant .none 0 ⟨0, 0, 0, 0⟩))
  | _, _ => (a00, .Constant .none 0 ⟨0, 0, 0, 0⟩, s00)
abbrev lp (i : Nat) : Arguments := (lamOf (lawSt 14) i).1
abbrev lb (i : Nat) : Expr := (lamOf (lawSt 14) i).2.1
abbrev lc (i : Nat) : Scope := (lamOf (lawSt 14) i).2.2
/-- what the last loop leans on -/
structure LB (K : PySem.W.Frag) (sc r L f1 c1 f2 c2 t wl : Addr) (o1 k1 o2 k2 : Heap → Prop) (ws : List V) (H : Hp) : Prop where
  row : RowAt K sc H r
  eL : H L = some (.lst [.ref f1, .ref f2])
  e1 : H f1 = some (.ext o1)
  g1 : H c1 = some (.ext k1)
  e2 : H f2 = some (.ext o2)
  g2 : H c2 = some (.ext k2)
  et : H t = some (.tup [.int 0])
  ew : H wl = some (.lst ws)
  nL : L ≠ r
  nw : wl ≠ r
  nLw : L ≠ wl
  nsw : sc ≠ wl
section
variable {K : PySem.W.Frag} {sc r L f1 c1 f2 c2 t wl : Addr} {o1 k1 o2 k2 : Heap → Prop} {ws : List V} {H H' : Hp}
theorem LB.sm (s : Sm H H') (h : LB K sc r L f1 c1 f2 c2 t wl o1 k1 o2 k2 ws H) : LB K sc r L f1 c1 f2 c2 t wl o1 k1 o2 k2 ws H' :=
  ⟨h.row.sm s, s.lst h.eL, s.ext h.e1, s.ext h.g1, s.ext h.e2, s.ext h.g2, s.tup h.et, s.lst h.ew, h.nL, h.nw, h.nLw, h.nsw⟩
theorem LB.sr (s : Sr r H H') (hR : RowAt K sc H' r) (h : LB K sc r L f1 c1 f2 c2 t wl o1 k1 o2 k2 ws H) : LB K sc r L f1 c1 f2 c2 t wl o1 k1 o2 k2 ws H' :=
  ⟨hR, s _ _ h.nL h.eL, s _ _ (h.row.nl h.e1 fun _ z => by cases z) h.e1, s _ _ (h.row.nl h.g1 fun _ z => by cases z) h.g1, s _ _ (h.row.nl h.e2 fun _ z => by cases z) h.e2, s _ _ (h.row.nl h.g2 fun _ z => by cases z) h.g2,
    s.tup h.row h.et, s _ _ h.nw h.ew, h.nL, h.nw, h.nLw, h.nsw⟩
theorem LB.put (h : LB K sc r L f1 c1 f2 c2 t wl o1 k1 o2 k2 ws H) (w2 : List V) : LB K sc r L f1 c1 f2 c2 t wl o1 k1 o2 k2 w2 (L2.upd H wl (.lst w2)) := by
  have ne : ∀ {b o}, H b = some o → o ≠ .lst ws → b ≠ wl := fun {b o} e n z => by
    rw [z, h.ew] at e
    exact n (Option.some.inj e).symm
  obtain ⟨cs, i, z, d, eR, n, hS, h1, h2, h3⟩ := h.row
  refine ⟨⟨cs, i, z, d, by rw [upd_ne h.nw.symm]; exact eR, n, ((Sr.refl wl H).upd _).sqL h.nsw hS, h1, h2, h3⟩, by rw [upd_ne h.nLw]; exact h.eL, by rw [upd_ne (ne h.e1 fun z => by cases z)]; exact h.e1, by rw [upd_ne (ne h.g1 fun z => by cases z)]; exact h.g1, by rw [upd_ne (ne h.e2 fun z => by cases z)]; exact h.e2, by rw [upd_ne (ne h.g2 fun z => by cases z)]; exact h.g2,
    by rw [upd_ne (ne h.et fun z => by cases z)]; exact h.et, upd_same, h.nL, h.nw, h.nLw, h.nsw⟩
theorem len3 (ws : List V) (h : ws.length ≤ 2) : ws.length < sizeLine := small1000 (by omega)
end
section
variable {P : Program} {w : World} {K : PySem.W.Frag} {mg : Str → Option Value} {base : Heap} {cdv : Value} {A : Around} {outer : List Env} {s : Shared} {H0 : Hp} {E : XK}
def J13 (K : PySem.W.Frag) : L2.St → Hp → Prop := fun σ H => ∃ (sc r y ta wl : Addr) (n g : Nat) (v5 v6 v7 v8 v9 v10 v11 v12 v13 v14 v15 v16 v17 v18 : Option V), σ = ls sc r y ta n g v5 v6 v7 v8 v9 v10 v11 v12 v13 v14 v15 v16 v17 v18 (some (.ref wl)) none none ∧ RowAt K sc H r ∧ H (tabP K "law") = some (.tbl #[]) ∧ H wl = some (.lst []) ∧ wl ≠ r ∧ sc ≠ wl
theorem st13 (T : Txt K mg) : Tri (LX P w K mg base cdv A outer s H0 E) (lawSt 13) (J12 K) (J13 K) := by
  have nd := sc_law.nd
  refine ⟨_, ps_set (i := 19) nd rfl (.inl rfl) (pe_lstN pa_nil), fun D σ H h q => ?_⟩
  obtain ⟨sc, r, y, ta, c, pr, n, g, Ts, C, v5, v7, v8, v9, v11, v12, v14, v15, v16, v17, v18, rfl, hE⟩ := h
  refine ⟨Nat.zero_le _, fun wl nwl nk => q _ _ ?_⟩
  have sm := (Sm.refl H).new (u := .lst []) nwl
  obtain ⟨cs, _, _, _, _, _, hS, _⟩ := id hE.row
  exact ⟨sc, r, y, ta, wl, n, g, v5, _, v7, v8, v9, _, v11, v12, _, v14, v15, v16, v17, v18, rfl, hE.row.sm sm, sm.o _ _ hE.lt, upd_same, hE.row.nn nwl, sqL_ne hS nwl nk⟩
def J14 (K : PySem.W.Frag) : L2.St → Hp → Prop := fun σ H => ∃ (sc r y ta wl : Addr) (n g : Nat) (v5 v6 v7 v8 v9 v10 v11 v12 v13 v14 v15 v16 v17 v18 v20 : Option V), σ = ls sc r y ta n g v5 v6 v7 v8 v9 v10 v11 v12 v13 v14 v15 v16 v17 v18 (some (.ref wl)) v20 none ∧ H wl = some (.lst [.str "number", .str "yard"])
theorem bind1 {s : Shared} {q : Str} {cl : List (Str × Addr)} {c' : Addr} {doc pm ctv : Value} : BindsTo s (PySem.W.kdv_fn "<lambda>" q (lp 0) (.expr (lb 0)) (lc 0) cl .none doc pm (.ref c') ctv) ⟨[], []⟩ [] := BindsTo.of_eq rfl
theorem bind2 {X : Cx} {pins : List (Addr × Obj)} {σ : L2.St} {H : Hp} {s : Shared} (I : Inv X pins σ H s) {t : Addr} (et : H t = some (.tup [.int 0])) {q : Str} {cl : List (Str × Addr)} {c' : Addr} {doc pm ctv : Value} :
    ∃ u, BindsTo s (PySem.W.kdv_fn "<lambda>" q (lp 1) (.expr (lb 1)) (lc 1) cl (.ref t) doc pm (.ref c') ctv) ⟨[], []⟩ [("_law_a", u)] := by
  obtain ⟨_, its, rv, p⟩ := I.hok t _ et
  cases rv with
  | cons r0 rn =>
    cases rn
    obtain ⟨o, ho, _, n, hd⟩ := p
    exact ⟨_, BindsTo.of_defaults rfl ho hd rfl rfl⟩
end
end HT
/-! text V6 -/
set_option maxHeartbeats 4000000
namespace HT
open PySem PySem.Spec PyProof.Rows L2
open GxR (TabG Tabbed)
def lawWords : List V := [.str "number", .str "yard"]
theorem mem_tf5 : (("law", none) : He.Defn) ∈ tf := List.mem_cons_of_mem _ (List.mem_cons_of_mem _ (List.mem_cons_of_mem _ (List.mem_cons_of_mem _ (List.mem_cons_of_mem _ (List.mem_cons_self ..)))))
section
variable {P : Program} {w : World} {K : PySem.W.Frag} {mg : Str → Option Value} {base : Heap} {cdv : Value} {A : Around} {outer : List Env} {s : Shared} {H0 : Hp} {E : XK}
theorem s_lam1 {X : Cx} (hN : X.N = NL) (he : X.env.scope = defScope s_law) : LSd X (lc 0) := lsd_by (N := NL) (sc := defScope s_law) (by decide +kernel) hN he
theorem s_lam2 {X : Cx} (hN : X.N = NL) (he : X.env.scope = defScope s_law) : LSd X (lc 1) := lsd_by (N := NL) (sc := defScope s_law) (by decide +kernel) hN he
theorem ps_imp {X : Cx} {st : Stmt} {t t' : TS} (h : PS X st t) (k : ∀ D σ H, t' D σ H → t D σ H) : PS X st t' := ⟨fun pins s σ H D I q => h.run pins s σ H D I (k D σ H q)⟩
/-- a text is put behind a list -/
def tWApp (i : Nat) (z : V) : TS := fun D σ H => ∃ (l : Addr) (xs : List V), σ[i]? = some (some (.ref l)) ∧ H l = some (.lst xs) ∧ xs.length < sizeLine ∧ D.nx σ (upd H l (.lst (xs ++ [z])))
theorem st14 (T : Txt K mg) (B : Tbs K mg base) (hcd : cdv = .ref (He.codeOf K ("law", none))) (hr : Room 7 (A.deeper (envOfC "law" (defScope s_law) s.heap.objs.size (He.ga K "law") cdv))) : Tri (LX P w K mg base cdv A outer s H0 E) (lawSt 14) (J13 K) (J14 K) := by
  have nd := sc_law.nd
  have TB : LamX.TabB base mg (He.codeOf K ("law", none)) (tabP K "law") := let h := (B _ mem_tf5).1; ⟨h.code, h.bm, h.gP⟩
  have XF := exF T
  refine ⟨_, ps_for PassesOwn.never rfl (pi_list (pe_lst (pa_cons (pe_lamO (params := lp 0) (body := lb 0) (scope := lc 0) TB (by exact hcd) (s_lam1 rfl rfl) rfl) (pa_cons (pe_lamD (params := lp 1) (body := lb 1) (scope := lc 1) TB (by exact hcd) (s_lam2 rfl rfl) rfl rfl) pa_nil)))) (pg_name (i := 20) nd rfl (.inl rfl))
    (pss_one (ps_try_manyAs rfl rfl nd takes_no
      (fun W pn xe tk _ => pss_one (ps_expr (pe_act2 (k := 5) (i := 20) (ev := (LX P w K mg base cdv A outer s H0 E).env) (pr1 := lp 0) (b1 := lb 0) (sc1 := lc 0) (pr2 := lp 1) (b2 := lb 1) (sc2 := lc 1) (dd1 := fun _ dV => dV = .none) (dd2 := fun H dV => ∃ t, dV = .ref t ∧ H t = some (.tup [.int 0])) rfl rfl (.inl rfl) (s_lam1 rfl rfl) (s_lam2 rfl rfl) (hr.mono (by decide)) tk
        (fun pins σ H s I dV hd c' doc pm ctv => ⟨[], by rw [hd]; exact bind1, fun y hy => by cases hy⟩)
        (fun pins σ H s I dV hd c' doc pm ctv => by
          obtain ⟨t, rfl, et⟩ := hd
          obtain ⟨u, hb⟩ := bind2 I et (q := _) (cl := _) (c' := c') (doc := doc) (pm := pm) (ctv := ctv)
          exact ⟨_, hb, fun y hy => by obtain rfl : y = ((("_law_a" : Str), u) : Str × Value) := by simpa using hy
                                       rfl⟩)
        (fun E s H f c' hr => pe_clX (ok_hardX T) (hr.mono (by decide)) (takes_of rfl rfl rfl rfl) (pa_cons (pe_cl (ok_law_pick T) (hr.mono (by decide)) (pa_cons (pv 22) (pa_cons (pe_lst (pa_cons pe_int (pa_cons pe_int (pa_cons pe_non (pa_cons pe_bl pa_nil))))) pa_nil))) pa_nil))
        (fun E s H f c' hr => pe_clX (ok_keepsX T) hr (takes_of rfl rfl rfl rfl) (pa_cons pe_non pa_nil)))))
      (by exact HdsAs.cons (i := 21) rfl rfl ⟨rfl, by decide, .inl (g_BadNumber T)⟩ (fun a oe cls d pn _ _ => pss_one (ps_imp (t' := tWApp 19 (.str "number")) (ps_expr (pe_bm PySem.F.plainAttrs_list PySem.F.slot_list_append PySem.F.type_list_append mt_append (pv 19) (pa_cons pe_str pa_nil))) (fun D σ H ⟨l, xs, h1, h2, h3, h4⟩ => ⟨.ref l, h1, .inl ⟨rfl, _, SqL.of h2⟩, l, xs, .str "number", rfl, rfl, h2, h3, h4⟩))) (.cons (i := 21) rfl rfl ⟨rfl, by decide, .inl (g_BadYard T)⟩ (fun a oe cls d pn _ _ => pss_one (ps_imp (t' := tWApp 19 (.str "yard")) (ps_expr (pe_bm PySem.F.plainAttrs_list PySem.F.slot_list_append PySem.F.type_list_append mt_append (pv 19) (pa_cons pe_str pa_nil))) (fun D σ H ⟨l, xs, h1, h2, h3, h4⟩ => ⟨.ref l, h1, .inl ⟨rfl, _, SqL.of h2⟩, l, xs, .str "yard", rfl, rfl, h2, h3, h4⟩))) .nil)))), fun D σ H h q => ?_⟩
  obtain ⟨sc, r, y, ta, wl, n, g, v5, v6, v7, v8, v9, v10, v11, v12, v13, v14, v15, v16, v17, v18, rfl, hR, hL, ew, nwr, nsw⟩ := h
  refine ⟨LamX.TabS.nil hL, fun f1 c1 H1 xn1 tn1 hT1 nf1 ef1 ec1 => fun t nt => ?_⟩
  have sm2 := (Sm.refl H1).new (u := .tup [.int 0]) nt
  refine ⟨hT1.ext fun b o e => sm2.o b o e, fun f2 c2 H2 xn2 tn2 hT2 nf2 ef2 ec2 => ⟨(by show 2 ≤ sizeLine; decide), fun L nL => ?_⟩⟩
  have sm3 := (Sm.refl H2).new (u := .lst [.ref f1, .ref f2]) nL
  have x13 : Xn H1 _ := (sm2.n.trans xn2).trans sm3.n
  have x03 : Xn H _ := xn1.trans x13
  have hLB : LB K sc r L f1 c1 f2 c2 t wl _ _ _ _ [] (upd H2 L (.lst [.ref f1, .ref f2])) :=
    ⟨hR.xn x03, upd_same, x13.ext ef1, x13.ext ec1, sm3.ext ef2, sm3.ext ec2, (xn2.trans sm3.n).tup upd_same, x03.lst ew, (hR.xn ((xn1.trans sm2.n).trans xn2)).nn nL, nwr, (ne_of_none (((xn1.trans sm2.n).trans xn2).lst ew) nL).symm, nsw⟩
  refine ⟨L, rfl, ⟨_, SqL.of upd_same⟩, for_list (K := K) (a := L) (xs := [.ref f1, .ref f2]) (fun i σ H' => ∃ v20 : Option V, σ = ls sc r y ta n g v5 v6 v7 v8 v9 v10 v11 v12 v13 v14 v15 v16 v17 v18 (some (.ref wl)) v20 none ∧ LB K sc r L f1 c1 f2 c2 t wl _ _ _ _ (lawWords.take i) H')
    ⟨none, rfl, hLB⟩ (fun i σ H' _ ⟨_, _, z⟩ => SqL.of z.eL) (fun i x σ H' hx z => ?_) (fun σ H' z => ?_)⟩
  · obtain ⟨v20, rfl, hB⟩ := z
    match i, hx with
    | 0, hx =>
      obtain rfl : V.ref f1 = x := by simpa using hx
      refine .inl ⟨f1, c1, .none, rfl, hB.e1, hB.g1, rfl, ?_⟩
      refine ⟨_, rfl, (by show 4 ≤ sizeLine; decide), fun l nl => ?_⟩
      have sm4 := (Sm.refl H').new (u := .lst [.int 0, .int 7, .non, .bl true]) nl
      have hB4 := hB.sm sm4
      refine ⟨sc, r, l, _, rfl, hB.row.nn nl, SqL.of upd_same, by decide, by decide, hB4.row, fun H5 x sr5 hR5 hx => ?_⟩
      have hB5 := hB4.sr sr5 hR5
      have hx' : x = .int 0 ∨ x = .int 7 ∨ x = .non ∨ x = .bl true := by simpa using hx
      have hk : ((∃ n, x = .int n) ∨ x = .non ∨ ∃ b, x = .bl b) ∧ isNum 1 6 x = false := by
        rcases hx' with rfl | rfl | rfl | rfl
        · exact ⟨.inl ⟨_, rfl⟩, rfl⟩
        · exact ⟨.inl ⟨_, rfl⟩, rfl⟩
        · exact ⟨.inr (.inl rfl), rfl⟩
        · exact ⟨.inr (.inr ⟨_, rfl⟩), rfl⟩
      exact ⟨x, rfl, hk.1, hk.2, true, XF.nn, fun _ a na => ⟨wl, [], rfl, hB5.ew, len3 _ (by decide), _, rfl, hB5.put _⟩, fun z => nomatch z⟩
    | 1, hx =>
      obtain rfl : V.ref f2 = x := by simpa using hx
      refine .inr ⟨f2, c2, .ref t, rfl, hB.e2, hB.g2, ⟨t, rfl, hB.et⟩, ?_⟩
      refine ⟨rfl, fun H5 d s5 => ?_⟩
      have hB5 := hB.sm s5
      exact ⟨false, XF.yn, (fun z => nomatch z), fun _ => ⟨true, XF.yy, fun _ a na => ⟨wl, [.str "number"], rfl, hB5.ew, len3 _ (by decide), _, rfl, hB5.put _⟩, fun z => nomatch z⟩⟩
    | i + 2, hx => simp at hx
  · obtain ⟨v20, rfl, hB⟩ := z
    exact q _ _ ⟨sc, r, y, ta, wl, n, g, v5, v6, v7, v8, v9, v10, v11, v12, v13, v14, v15, v16, v17, v18, v20, rfl, hB.ew⟩
end
end HT
/-! text V7 -/
set_option maxHeartbeats 4000000
namespace HT
open PySem PySem.Spec PyProof.Rows L2
open GxR (TabG Tabbed)
/-! ### the law -/
section
variable {P : Program} {w : World} {K : PySem.W.Frag} {mg : Str → Option Value} {base : Heap} {cdv : Value} {A : Around} {outer : List Env} {s : Shared} {H0 : Hp} {E : XK}
theorem st15 (hr : Room 7 (A.deeper (envOfC "law" (defScope s_law) s.heap.objs.size (He.ga K "law") cdv))) : ∃ t : TS, PS (LX P w K mg base cdv A outer s H0 E) (lawSt 15) t ∧ ∀ (D : Ends) (σ : L2.St) (H : Hp), J14 K σ H → (∀ H', D.rt (.bl true) H') → t D σ H := by
  refine ⟨_, ps_ret (pe_cmpR (op_eqD hr.units) (pv 19) (pe_lst (pa_cons pe_str (pa_cons pe_str pa_nil))) (nomark _)), fun D σ H h q => ?_⟩
  obtain ⟨sc, r, y, ta, wl, n, g, v5, v6, v7, v8, v9, v10, v11, v12, v13, v14, v15, v16, v17, v18, v20, rfl, ew⟩ := h
  refine ⟨_, rfl, (by show 2 ≤ sizeLine; decide), fun l nl => ?_⟩
  have sm := (Sm.refl H).new (u := .lst [.str "number", .str "yard"]) nl
  refine ⟨.list [.str "number", .str "yard"], .list [.str "number", .str "yard"], .lst (SqL.of (sm.lst ew)) (.cons (.str _) (.cons (.str _) .nil)), .lst (SqL.of upd_same) (.cons (.str _) (.cons (.str _) .nil)), by decide +kernel, by decide +kernel, ?_⟩
  rw [show PyData.eqv (.list [.str "number", .str "yard"]) (.list [.str "number", .str "yard"]) = true by decide +kernel]
  exact q _
def spLaw (K : PySem.W.Frag) : Sp := fun vs H Q _ => ∃ (sc : Addr) (ns : List Int), vs = [.ref sc] ∧ SqL K H sc (ns.map V.int) ∧ (∀ p ∈ tf, H (He.cT K p).2 = some (.tbl #[])) ∧ ∀ H', Q (.bl true) H'
theorem ok_law (T : Txt K mg) (B : Tbs K mg base) {fd : FuncData} (F : FunD K "law" "law" (defArgs s_law) (defBody s_law) (defScope s_law) [] [] (He.ga K "law") fd) : FnOk P w K mg base CX0 8 (He.ga K "law") fd ["_law_script"] (spLaw K) := by
  obtain ⟨oc, od, dV, kV, doc, pm, an, cdv, ct, osl, rfl, lk, hcd, _, _⟩ := F.ex
  refine fn_of lk hcd sc_law (fun vs H Q E h => ?_) fun A outer s H vs Q E hr h => ?_
  · obtain ⟨sc, ns, rfl, _⟩ := h
    rfl
  · obtain ⟨c, rfl⟩ := He.codeIn_ref hcd
    have e : He.codeOf K ("law", none) = c := He.codeOf_eq lk rfl
    obtain ⟨sc, ns, rfl, hs, ht, q⟩ := h
    rw [law_body]
    obtain ⟨t0, p0, q0⟩ := st0 (P := P) (w := w) (base := base) (cdv := .ref c) (A := A) (outer := outer) (s := s) (H0 := H) (E := E) T
    obtain ⟨t1, p1, q1⟩ := st1 (P := P) (w := w) (base := base) (cdv := .ref c) (A := A) (outer := outer) (s := s) (H0 := H) (E := E) T hr
    obtain ⟨t2, p2, q2⟩ := st2 (P := P) (w := w) (base := base) (cdv := .ref c) (A := A) (outer := outer) (s := s) (H0 := H) (E := E) T
    obtain ⟨t3, p3, q3⟩ := st3 (P := P) (w := w) (base := base) (cdv := .ref c) (A := A) (outer := outer) (s := s) (H0 := H) (E := E) T
    obtain ⟨t4, p4, q4⟩ := st4 (P := P) (w := w) (base := base) (cdv := .ref c) (A := A) (outer := outer) (s := s) (H0 := H) (E := E) T
    obtain ⟨t5, p5, q5⟩ := st5 (P := P) (w := w) (base := base) (cdv := .ref c) (A := A) (outer := outer) (s := s) (H0 := H) (E := E) T hr
    obtain ⟨t6, p6, q6⟩ := st6 (P := P) (w := w) (base := base) (cdv := .ref c) (A := A) (outer := outer) (s := s) (H0 := H) (E := E) T
    obtain ⟨t7, p7, q7⟩ := st7 (P := P) (w := w) (base := base) (cdv := .ref c) (A := A) (outer := outer) (s := s) (H0 := H) (E := E) T
    obtain ⟨t8, p8, q8⟩ := st8 (P := P) (w := w) (base := base) (cdv := .ref c) (A := A) (outer := outer) (s := s) (H0 := H) (E := E) T B hr
    obtain ⟨t9, p9, q9⟩ := st9 (P := P) (w := w) (base := base) (cdv := .ref c) (A := A) (outer := outer) (s := s) (H0 := H) (E := E) T
    obtain ⟨t10, p10, q10⟩ := st10 (P := P) (w := w) (base := base) (cdv := .ref c) (A := A) (outer := outer) (s := s) (H0 := H) (E := E) T B hr
    obtain ⟨t11, p11, q11⟩ := st11 (P := P) (w := w) (base := base) (cdv := .ref c) (A := A) (outer := outer) (s := s) (H0 := H) (E := E) T B hr
    obtain ⟨t12, p12, q12⟩ := st12 (P := P) (w := w) (base := base) (cdv := .ref c) (A := A) (outer := outer) (s := s) (H0 := H) (E := E) T hr
    obtain ⟨t13, p13, q13⟩ := st13 (P := P) (w := w) (base := base) (cdv := .ref c) (A := A) (outer := outer) (s := s) (H0 := H) (E := E) T
    obtain ⟨t14, p14, q14⟩ := st14 (P := P) (w := w) (base := base) (cdv := .ref c) (A := A) (outer := outer) (s := s) (H0 := H) (E := E) T B (by rw [e]) hr
    obtain ⟨t15, p15, q15⟩ := st15 (P := P) (w := w) (K := K) (mg := mg) (base := base) (cdv := .ref c) (A := A) (outer := outer) (s := s) (H0 := H) (E := E) hr
    have body := pss_cons p0 (pss_cons p1 (pss_cons p2 (pss_cons p3 (pss_cons p4 (pss_cons p5 (pss_cons p6 (pss_cons p7 (pss_cons p8 (pss_cons p9 (pss_cons p10 (pss_cons p11 (pss_cons p12 (pss_cons p13 (pss_cons p14 (pss_one p15)))))))))))))))
    refine ⟨_, body.nox, ?_⟩
    exact q0 _ _ _ ⟨sc, ns, rfl, hs, ht⟩ fun σ1 H1 j1 => q1 _ _ _ j1 fun σ2 H2 j2 => q2 _ _ _ j2 fun σ3 H3 j3 => q3 _ _ _ j3 fun σ4 H4 j4 => q4 _ _ _ j4 fun σ5 H5 j5 => q5 _ _ _ j5 fun σ6 H6 j6 => q6 _ _ _ j6 fun σ7 H7 j7 => q7 _ _ _ j7 fun σ8 H8 j8 => q8 _ _ _ j8
      fun σ9 H9 j9 => q9 _ _ _ j9 fun σ10 H10 j10 => q10 _ _ _ j10 fun σ11 H11 j11 => q11 _ _ _ j11 fun σ12 H12 j12 => q12 _ _ _ j12 fun σ13 H13 j13 => q13 _ _ _ j13 fun σ14 H14 j14 => q14 _ _ _ j14 fun σ15 H15 j15 => q15 _ _ _ j15 q
end
/-! ### the head -/
theorem facts {P : Program} {w : World} {K : PySem.W.Frag} {h : Heap} {mg : Str → Option Value} {f : Addr} (X : K.In h) (G : h.Ns mainGlobals mg) (hf : mg ("law" : Str) = some (.ref f)) (c : He.SaysX fa fn tt tf ex w h K) :
    ∃ fd : FuncData, (∀ (s : Shared) (v : Value), BindsTo s fd ⟨[v], []⟩ [("_law_script", v)]) ∧ ∀ base : Heap, K.In base → base.Ns mainGlobals mg → (∀ p ∈ tf, LamX.TabB base mg (He.cT K p).1 (He.cT K p).2) → FnOk P w K mg base CX0 8 f fd ["_law_script"] (spLaw K) := by
  have T : Txt K mg := ⟨h, w, X, G, c⟩
  obtain ⟨fd, F⟩ := f_law T
  have e := hf.symm.trans (g_law T)
  cases e
  have b := FunD.bindsA (ps := ["_law_script"]) F fun _ _ _ _ _ _ us hl => match us, hl with | [_], _ => rfl
  exact ⟨fd, fun s v => b s [v] rfl, fun base _ _ hB => ok_law T (fun p hp => ⟨⟨(hB p hp).code, (hB p hp).bm, (hB p hp).gP⟩, c.out p hp⟩) F⟩
end HT
/-! text Z1 -/
set_option maxHeartbeats 0
open PySem PySem.W PySem.Calls PyProof.Rows
theorem PySem.Challenge.cw_holestore_k13_whole_universals_holds : PySem.Challenge.rw_holestore_k13_whole_universals.Holds := by
  w_on; o_law
  refine HandSHeadRun.head_any (r := OpenLaw.row PySem.Challenge.rw_holestore_k13_whole_universals) (q := view (OpenLaw.row PySem.Challenge.rw_holestore_k13_whole_universals).prog [62]) (H := HT.hk) (ob := HT.ob) (M := 4000) (loose := HT.loose) (d := HandSHeadRun.topDef (OpenLaw.row PySem.Challenge.rw_holestore_k13_whole_universals).prog 62) (kwd := []) HT.ob_eq
    (by kernel_rfl) (fun s => by kernel_rfl) HT.run (by kernel_rfl) (by kernel_rfl) (by kernel_rfl) (by rfl) (by first | assumption | decide +kernel) (by decide +kernel) ⟨rfl, rfl, rfl, rfl, rfl, by decide +kernel⟩ ?hw ?hc
  case hw => w_witness2
  case hc =>
    refine LamX.walk_ofTsE (l := PySem.Challenge.rw_holestore_k13_whole_universals) (n := 63) (k := 8) (x := "_law_script") (CX := fun _ => L2.CX0) rfl (by decide) (by kernel_rfl) ⟨rfl, by decide, by decide⟩ ?F (fun _ _ _ _ _ z => z)
    intro w mg fa h Y G hmg0
    obtain ⟨K, KX, c⟩ := Y
    have hmg : mg ("law" : PySem.Str) = some (.ref fa) := by
      have e : (HandSHeadRun.topDef (OpenLaw.row PySem.Challenge.rw_holestore_k13_whole_universals).prog 62).name = ("law" : PySem.Str) := by kernel_rfl
      rw [← e]
      exact hmg0
    obtain ⟨fd, hb, hF⟩ := HT.facts (P := (PySem.Challenge.rw_holestore_k13_whole_universals).prog) (w := w) KX G hmg c
    refine ⟨K, KX, fd, HT.tf.map (He.cT K), HT.spLaw K, fun p hp => ?_, fun p hp => ?_, fun p hp => ?_, hb, fun H a ns hl hbits hT hS => ⟨a, ns, rfl, hS, fun p hp => hT _ (List.mem_map.mpr ⟨p, hp, rfl⟩), fun _ => rfl⟩, fun base KB GB hB => hF base KB GB fun p hp => hB _ (List.mem_map.mpr ⟨p, hp, rfl⟩)⟩
    · obtain ⟨d, hd, rfl⟩ := List.mem_map.mp hp
      exact c.empty d hd
    · obtain ⟨d, hd, rfl⟩ := List.mem_map.mp hp
      exact c.out d hd
    · obtain ⟨d, hd, rfl⟩ := List.mem_map.mp hp
      exact codeHd_of_K KX (c.hd d hd)
